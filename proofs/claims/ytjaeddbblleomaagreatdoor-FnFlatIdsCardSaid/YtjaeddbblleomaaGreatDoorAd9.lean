/- Lemmas of the proof. No conditions. -/
import Derived.Test.YtjaeddbblleomaaGreatDoorAd8
set_option maxRecDepth 100000
set_option maxHeartbeats 4000000
set_option linter.unusedVariables false
set_option linter.unusedSimpArgs false
open Go.Proofs.Tryz
namespace Go.Pl
open Go Go.Ev Go.Lg Go.Proofs
theorem yV (s:St)(v:SA)(st:ak)(h:du 90000 st)(t:bX)(ht:bw t.cC=true)(a:aH)(c:Nat)(lv:cV)(IL:lv.length=16)(many:Int)(xz:0<=many/\many<=16)(hr:bM s a lv.length 5 (ah lv))(hm:∀b∈ai a,b∉(eM v st).flatMap It.aS)(hsv:E0 s a lv.length c 60 5):
  eP aU aW 173 [fF v st,tv t,.slice a lv.length c,iv many] s (ai a) v st (gT st t lv many).1 (gT st t lv many).2.isSome (Xm (gT st t lv many).2):=by
 have hd:Rd ⟨s,(eM v st).flatMap It.aS,ai a⟩ a lv.length 5 (ah lv):=⟨hr,λb hb=>hb,hm⟩;have h1:du 100000 st:=h.mono af;have YB:=L3 (st:=st) ht;have hdd:=Pg.fu many;have oT:gT st t lv many=match ib t (cH many) (cH many).toNat 1 (lv.take many.toNat) st [] with
  |(x,none)=>(x,none)
  |(x,some (stays,l))=>(dB ((fH st t).filter λp=>!(stays.contains p)) x,some ⟨l.headD bq,cH many,many⟩):=rfl
 generalize hLV:ib t (cH many) (cH many).toNat 1 (lv.take many.toNat) st []=LV at oT;have hL4:(lv.take many.toNat).length<=4^ (cH many).toNat/\(lv.take many.toNat).length<=16:=by
  rw[dg,IL];unfold cH;split
  .simp;omega
  .split<;>simp<;>omega
 refine aO f173 ?_;dsimp only[eM] at hd⊢;(repeat' (first|refine' aX|refine' VP|((with_reducible apply WO.zT);exact aD;(first|exact λs hr=>DS s _ _ (by assumption) _ hr|exact λs hr=>DS s _ _ (by assumption) ⟨⟨_,_,_,_,_⟩,_,_⟩ hr);exact ez;intro _ _ a_l8Inner c_l8Inner _ _)|refine' ar|fail))
 generalize hD:cH many=D at *
 refine W.bH (λk l L=>∃(n:Nat)(level:Int)(x:ak)(ll stays:cV)(a1:aH)(c1:Nat)(a2:aH)(c2:Nat)(ao:aH)(co b4 b5 b8 b9:Nat),Le [(3,iv many),(4,aP b4),(5,aP b5),(8,aP b8),(9,aP b9),(11,iv D),(12,.slice ao (fH st t).length co),(13,.slice a1 ll.length c1),(14,.slice a2 stays.length c2),(15,iv level)] l/\cr [.aJ (.slice a1 ll.length c1) 60 5 (ah ll),.aJ (.slice a2 stays.length c2) 60 5 (ah stays),.aJ (.slice ao (fH st t).length co) 60 5 (ah (fH st t)),.box b4 (rz v x) 58 false,.box b5 (gU t) 62 false,.box b8 [eW,eW,eW,cg,eW,cg,eW,.bool false] 58 false,.box b9 [cg,cg,cg,cg,cg,cg,cg] 62 false,.aJ (.slice v.r 64 v.rc) 9 1 (ah x.ep),.aJ (.slice v.f 64 v.fc) 3 1 (ah x.aV),.aJ (.slice v.l 64 v.lc) 3 1 (ah x.dq),.aJ (.slice v.g x.cG.length v.gc) 60 5 (ah x.cG),.aJ (.slice v.d x.eg.length v.dc) 60 5 (ah x.eg)] L/\k=n/\level=D+1-n/\n<=D.toNat/\ll.length<=4^ n/\ll.length<=16/\stays.length<=8*(2-n)/\du (90000+8*(2-n)) x/\LV=ib t D n level ll x stays)
  (λl L=>∃(x:ak)(ll stays:cV)(a1:aH)(c1:Nat)(a2:aH)(c2:Nat)(ao:aH)(co b4 b5 b8 b9:Nat),Le [(3,iv many),(4,aP b4),(5,aP b5),(8,aP b8),(9,aP b9),(11,iv D),(12,.slice ao (fH st t).length co),(13,.slice a1 ll.length c1),(14,.slice a2 stays.length c2)] l/\cr [.aJ (.slice a1 ll.length c1) 60 5 (ah ll),.aJ (.slice a2 stays.length c2) 60 5 (ah stays),.aJ (.slice ao (fH st t).length co) 60 5 (ah (fH st t)),.box b4 (rz v x) 58 false,.box b5 (gU t) 62 false,.box b8 [eW,eW,eW,cg,eW,cg,eW,.bool false] 58 false,.box b9 [cg,cg,cg,cg,cg,cg,cg] 62 false,.aJ (.slice v.r 64 v.rc) 9 1 (ah x.ep),.aJ (.slice v.f 64 v.fc) 3 1 (ah x.aV),.aJ (.slice v.l 64 v.lc) 3 1 (ah x.dq),.aJ (.slice v.g x.cG.length v.gc) 60 5 (ah x.cG),.aJ (.slice v.d x.eg.length v.dc) 60 5 (ah x.eg)] L/\stays.length<=16/\ll.length<=16/\du 90016 x/\LV=(x,some (stays,ll))) D.toNat ⟨D.toNat,1,st,[]++lv.take many.toNat,[],_,_,_,_,_,_,_,_,_,_,bd,aq,rfl,af,cy _,by simpa using hL4.1,by simpa using hL4.2,by simp,h.mono af,hLV.symm⟩ ?_ ?_
 .rintro k l L ⟨n,level,x,ll,stays,a1,c1,a2,c2,ao,co,b4,b5,b8,b9,hl,hL,hk,hlev,hnD,hl4,hl16,ji,hx,hLVn⟩;refine W.le ?_ hl hL;clear hl hL;subst hk;have hx1:du 100000 x:=hx.mono af;cases k with
  |zero=>
   (refine' cO)
   all_goals try exact pb
   exact⟨x,ll,stays,_,_,_,_,_,_,_,_,_,_,bd,aq,af,af,hx.mono af,hLVn⟩
  |succ n=>
   have hDD:D=1\/D=2:=by omega
   have hwl:=S0 (st:=x) (t:=t) (level:=level) hDD;(repeat' (first|refine' aX|((with_reducible apply WO.zT);exact aD;(first|exact λs hr=>LN s _ _ (by assumption) _ _ _ hr|exact λs hr=>LN s _ _ (by assumption) ⟨⟨_,_,_,_,_⟩,_,_⟩ _ _ hr);exact ez;intro _ _ a_l8Old c_l8Old _ _)|refine' ar|fail))
   all_goals try exact pb
   refine W.bH (λk l L=>∃(j:Nat)(p:cV)(a1:aH)(c1:Nat)(a2:aH)(c2:Nat)(a3:aH)(c3:Nat)(a4:aH)(c4:Nat)(ao:aH)(co b4 b5 b8 b9:Nat),Le [(3,iv many),(4,aP b4),(5,aP b5),(8,aP b8),(9,aP b9),(11,iv D),(12,.slice ao (fH st t).length co),(13,.slice a1 p.length c1),(14,.slice a2 stays.length c2),(15,iv level),(16,.slice a3 (iE x t D level).length c3),(17,.slice a4 ([]:cV).length c4)] l/\cr [.aJ (.slice a1 p.length c1) 60 5 (ah p),.aJ (.slice a2 stays.length c2) 60 5 (ah stays),.aJ (.slice a3 (iE x t D level).length c3) 60 5 (ah (iE x t D level)),.aJ (.slice a4 ([]:cV).length c4) 60 5 (ah ([]:cV)),.aJ (.slice ao (fH st t).length co) 60 5 (ah (fH st t)),.box b4 (rz v x) 58 false,.box b5 (gU t) 62 false,.box b8 [eW,eW,eW,cg,eW,cg,eW,.bool false] 58 false,.box b9 [cg,cg,cg,cg,cg,cg,cg] 62 false,.aJ (.slice v.r 64 v.rc) 9 1 (ah x.ep),.aJ (.slice v.f 64 v.fc) 3 1 (ah x.aV),.aJ (.slice v.l 64 v.lc) 3 1 (ah x.dq),.aJ (.slice v.g x.cG.length v.gc) 60 5 (ah x.cG),.aJ (.slice v.d x.eg.length v.dc) 60 5 (ah x.eg)] L/\k=4-j/\p=ll++cY j/\j<=3/\∀i,i<j->(ll.length+i)% 4≠0)
    (λl L=>∃(a1:aH)(c1:Nat)(a2:aH)(c2:Nat)(a3:aH)(c3:Nat)(a4:aH)(c4:Nat)(ao:aH)(co b4 b5 b8 b9:Nat),Le [(3,iv many),(4,aP b4),(5,aP b5),(8,aP b8),(9,aP b9),(11,iv D),(12,.slice ao (fH st t).length co),(13,.slice a1 (eY ll).length c1),(14,.slice a2 stays.length c2),(15,iv level),(16,.slice a3 (iE x t D level).length c3),(17,.slice a4 ([]:cV).length c4)] l/\cr [.aJ (.slice a1 (eY ll).length c1) 60 5 (ah (eY ll)),.aJ (.slice a2 stays.length c2) 60 5 (ah stays),.aJ (.slice a3 (iE x t D level).length c3) 60 5 (ah (iE x t D level)),.aJ (.slice a4 ([]:cV).length c4) 60 5 (ah ([]:cV)),.aJ (.slice ao (fH st t).length co) 60 5 (ah (fH st t)),.box b4 (rz v x) 58 false,.box b5 (gU t) 62 false,.box b8 [eW,eW,eW,cg,eW,cg,eW,.bool false] 58 false,.box b9 [cg,cg,cg,cg,cg,cg,cg] 62 false,.aJ (.slice v.r 64 v.rc) 9 1 (ah x.ep),.aJ (.slice v.f 64 v.fc) 3 1 (ah x.aV),.aJ (.slice v.l 64 v.lc) 3 1 (ah x.dq),.aJ (.slice v.g x.cG.length v.gc) 60 5 (ah x.cG),.aJ (.slice v.d x.eg.length v.dc) 60 5 (ah x.eg)] L) 4 ⟨0,ll,_,_,_,_,_,_,_,_,_,_,_,_,_,_,bd,aq,rfl,by simp[cY],af,by intro i hi;omega⟩ ?_ ?_
   .rintro k l L ⟨j,p,a1,c1,a2,c2,a3,c3,a4,c4,ao,co,b4,b5,b8,b9,hl,hL,rfl,hp,hj,RB⟩;refine W.le ?_ hl hL;clear hl hL;have ri:p.length=ll.length+j:=by rw[hp,bR];simp[cY]
    have htm:((p.length:Int)).tmod 4=((p.length% 4:Nat):Int):=by rw[Int.tmod_eq_emod_of_nonneg af];omega
    (refine' cO)
    .have gx:p.length% 4≠0:=by omega
     have hj3:j<3\/j=3:=by omega
     have Nv:j<=2:=by
      rcases hj3 with h|h
      .omega
      .exfalso;have h0:=RB 0;have h1:=RB 1;have h2:=RB 2;omega
     refine⟨_,?_,j+1,p++[bq],_,_,_,_,_,_,_,_,_,_,_,_,_,_,bd,aq,rfl,?_,af,?_⟩
     .omega
     .rw[hp,kA];congr 1;rw[show [bq]=cY 1 from rfl];simp only[cY,Uf]
     .intro i hi;by_cases qp:i=j
      .subst qp;omega
      .exact RB i af
    .have he:p=eY ll:=by
      rw[hp];unfold eY;congr 2;have h0:=RB 0;have h1:=RB 1;have h2:=RB 2;omega
     subst he;exact⟨_,_,_,_,_,_,_,_,_,_,_,_,_,_,bd,aq⟩
   .rintro l L ⟨a1,c1,a2,c2,a3,c3,a4,c4,ao,co,b4,b5,b8,b9,hl,hL⟩;refine aj ?_;refine W.le ?_ hl hL;clear hl hL;obtain⟨hP1,hP2,hP3⟩:=AY ll;generalize hPe:eY ll=P at *
    generalize hWe:iE x t D level=ow at *
    (refine' cO)
    refine W.bH (λk l L=>∃(i:Nat)(y:ak)(Fg out:cV)(a1:aH)(c1:Nat)(a2:aH)(c2:Nat)(a3:aH)(c3:Nat)(a4:aH)(c4:Nat)(ao:aH)(co b4 b5 b8 b9:Nat),Le [(3,iv many),(4,aP b4),(5,aP b5),(8,aP b8),(9,aP b9),(11,iv D),(12,.slice ao (fH st t).length co),(13,.slice a1 P.length c1),(14,.slice a2 Fg.length c2),(15,iv level),(16,.slice a3 ow.length c3),(17,.slice a4 out.length c4),(18,iv i)] l/\cr [.aJ (.slice a1 P.length c1) 60 5 (ah P),.aJ (.slice a2 Fg.length c2) 60 5 (ah Fg),.aJ (.slice a3 ow.length c3) 60 5 (ah ow),.aJ (.slice a4 out.length c4) 60 5 (ah out),.aJ (.slice ao (fH st t).length co) 60 5 (ah (fH st t)),.box b4 (rz v y) 58 false,.box b5 (gU t) 62 false,.box b8 [eW,eW,eW,cg,eW,cg,eW,.bool false] 58 false,.box b9 [cg,cg,cg,cg,cg,cg,cg] 62 false,.aJ (.slice v.r 64 v.rc) 9 1 (ah y.ep),.aJ (.slice v.f 64 v.fc) 3 1 (ah y.aV),.aJ (.slice v.l 64 v.lc) 3 1 (ah y.dq),.aJ (.slice v.g y.cG.length v.gc) 60 5 (ah y.cG),.aJ (.slice v.d y.eg.length v.dc) 60 5 (ah y.eg)] L/\k=P.length-4*i/\4*i<=P.length/\out.length=i/\Fg.length<=stays.length+i/\du (90000+8*(1-n)+i) y/\ka level P ow x stays []=ka level (P.drop (4*i)) (ow.drop i) y Fg out)
     (λl L=>∃(y:ak)(Fg out:cV)(a2:aH)(c2:Nat)(a4:aH)(c4:Nat)(ao:aH)(co b4 b5 b8 b9:Nat),Le [(3,iv many),(4,aP b4),(5,aP b5),(8,aP b8),(9,aP b9),(11,iv D),(12,.slice ao (fH st t).length co),(14,.slice a2 Fg.length c2),(15,iv level),(17,.slice a4 out.length c4)] l/\cr [.aJ (.slice a2 Fg.length c2) 60 5 (ah Fg),.aJ (.slice a4 out.length c4) 60 5 (ah out),.aJ (.slice ao (fH st t).length co) 60 5 (ah (fH st t)),.box b4 (rz v y) 58 false,.box b5 (gU t) 62 false,.box b8 [eW,eW,eW,cg,eW,cg,eW,.bool false] 58 false,.box b9 [cg,cg,cg,cg,cg,cg,cg] 62 false,.aJ (.slice v.r 64 v.rc) 9 1 (ah y.ep),.aJ (.slice v.f 64 v.fc) 3 1 (ah y.aV),.aJ (.slice v.l 64 v.lc) 3 1 (ah y.dq),.aJ (.slice v.g y.cG.length v.gc) 60 5 (ah y.cG),.aJ (.slice v.d y.eg.length v.dc) 60 5 (ah y.eg)] L/\4*out.length=P.length/\Fg.length<=stays.length+4/\du (90000+8*(1-n)+4) y/\ka level P ow x stays []=(y,some (Fg,out))) P.length ⟨0,x,stays,[],_,_,_,_,_,_,_,_,_,_,_,_,_,_,bd,aq,af,af,rfl,af,hx.mono af,rfl⟩ ?_ ?_
    .rintro k l L ⟨i,y,Fg,out,a1,c1,a2,c2,a3,c3,a4,c4,ao,co,b4,b5,b8,b9,hl,hL,rfl,Js,J7,Qs,hy,hg⟩;refine W.le ?_ hl hL;clear hl hL;have hy1:du 100000 y:=hy.mono af;have hpow:4^ (n+1)=4*4^ n:=by rw[T8,FD]
     have hPl:P.length<=4*4^ n/\P.length<=16:=by omega
     have hsts:Fg.length<=100:=by omega
     have hout:out.length<=100:=by omega
     by_cases hi:4*i<P.length
     .have hi44:4*i+4<=P.length:=by omega
      have hiw:i<ow.length:=by
       rcases vC n with hn|hn
       .subst hn;have:=hwl.1 af;have:4*4^ 0=4:=rfl;omega
       .have:=hwl.2.1 af;omega
      generalize hl4:(P.drop ((i:Int)*4).toNat).take ((((i:Int)+1)*4).toNat-((i:Int)*4).toNat)=l4;have hl4e:l4=(P.drop (4*i)).take 4:=by
       rw[<-hl4];congr 1
       .omega
       .congr 1;omega
      have hl4n:l4.length=4:=by rw[hl4e,dg,gp];omega
      have hgs:=L4 (level:=level) (L:=P) (was:=ow) (st:=y) (stays:=Fg) (out:=out) (i:=i) hi44 hiw;rw[<-hl4e] at hgs;have oO:=Xl (level:=level) (old:=ow.getD i c9.lW) hy hl4n;cases hfan:NB y l4 level (ow.getD i c9.lW) with
      |none=>
       have zD:uR y l4 level (ow.getD i c9.lW)=(y,bq,false):=by unfold uR;rw[hfan]
       have Kj:∀s a c,bM s a l4.length 5 (ah l4)->(∀b∈ai a,b∉(eM v y).flatMap It.aS)->eP aU aW 224 [fF v y,.slice a l4.length c,iv level,pv (ow.getD i c9.lW)] s (ai a) v y y false (wrV bq false):=λs a c hr hm=>by
        have:=L1 s v y hy1 a c l4 hl4n level (ow.getD i c9.lW) hr hm;rw[zD] at this;exact this
       subst hl4;rw[hfan] at hgs;have hLVf:LV=(y,none):=by rw[hLVn,ib,hPe,hWe,hg,hgs]
       rw[hLVf] at oT;rw[oT];(repeat' (first|refine' aX|refine' V3|refine' ar|fail))
       all_goals try exact pb
       obtain rfl:=CZ rfl;(refine' dV)
       .rfl
       .exact λ_=>rfl
      |some r=>
       obtain⟨z,p⟩:=r;have zD:uR y l4 level (ow.getD i c9.lW)=(z,p,true):=by unfold uR;rw[hfan]
       have Kj:∀s a c,bM s a l4.length 5 (ah l4)->(∀b∈ai a,b∉(eM v y).flatMap It.aS)->eP aU aW 224 [fF v y,.slice a l4.length c,iv level,pv (ow.getD i c9.lW)] s (ai a) v y z false (wrV p true):=λs a c hr hm=>by
        have:=L1 s v y hy1 a c l4 hl4n level (ow.getD i c9.lW) hr hm;rw[zD] at this;exact this
       subst hl4;rw[hfan] at hgs;rw[zD] at oO;by_cases hpw:p=ow.getD i c9.lW
       .have hpwd:=dO hpw;(repeat' (first|refine' aX|refine' V3|refine' ar|fail))
        all_goals try exact pb
        obtain rfl:=CZ rfl;refine⟨_,?_,i+1,z,Fg++[p],out++[p],_,_,_,_,_,_,_,_,_,_,_,_,_,_,bd,aq,rfl,af,by simp[J7],by rw[bR,Au];omega,oO.1,?_⟩
        .omega
        .rw[hg,hgs];simp only;rw[if_pos hpw]
       .have hpwd:=iO hpw;(repeat' (first|refine' aX|refine' V3|refine' ar|fail))
        all_goals try exact pb
        obtain rfl:=CZ rfl;refine⟨_,?_,i+1,z,Fg,out++[p],_,_,_,_,_,_,_,_,_,_,_,_,_,_,bd,aq,rfl,af,by simp[J7],af,oO.1,?_⟩
        .omega
        .rw[hg,hgs];simp only;rw[if_neg hpw]
     .have fG:4*i=P.length:=by omega
      have tk:P.drop (4*i)=[]:=zt af;rw[tk,DX rfl] at hg;(refine' cO)
      all_goals try exact pb
      exact⟨y,Fg,out,_,_,_,_,_,_,_,_,_,_,bd,aq,af,af,hy.mono af,hg⟩
    .rintro l L ⟨y,Fg,out,a2,c2,a4,c4,ao,co,b4,b5,b8,b9,hl,hL,J7,Qs,hy,hg⟩;refine aj ?_;refine W.le ?_ hl hL;clear hl hL;have hpow:4^ (n+1)=4*4^ n:=by rw[T8,FD]
     (refine' cO)
     refine⟨_,?_,n,level+1,y,out,Fg,_,_,_,_,_,_,_,_,_,_,bd,aq,rfl,af,af,?_,af,af,hy.mono af,?_⟩
     .omega
     .omega
     .rw[hLVn,ib,hPe,hWe,hg]
 .rintro l L ⟨x,ll,stays,a1,c1,a2,c2,ao,co,b4,b5,b8,b9,hl,hL,ji,hll,hx,hLVe⟩;refine aj ?_;refine W.le ?_ hl hL;clear hl hL;have hx1:du 100000 x:=hx.mono af;rw[hLVe] at oT;simp only at oT;rw[oT];clear oT hLVe hLV;generalize hOe:fH st t=old at *
  (refine' cO)
  refine W.bH (λk l L=>∃(i:Nat)(y:ak)(v':SA)(a1:aH)(c1:Nat)(a2:aH)(c2:Nat)(ao:aH)(co b4 b8 b9:Nat),Le [(3,iv many),(4,aP b4),(8,aP b8),(9,aP b9),(11,iv D),(12,.slice ao old.length co),(13,.slice a1 ll.length c1),(14,.slice a2 stays.length c2),(22,iv i)] l/\cr [.aJ (.slice a1 ll.length c1) 60 5 (ah ll),.aJ (.slice a2 stays.length c2) 60 5 (ah stays),.aJ (.slice ao old.length co) 60 5 (ah old),.box b4 (rz v' y) 58 false,.box b8 [eW,eW,eW,cg,eW,cg,eW,.bool false] 58 false,.box b9 [cg,cg,cg,cg,cg,cg,cg] 62 false,.aJ (.slice v'.r 64 v'.rc) 9 1 (ah y.ep),.aJ (.slice v'.f 64 v'.fc) 3 1 (ah y.aV),.aJ (.slice v'.l 64 v'.lc) 3 1 (ah y.dq),.aJ (.slice v'.g y.cG.length v'.gc) 60 5 (ah y.cG),.aJ (.slice v'.d y.eg.length v'.dc) 60 5 (ah y.eg)] L/\k=old.length-i/\i<=old.length/\du (90016+i) y/\dB (old.filter λp=>!(stays.contains p)) x=dB ((old.drop i).filter λp=>!(stays.contains p)) y)
   (λl L=>∃(y:ak)(v':SA)(a1:aH)(c1:Nat)(b4 b8 b9:Nat),Le [(3,iv many),(4,aP b4),(8,aP b8),(9,aP b9),(11,iv D),(13,.slice a1 ll.length c1)] l/\cr [.aJ (.slice a1 ll.length c1) 60 5 (ah ll),.box b4 (rz v' y) 58 false,.box b8 [eW,eW,eW,cg,eW,cg,eW,.bool false] 58 false,.box b9 [cg,cg,cg,cg,cg,cg,cg] 62 false,.aJ (.slice v'.r 64 v'.rc) 9 1 (ah y.ep),.aJ (.slice v'.f 64 v'.fc) 3 1 (ah y.aV),.aJ (.slice v'.l 64 v'.lc) 3 1 (ah y.dq),.aJ (.slice v'.g y.cG.length v'.gc) 60 5 (ah y.cG),.aJ (.slice v'.d y.eg.length v'.dc) 60 5 (ah y.eg)] L/\dB (old.filter λp=>!(stays.contains p)) x=y) old.length ⟨0,x,v,_,_,_,_,_,_,_,_,_,bd,aq,af,af,hx,rfl⟩ ?_ ?_
  .rintro k l L ⟨i,y,v',a1,c1,a2,c2,ao,co,b4,b8,b9,hl,hL,rfl,hi,hy,Xn⟩;refine W.le ?_ hl hL;clear hl hL;have hy1:du 100000 y:=hy.mono af;by_cases tG:i<old.length
   .have Jt:bw (old.getD i c9.lW)=true:=YB.2 _ (aF tG _);rw[drop_cons tG,tz] at Xn;(refine' cO)
    all_goals try exact pb
    refine W.bH (λk l L=>∃(j:Nat)(kept:Bool)(a1:aH)(c1:Nat)(a2:aH)(c2:Nat)(ao:aH)(co b4 b8 b9:Nat),Le [(3,iv many),(4,aP b4),(8,aP b8),(9,aP b9),(11,iv D),(12,.slice ao old.length co),(13,.slice a1 ll.length c1),(14,.slice a2 stays.length c2),(22,iv i),(23,.bool kept),(24,iv j)] l/\cr [.aJ (.slice a1 ll.length c1) 60 5 (ah ll),.aJ (.slice a2 stays.length c2) 60 5 (ah stays),.aJ (.slice ao old.length co) 60 5 (ah old),.box b4 (rz v' y) 58 false,.box b8 [eW,eW,eW,cg,eW,cg,eW,.bool false] 58 false,.box b9 [cg,cg,cg,cg,cg,cg,cg] 62 false,.aJ (.slice v'.r 64 v'.rc) 9 1 (ah y.ep),.aJ (.slice v'.f 64 v'.fc) 3 1 (ah y.aV),.aJ (.slice v'.l 64 v'.lc) 3 1 (ah y.dq),.aJ (.slice v'.g y.cG.length v'.gc) 60 5 (ah y.cG),.aJ (.slice v'.d y.eg.length v'.dc) 60 5 (ah y.eg)] L/\k=stays.length-j/\j<=stays.length/\kept=(stays.take j).contains (old.getD i c9.lW))
     (λl L=>∃(a1:aH)(c1:Nat)(a2:aH)(c2:Nat)(ao:aH)(co b4 b8 b9:Nat),Le [(3,iv many),(4,aP b4),(8,aP b8),(9,aP b9),(11,iv D),(12,.slice ao old.length co),(13,.slice a1 ll.length c1),(14,.slice a2 stays.length c2),(22,iv i),(23,.bool (stays.contains (old.getD i c9.lW)))] l/\cr [.aJ (.slice a1 ll.length c1) 60 5 (ah ll),.aJ (.slice a2 stays.length c2) 60 5 (ah stays),.aJ (.slice ao old.length co) 60 5 (ah old),.box b4 (rz v' y) 58 false,.box b8 [eW,eW,eW,cg,eW,cg,eW,.bool false] 58 false,.box b9 [cg,cg,cg,cg,cg,cg,cg] 62 false,.aJ (.slice v'.r 64 v'.rc) 9 1 (ah y.ep),.aJ (.slice v'.f 64 v'.fc) 3 1 (ah y.aV),.aJ (.slice v'.l 64 v'.lc) 3 1 (ah y.dq),.aJ (.slice v'.g y.cG.length v'.gc) 60 5 (ah y.cG),.aJ (.slice v'.d y.eg.length v'.dc) 60 5 (ah y.eg)] L) stays.length ⟨0,false,_,_,_,_,_,_,_,_,_,bd,aq,af,af,rfl⟩ ?_ ?_
    .rintro k l L ⟨j,kept,a1,c1,a2,c2,ao,co,b4,b8,b9,hl,hL,rfl,hj,Qv⟩;refine W.le ?_ hl hL;clear hl hL;have e:=λh:j<stays.length=>fC stays c9.lW h
     (refine' cO)
     .refine⟨_,?_,j+1,_,_,_,_,_,_,_,_,_,_,bd,aq,rfl,af,?_⟩
      .omega
      .rw[e af,Hd,<-Qv,hg];rfl
     .refine⟨_,?_,j+1,true,_,_,_,_,_,_,_,_,_,bd,aq,rfl,af,?_⟩
      .omega
      .rw[e af,Hd,<-Qv,tR];rfl
     .have YI:j=stays.length:=by omega
      subst YI;rw[gS] at Qv;subst Qv;exact⟨_,_,_,_,_,_,_,_,_,bd,aq⟩
    .rintro l L ⟨a1,c1,a2,c2,ao,co,b4,b8,b9,hl,hL⟩;refine aj ?_;refine W.le ?_ hl hL;clear hl hL;(repeat' (first|refine' aX|refine' KS|refine' ar|fail))
     .rw[if_pos hc] at Xn;refine⟨_,?_,i+1,_,_,_,_,_,_,_,_,_,_,_,bd,aq,rfl,af,hy.free Jt,Xn⟩;omega
     .rw[if_neg (by rw[hc];simp)] at Xn;refine⟨_,?_,i+1,y,v',_,_,_,_,_,_,_,_,_,bd,aq,rfl,af,hy.mono af,Xn⟩;omega
   .have fG:i=old.length:=by omega
    subst fG;rw[ig] at Xn;(refine' cO)
    all_goals try exact pb
    exact⟨y,v',_,_,_,_,_,bd,aq,Xn⟩
  .rintro l L ⟨y,v',a1,c1,b4,b8,b9,hl,hL,Xn⟩;refine aj ?_;refine W.le ?_ hl hL;clear hl hL;rw[Xn];(refine' cO)
   .rw[show ll.headD bq=ll.getD 0 c9.lW from by cases ll<;>rfl];(refine' dV)
    .rfl
    .intro hc;cases hc
   .have hl0:ll=[]:=mG af;subst hl0;(refine' dV)
    .rfl
    .intro hc;cases hc
end Go.Pl
namespace Go.Pl
open Go Go.Ev Go.Lg Go.Proofs
variable {cQ:ak}{p:iL}{n:Nat}
structure Kp (st cQ:ak):Prop where
 g:cQ.cG=st.cG
 d:cQ.eg=st.eg
 t:cQ.fE=st.fE
 k:cQ.ot=st.ot
 s:cQ.same=st.same
theorem Kp.refl (st:ak):Kp st st:=⟨rfl,rfl,rfl,rfl,rfl⟩
theorem Kp.trans {a b c:ak}(h:Kp a b)(k:Kp b c):Kp a c:=⟨k.g.trans h.g,k.d.trans h.d,k.t.trans h.t,k.k.trans h.k,k.s.trans h.s⟩
theorem Kp.fF {st cQ:ak}(h:Kp st cQ)(v:SA):fF v cQ=fF v st:=by
 unfold Go.Pl.fF rz;rw[h.g,h.d,h.t,h.k,h.s]
theorem L5 {st cQ:ak}{s:ay}{level:Int}(h:aZ st s level=some (cQ,p)):Kp st cQ:=by
 unfold Go.Pl.aZ at h;split at h
 .cases h
 .split at h
  .cases h
  .cases h;exact⟨rfl,rfl,rfl,rfl,rfl⟩
theorem fan_all {st cQ:ak}{l:cV}{level:Int}{old p:iL}(h:du n st)(h4:l.length=4)(hf:NB st l level old=some (cQ,p)):du (n+1) cQ/\Kp st cQ/\bw p=true:=by
 unfold NB at hf;split at hf
 .cases hf;exact⟨h.mono af,Kp.refl _,by decide⟩
 .simp only at hf;split at hf
  .rename_i hc;cases hf
   simp only[cv,cl] at hc;refine⟨h.mono af,Kp.refl _,?_⟩;have:=hc.1.2;simp[fits] at this;exact this.1.1.1
  .have:=h.aZ (by have:=xc h4;omega) hf;exact⟨this.1,L5 hf,this.2.1⟩
theorem DY {level:Int}:∀(k:Nat){L was:cV}{st:ak}{stays out:cV}{n:Nat},L.length=4*k->du n st->(∀p∈out,bw p=true)->
  du (n+k) (ka level L was st stays out).1/\Kp st (ka level L was st stays out).1/\∀r,(ka level L was st stays out).2=some r->r.2.length=out.length+k/\∀p∈r.2,bw p=true
 |0,L,was,st,stays,out,n,hL,h,ho=>by
  have:L=[]:=mG af;rw[DX this];exact⟨h,Kp.refl _,λr hr=>by cases hr;exact⟨rfl,ho⟩⟩
 |k+1,L,was,st,stays,out,n,hL,h,ho=>by
  match L,hL with
  |a::b::c::d::L,hL=>
   rw[ka];cases hf:NB st [a,b,c,d] level (was.headD bq) with
   |none=>exact⟨h.mono af,Kp.refl _,λr hr=>by cases hr⟩
   |some x=>
    obtain⟨st1,p⟩:=x;obtain⟨h1,h2,h3⟩:=fan_all h rfl hf;simp only;obtain⟨h4,h5,h6⟩:=DY k (L:=L) (was:=was.tail) (stays:=if p=was.headD bq then stays++[p] else stays) (out:=out++[p]) (by simp at hL;omega) h1 (λq hq=>by
     rcases fJ.1 hq with hq|hq
     .exact ho q hq
     .have:q=p:=by simpa using hq
      rw[this];exact h3)
    refine⟨by rw[show n+(k+1)=n+1+k by omega];exact h4,h2.trans h5,λr hr=>?_⟩;obtain⟨h7,h8⟩:=h6 r hr;exact⟨by rw[h7];simp;omega,h8⟩
theorem DZ {t:bX}{depth:Int}:∀(m:Nat){level:Int}{l:cV}{st:ak}{stays:cV}{n:Nat},l.length<=16->du n st->(∀p∈l,bw p=true)->
  du (n+m*5) (ib t depth m level l st stays).1/\Kp st (ib t depth m level l st stays).1/\∀r,(ib t depth m level l st stays).2=some r->∀p∈r.2,bw p=true
 |0,level,l,st,stays,n,hl,h,hp=>by
  rw[ib];exact⟨h,Kp.refl _,λr hr=>by cases hr;exact hp⟩
 |m+1,level,l,st,stays,n,hl,h,hp=>by
  rw[ib];obtain⟨hP1,hP2,hP3⟩:=AY l;obtain⟨h1,h2,h3⟩:=DY (level:=level) ((eY l).length/ 4) (L:=eY l) (was:=iE st t depth level) (st:=st) (stays:=stays) (out:=[]) af h (by simp);rcases hg:ka level (eY l) (iE st t depth level) st stays [] with⟨st1,_|⟨Fg,o⟩⟩
  .rw[hg] at h1 h2;exact⟨h1.mono af,h2,λr hr=>by cases hr⟩
  .rw[hg] at h1 h2 h3;obtain⟨h4,h5⟩:=h3 _ rfl;simp only at h1 h2 h4 h5⊢;obtain⟨h6,h7,h8⟩:=DZ m (t:=t) (depth:=depth) (level:=level+1) (stays:=Fg) (by simp at h4;omega) (h1.mono (show _<=n+5 by omega)) h5;exact⟨h6.mono af,h2.trans h7,h8⟩
theorem vw {t:bX}{st:ak}{lv:cV}{many:Int}(h:du n st)(ht:bw t.cC=true)(hl:lv.length=16)(hp:∀p∈lv,bw p=true)(hm:0<=many/\many<=16):
  du (n+20) (gT st t lv many).1/\((gT st t lv many).2=none->Kp st (gT st t lv many).1)/\∀t',(gT st t lv many).2=some t'->dZ t'/\t'.many=many:=by
 have hd:=Pg.fu many;obtain⟨h1,h2,h3⟩:=DZ (t:=t) (depth:=cH many) (cH many).toNat (level:=1) (l:=lv.take many.toNat) (st:=st) (stays:=[]) (by rw[dg];omega) h (λp pr=>hp p (M6 pr));obtain⟨Jq,tG⟩:=L3 (st:=st) ht;have oT:gT st t lv many=match ib t (cH many) (cH many).toNat 1 (lv.take many.toNat) st [] with
  |(x,none)=>(x,none)
  |(x,some (stays,l))=>(dB ((fH st t).filter λp=>!(stays.contains p)) x,some ⟨l.headD bq,cH many,many⟩):=rfl
 rw[oT];rcases IL:ib t (cH many) (cH many).toNat 1 (lv.take many.toNat) st [] with⟨x,_|⟨stays,l⟩⟩
 .rw[IL] at h1 h2;exact⟨h1.mono af,λ_=>h2,λt' ht'=>by cases ht'⟩
 .rw[IL] at h1 h2 h3;simp only at h1 h2⊢;have hf:=B9 (λp=>!(stays.contains p)) (fH st t);have h4:=du.dB (st:=x) ((fH st t).filter λp=>!(stays.contains p)) h1 (λp pr=>tG p (vR.1 pr).1);refine⟨h4.mono af,λhc=>(by cases hc),λt' ht'=>?_⟩;cases ht'
  refine⟨⟨?_,hm,hd⟩,rfl⟩;cases l with
  |nil=>exact(by decide:bw bq=true)
  |cons p l=>exact h3 _ rfl p (by simp)
end Go.Pl
namespace Go.Pl
open Go Go.Ev Go.Lg Go.Proofs
def Bp (t:bX)(ok:Bool):Value->Value:=λV=>.tuple ⟨[V,tv t,.bool ok]⟩
end Go.Pl
