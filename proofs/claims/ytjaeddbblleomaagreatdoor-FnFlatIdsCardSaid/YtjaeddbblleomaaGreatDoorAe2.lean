/- Lemmas of the proof. No conditions. -/
import Derived.Test.YtjaeddbblleomaaGreatDoorAe1
set_option maxRecDepth 100000
set_option maxHeartbeats 4000000
set_option linter.unusedVariables false
set_option linter.unusedSimpArgs false
open Go.Proofs.Tryz
namespace Go.Pl
open Go Go.Ev Go.Lg Go.Proofs
variable {i:Nat}
theorem Hr {n:Nat}{kind:Nat->Int}{E:Nat->Option (List aT)}:∀(f:Nat)(x:Fnd)(out:dx),(iZ n kind E f x out).2=true->(∀y∈out,0<=y.id/\y.id<=(n:Int)-1)->∀y∈(iZ n kind E f x out).1,0<=y.id/\y.id<=(n:Int)-1
 |0,x,out,h,_=>by cases h
 |f+1,x,out,h,ho=>by
  rw[iZ] at h⊢;try simp only at h⊢
  split at h
  .cases h
  .rename_i hc;rw[if_neg hc];have hx:0<=x.id/\x.id<=(n:Int)-1:=by
    simp only[fR,mC,cl,not_or,pG,zr,lD] at hc;omega
   have Ay:∀y∈out++[x],0<=y.id/\y.id<=(n:Int)-1:=λy hy=>by
    rcases fJ.1 hy with hy|hy
    .exact ho y hy
    .rw[iN] at hy;subst hy;exact hx
   split at h
   .rename_i h1;rw[if_pos h1];exact Ay
   .rename_i h1;rw[if_neg h1];cases he:E x.id.toNat with
    |none=>rw[he] at h;cases h
    |some l=>
     rw[he] at h;simp only at h⊢;have XM:∀(l:List aT)(o:dx),(l.foldl (λr e=>if r.2 then iZ n kind E f ⟨dS x.ag e.name,e.id⟩ r.1 else r) (o,true)).2=true->(∀y∈o,0<=y.id/\y.id<=(n:Int)-1)->∀y∈(l.foldl (λr e=>if r.2 then iZ n kind E f ⟨dS x.ag e.name,e.id⟩ r.1 else r) (o,true)).1,0<=y.id/\y.id<=(n:Int)-1:=by
      intro l;induction l with
      |nil=>intro o _ ho;exact ho
      |cons e l ih=>
       refine' za0
       rw[hw] at hb;cases b2 with
       |false=>rw[xn] at hb;cases hb
       |true=>
        have h3:=Hr f ⟨dS x.ag e.name,e.id⟩ o (by rw[hw]) ho;rw[hw] at h3;exact ih o2 hb h3
     exact XM l _ h Ay
theorem Jb (out:dx)(x:Fnd)(k:Nat):k9 (out++[x]) k=k9 out k+if x.id=(k:Int) then 1 else 0:=by
 unfold k9;rw[pI,bR];by_cases h:x.id=(k:Int)<;>simp[h]
theorem jV {l:List Int}{i k:Nat}{v:Int}(hi:i<l.length):(l.set i v).getD k 0=if k=i then v else l.getD k 0:=by
 rw[aY,aY,List.getElem?_set];by_cases h:i=k
 .subst h;simp[hi]
 .rw[if_neg h,if_neg (λe=>h e.symm)]
theorem takeF {q:dx}(hi:i<q.length):q.take (i+1)=q.take i++[q.getD i c9.lW]:=by
 rw[vQ,aY,bk hi];rfl
theorem OR (out:dx)(k:Nat):0<=k9 out k/\k9 out k<=out.length:=by
 unfold k9;have:=B9 (λx:Fnd=>decide (x.id=(k:Int))) out;omega
theorem Tc (s:St)(v:SA)(st:ak)(h:du 100000 st)(t:bX)(ht:dZ t)(hr:cJ s v st):ke aU aW 58 [fF v st,tv t] s (im v) 70 ((lI st t).getD []) (lI st t).isSome:=by
 have tk:=Rd.DE hr;have tO:=Rd.off hr;have tT:=Rd.BO hr;have Bq:lI st t=if !nY st t then none else if fm st t=[]\/((fm st t).headD bu).kind≠2 then none else match walk st (fm st t) 146 ⟨[47],0⟩ [] with
  |(_,false)=>none
  |(out,true)=>if lb st out 0 (fm st t) then some out else none:=rfl
 generalize lI st t=Y at *
 by_cases hT:nY st t=true
 .rw[hT] at Bq;rw[if_neg (by decide)] at Bq;have tW:∀s,cJ s v st->fa aU aW 59 [fF v st,tv t] s (im v) 109 (fm st t):=λs hr=>AX s v st h t ht hr
  have nf:(fm st t).length<=16:=by
   unfold fm;rw[vL,(kR h ht).1];have:=ht.mn;omega
  generalize fm st t=ns at *
  have hTf:(!nY st t)=false:=by rw[hT];rfl
  have hhd:ns.headD bu=ns.getD 0 c9.lW:=by cases ns<;>rfl
  rw[hhd] at Bq;by_cases hN:ns.length=0\/(ns.getD 0 c9.lW).kind≠2
  .rw[if_pos (by
      rcases hN with h|h
      .exact .inl (mG h)
      .exact .inr h)] at Bq
   subst Bq;refine aO f58 ?_;(repeat' (first|refine' aX|refine' P8|refine' P9|refine' ar|fail))
   all_goals try refine cI
   all_goals exact Gn bB bj aq rfl rfl
  .have hN1:0<ns.length:=by omega
   have hN2:(ns.getD 0 c9.lW).kind=2:=by
    by_cases h:(ns.getD 0 c9.lW).kind=2
    .exact h
    .exact absurd (.inr h) hN
   rw[if_neg (λh=>by
      rcases h with h|h
      .rw[h] at hN1;cases hN1
      .exact h hN2)] at Bq
   clear hN;have hwk0:∀an cn a c s,cJ s v st->bM s an ns.length 10 (ah ns)->(∀i∈im v++ai an,i∉[cj a c []].flatMap It.aS)->Ee aU aW 101 [fF v st,.slice an ns.length cn,.agg ⟨[sv [47],cg]⟩,.slice a ([]:dx).length c] s v an a c [] (walk st ns 146 ⟨[47],0⟩ []).1 (walk st ns 146 ⟨[47],0⟩ []).2:=λan cn a c s hr hn hm=>
    OQ st h ns nf v an cn 146 ⟨[47],0⟩ [] a c s (by simp) (by simp) (by simp) hr hn hm
   have I6:=Hr (n:=ns.length) (kind:=λi=>(ns.getD i bu).kind) (E:=λi=>bJ st (ns.getD i bu)) 146 ⟨[47],0⟩ [];have hwl:=Ef (n:=ns.length) (kind:=λi=>(ns.getD i bu).kind) (E:=λi=>bJ st (ns.getD i bu)) 146 ⟨[47],0⟩ [];rw[show iZ ns.length (λi=>(ns.getD i bu).kind) (λi=>bJ st (ns.getD i bu)) 146 ⟨[47],0⟩ []=walk st ns 146 ⟨[47],0⟩ [] from rfl] at I6 hwl;rcases hw:walk st ns 146 ⟨[47],0⟩ [] with⟨out,ok⟩
   rw[hw] at hwk0 I6 hwl Bq;have hwk:∀an cn a c s,cJ s v st->bM s an ns.length 10 (ah ns)->(∀i∈im v++ai an,i∉[cj a c []].flatMap It.aS)->Ee aU aW 101 [fF v st,.slice an ns.length cn,.agg ⟨[sv [47],cg]⟩,.slice a ([]:dx).length c] s v an a c [] out ok:=hwk0;clear hwk0 hw;cases ok with
   |false=>
    have Bq:Y=none:=Bq;subst Bq;refine aO f58 ?_;(repeat' (first|refine' aX|refine' P8|refine' P9|refine' zc150|refine' ar|fail))
    all_goals try refine cI
    all_goals exact Gn bB bj aq rfl rfl
   |true=>
    have Bq:Y=if lb st out 0 ns then some out else none:=Bq
    have I6:=I6 rfl (by simp);have hwl:=hwl rfl;dsimp only at I6 hwl;refine aO f58 ?_;(repeat' (first|refine' aX|refine' P8|refine' P9|refine' zc150|refine' ar|fail))
    all_goals try refine cI
    refine W.bH (λk l L=>∃(i:Nat)(m:List Int)(am:aH)(cm b2:Nat),Le [(2,aP b2),(6,.slice jl ns.length jm),(7,.slice jy out.length jz),(9,.slice am m.length cm),(10,iv (i:Int))] l/\cr [.box b2 (rz v st) 58 false,.aJ (.slice jl ns.length jm) 109 10 (ah ns),.aJ (.slice jy out.length jz) 70 2 (ah out),.aJ (.slice am m.length cm) 3 1 (ah m)] L/\k=out.length-i/\i<=out.length/\m.length=ns.length/\∀k,k<ns.length->m.getD k 0=k9 (out.take i) k)
     (λl L=>∃(m:List Int)(am:aH)(cm b2:Nat),Le [(2,aP b2),(6,.slice jl ns.length jm),(7,.slice jy out.length jz),(9,.slice am m.length cm)] l/\cr [.box b2 (rz v st) 58 false,.aJ (.slice jl ns.length jm) 109 10 (ah ns),.aJ (.slice jy out.length jz) 70 2 (ah out),.aJ (.slice am m.length cm) 3 1 (ah m)] L/\m.length=ns.length/\∀k,k<ns.length->m.getD k 0=k9 out k) _ ⟨0,List.replicate ns.length 0,_,_,_,bd,aq,rfl,af,by simp,λk hk=>by simp[k9,aY,hk]⟩ ?_ ?_
    .rintro k l L ⟨i,m,am,cm,b2,hl,hL,rfl,g1,g2,g3⟩;refine W.le ?_ hl hL;clear hl hL;by_cases hi:i<out.length
     .have hid:=I6 _ (aF hi c9.lW);have g4:m.getD (out.getD i c9.lW).id.toNat c9.lW=_:=g3 (out.getD i c9.lW).id.toNat af;have g5:=OR (out.take i) (out.getD i c9.lW).id.toNat;rw[dg] at g5;(refine' cO)
      all_goals try refine cI
      refine⟨_,af,i+1,m.set (out.getD i c9.lW).id.toNat (m.getD (out.getD i c9.lW).id.toNat c9.lW+1),am,cm,b2,by(rw[gZ];exact bd),by(rw[gZ];exact aq),rfl,af,by rw[gZ];exact g2,λk hk=>?_⟩;rw[jV af,takeF hi,Jb,g4];by_cases hke:k=(out.getD i c9.lW).id.toNat
      .rw[if_pos hke,if_pos af,<-hke]
      .rw[if_neg hke,if_neg af,g3 k hk,Int.add_zero]
     .have fG:i=out.length:=by omega
      subst fG;rw[gS] at g3;(refine' cO)
      all_goals try refine cI
      all_goals exact⟨m,_,_,_,bd,aq,g2,g3⟩
    .rintro l L ⟨m,am,cm,b2,hl,hL,g2,g3⟩;refine aj ?_;refine W.le ?_ hl hL;clear hl hL;(refine' cO)
     refine W.bH (λk l L=>∃(i:Nat)(m:List Int)(am:aH)(cm b2:Nat),Le [(2,aP b2),(6,.slice jl ns.length jm),(7,.slice jy out.length jz),(9,.slice am m.length cm),(11,iv (i:Int))] l/\cr [.box b2 (rz v st) 58 false,.aJ (.slice jl ns.length jm) 109 10 (ah ns),.aJ (.slice jy out.length jz) 70 2 (ah out),.aJ (.slice am m.length cm) 3 1 (ah m)] L/\k=ns.length-i/\i<=ns.length/\m.length=ns.length/\(∀k,k<ns.length->m.getD k 0=k9 out k)/\lb st out 0 ns=lb st out i (ns.drop i))
      (λl L=>Le [(7,.slice jy out.length jz)] l/\cr [.aJ (.slice jy out.length jz) 70 2 (ah out)] L/\lb st out 0 ns=true) _ ⟨0,m,_,_,_,bd,aq,rfl,af,g2,g3,rfl⟩ ?_ ?_
     .rintro k l L ⟨i,m,am,cm,b2,hl,hL,rfl,g1,g2,g3,g4⟩;refine W.le ?_ hl hL;clear hl hL;by_cases hi:i<ns.length
      .rw[drop_cons hi,lb] at g4;have g5:m.getD i c9.lW=_:=g3 i hi;(repeat' (first|refine' aX|((with_reducible apply WO.lY);exact aD;(first|exact λs hr=>L9 s _ _ (by assumption) _ hr|exact λs hr=>L9 s _ _ (by assumption) ⟨_,_,_,⟨⟨_,_,_,_,_⟩,_,_⟩⟩ hr);exact ez;intro _ _ _ _)|refine' ar|fail))
       all_goals try refine cI
       all_goals first
        |(refine⟨_,af,i+1,m,_,_,_,bd,aq,rfl,af,g2,g3,?_⟩;rw[g4,<-g5];clear g5 g4 g3 Bq hN2 hhd;generalize ns.getD i c9.lW=n at *;generalize m.getD i c9.lW=mi at *;simp[*];done)
        |(have hz:lb st out 0 ns=false:=by(rw[g4,<-g5];clear g5 g4 g3 Bq hN2 hhd;generalize ns.getD i c9.lW=n at *;generalize m.getD i c9.lW=mi at *;simp[*];done)
          rw[hz,if_neg (by decide)] at Bq;subst Bq;exact Gn bB bj aq rfl rfl)
        |skip
       all_goals(contradiction;rfl)
      .have fG:i=ns.length:=by omega
       subst fG;rw[ig,lb] at g4;(refine' cO)
       all_goals try refine cI
       all_goals exact⟨bd,aq,g4⟩
     .rintro l L ⟨hl,hL,g4⟩;refine aj ?_;refine W.le ?_ hl hL;clear hl hL;rw[g4,if_pos rfl] at Bq;subst Bq;(refine' cO)
      exact Gn bB bj aq rfl rfl
 .have hT:nY st t=false:=by simpa using hT
  have hTf:(!nY st t)=true:=by rw[hT];rfl
  rw[hT,if_pos (by decide)] at Bq;subst Bq;refine aO f58 ?_;(repeat' (first|refine' aX|refine' P8|refine' ar|fail))
  all_goals try refine cI
  all_goals exact Gn bB bj aq rfl rfl
end Go.Pl
namespace Go.Pl
open Go Go.Ev Go.Lg Go.Proofs
abbrev dD (a:aH)(c:Nat)(q:eV):It:=.aJ (.slice a q.length c) 37 3 (ah q)
theorem nodesSh (st:ak)(t:bX):∀n∈fm st t,jW n:=λn hn=>by
 unfold fm at hn;obtain⟨z,_,rfl⟩:=n9.1 hn;cases h:eO z with
 |none=>exact jW.no
 |some n=>exact jW.of (Pg.wZ h).1
theorem XN (s:St)(v:SA)(st:ak)(h:du 100000 st)(t:bX)(ht:dZ t)(f:Flat)(hf:Ip st t=some f)(hr:cJ s v st):AJ 22 [fF v st,tv t] s [] (im v) λR L=>∃a c a' c',R= .tuple ⟨[.agg ⟨fT a c f.ad a' c' f.ae⟩,.bool true]⟩/\L=[cj a c f.ad,dD a' c' f.ae]:=by
 have tk:=Rd.DE hr;have tO:=Rd.off hr;have tT:=Rd.BO hr;have hal0:∀s,cJ s v st->ke aU aW 58 [fF v st,tv t] s (im v) 70 ((lI st t).getD []) (lI st t).isSome:=λs hr=>Tc s v st h t ht hr
 have tW:∀s,cJ s v st->fa aU aW 59 [fF v st,tv t] s (im v) 109 (fm st t):=λs hr=>AX s v st h t ht hr
 have nf:(fm st t).length<=16:=by
  unfold fm;rw[vL,(kR h ht).1];have:=ht.mn;omega
 have BB:=nodesSh st t;unfold Ip at hf;cases Bq:lI st t with
 |none=>rw[Bq] at hf;cases hf
 |some all=>
  rw[Bq] at hf hal0;cases hf
  have OF:∀s,cJ s v st->ke aU aW 58 [fF v st,tv t] s (im v) 70 all true:=hal0;clear hal0;generalize fm st t=ns at *
  refine aO f22 ?_;(repeat' (first|refine' aX|((with_reducible apply WO.ta);exact aD;(first|exact λs hr=>OF s hr);exact ez;intro _ _ vz vA _ _)|refine' P9|refine' NW|refine' ar|fail))
  all_goals try refine cI
  refine W.bH (λk l L=>∃(i b2 b4 b8:Nat)(out:eV)(b:aH)(d:Nat),Le [(2,aP b2),(4,aP b4),(8,aP b8),(9,.slice jl ns.length jm),(10,iv (i:Int))] l/\cr [.box b2 (rz v st) 58 false,.box b4 (fT none 0 [] none 0 []) 26 false,.box b8 (fT vz vA all b d out) 26 false,.aJ (.slice jl ns.length jm) 109 10 (ah ns),.aJ (.slice vz all.length vA) 70 2 (ah all),dD b d out] L/\k=ns.length-i/\i<=ns.length/\out.length<=i/\gJ st 0 ns=out++gJ st i (ns.drop i))
   (λl L=>∃(b4 b8:Nat)(b:aH)(d:Nat),Le [(4,aP b4),(8,aP b8)] l/\cr [.box b4 (fT none 0 [] none 0 []) 26 false,.box b8 (fT vz vA all b d (gJ st 0 ns)) 26 false,.aJ (.slice vz all.length vA) 70 2 (ah all),dD b d (gJ st 0 ns)] L) _ ⟨0,_,_,_,[],_,_,bd,aq,rfl,af,by simp,rfl⟩ ?_ ?_
  .rintro k l L ⟨i,b2,b4,b8,out,b,d,hl,hL,rfl,g1,g2,g3⟩;refine W.le ?_ hl hL;clear hl hL;dsimp only[dD];by_cases hi:i<ns.length
   .have TR:=BB _ (aF hi c9.lW);rw[drop_cons hi,gJ] at g3;by_cases k2:(ns.getD i c9.lW).kind=2
    .rw[if_pos k2] at g3;(repeat' (first|refine' aX|refine' yr|refine' yA|refine' ar|fail))
     all_goals try refine cI
     refine⟨_,af,i+1,b2,b4,b8,out++[⟨i,true,[]⟩],_,_,bd,aq,rfl,af,by rw[bR];simp;omega,?_⟩;rw[g3];simp
    .rw[if_neg k2] at g3;by_cases k1:(ns.getD i c9.lW).kind=1
     .rw[if_pos k1] at g3;(repeat' (first|refine' aX|refine' yr|refine' yA|refine' ar|fail))
      all_goals try refine cI
      refine⟨_,af,i+1,b2,b4,b8,out++[⟨i,false,bA st (ns.getD i c9.lW)⟩],_,_,bd,aq,rfl,af,by rw[bR];simp;omega,?_⟩;rw[g3];simp
     .rw[if_neg k1] at g3;(repeat' (first|refine' aX|refine' yr|refine' yA|refine' ar|fail))
      all_goals try refine cI
      exact⟨_,af,i+1,b2,b4,b8,out,_,_,bd,aq,rfl,af,af,by rw[g3];simp⟩
   .have fG:i=ns.length:=by omega
    subst fG;rw[ig,gJ,iH] at g3;subst g3;(refine' cO)
    all_goals try refine cI
    all_goals exact⟨_,_,_,_,bd,aq⟩
  .rintro l L ⟨b4,b8,b,d,hl,hL⟩;refine aj ?_;refine W.le ?_ hl hL;clear hl hL;dsimp only[dD];(refine' cO)
   exact⟨bB,_,_,bj,aq,_,_,_,_,rfl,rfl⟩
theorem QI.r {s:St}{v:SA}{st:ak}(h:yT s v st):Rd ⟨s,([]:bn).flatMap It.aS,Ff v⟩ v.r 64 1 (ah st.ep):=Rd.of h.a.r λ_ hb=>di _ (GS hb)
theorem QI.f {s:St}{v:SA}{st:ak}(h:yT s v st):Rd ⟨s,([]:bn).flatMap It.aS,Ff v⟩ v.f 64 1 (ah st.aV):=Rd.of h.a.f λ_ hb=>di _ (GU hb)
theorem QI.l {s:St}{v:SA}{st:ak}(h:yT s v st):Rd ⟨s,([]:bn).flatMap It.aS,Ff v⟩ v.l 64 1 (ah st.dq):=Rd.of h.a.l λ_ hb=>di _ (GV hb)
theorem QI.g {s:St}{v:SA}{st:ak}(h:yT s v st):Rd ⟨s,([]:bn).flatMap It.aS,Ff v⟩ v.g st.cG.length 5 (ah st.cG):=Rd.of h.g λ_ hb=>dH _ (di _ hb)
theorem QI.d {s:St}{v:SA}{st:ak}(h:yT s v st):Rd ⟨s,([]:bn).flatMap It.aS,Ff v⟩ v.d st.eg.length 5 (ah st.eg):=Rd.of h.d λ_ hb=>dH _ (dH _ hb)
abbrev QJ (E:dy)(X:dM)(f:FuncId)(vs:aQ)(s:St)(A:List Nat)(aV dq:List Int):Prop:=fI E X f vs s [] A λr L=>∃a c a2 c2,r= .agg ⟨[.slice a 64 c,.slice a2 64 c2]⟩/\L=[.aJ (.slice a2 64 c2) 3 1 (ah dq),.aJ (.slice a 64 c) 3 1 (ah aV)]
section
variable {E:dy}{X:dM}{Γ:gY}{l:Kn}{L:bn}{K:KO}{f:FuncId}{xs:List Operand}{ts:Array TypeId}{vs:aQ}{v:SA}{st:ak}{s:St}{aV dq:List Int}
theorem WO.callC (hx:ky l xs vs)(h:∀s,cJ s v st->QJ E X f vs s (im v) aV dq)(hh:qQ Γ L v st)(k:∀m m' a c a2 c2,kb L m->m<=m'->K (.agg ⟨[.slice a 64 c,.slice a2 64 c2]⟩) (.aJ (.slice a2 64 c2) 3 1 (ah dq):: .aJ (.slice a 64 c) 3 1 (ah aV)::L) m m' (λi=>i∈im v\/i∈([]:bn).flatMap It.aS\/(m<=i/\i<m')) (λi=>i∈([]:bn).flatMap It.aS\/(m<=i/\i<m'))):WO E X Γ l (.call ⟨.value (.func f),⟨xs⟩,ts⟩) L K:=
 WO.call (Lm:=[]) (R:=L) hx (.refl _) (λs hi=>(hh.row hi).2) (λs hi=>h s (hh.row hi).1) (by rintro r L' m m' ho hm ⟨a,c,a2,c2,rfl,rfl⟩;exact k m m' a c a2 c2 ho hm)
theorem WO.callC0 (hx:ky l xs vs)(h:∀s,QJ E X f vs s [] aV dq)(k:∀m m' a c a2 c2,kb L m->m<=m'->K (.agg ⟨[.slice a 64 c,.slice a2 64 c2]⟩) (.aJ (.slice a2 64 c2) 3 1 (ah dq):: .aJ (.slice a 64 c) 3 1 (ah aV)::L) m m' (λi=>i∈([]:List Nat)\/i∈([]:bn).flatMap It.aS\/(m<=i/\i<m')) (λi=>i∈([]:bn).flatMap It.aS\/(m<=i/\i<m'))):WO E X Γ l (.call ⟨.value (.func f),⟨xs⟩,ts⟩) L K:=
 WO.call (Lm:=[]) (R:=L) hx (.refl _) (λs hi b hb=>by cases hb) (λs hi=>h s) (by rintro r L' m m' ho hm ⟨a,c,a2,c2,rfl,rfl⟩;exact k m m' a c a2 c2 ho hm)
theorem retN5 {rs:List ResultVar}{x:Ex}{cQ:ak}{a1 a2 a3 a4 a5:aH}{c1 c2 c3 c4 c5:Nat}(hx:x= .normal\/x= .ret)(hr:pV E l L rs [.agg ⟨[.slice a1 64 c1,.slice a2 64 c2,.slice a3 64 c3,iv cQ.fE,.slice a4 cQ.cG.length c4,iv cQ.ot,.slice a5 cQ.eg.length c5,.bool cQ.same]⟩])
  (hL:cr [.aJ (.slice a1 64 c1) 9 1 (ah cQ.ep),.aJ (.slice a2 64 c2) 3 1 (ah cQ.aV),.aJ (.slice a3 64 c3) 3 1 (ah cQ.dq),.aJ (.slice a4 cQ.cG.length c4) 60 5 (ah cQ.cG),.aJ (.slice a5 cQ.eg.length c5) 60 5 (ah cQ.eg)] L):
  ux E rs (λr L=>∃v':SA,r=id (fF v' cQ)/\L=eM v' cQ) x l L:=⟨hx,_,_,hr,hL,⟨a1,c1,a2,c2,a3,c3,a4,c4,a5,c5⟩,rfl,rfl⟩
theorem retC {rs:List ResultVar}{x:Ex}{a a2:aH}{c c2:Nat}(hx:x= .normal\/x= .ret)(hr:pV E l L rs [.agg ⟨[.slice a 64 c,.slice a2 64 c2]⟩])(hL:cr [.aJ (.slice a2 64 c2) 3 1 (ah dq),.aJ (.slice a 64 c) 3 1 (ah aV)] L):
  ux E rs (λr L=>∃a c a2 c2,r= .agg ⟨[.slice a 64 c,.slice a2 64 c2]⟩/\L=[.aJ (.slice a2 64 c2) 3 1 (ah dq),.aJ (.slice a 64 c) 3 1 (ah aV)]) x l L:=⟨hx,_,_,hr,hL,a,c,a2,c2,rfl,rfl⟩
end
theorem Td (s:St)(v:SA)(st:ak)(h:du 100000 st)(hr:cJ s v st):QJ aU aW 134 [.agg ⟨[.slice v.f 64 v.fc,.slice v.l 64 v.lc]⟩] s (im v) st.aV st.dq:=by
 have tO:=Rd.off hr;have tT:=Rd.BO hr;have BG:=h.lf;have hll:=h.ll;refine aO f134 ?_;(refine' cO)
 (refine' qretc)
theorem Mq (s:St):QJ aU aW 93 [] s [] (List.replicate 64 (0:Int)) (List.replicate 64 (0:Int)):=by
 refine aO f93 ?_;(refine' cO)
 (refine' qretc)
theorem Sl (s:St)(v:SA)(st:ak)(h:du 100000 st)(hr:yT s v st):LO aU aW 92 [fF v st] s (Ff v) st id:=by
 have tk:=QI.r hr;have tO:=QI.f hr;have tT:=QI.l hr;have hdg:=QI.g hr;have hdd:=QI.d hr;have J6:=h.lr;have gK:=h.gl;have hdl2:=h.dl;refine aO f92 ?_;(repeat' (first|refine' aX|((with_reducible apply WO.callC);exact aD;(first|exact λs hr=>Td s _ _ (by assumption) hr);exact ez;intro _ _ a_l5Copy c_l5Copy d_l5Copy e_l5Copy _ _)|refine' ar|fail))
 (refine' VJ)
theorem Mr (s:St)(b:Bool):LO aU aW 54 [.bool b] s [] (bQ b) id:=by
 refine aO f54 ?_;(repeat' (first|refine' aX|((with_reducible apply WO.callC0);exact aD;(first|exact λs=>Mq s);intro _ _ a_SpaceNew c_SpaceNew d_SpaceNew e_SpaceNew _ _)|refine' ar|fail))
 (refine' VJ)
theorem next_eq (st:ak):next st={(st.cG.foldl (λst p=>drop st p.row) st) with cG:=[],fE:=st.fE+1}:=rfl
theorem Hs (s:St)(v:SA)(st:ak)(h:du 70000 st)(hn:st.cG.length<=30000):eP aU aW 57 [fF v st] s [] v st (next st) true id:=by
 rw[next_eq];refine aO f57 ?_;dsimp only[eM];(refine' cO)
 refine W.bH (λk l L=>∃(i:Nat)(y:ak)(v':SA)(b1 b2:Nat),Le [(1,aP b1),(2,aP b2),(3,iv i)] l/\cr [.box b1 (rz v' y) 58 false,.box b2 [eW,eW,eW,cg,eW,cg,eW,.bool false] 58 false,.aJ (.slice v'.r 64 v'.rc) 9 1 (ah y.ep),.aJ (.slice v'.f 64 v'.fc) 3 1 (ah y.aV),.aJ (.slice v'.l 64 v'.lc) 3 1 (ah y.dq),.aJ (.slice v'.g y.cG.length v'.gc) 60 5 (ah y.cG),.aJ (.slice v'.d y.eg.length v'.dc) 60 5 (ah y.eg)] L/\k=st.cG.length-i/\i<=st.cG.length/\du (70000+i) y/\y.cG=st.cG/\y.fE=st.fE/\st.cG.foldl (λst p=>drop st p.row) st=(st.cG.drop i).foldl (λst p=>drop st p.row) y)
  (λl L=>∃(y:ak)(v':SA)(b1 b2:Nat),Le [(1,aP b1),(2,aP b2)] l/\cr [.box b1 (rz v' y) 58 false,.box b2 [eW,eW,eW,cg,eW,cg,eW,.bool false] 58 false,.aJ (.slice v'.r 64 v'.rc) 9 1 (ah y.ep),.aJ (.slice v'.f 64 v'.fc) 3 1 (ah y.aV),.aJ (.slice v'.l 64 v'.lc) 3 1 (ah y.dq),.aJ (.slice v'.d y.eg.length v'.dc) 60 5 (ah y.eg)] L/\du 100000 y/\y.fE=st.fE/\st.cG.foldl (λst p=>drop st p.row) st=y) st.cG.length ⟨0,st,v,_,_,bd,aq,af,af,h,rfl,rfl,rfl⟩ ?_ ?_
 .rintro k l L ⟨i,y,v',b1,b2,hl,hL,rfl,hi,hy,hyg,hyt,hf⟩;refine W.le ?_ hl hL;clear hl hL;have hy1:du 100000 y:=hy.mono af;have gK:y.cG.length=st.cG.length:=by rw[hyg]
  by_cases tG:i<st.cG.length
  .have yl:0<=(y.cG.getD i c9.lW).row/\(y.cG.getD i c9.lW).row<64:=hy.gr _ (aF af _);rw[drop_cons tG,vF] at hf;(repeat' (first|refine' aX|refine' zc115|refine' ar|fail))
   all_goals try exact pb
   refine⟨_,?_,i+1,_,V1,_,_,bd,aq,rfl,af,hy.drop,hyg,hyt,?_⟩
   .omega
   .rw[hf,hyg]
  .have fG:i=st.cG.length:=by omega
   subst fG;rw[ig] at hf;(refine' cO)
   all_goals try exact pb
   exact⟨y,v',_,_,bd,aq,hy1,hyt,hf⟩
 .rintro l L ⟨y,v',b1,b2,hl,hL,hy,hyt,hf⟩;refine aj ?_;refine W.le ?_ hl hL;clear hl hL;have AS:=hy.tx;rw[hf,<-hyt];(refine' cO)
  refine qv (v':=⟨v'.r,v'.rc,v'.f,v'.fc,v'.l,v'.lc,some ⟨bl,0,none⟩,0,v'.d,v'.dc⟩) bB bj aq ?_ (λhc=>(by cases hc));rfl
theorem rep0 (i:Nat):(List.replicate 64 (0:Int)).getD i c9.lW=0:=by
 rw[aY,Uh];split<;>rfl
theorem repS0 (i:Nat):(List.replicate 64 ([]:ay)).getD i c9.lW=[]:=by
 rw[aY,Uh];split<;>rfl
theorem Ms (s:St)(v:SA)(same:Bool)(hr:cJ s v (bQ same)):bO 129 [.agg ⟨[.slice v.f 64 v.fc,.slice v.l 64 v.lc]⟩] s (im v) (.bool true):=by
 have tO:=Rd.off hr;have tT:=Rd.BO hr;have e1:(bQ same).aV=List.replicate 64 0:=rfl;have e2:(bQ same).dq=List.replicate 64 0:=rfl;rw[e1] at tO;rw[e2] at tT;have hl:(List.replicate 64 (0:Int)).length=64:=by simp
 refine aO f129 ?_;(refine' cO)
 all_goals try refine cI
 refine W.bH (λk l L=>∃(i b1:Nat),Le [(1,aP b1),(3,iv (i:Int))] l/\cr [.box b1 [.slice v.f 64 v.fc,.slice v.l 64 v.lc] 55 false] L/\k=64-i/\i<=64) (λl L=>True) _ ⟨0,_,bd,aq,rfl,af⟩ ?_ ?_
 .rintro k l L ⟨i,b1,sC,hL,rfl,h1⟩;refine W.le ?_ sC hL;clear sC hL;have z1:=rep0 i;generalize List.replicate 64 (0:Int)=q at *
  have p1:(!fR (q.getD i c9.lW) 0 900)=false:=by rw[z1];rfl
  have p2:(!fR (q.getD i c9.lW) 0 (q.getD i c9.lW))=false:=by rw[z1];rfl
  (repeat' (first|refine' aX|refine' M1|refine' zc3|refine' ar|fail))
  all_goals try refine cI
  all_goals first|trivial|exact⟨_,af,i+1,_,bd,aq,rfl,af⟩
 .rintro l L _;refine aj ?_;refine W.le ?_ (Le.nil _) (cr.nil _);(refine' cO)
  (refine' av)
  rfl
end Go.Pl
