/- Lemmas of the proof. No conditions. -/
import Derived.Test.YtjaeddbblleomaaGreatDoorAe7
set_option maxRecDepth 100000
set_option maxHeartbeats 4000000
set_option linter.unusedVariables false
set_option linter.unusedSimpArgs false
open Go.Proofs.Tryz
namespace Go.Pl
open Go Go.Ev Go.Lg Go.Proofs
theorem Tk (s:St)(z:ay)(n:Nat)(hz:z.length*n<=1000)(hzl:z.length<=1000)(hn:n<=1000):XT aU aW 26 [sv z,iv n] s (λR=>∃y:ay,R=sv y/\y.length=z.length*n):=by
 refine aO f26 ?_;(repeat(first|refine' wU|refine' ar|fail))
 refine W.bH (λk l L=>∃(x y:ay)(m:Nat),Le [(0,sv x),(1,iv (m:Int)),(5,sv y)] l/\cr [] L/\k=m/\m<=1000/\(1<=m->x.length<=1000)/\y.length+x.length*m=z.length*n)
  (λl L=>∃(y:ay),Le [(5,sv y)] l/\cr [] L/\y.length=z.length*n) n ⟨z,[],n,bd,aq,rfl,hn,λ_=>hzl,by simp⟩ ?_ ?_
 .rintro k l L ⟨x,y,m,hl,hL,hk,h1,h2,h3⟩;subst k;refine W.le ?_ hl hL;clear hl hL;have h4:((m:Int).tmod 2)=((m% 2:Nat):Int):=rfl;have h5:((m:Int).tdiv 2)=((m/ 2:Nat):Int):=rfl;have h6:=XU x.length m;have h7:x.length<=x.length*m\/m=0:=by
   rcases vC m with h|h
   .exact .inr h
   .exact .inl (Uc _ h)
  have h8:1<=m/ 2->x.length+x.length<=(x.length+x.length)*(m/ 2):=λh=>Uc _ h
  have h9:m% 2=1->x.length*(m% 2)=x.length:=λh=>by rw[h,zx]
  have EB:m% 2=0->x.length*(m% 2)=0:=λh=>by rw[h,Nat.mul_zero]
  have YE:m=0->x.length*m=0:=λh=>by rw[h,Nat.mul_zero]
  (refine' cO)
  all_goals try exact pb
  .refine⟨m/ 2,af,x++x,y++x,m/ 2,bd,aq,rfl,af,?_,?_⟩<;>(simp only[bR];omega)
  .refine⟨m/ 2,af,x++x,y,m/ 2,bd,aq,rfl,af,?_,?_⟩<;>(simp only[bR];omega)
  .exact⟨y,bd,aq,af⟩
 .rintro l L ⟨y,hl,hL,h1⟩;refine aj ?_;refine W.le ?_ hl hL;(refine' cO)
  exact⟨.inr rfl,_,[],bj,cr.nil _,⟨y,rfl,h1⟩,rfl⟩
structure OpD (o:Op):Prop where
 ag:o.ag∈xp
 to:o.to∈xp
 bh:o.bh.length<=25
 at_: -1<=o.at_/\o.at_<=193
 kind: -1<=o.kind/\o.kind<=8
def opIn (R:Value):Prop:=∃o:Op,R=ov o/\OpD o
theorem XV:([]:ay)∈xp:=jr
theorem XW {l:List Int}{lo hi:Int}{i:Nat}{d:Int}(h:∀x∈l,lo<=x/\x<=hi)(fG:i<l.length):lo<=l.getD i d/\l.getD i d<=hi:=h _ (aF fG d)
theorem op_ok (s:St)(br:Nat)(a:aH)(code:ay)(c p:Nat)(hc:code.length<=2000)(hp:p<=80000)(hr:uW s a code)(hm:∀i∈ai a,i∉[nU br a code.length c p].flatMap It.aS):
  Ht aU aW 11 [aP br] s br a code c p 220 opIn:=by
 have hd:s9 ⟨s,[nU br a code.length c p].flatMap It.aS,ai a⟩ a code:=⟨hr,λb hb=>hb,hm⟩;have uN:∀(k:Int),0<=k/\k<2->∀s,XT aU aW 26 [sv [117],iv (24+k)] s (λR=>∃y:ay,R=sv y/\y.length<=25):=λk hk s=>by
  have:=Tk s [117] (24+k).toNat (by simp only[dh,mD];omega) (by simp) af;rw[xG af] at this;refine this.mono ?_;rintro R L ⟨⟨y,rfl,h⟩,rfl⟩;exact⟨⟨y,rfl,by rw[h];simp only[dh,mD];omega⟩,rfl⟩
 refine aO f11 ?_;(repeat' (first|refine' aX|refine' zc176|refine' zc177|refine' AM|((with_reducible apply WO.callE);exact aD;(intro s;(first|exact uN _ af s));intro _ _ r_many hq_many _ _;obtain⟨k_many,rfl,h_many⟩:=hq_many)|refine' ar|fail))
 all_goals try exact pb
 all_goals refine KE bB bj aq af ⟨⟨_,_,_,_,_⟩,rfl,⟨?_,?_,?_,?_,?_⟩⟩
 all_goals first|assumption|exact XV|omega|exact XW (by decide) (by simp only[dh,mD];omega)|(simp;done)|(dsimp only;omega)
theorem Jc (same:Bool):du 100 (bQ same):=
 ⟨by simp[bQ],by simp[bQ],by simp[bQ],λx hx=>by simp[bQ] at hx;rw[hx];simp,λx hx=>by simp[bQ] at hx;omega,by simp[bQ],by simp[bQ],by simp[bQ],by simp[bQ],λp hp=>by simp[bQ] at hp⟩
theorem My (same:Bool):du 130 (mM same).1/\dZ (mM same).2:=by
 have h:=mV (k:=0) (z:=gf ⟨2,1,0,eX⟩) (Jc same) (t:=eX) ⟨rfl,by decide,by decide⟩ af (by have:=xf ⟨2,1,0,eX⟩;omega);exact⟨h.1,h.2.1⟩
theorem Mz:∀(l:cV)(st:ak)(i:Nat),(l.foldl (λst p=>drop st p.row) st).aV.getD i 0<=st.aV.getD i 0
 |[],_,_=>xJ _
 |p::l,st,i=>by
  rw[vF];refine Int.le_trans (Mz l _ i) ?_;show(st.aV.set p.row.toNat (st.aV.getD p.row.toNat 0-1)).getD i 0<=_;rw[aY,aY,List.getElem?_set];by_cases h:p.row.toNat=i
  .subst h;rw[if_pos rfl];split
   .simp only[pH,aY];omega
   .rename_i hl;simp[aY,rB (show st.aV.length<=p.row.toNat by omega)]
  .rw[if_neg h];exact xJ _
theorem Hu:∀(l:cV)(st:ak)(n:Nat),du n st->du (n+l.length) (l.foldl (λst p=>drop st p.row) st)
 |[],_,_,h=>h
 |p::l,st,n,h=>by
  rw[vF,dh];have:=Hu l _ _ (h.drop (row:=p.row))
  rwa [show n+1+l.length=n+(l.length+1) by omega] at this
theorem wk:∀(l:cV)(st:ak),(l.foldl (λst p=>drop st p.row) st).ot=st.ot/\(l.foldl (λst p=>drop st p.row) st).eg=st.eg
 |[],_=>⟨rfl,rfl⟩
 |p::l,st=>by
  rw[vF];exact wk l _
theorem MA {n:Nat}{st:ak}{t:bX}(h:du n st)(hf:Pg.FS (next st) t):du (n+1) (next st):=by
 have h1:=Hu st.cG st n h;have h2:=Mz st.cG st;have h3:=wk st.cG st;obtain⟨G,l,q,hF,_⟩:=hf;have YO:=hF.so.ct;have e:next st={(st.cG.foldl (λst p=>drop st p.row) st) with cG:=[],fE:=st.fE+1}:=rfl
 rw[e] at YO⊢;generalize st.cG.foldl (λst p=>drop st p.row) st=y at *
 have AS:=h.tx;refine⟨h1.lr,h1.lf,h1.ll,h1.rw,λx hx=>?_,⟨by show(1:Int)<=st.fE+1;omega,by show st.fE+1<=((n+1:Nat):Int);omega⟩,?_,?_,?_,?_⟩
 .obtain⟨i,hi,rfl⟩:=l5 hx;have hi:i<y.aV.length:=hi;have a1:=YO i (by have:=h1.lf;omega);have a2:=h2 i;have a3:=h.ref i;have e2:y.aV.getD i 0=y.aV[i]:=by rw[aY,bk hi];rfl
  have a1:(0:Int)<=y.aV.getD i 0:=Int.le_trans (JA _) a1;rw[e2] at a1 a2;show -((n+1:Nat):Int)<=y.aV[i]/\y.aV[i]<=((n+1:Nat):Int);omega
 .show 0<=y.ot/\y.ot<=((n+1:Nat):Int);have:=h.kp;rw[h3.1];omega
 .show([]:cV).length<=n+1;simp
 .show y.eg.length<=n+1;have:=h.dl;rw[h3.2];omega
 .intro p hp;cases hp
abbrev fnV (same:Bool):Value->Value:=λV=>.tuple ⟨[V,tv (mM same).2,.bool true]⟩
theorem MB (s:St)(v:SA)(same:Bool)(hr:yT s v (bQ same)):LO aU aW 53 [fF v (bQ same)] s (Ff v) (mM same).1 (fnV same):=by
 have tk:=QI.r hr;have tO:=QI.f hr;have tT:=QI.l hr;have hdg:=QI.g hr;have hdd:=QI.d hr;have BB:du 100000 (bQ same):=(Jc same).mono af;have VX:∀s,cJ s v (bQ same)->bO 90 [fF v (bQ same)] s (im v) (.bool true):=λs hr=>Mt s v same hr
 have dK:∀(dI:SA) s,eP aU aW 91 [fF dI (bQ same),.agg ⟨[cg,cg,cg,cg,cg,cg,cg]⟩,cg,.agg ⟨[.int .i64 2,.int .i64 1,cg,cg,cg,cg,cg,cg,cg,cg]⟩] s [] dI (bQ same) (mM same).1 true (Bp (mM same).2 true):=λdI s=>by
  have:=vh s dI (bQ same) ((Jc same).mono af) eX ⟨rfl,by decide,by decide⟩ 0 af ⟨2,1,0,eX⟩;rw[Pg.wi] at this;exact this
 refine aO f53 ?_;(repeat' (first|refine' aX|((with_reducible apply WO.lY);exact aD;(first|exact λs hr=>VX s hr);exact ez;intro _ _ _ _)|refine' qR|((with_reducible apply WO.mQ);exact aD;(first|exact λs=>dK _ s);exact eu;intro _ _ Tl _ _ k_l11PutW)|refine' ar|fail))
 all_goals try refine cI
 all_goals exact retN (v':=Tl) bB bj aq rfl
theorem Ei {z:ay}(hp:bf z=true)(hn:aB z≠[]):(Fs.base z).length<=1000:=by
 have:=Pg.I5 hp hn;unfold bT at this;simp only[cv,cl] at this;omega
theorem Hv (s:St)(b:Nat)(v:SA)(st:ak)(t:bX)(h:du 50000 st)(ht:dZ t)(oO:Pg.FS st t)(z:ay)(hz:z.length<=90000)(hp:bf z=true)(kind:Int)(hk:kind=1\/kind=2):
  ml aU aW 94 [aP b,sv z,iv kind] s b v ⟨st,t,false⟩ (Fs.make ⟨st,t,false⟩ z kind).1 (iv (Fs.make ⟨st,t,false⟩ z kind).2):=by
 have tP:du 100000 st:=h.mono af;have mc:Fs.make ⟨st,t,false⟩ z kind=if 0<(Fs.bD ⟨st,t,false⟩ z).2 then(⟨st,t,false⟩,(Fs.bD ⟨st,t,false⟩ z).2) else
   match uq st t with
   |none=>(⟨st,t,false⟩,6)
   |some id=>if 12<=(Fs.bF ⟨st,t,false⟩ (Fs.bD ⟨st,t,false⟩ z).1).length then(⟨st,t,false⟩,6) else((Fs.aZ (Fs.put ⟨st,t,false⟩ id ⟨kind,1,0,eX⟩) (Fs.bD ⟨st,t,false⟩ z).1 (gu (Fs.bF ⟨st,t,false⟩ (Fs.bD ⟨st,t,false⟩ z).1) ⟨Fs.base z,id⟩)),0):=rfl
 have zD:∀s,lq s b v ⟨st,t,false⟩->bO 135 [aP b,sv z] s (tp b v) (.tuple ⟨[iv (Fs.bD ⟨st,t,false⟩ z).1,iv (Fs.bD ⟨st,t,false⟩ z).2]⟩):=λs hr=>Ed s b v _ tP ht z hz hp hr
 have K1:∀s,cJ s v st->bO 136 [fF v st,tv t] s (im v) (iv (G4 (uq st t))):=λs hr=>Ox s v st tP t ht hr
 obtain⟨G,l0,q0,hF,hG⟩:=oO;by_cases hc:0<(Fs.bD ⟨st,t,false⟩ z).2
 .rw[if_pos hc] at mc;rw[mc];generalize Fs.bD ⟨st,t,false⟩ z=fr at *
  refine aO f94 ?_;dsimp only[j5,eM];(repeat' (first|refine' aX|refine' C9|refine' ar|fail))
  all_goals try exact pb
  refine mw (v':=v) bB bj aq rfl
 .obtain⟨at_,e,e1,e2,e3,e4,e5,e6,e7⟩:=Pg.sr hF hp hc;have jq:Fs.bF ⟨st,t,false⟩ (at_:Int)=e.es:=Pg.lO hF false e4 e5;have n4:at_<16:=(hF.lt e4).2;have heb:=uV ⟨st,t,false⟩ (at_:Int);have Ou:=Ei hp e2;rw[if_neg hc,e1,jq] at mc;rw[e1] at zD;rw[jq] at heb;have hl12:=heb.1;have U9:∀s,lq s b v ⟨st,t,false⟩->fa aU aW 137 [aP b,iv at_] s (tp b v) 186 e.es:=λs hr=>by
   refine' za5
  have qt:(Fs.bD ⟨st,t,false⟩ z).2<=0:=by omega
  generalize(Fs.bD ⟨st,t,false⟩ z).2=fc at *
  cases hid:uq st t with
  |none=>
   rw[hid] at mc K1;simp only at mc;rw[mc];refine aO f94 ?_;dsimp only[j5,eM];(repeat' (first|refine' aX|refine' C9|refine' We|refine' AL|refine' ar|fail))
   all_goals refine' zax
  |some id=>
   obtain⟨hid16,_⟩:=Pg.D8 hF hid;rw[hid] at mc K1;simp only at mc;have K1:∀s,cJ s v st->bO 136 [fF v st,tv t] s (im v) (iv id):=K1;by_cases zF:12<=e.es.length
   .rw[if_pos zF] at mc;rw[mc];refine aO f94 ?_;dsimp only[j5,eM];(repeat' (first|refine' aX|refine' C9|refine' We|refine' AL|refine' ar|fail))
    all_goals try refine cI
    all_goals refine mw (v':=v) bB bj aq rfl
   .rw[if_neg zF] at mc;have Bd:∀a c s,bM s a e.es.length 2 (ah e.es)->fa aU aW 140 [.slice a e.es.length c,.agg ⟨[sv (Fs.base z),iv id]⟩] s (ai a) 186 (gu e.es ⟨Fs.base z,id⟩):=λa c s hr=>vk s a c e.es ⟨Fs.base z,id⟩ af hr
    have lT:=zc (x:=⟨Fs.base z,id⟩) heb ⟨Ou,by show(0:Int)<=(id:Int);omega,by show(id:Int)<=1000;omega⟩;have dK:∀(dI:SA) s,ml aU aW 138 [aP b,iv id,.agg ⟨[iv kind,.int .i64 1,cg,cg,cg,cg,cg,cg,cg,cg]⟩] s b dI ⟨st,t,false⟩ (Fs.put ⟨st,t,false⟩ id ⟨kind,1,0,eX⟩) (.tuple ⟨[]⟩):=λdI s=>si s b dI ⟨st,t,false⟩ (h.mono af) ht id hid16 ⟨kind,1,0,eX⟩
    have BB:su 50030 (Fs.put ⟨st,t,false⟩ id ⟨kind,1,0,eX⟩):=su.put (n:=50000) ⟨h,ht⟩ af _;generalize Fs.put ⟨st,t,false⟩ id ⟨kind,1,0,eX⟩=f1 at *
    generalize gu e.es ⟨Fs.base z,id⟩=vY at *
    refine' zas
    rw[mc];refine aO f94 ?_;dsimp only[j5,eM];(repeat' (first|refine' aX|refine' C9|refine' We|refine' AL|refine' C7|refine' Qc|refine' GF|refine' KY|refine' ar|fail))
    all_goals refine' zaC
theorem Tn (s:St)(b:Nat)(v:SA)(st:ak)(t:bX)(h:du 50000 st)(ht:dZ t)(oO:Pg.FS st t)(z:ay)(hz:z.length<=90000)(hp:bf z=true)(to:ay)(hzt:to.length<=90000)(tV:bf to=true):
  ml aU aW 96 [aP b,sv z,sv to] s b v ⟨st,t,false⟩ (Fs.link ⟨st,t,false⟩ z to).1 (iv (Fs.link ⟨st,t,false⟩ z to).2):=by
 have tP:du 100000 st:=h.mono af;have mc:Fs.link ⟨st,t,false⟩ z to=if Fs.cZ ⟨st,t,false⟩ z<0 then(⟨st,t,false⟩,2) else if(Fs.node ⟨st,t,false⟩ (Fs.cZ ⟨st,t,false⟩ z)).kind≠1 then(⟨st,t,false⟩,4) else if 0<(Fs.bD ⟨st,t,false⟩ to).2 then(⟨st,t,false⟩,(Fs.bD ⟨st,t,false⟩ to).2) else
   if 9<=(Fs.node ⟨st,t,false⟩ (Fs.cZ ⟨st,t,false⟩ z)).bE\/12<=(Fs.bF ⟨st,t,false⟩ (Fs.bD ⟨st,t,false⟩ to).1).length then(⟨st,t,false⟩,6) else
   ((Fs.aZ (Fs.put ⟨st,t,false⟩ (Fs.cZ ⟨st,t,false⟩ z) {Fs.node ⟨st,t,false⟩ (Fs.cZ ⟨st,t,false⟩ z) with bE:=(Fs.node ⟨st,t,false⟩ (Fs.cZ ⟨st,t,false⟩ z)).bE+1}) (Fs.bD ⟨st,t,false⟩ to).1 (gu (Fs.bF ⟨st,t,false⟩ (Fs.bD ⟨st,t,false⟩ to).1) ⟨Fs.base to,Fs.cZ ⟨st,t,false⟩ z⟩)),0):=rfl
 have zD:∀s,lq s b v ⟨st,t,false⟩->bO 135 [aP b,sv to] s (tp b v) (.tuple ⟨[iv (Fs.bD ⟨st,t,false⟩ to).1,iv (Fs.bD ⟨st,t,false⟩ to).2]⟩):=λs hr=>Ed s b v _ tP ht to hzt tV hr
 have NX:∀s,lq s b v ⟨st,t,false⟩->bO 142 [aP b,sv z] s (tp b v) (iv (Fs.cZ ⟨st,t,false⟩ z)):=λs hr=>pE s b v ⟨st,t,false⟩ tP ht z hz hp hr
 obtain⟨G,l0,q0,hF,hG⟩:=oO;by_cases h1:Fs.cZ ⟨st,t,false⟩ z<0
 .rw[if_pos h1] at mc;rw[mc];generalize Fs.cZ ⟨st,t,false⟩ z=w at *
  refine aO f96 ?_;dsimp only[j5,eM];(repeat' (first|refine' aX|refine' tJ|refine' ar|fail))
  all_goals try exact pb
  refine mw (v':=v) bB bj aq rfl
 .rw[if_neg h1] at mc;obtain⟨k,e1,e2⟩:=Pg.ie hF h1;obtain⟨ei,qA⟩:=Pg.jg hG e2;have hk:k<16:=(hF.lt qA).2;have Bh:Fs.node ⟨st,t,false⟩ (k:Int)=ei.n:=by rw[Pg.na hF,qA];rfl
  rw[e1,Bh] at mc;rw[e1] at NX;have xZ:∀s,lq s b v ⟨st,t,false⟩->bO 143 [aP b,iv k] s (tp b v) (nv ei.n):=λs hr=>by rw[<-Bh];exact tc s b v ⟨st,t,false⟩ tP ht k af hr
  have Qn: -1000<=ei.n.bE/\ei.n.bE<=1000:=by
   have:=Pg.kO ((hF.at_ k).some qA).2.ok;omega
  clear h1 e1;by_cases h2:ei.n.kind≠1
  .rw[if_pos h2] at mc;rw[mc];refine aO f96 ?_;dsimp only[j5,eM];(refine' Qg)
   all_goals first|(exfalso;omega;done)|(exfalso;exact h2 (by assumption))|skip
   all_goals refine mw (v':=v) bB bj aq rfl
  .rw[if_neg h2] at mc;have h2:ei.n.kind=1:=by simpa using h2
   by_cases hc:0<(Fs.bD ⟨st,t,false⟩ to).2
   .rw[if_pos hc] at mc;rw[mc];generalize Fs.bD ⟨st,t,false⟩ to=fr at *
    refine aO f96 ?_;dsimp only[j5,eM];(repeat' (first|refine' aX|refine' tJ|refine' yB|refine' C9|refine' ar|fail))
    all_goals refine' zax
   .obtain⟨at_,e,f1,f2,f3,f4,f5,f6,f7⟩:=Pg.sr hF tV hc;have jq:Fs.bF ⟨st,t,false⟩ (at_:Int)=e.es:=Pg.lO hF false f4 f5;have n4:at_<16:=(hF.lt f4).2;have heb:=uV ⟨st,t,false⟩ (at_:Int);have Ou:=Ei tV f2;rw[if_neg hc,f1,jq] at mc;rw[f1] at zD;rw[jq] at heb;have hl12:=heb.1;have U9:∀s,lq s b v ⟨st,t,false⟩->fa aU aW 137 [aP b,iv at_] s (tp b v) 186 e.es:=λs hr=>by
     refine' za5
    have qt:(Fs.bD ⟨st,t,false⟩ to).2<=0:=by omega
    generalize(Fs.bD ⟨st,t,false⟩ to).2=fc at *
    by_cases zF:9<=ei.n.bE\/12<=e.es.length
    .rw[if_pos zF] at mc;rw[mc];refine aO f96 ?_;dsimp only[j5,eM];(repeat' (first|refine' aX|refine' tJ|refine' yB|refine' C9|refine' AL|refine' ar|fail))
     all_goals try refine cI
     all_goals refine mw (v':=v) bB bj aq rfl
    .rw[if_neg zF] at mc;have Bd:∀a c s,bM s a e.es.length 2 (ah e.es)->fa aU aW 140 [.slice a e.es.length c,.agg ⟨[sv (Fs.base to),iv k]⟩] s (ai a) 186 (gu e.es ⟨Fs.base to,k⟩):=λa c s hr=>vk s a c e.es ⟨Fs.base to,k⟩ af hr
     have lT:=zc (x:=⟨Fs.base to,k⟩) heb ⟨Ou,by show(0:Int)<=(k:Int);omega,by show(k:Int)<=1000;omega⟩;have dK:∀(dI:SA) s,ml aU aW 138 [aP b,iv k,nv {ei.n with bE:=ei.n.bE+1}] s b dI ⟨st,t,false⟩ (Fs.put ⟨st,t,false⟩ k {ei.n with bE:=ei.n.bE+1}) (.tuple ⟨[]⟩):=λdI s=>si s b dI ⟨st,t,false⟩ (h.mono af) ht k hk _
     have BB:su 50030 (Fs.put ⟨st,t,false⟩ k {ei.n with bE:=ei.n.bE+1}):=su.put (n:=50000) ⟨h,ht⟩ af _;generalize Fs.put ⟨st,t,false⟩ k {ei.n with bE:=ei.n.bE+1}=f1 at *
     generalize gu e.es ⟨Fs.base to,k⟩=vY at *
     refine' zas
     rw[mc];refine aO f96 ?_;dsimp only[j5,eM];(repeat' (first|refine' aX|refine' tJ|refine' yB|refine' C9|refine' AL|refine' C7|refine' Qc|refine' GF|refine' KY|refine' ar|fail))
     all_goals refine' zaC
section
variable {E:dy}{X:dM}{Γ:gY}{l:Kn}{L:bn}{K:KO}{g:FuncId}{xs:List Operand}{ts:Array TypeId}{vs:aQ}{v:SA}{f:Fs}{b:Nat}
theorem WO.XY {α:Type}{sz:Nat}{enc:c9 α sz}{e:TypeId}{p:List α}(hx:ky l xs vs)(h:∀v s,lq s b v f->fa E X g vs s (tp b v) e p)(hh:KD Γ L b v f)(k:∀m m' a c,kb L m->m<=m'->K (.slice a p.length c) (.aJ (.slice a p.length c) e sz (ah (sz:=sz) p)::L) m m' (λi=>i∈tp b v\/i∈([]:bn).flatMap It.aS\/(m<=i/\i<m')) (λi=>i∈([]:bn).flatMap It.aS\/(m<=i/\i<m'))):WO E X Γ l (.call ⟨.value (.func g),⟨xs⟩,ts⟩) L K:=WO.Qw hx hh (h v) k
end
end Go.Pl
