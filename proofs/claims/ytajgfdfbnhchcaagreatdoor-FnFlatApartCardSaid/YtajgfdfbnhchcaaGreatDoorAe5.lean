/- Lemmas of the proof. No conditions. -/
import Derived.Test.YtajgfdfbnhchcaaGreatDoorAe4
set_option maxRecDepth 100000
set_option maxHeartbeats 4000000
set_option linter.unusedVariables false
set_option linter.unusedSimpArgs false
open Go.Proofs.Tryz
namespace Go.Pl
open Go Go.Ev Go.Lg Go.Proofs
theorem T1 (s:St)(z:aA)(n:Nat)(hz:z.length*n<=1000)(hzl:z.length<=1000)(hn:n<=1000):YE a8 bj 41 [sv z,iv n] s (λR=>∃y:aA,R=sv y/\y.length=z.length*n):=by
 refine aU f41 ?_;(repeat(first|refine' xz|refine' aw|fail))
 refine W.bN (λk l L=>∃(x y:aA)(m:Nat),Le [(0,sv x),(1,iv (m:Int)),(5,sv y)] l/\cz [] L/\k=m/\m<=1000/\(1<=m->x.length<=1000)/\y.length+x.length*m=z.length*n)
  (λl L=>∃(y:aA),Le [(5,sv y)] l/\cz [] L/\y.length=z.length*n) n ⟨z,[],n,bk,au,rfl,hn,λ_=>hzl,by simp⟩ ?_ ?_
 .rintro k l L ⟨x,y,m,hl,hL,hk,h1,h2,h3⟩;subst k;refine W.le ?_ hl hL;clear hl hL;have h4:((m:Int).tmod 2)=((m% 2:Nat):Int):=rfl;have h5:((m:Int).tdiv 2)=((m/ 2:Nat):Int):=rfl;have h6:=YF x.length m;have h7:x.length<=x.length*m\/m=0:=by
   rcases wc m with h|h
   .exact .inr h
   .exact .inl (UW _ h)
  have h8:1<=m/ 2->x.length+x.length<=(x.length+x.length)*(m/ 2):=λh=>UW _ h
  have h9:m% 2=1->x.length*(m% 2)=x.length:=λh=>by rw[h,z7]
  have Fc:m% 2=0->x.length*(m% 2)=0:=λh=>by rw[h,Nat.mul_zero]
  have Zu:m=0->x.length*m=0:=λh=>by rw[h,Nat.mul_zero]
  (refine' cU)
  all_goals try exact pq
  .refine⟨m/ 2,ag,x++x,y++x,m/ 2,bk,au,rfl,ag,?_,?_⟩<;>(simp only[bJ];omega)
  .refine⟨m/ 2,ag,x++x,y,m/ 2,bk,au,rfl,ag,?_,?_⟩<;>(simp only[bJ];omega)
  .exact⟨y,bk,au,ag⟩
 .rintro l L ⟨y,hl,hL,h1⟩;refine aq ?_;refine W.le ?_ hl hL;(refine' cU)
  exact⟨.inr rfl,_,[],bn,cz.nil _,⟨y,rfl,h1⟩,rfl⟩
structure T2 (o:Op):Prop where
 af:o.af∈xX
 to:o.to∈xX
 aW:o.aW.length<=25
 at_: -1<=o.at_/\o.at_<=193
 kind: -1<=o.kind/\o.kind<=8
def aly (R:Value):Prop:=∃o:Op,R=ov o/\T2 o
theorem M3:([]:aA)∈xX:=iV
theorem YG {l:List Int}{lo hi:Int}{i:Nat}{d:Int}(h:∀x∈l,lo<=x/\x<=hi)(fE:i<l.length):lo<=l.getD i d/\l.getD i d<=hi:=h _ (aJ fE d)
theorem ahE (s:St)(br:Nat)(a:aK)(code:aA)(c p:Nat)(hc:code.length<=2000)(hp:p<=80000)(hr:pH s a code)(hm:∀i∈aj a,i∉[oo br a code.length c p].flatMap It.aY):
  HT a8 bj 20 [bc br] s br a code c p 220 aly:=by
 have hd:sy ⟨s,[oo br a code.length c p].flatMap It.aY,aj a⟩ a code:=⟨hr,λb hb=>hb,hm⟩;have vc:∀(k:Int),0<=k/\k<2->∀s,YE a8 bj 41 [sv [117],iv (24+k)] s (λR=>∃y:aA,R=sv y/\y.length<=25):=λk hk s=>by
  have:=T1 s [117] (24+k).toNat (by simp only[cY,mJ];omega) (by simp) ag;rw[yi ag] at this;refine this.mono ?_;rintro R L ⟨⟨y,rfl,h⟩,rfl⟩;exact⟨⟨y,rfl,by rw[h];simp only[cY,mJ];omega⟩,rfl⟩
 refine aU f20 ?_;(repeat' (first|refine' a7|refine' acA|refine' acB|refine' Bl|((with_reducible apply WO.aiR);exact aE;(intro s;(first|exact vc _ ag s));intro _ _ alz abA _ _;obtain⟨alA,rfl,alB⟩:=abA)|refine' aw|fail))
 all_goals try exact pq
 all_goals refine Lb bB bn au ag ⟨⟨_,_,_,_,_⟩,rfl,⟨?_,?_,?_,?_,?_⟩⟩
 all_goals first|assumption|exact M3|omega|exact YG (by decide) (by simp only[cY,mJ];omega)|(simp;done)|(dsimp only;omega)
theorem JI (same:Bool):dv 100 (bT same):=
 ⟨by simp[bT],by simp[bT],by simp[bT],λx hx=>by simp[bT] at hx;rw[hx];simp,λx hx=>by simp[bT] at hx;omega,by simp[bT],by simp[bT],by simp[bT],by simp[bT],λp hp=>by simp[bT] at hp⟩
theorem M4 (same:Bool):dv 130 (mZ same).1/\eb (mZ same).2:=by
 have h:=nt (k:=0) (z:=fZ ⟨2,1,0,eY⟩) (JI same) (t:=eY) ⟨rfl,by decide,by decide⟩ ag (by have:=xO ⟨2,1,0,eY⟩;omega);exact⟨h.1,h.2.1⟩
theorem M5:∀(l:cW)(st:ar)(i:Nat),(l.foldl (λst p=>drop st p.row) st).aX.getD i 0<=st.aX.getD i 0
 |[],_,_=>yj _
 |p::l,st,i=>by
  rw[wi];refine Int.le_trans (M5 l _ i) ?_;show(st.aX.set p.row.toNat (st.aX.getD p.row.toNat 0-1)).getD i 0<=_;rw[aR,aR,List.getElem?_set];by_cases h:p.row.toNat=i
  .subst h;rw[if_pos rfl];split
   .simp only[pV,aR];omega
   .rename_i hl;simp[aR,rT (show st.aX.length<=p.row.toNat by omega)]
  .rw[if_neg h];exact yj _
theorem HU:∀(l:cW)(st:ar)(n:Nat),dv n st->dv (n+l.length) (l.foldl (λst p=>drop st p.row) st)
 |[],_,_,h=>h
 |p::l,st,n,h=>by
  rw[wi,cY];have:=HU l _ _ (h.drop (row:=p.row))
  rwa [show n+1+l.length=n+(l.length+1) by omega] at this
theorem wU:∀(l:cW)(st:ar),(l.foldl (λst p=>drop st p.row) st).oL=st.oL/\(l.foldl (λst p=>drop st p.row) st).ej=st.ej
 |[],_=>⟨rfl,rfl⟩
 |p::l,st=>by
  rw[wi];exact wU l _
theorem M6 {n:Nat}{st:ar}{t:bX}(h:dv n st)(hf:Pg.FS (next st) t):dv (n+1) (next st):=by
 have h1:=HU st.cI st n h;have h2:=M5 st.cI st;have h3:=wU st.cI st;obtain⟨G,l,q,hF,_⟩:=hf;have ZE:=hF.so.ct;have e:next st={(st.cI.foldl (λst p=>drop st p.row) st) with cI:=[],fC:=st.fC+1}:=rfl
 rw[e] at ZE⊢;generalize st.cI.foldl (λst p=>drop st p.row) st=y at *
 have Br:=h.tx;refine⟨h1.lr,h1.lf,h1.ll,h1.rw,λx hx=>?_,⟨by show(1:Int)<=st.fC+1;omega,by show st.fC+1<=((n+1:Nat):Int);omega⟩,?_,?_,?_,?_⟩
 .obtain⟨i,hi,rfl⟩:=iZ hx;have hi:i<y.aX.length:=hi;have a1:=ZE i (by have:=h1.lf;omega);have a2:=h2 i;have a3:=h.ref i;have e2:y.aX.getD i 0=y.aX[i]:=by rw[aR,bd hi];rfl
  have a1:(0:Int)<=y.aX.getD i 0:=Int.le_trans (Kb _) a1;rw[e2] at a1 a2;show -((n+1:Nat):Int)<=y.aX[i]/\y.aX[i]<=((n+1:Nat):Int);omega
 .show 0<=y.oL/\y.oL<=((n+1:Nat):Int);have:=h.kp;rw[h3.1];omega
 .show([]:cW).length<=n+1;simp
 .show y.ej.length<=n+1;have:=h.dl;rw[h3.2];omega
 .intro p hp;cases hp
abbrev fnV (same:Bool):Value->Value:=λV=>.tuple ⟨[V,tv (mZ same).2,.bool true]⟩
theorem M7 (s:St)(v:SA)(same:Bool)(hr:zo s v (bT same)):Mo a8 bj 73 [fD v (bT same)] s (FT v) (mZ same).1 (fnV same):=by
 have tL:=Rn.r hr;have uj:=Rn.f hr;have uq:=Rn.l hr;have hdg:=Rn.g hr;have hdd:=Rn.d hr;have Ce:dv 100000 (bT same):=(JI same).mono ag;have WE:∀s,cK s v (bT same)->bP 109 [fD v (bT same)] s (iH v) (.bool true):=λs hr=>MX s v same hr
 have dK:∀(dI:SA) s,eQ a8 bj 110 [fD dI (bT same),.agg ⟨[cb,cb,cb,cb,cb,cb,cb]⟩,cb,.agg ⟨[.int .i64 2,.int .i64 1,cb,cb,cb,cb,cb,cb,cb,cb]⟩] s [] dI (bT same) (mZ same).1 true (B1 (mZ same).2 true):=λdI s=>by
  have:=vG s dI (bT same) ((JI same).mono ag) eY ⟨rfl,by decide,by decide⟩ 0 ag ⟨2,1,0,eY⟩;rw[Pg.wS] at this;exact this
 refine aU f73 ?_;(repeat' (first|refine' a7|((with_reducible apply WO.mj);exact aE;(first|exact λs hr=>WE s hr);exact eC;intro _ _ _ _)|refine' rh|((with_reducible apply WO.nf);exact aE;(first|exact λs=>dK _ s);exact ey;intro _ _ T3 _ _ af0)|refine' aw|fail))
 all_goals try refine cM
 all_goals exact ag9 (v':=T3) bB bn au rfl
theorem EV {z:aA}(hp:aT z=true)(hn:aH z≠[]):(Fs.base z).length<=1000:=by
 have:=Pg.JA hp hn;unfold bG at this;simp only[bU,bQ] at this;omega
theorem HV (s:St)(b:Nat)(v:SA)(st:ar)(t:bX)(h:dv 50000 st)(ht:eb t)(o9:Pg.FS st t)(z:aA)(hz:z.length<=90000)(hp:aT z=true)(kind:Int)(hk:kind=1\/kind=2):
  mG a8 bj 113 [bc b,sv z,iv kind] s b v ⟨st,t,false⟩ (Fs.make ⟨st,t,false⟩ z kind).1 (iv (Fs.make ⟨st,t,false⟩ z kind).2):=by
 have tc:dv 100000 st:=h.mono ag;have mA:Fs.make ⟨st,t,false⟩ z kind=if 0<(Fs.bD ⟨st,t,false⟩ z).2 then(⟨st,t,false⟩,(Fs.bD ⟨st,t,false⟩ z).2) else
   match uR st t with
   |none=>(⟨st,t,false⟩,6)
   |some id=>if 12<=(Fs.bH ⟨st,t,false⟩ (Fs.bD ⟨st,t,false⟩ z).1).length then(⟨st,t,false⟩,6) else((Fs.bf (Fs.put ⟨st,t,false⟩ id ⟨kind,1,0,eY⟩) (Fs.bD ⟨st,t,false⟩ z).1 (gm (Fs.bH ⟨st,t,false⟩ (Fs.bD ⟨st,t,false⟩ z).1) ⟨Fs.base z,id⟩)),0):=rfl
 have Ae:∀s,lJ s b v ⟨st,t,false⟩->bP 154 [bc b,sv z] s (tN b v) (.tuple ⟨[iv (Fs.bD ⟨st,t,false⟩ z).1,iv (Fs.bD ⟨st,t,false⟩ z).2]⟩):=λs hr=>EO s b v _ tc ht z hz hp hr
 have LA:∀s,cK s v st->bP 155 [fD v st,tv t] s (iH v) (iv (Hu (uR st t))):=λs hr=>Pc s v st tc t ht hr
 obtain⟨G,l0,q0,hF,hG⟩:=o9;by_cases hc:0<(Fs.bD ⟨st,t,false⟩ z).2
 .rw[if_pos hc] at mA;rw[mA];generalize Fs.bD ⟨st,t,false⟩ z=fr at *
  refine aU f113 ?_;dsimp only[kg,eO];(repeat' (first|refine' a7|refine' DM|refine' aw|fail))
  all_goals try exact pq
  refine mP (v':=v) bB bn au rfl
 .obtain⟨at_,e,e1,e2,e3,e4,e5,e6,e7⟩:=Pg.sK hF hp hc;have jC:Fs.bH ⟨st,t,false⟩ (at_:Int)=e.es:=Pg.l9 hF false e4 e5;have nJ:at_<16:=(hF.lt e4).2;have heb:=vk ⟨st,t,false⟩ (at_:Int);have O8:=EV hp e2;rw[if_neg hc,e1,jC] at mA;rw[e1] at Ae;rw[jC] at heb;have aiN:=heb.1;have VP:∀s,lJ s b v ⟨st,t,false⟩->fa a8 bj 156 [bc b,iv at_] s (tN b v) 200 e.es:=λs hr=>by
   refine' za4
  have qH:(Fs.bD ⟨st,t,false⟩ z).2<=0:=by omega
  generalize(Fs.bD ⟨st,t,false⟩ z).2=fc at *
  cases hid:uR st t with
  |none=>
   rw[hid] at mA LA;simp only at mA;rw[mA];refine aU f113 ?_;dsimp only[kg,eO];(repeat' (first|refine' a7|refine' DM|refine' W0|refine' Bk|refine' aw|fail))
   all_goals refine' zaz
  |some id=>
   obtain⟨ac7,_⟩:=Pg.EJ hF hid;rw[hid] at mA LA;simp only at mA;have LA:∀s,cK s v st->bP 155 [fD v st,tv t] s (iH v) (iv id):=LA;by_cases Ai:12<=e.es.length
   .rw[if_pos Ai] at mA;rw[mA];refine aU f113 ?_;dsimp only[kg,eO];(repeat' (first|refine' a7|refine' DM|refine' W0|refine' Bk|refine' aw|fail))
    all_goals try refine cM
    all_goals refine mP (v':=v) bB bn au rfl
   .rw[if_neg Ai] at mA;have BO:∀a c s,bO s a e.es.length 2 (ai e.es)->fa a8 bj 159 [.slice a e.es.length c,.agg ⟨[sv (Fs.base z),iv id]⟩] s (aj a) 200 (gm e.es ⟨Fs.base z,id⟩):=λa c s hr=>vJ s a c e.es ⟨Fs.base z,id⟩ ag hr
    have kK:=zE (x:=⟨Fs.base z,id⟩) heb ⟨O8,by show(0:Int)<=(id:Int);omega,by show(id:Int)<=1000;omega⟩;have dK:∀(dI:SA) s,mG a8 bj 157 [bc b,iv id,.agg ⟨[iv kind,.int .i64 1,cb,cb,cb,cb,cb,cb,cb,cb]⟩] s b dI ⟨st,t,false⟩ (Fs.put ⟨st,t,false⟩ id ⟨kind,1,0,eY⟩) (.tuple ⟨[]⟩):=λdI s=>sG s b dI ⟨st,t,false⟩ (h.mono ag) ht id ac7 ⟨kind,1,0,eY⟩
    have Ce:sM 50030 (Fs.put ⟨st,t,false⟩ id ⟨kind,1,0,eY⟩):=sM.put (n:=50000) ⟨h,ht⟩ ag _;generalize Fs.put ⟨st,t,false⟩ id ⟨kind,1,0,eY⟩=f1 at *
    generalize gm e.es ⟨Fs.base z,id⟩=wI at *
    refine' zat
    rw[mA];refine aU f113 ?_;dsimp only[kg,eO];(repeat' (first|refine' a7|refine' DM|refine' W0|refine' Bk|refine' DK|refine' QQ|refine' G8|refine' Lx|refine' aw|fail))
    all_goals refine' zaE
theorem T4 (s:St)(b:Nat)(v:SA)(st:ar)(t:bX)(h:dv 50000 st)(ht:eb t)(o9:Pg.FS st t)(z:aA)(hz:z.length<=90000)(hp:aT z=true)(to:aA)(hzt:to.length<=90000)(uu:aT to=true):
  mG a8 bj 115 [bc b,sv z,sv to] s b v ⟨st,t,false⟩ (Fs.link ⟨st,t,false⟩ z to).1 (iv (Fs.link ⟨st,t,false⟩ z to).2):=by
 have tc:dv 100000 st:=h.mono ag;have mA:Fs.link ⟨st,t,false⟩ z to=if Fs.da ⟨st,t,false⟩ z<0 then(⟨st,t,false⟩,2) else if(Fs.node ⟨st,t,false⟩ (Fs.da ⟨st,t,false⟩ z)).kind≠1 then(⟨st,t,false⟩,4) else if 0<(Fs.bD ⟨st,t,false⟩ to).2 then(⟨st,t,false⟩,(Fs.bD ⟨st,t,false⟩ to).2) else
   if 9<=(Fs.node ⟨st,t,false⟩ (Fs.da ⟨st,t,false⟩ z)).bF\/12<=(Fs.bH ⟨st,t,false⟩ (Fs.bD ⟨st,t,false⟩ to).1).length then(⟨st,t,false⟩,6) else
   ((Fs.bf (Fs.put ⟨st,t,false⟩ (Fs.da ⟨st,t,false⟩ z) {Fs.node ⟨st,t,false⟩ (Fs.da ⟨st,t,false⟩ z) with bF:=(Fs.node ⟨st,t,false⟩ (Fs.da ⟨st,t,false⟩ z)).bF+1}) (Fs.bD ⟨st,t,false⟩ to).1 (gm (Fs.bH ⟨st,t,false⟩ (Fs.bD ⟨st,t,false⟩ to).1) ⟨Fs.base to,Fs.da ⟨st,t,false⟩ z⟩)),0):=rfl
 have Ae:∀s,lJ s b v ⟨st,t,false⟩->bP 154 [bc b,sv to] s (tN b v) (.tuple ⟨[iv (Fs.bD ⟨st,t,false⟩ to).1,iv (Fs.bD ⟨st,t,false⟩ to).2]⟩):=λs hr=>EO s b v _ tc ht to hzt uu hr
 have WR:∀s,lJ s b v ⟨st,t,false⟩->bP 161 [bc b,sv z] s (tN b v) (iv (Fs.da ⟨st,t,false⟩ z)):=λs hr=>pS s b v ⟨st,t,false⟩ tc ht z hz hp hr
 obtain⟨G,l0,q0,hF,hG⟩:=o9;by_cases h1:Fs.da ⟨st,t,false⟩ z<0
 .rw[if_pos h1] at mA;rw[mA];generalize Fs.da ⟨st,t,false⟩ z=w at *
  refine aU f115 ?_;dsimp only[kg,eO];(repeat' (first|refine' a7|refine' ud|refine' aw|fail))
  all_goals try exact pq
  refine mP (v':=v) bB bn au rfl
 .rw[if_neg h1] at mA;obtain⟨k,e1,e2⟩:=Pg.iB hF h1;obtain⟨ei,qO⟩:=Pg.jr hG e2;have hk:k<16:=(hF.lt qO).2;have BS:Fs.node ⟨st,t,false⟩ (k:Int)=ei.n:=by rw[Pg.nz hF,qO];rfl
  rw[e1,BS] at mA;rw[e1] at WR;have qE:∀s,lJ s b v ⟨st,t,false⟩->bP 162 [bc b,iv k] s (tN b v) (nv ei.n):=λs hr=>by rw[<-BS];exact tF s b v ⟨st,t,false⟩ tc ht k ag hr
  have L9: -1000<=ei.n.bF/\ei.n.bF<=1000:=by
   have:=Pg.lb ((hF.at_ k).some qO).2.ok;omega
  clear h1 e1;by_cases h2:ei.n.kind≠1
  .rw[if_pos h2] at mA;rw[mA];refine aU f115 ?_;dsimp only[kg,eO];(refine' QU)
   all_goals first|(exfalso;omega;done)|(exfalso;exact h2 (by assumption))|skip
   all_goals refine mP (v':=v) bB bn au rfl
  .rw[if_neg h2] at mA;have h2:ei.n.kind=1:=by simpa using h2
   by_cases hc:0<(Fs.bD ⟨st,t,false⟩ to).2
   .rw[if_pos hc] at mA;rw[mA];generalize Fs.bD ⟨st,t,false⟩ to=fr at *
    refine aU f115 ?_;dsimp only[kg,eO];(repeat' (first|refine' a7|refine' ud|refine' y5|refine' DM|refine' aw|fail))
    all_goals refine' zaz
   .obtain⟨at_,e,f1,f2,f3,f4,f5,f6,f7⟩:=Pg.sK hF uu hc;have jC:Fs.bH ⟨st,t,false⟩ (at_:Int)=e.es:=Pg.l9 hF false f4 f5;have nJ:at_<16:=(hF.lt f4).2;have heb:=vk ⟨st,t,false⟩ (at_:Int);have O8:=EV uu f2;rw[if_neg hc,f1,jC] at mA;rw[f1] at Ae;rw[jC] at heb;have aiN:=heb.1;have VP:∀s,lJ s b v ⟨st,t,false⟩->fa a8 bj 156 [bc b,iv at_] s (tN b v) 200 e.es:=λs hr=>by
     refine' za4
    have qH:(Fs.bD ⟨st,t,false⟩ to).2<=0:=by omega
    generalize(Fs.bD ⟨st,t,false⟩ to).2=fc at *
    by_cases Ai:9<=ei.n.bF\/12<=e.es.length
    .rw[if_pos Ai] at mA;rw[mA];refine aU f115 ?_;dsimp only[kg,eO];(repeat' (first|refine' a7|refine' ud|refine' y5|refine' DM|refine' Bk|refine' aw|fail))
     all_goals try refine cM
     all_goals refine mP (v':=v) bB bn au rfl
    .rw[if_neg Ai] at mA;have BO:∀a c s,bO s a e.es.length 2 (ai e.es)->fa a8 bj 159 [.slice a e.es.length c,.agg ⟨[sv (Fs.base to),iv k]⟩] s (aj a) 200 (gm e.es ⟨Fs.base to,k⟩):=λa c s hr=>vJ s a c e.es ⟨Fs.base to,k⟩ ag hr
     have kK:=zE (x:=⟨Fs.base to,k⟩) heb ⟨O8,by show(0:Int)<=(k:Int);omega,by show(k:Int)<=1000;omega⟩;have dK:∀(dI:SA) s,mG a8 bj 157 [bc b,iv k,nv {ei.n with bF:=ei.n.bF+1}] s b dI ⟨st,t,false⟩ (Fs.put ⟨st,t,false⟩ k {ei.n with bF:=ei.n.bF+1}) (.tuple ⟨[]⟩):=λdI s=>sG s b dI ⟨st,t,false⟩ (h.mono ag) ht k hk _
     have Ce:sM 50030 (Fs.put ⟨st,t,false⟩ k {ei.n with bF:=ei.n.bF+1}):=sM.put (n:=50000) ⟨h,ht⟩ ag _;generalize Fs.put ⟨st,t,false⟩ k {ei.n with bF:=ei.n.bF+1}=f1 at *
     generalize gm e.es ⟨Fs.base to,k⟩=wI at *
     refine' zat
     rw[mA];refine aU f115 ?_;dsimp only[kg,eO];(repeat' (first|refine' a7|refine' ud|refine' y5|refine' DM|refine' Bk|refine' DK|refine' QQ|refine' G8|refine' Lx|refine' aw|fail))
     all_goals refine' zaE
section
variable {E:dA}{X:dM}{Γ:ij}{l:Kn}{L:bE}{K:KO}{g:FuncId}{xs:List Operand}{ts:Array TypeId}{vs:aQ}{v:SA}{f:Fs}{b:Nat}
theorem WO.YH {α:Type}{sz:Nat}{enc:ak α sz}{e:TypeId}{p:List α}(hx:kL l xs vs)(h:∀v s,lJ s b v f->fa E X g vs s (tN b v) e p)(hh:La Γ L b v f)(k:∀m m' a c,kq L m->m<=m'->K (.slice a p.length c) (.aN (.slice a p.length c) e sz (ai (sz:=sz) p)::L) m m' (λi=>i∈tN b v\/i∈([]:bE).flatMap It.aY\/(m<=i/\i<m')) (λi=>i∈([]:bE).flatMap It.aY\/(m<=i/\i<m'))):WO E X Γ l (.call ⟨.value (.func g),⟨xs⟩,ts⟩) L K:=WO.Rb hx hh (h v) k
end
end Go.Pl
