/- Lemmas of the proof. No conditions. -/
import Derived.Test.YtjaeddbblleomaaGreatDoorAd1
set_option maxRecDepth 100000
set_option maxHeartbeats 4000000
set_option linter.unusedVariables false
set_option linter.unusedSimpArgs false
open Go.Proofs.Tryz
namespace Go.Pl
open Go Go.Ev Go.Lg Go.Proofs
theorem AW (s:St)(z:ay)(hz:z.length<=100000):fa aU aW 225 [sv z] s [] 9 (dv (z.length+1) z):=by
 refine aO f225 ?_;(repeat(first|refine' wU|refine' ar|fail))
 refine W.bH (λk l L=>∃(f:Nat)(y:ay)(q:List ay)(a:aH)(c:Nat),Le [(0,sv y),(3,.slice a q.length c)] l/\cr [.aJ (.slice a q.length c) 9 1 (ah q)] L/\k=y.length/\y.length<f/\q.length+y.length<=z.length/\dv (z.length+1) z=q++dv f y)
  (λl L=>∃(y:ay)(q:List ay)(a:aH)(c:Nat),Le [(0,sv y),(3,.slice a q.length c)] l/\cr [.aJ (.slice a q.length c) 9 1 (ah q)] L/\q.length<=z.length/\dv (z.length+1) z=q++if y=[] then [] else [y]) z.length ⟨z.length+1,z,[],_,_,bd,aq,rfl,af,by simp,by simp⟩ ?_ ?_
 .rintro k l L ⟨f,y,q,a,c,hl,hL,rfl,h1,h2,h3⟩;refine W.le ?_ hl hL;clear hl hL;obtain⟨f,rfl⟩:∃g,f=g+1:=⟨f-1,af⟩;rw[show dv (f+1) y=if 128<y.length then y.take 128::dv f (y.drop 128) else if y=[] then [] else [y] from rfl] at h3;(refine' cO)
  .rw[if_pos af] at h3;refine⟨_,?_,f,y.drop 128,q++[y.take 128],_,_,bd,aq,rfl,?_,?_,?_⟩
   .rw[gp];omega
   .rw[gp];omega
   .simp only[bR,gp,dh,mD];omega
   .rw[h3];simp
  .rw[if_neg af] at h3;exact⟨y,q,_,_,bd,aq,af,h3⟩
 .rintro l L ⟨y,q,a,c,hl,hL,h1,h3⟩;refine aj ?_;refine W.le ?_ hl hL;clear hl hL;rw[h3];by_cases hy:y=[]
  .subst hy;(refine' cO)
   all_goals first|(exfalso;simp_all;done)|((refine' lB);simp)
  .rw[if_neg hy];(refine' cO)
   all_goals first|(exfalso;simp_all;done)|((refine' lB);rfl)
theorem zV (s:St)(v:SA)(st:ak)(h:du 100000 st)(t:bX)(ht:dZ t)(k:Int)(hk: -1000<=k/\k<=1000)(hr:cJ s v st):bO 181 [fF v st,tv t,iv k] s (im v) (uQ (iY st t k)):=by
 have tk:=Rd.DE hr;have tO:=Rd.off hr;have tT:=Rd.BO hr;have hm:=ht.mn;by_cases hi:fR k 0 (t.many-1)=true
 .have hkr:0<=k/\k<=t.many-1:=by simpa[fR] using hi
  obtain⟨n,rfl⟩:=xI hkr.1;have gK:(RI st t n).length<=3000:=LC h _;have hn:(!fR (n:Int) 0 (t.many-1))=false:=by rw[hi];rfl
  unfold iY;rw[if_neg (by rw[hi];simp),tX];refine aO f181 ?_;(repeat' (first|refine' aX|refine' M1|((with_reducible apply WO.lY);exact aD;(first|exact λs hr=>LD s _ _ (by assumption) _ (by assumption) _ af hr|exact λs hr=>LD s _ _ (by assumption) ⟨⟨_,_,_,_,_⟩,_,_⟩ (by assumption) _ af hr);exact ez;intro _ _ _ _)|((with_reducible apply WO.bG);exact aD;(first|exact λs=>tn s _ af);intro _ _ _ _)|refine' ar|fail))
  (refine' av)
  cases eO (RI st t n)<;>rfl
 .have fG:fR k 0 (t.many-1)=false:=by simpa using hi
  have hn:(!fR k 0 (t.many-1))=true:=by rw[fG];rfl
  unfold iY;rw[if_pos hn];refine aO f181 ?_;(refine' zb2)
  (refine' av)
  rfl
theorem Ox (s:St)(v:SA)(st:ak)(h:du 100000 st)(t:bX)(ht:dZ t)(hr:cJ s v st):bO 136 [fF v st,tv t] s (im v) (iv (G4 (uq st t))):=by
 have tk:=Rd.DE hr;have tO:=Rd.off hr;have tT:=Rd.BO hr;obtain⟨hl,dA⟩:=kR h ht;have hm:=ht.mn;refine aO f136 ?_;(refine' Wv)
 unfold uq;generalize hU st t=w at *
 refine W.bH (λk l L=>∃(i:Nat),Le [(5,.slice gA w.length gB),(6,iv i)] l/\cr [.aJ (.slice gA w.length gB) 9 1 (ah w)] L/\k=16-i/\i<=16/\nu (λk=>decide (w.getD k []=[])) 16 0=nu (λk=>decide (w.getD k []=[])) (16-i) i)
  (λl L=>nu (λk=>decide (w.getD k []=[])) 16 0=none) 16 ⟨0,bd,aq,af,af,rfl⟩ ?_ ?_
 .rintro k l L ⟨i,ju,hL,rfl,h1,h2⟩;refine W.le ?_ ju hL;clear ju hL;by_cases hi:i<16
  .rw[xb (n:=16-i) (i:=i) af] at h2;by_cases hiw:i<w.length
   ·(refine' cO)
    all_goals try exact pb
    .rw[show nu (λk=>decide (w.getD k []=[])) 16 0=some i from h2.trans (if_pos (dO jU))];(refine' av);rfl
    .refine⟨_,?_,i+1,bd,aq,rfl,af,?_⟩
     .omega
     .exact h2.trans (if_neg (by rw[cl];exact jU))
   .have hnil:w.getD i []=[]:=by rw[aY,rB af];rfl
    (refine' cO)
    all_goals try exact pb
    rw[show nu (λk=>decide (w.getD k []=[])) 16 0=some i from h2.trans (if_pos (dO hnil))];(refine' av);rfl
  .have fG:i=16:=by omega
   subst fG;(refine' cO)
   all_goals first|(exfalso;omega;done)|exact h2
 .rintro l L h1;refine aj ?_;refine W.le ?_ (Le.nil _) (cr.nil _);(refine' cO)
  (refine' av);rw[h1];rfl
theorem Oy (s:St)(v:SA)(st:ak)(h:du 100000 st)(t:bX)(ht:dZ t)(AE:Int)(hr:cJ s v st):bO 182 [fF v st,tv t,iv AE] s (im v) (iv (qO st t AE)):=by
 have tk:=Rd.DE hr;have tO:=Rd.off hr;have tT:=Rd.BO hr;obtain⟨hl,dA⟩:=kR h ht;have hm:=ht.mn;refine aO f182 ?_;(refine' Wv)
 unfold qO;generalize hU st t=w at *
 refine W.bH (λk l L=>∃(i n bt:Nat),Le [(2,iv AE),(4,aP bt),(7,iv n),(8,.slice gA w.length gB),(9,iv i)] l/\cr [.aJ (.slice gA w.length gB) 9 1 (ah w),.box bt (gU t) 62 false] L/\k=w.length-i/\i<=w.length/\lV AE 0 0 w=lV AE i n (w.drop i))
  (λl L=>Le [(7,iv (lV AE 0 0 w))] l/\cr [] L) w.length ⟨0,0,_,bd,aq,af,af,rfl⟩ ?_ ?_
 .rintro k l L ⟨i,n,bt,ju,hL,rfl,h1,h2⟩;refine W.le ?_ ju hL;clear ju hL;by_cases hi:i<w.length
  .rw[drop_cons hi,lV] at h2;(refine' cO)
   all_goals try exact pb
   .rw[if_pos (by simp only[cv,cl];exact⟨tR,jU⟩)] at h2;refine⟨_,?_,i+1,i+1,_,bd,aq,rfl,af,h2⟩;omega
   .rw[if_neg (by simp only[cv,cl];rintro⟨_,hx⟩;exact hx jU)] at h2;refine⟨_,?_,i+1,n,_,bd,aq,rfl,af,h2⟩;omega
   .rw[if_neg (by simp only[cv,cl];rintro⟨hx,_⟩;exact hx tR)] at h2;refine⟨_,?_,i+1,n,_,bd,aq,rfl,af,h2⟩;omega
  .have fG:i=w.length:=by omega
   subst fG;rw[ig] at h2;have h2:lV AE 0 0 w=n:=h2;(refine' cO)
   all_goals first|(exfalso;omega;done)|(rw[h2];exact⟨bd,aq⟩)
 .rintro l L ⟨ju,hL⟩;refine aj ?_;refine W.le ?_ ju hL;(refine' cO)
  (refine' av);rfl
theorem lC {q:eV}{k:Int}{t:Nat}(h:nS q k=some t):t<q.length:=(nq.1 h).1
theorem SP (s:St)(b:Nat)(a:aH)(c:Nat)(p:dx)(a':aH)(c':Nat)(q:eV)(hs:eB q)(hq:q.length<=1000)(k:Int)(t:Nat)(ht:nS q k=some t)(hr:iB s b a c p a' c' q):bO 280 [aP b,iv k] s (qz b a a') (.bool (q.getD t c9.lW).aM):=by
 have M3:=G3.x hr;have oK:=G3.n hr;have qJ:=G3.t hr;have kh:∀s,iB s b a c p a' c' q->bO 28 [aP b,iv k] s (qz b a a') (da a' t 3 0):=λs hr=>by
  have:=fU s b a c p a' c' q hs hq k hr;rw[ht] at this;exact this
 have qM:=lC ht;refine aO f280 ?_;(repeat' (first|refine' aX|refine' Sa|refine' Z4|refine' ar|fail))
 all_goals(refine' av)
 all_goals rfl
theorem LI (s:St)(b:Nat)(a:aH)(c:Nat)(p:dx)(a':aH)(c':Nat)(q:eV)(hp:p.length<=1000)(k:Int)(hr:iB s b a c p a' c' q):bO 77 [aP b,iv k] s (qz b a a') (iv ((p.countP λx=>decide (x.id=k):Nat):Int)):=by
 have M3:=G3.x hr;have oK:=G3.n hr;refine aO f77 ?_;(refine' cO)
 refine W.bH (λm l L=>∃(i n:Nat),Le [(1,iv k),(5,iv (n:Int)),(11,.slice a p.length c),(12,iv (p.length:Int)),(13,iv (i:Int))] l/\cr [] L/\m=p.length-i/\i<=p.length/\n<=i/\(p.countP λx=>decide (x.id=k))=n+(p.drop i).countP λx=>decide (x.id=k))
  (λl L=>Le [(5,iv ((p.countP λx=>decide (x.id=k):Nat):Int))] l/\cr [] L) _ ⟨0,0,bd,aq,rfl,af,af,by simp⟩ ?_ ?_
 .rintro m l L ⟨i,n,hl,hL,rfl,h1,h2,h3⟩;refine W.le ?_ hl hL;clear hl hL;by_cases hi:i<p.length
  .rw[drop_cons hi,jI] at h3;(refine' cO)
   all_goals try refine cI
   .refine⟨_,af,i+1,n+1,bd,aq,rfl,af,af,?_⟩;rw[h3,if_pos (by rw[cl];assumption)];omega
   .refine⟨_,af,i+1,n,bd,aq,rfl,af,af,?_⟩;rw[h3,if_neg (by rw[cl];assumption)];omega
  .have fG:i=p.length:=by omega
   subst fG;rw[ig,JJ,wo] at h3;rw[h3];(refine' cO)
   all_goals try refine cI
   all_goals exact⟨bd,aq⟩
 .rintro l L ⟨hl,hL⟩;refine aj ?_;refine W.le ?_ hl hL;clear hl hL;(refine' cO)
  all_goals(refine' av)
  all_goals rfl
def inB (p:dx)(k:Int)(x:Fnd):Bool:=decide ((au x.ag).2≠[])&&decide (ldI p (au x.ag).1=k)
def enI (p:dx)(k:Int):Nat:=p.countP (inB p k)
theorem Oz (s:St)(b:Nat)(a:aH)(c:Nat)(p:dx)(a':aH)(c':Nat)(q:eV)(hs:kq p)(hp:p.length<=1000)(ri:∀x∈p,x.ag.length<=5000)(k:Int)(hr:iB s b a c p a' c' q):bO 279 [aP b,iv k] s (qz b a a') (iv (enI p k:Int)):=by
 have M3:=G3.x hr;have oK:=G3.n hr;have qJ:=G3.t hr;have P2:∀s z,iB s b a c p a' c' q->bO 20 [aP b,sv z] s (qz b a a') (iv (ldI p z)):=λs z hr=>Qr s b a c p a' c' q hs hp z hr
 refine aO f279 ?_;(refine' cO)
 refine W.bH (λm l L=>∃(i n:Nat),Le [(0,aP b),(1,iv k),(5,iv (n:Int)),(13,.slice a p.length c),(14,iv (p.length:Int)),(15,iv (i:Int))] l/\cr [] L/\m=p.length-i/\i<=p.length/\n<=i/\enI p k=n+(p.drop i).countP (inB p k))
  (λl L=>Le [(5,iv (enI p k:Int))] l/\cr [] L) _ ⟨0,0,bd,aq,rfl,af,af,by simp[enI]⟩ ?_ ?_
 .rintro m l L ⟨i,n,hl,hL,rfl,h1,h2,h3⟩;refine W.le ?_ hl hL;clear hl hL;by_cases hi:i<p.length
  .have hpl1:=ri _ (aF hi c9.lW);rw[drop_cons hi,jI] at h3;unfold inB at h3;(repeat' (first|refine' aX|refine' zc63|refine' qw|refine' ar|fail))
   all_goals try refine cI
   all_goals first
    |(refine⟨_,af,i+1,n+1,bd,aq,rfl,af,af,?_⟩;rw[h3,if_pos (by rw[cv,cl,cl];exact⟨by assumption,by assumption⟩)];unfold inB;omega)
    |(refine⟨_,af,i+1,n,bd,aq,rfl,af,af,?_⟩;rw[h3,if_neg (by rw[cv,cl,cl];exact λh=>by simp_all)];unfold inB;omega)
  .have fG:i=p.length:=by omega
   subst fG;rw[ig,JJ,wo] at h3;rw[h3];(refine' cO)
   all_goals try refine cI
   all_goals exact⟨bd,aq⟩
 .rintro l L ⟨hl,hL⟩;refine aj ?_;refine W.le ?_ hl hL;clear hl hL;(refine' cO)
  all_goals(refine' av)
  all_goals rfl
def IT (q:eV):Nat->Nat->Int
 |0,_=>-1
 |n+1,k=>if(nS q (k:Int)).isNone then(k:Int) else IT q n (k+1)
theorem SQ (q:eV)(n k:Nat):IT q (n+1) k=if(nS q (k:Int)).isNone then(k:Int) else IT q n (k+1):=rfl
theorem room_ok (s:St)(b:Nat)(a:aH)(c:Nat)(p:dx)(a':aH)(c':Nat)(q:eV)(hs:eB q)(hq:q.length<=1000)(hr:iB s b a c p a' c' q):bO 73 [aP b] s (qz b a a') (iv (IT q 16 0)):=by
 have M3:=G3.x hr;have oK:=G3.n hr;have qJ:=G3.t hr;refine aO f73 ?_;(refine' cO)
 refine W.bH (λm l L=>∃(i:Nat),Le [(0,aP b),(4,iv (i:Int))] l/\cr [] L/\m=16-i/\i<=16/\IT q 16 0=IT q (16-i) i)
  (λl L=>Le [] l/\cr [] L/\IT q 16 0= -1) _ ⟨0,bd,aq,rfl,af,rfl⟩ ?_ ?_
 .rintro m l L ⟨i,hl,hL,rfl,h1,h3⟩;refine W.le ?_ hl hL;clear hl hL;by_cases hi:i<16
  .rw[show 16-i=(16-(i+1))+1 by omega,SQ q (16-(i+1)) i] at h3;cases ht:nS q (i:Int) with
   |none=>
    have kh:∀s,iB s b a c p a' c' q->bO 28 [aP b,iv (i:Int)] s (qz b a a') (.pointer none):=λs hr=>by
     have:=fU s b a c p a' c' q hs hq (i:Int) hr;rw[ht] at this;exact this
    rw[ht,if_pos (show(none:Option Nat).isNone=true from rfl)] at h3;(repeat' (first|refine' aX|refine' Sa|refine' zc65|refine' ar|fail))
    all_goals try refine cI
    all_goals(refine' av)
    all_goals(rw[h3];rfl)
   |some t=>
    have kh:∀s,iB s b a c p a' c' q->bO 28 [aP b,iv (i:Int)] s (qz b a a') (da a' t 3 0):=λs hr=>by
     have:=fU s b a c p a' c' q hs hq (i:Int) hr;rw[ht] at this;exact this
    have qM:=lC ht;rw[ht,if_neg (show ¬(some t).isNone=true from jL)] at h3;(repeat' (first|refine' aX|refine' Sa|refine' zc66|refine' ar|fail))
    all_goals try refine cI
    all_goals exact⟨_,af,i+1,bd,aq,rfl,af,h3⟩
  .have fG:i=16:=by omega
   subst fG;(refine' cO)
   all_goals try refine cI
   all_goals exact⟨bd,aq,h3⟩
 .rintro l L ⟨hl,hL,h3⟩;refine aj ?_;refine W.le ?_ hl hL;clear hl hL;rw[h3];(refine' cO)
  all_goals(refine' av)
  all_goals rfl
theorem Qt {f:FuncId}{fn:Func}{args:aQ}{s:St}{v:Value}(h1:aU.fn.get f=some fn)(h2:∀k,xT aW f args s k=some (v,s)):bO f args s [] v:=λh3 h4 h5=>rW.hook h1 (s':=s) (v:=v) h2 ⟨[],⟨λ_ _ _=>rfl,cy _,λx hx=>(by cases hx),λx hx=>(by cases hx),B4,λb hb=>.inl hb,λb hb=>.inl hb,λb hb=>.inl hb,λb hb=>.inl hb⟩,rfl,rfl⟩
theorem OA (s:St)(z:ay)(hz:z∈Ev.fp):bO 67 [sv z] s [] (.bool (bf z)):=Qt (fn:=f67) cU λk=>by
 show eb (decide (z∈Ev.fp)) (aG (.bool (bf z)) s)=_;rw[dO hz];rfl
theorem CY (s:St)(z:ay)(hz:z∈Ev.fp):bO 71 [sv z] s [] (sv (Ev.c8 z)):=Qt (fn:=f71) cU λk=>by
 show eb (decide (z∈Ev.fp)) (aG (sv (Ev.c8 z)) s)=_;rw[dO hz];rfl
theorem E5 (s:St)(z t:ay)(hz:z∈Ev.fp/\t∈Ev.fp/\bf z=true/\bf t=true):bO 72 [sv z,sv t] s [] (.bool (under z t)):=Qt (fn:=f72) cU λk=>by
 show eb (decide (z∈Ev.fp/\t∈Ev.fp/\bf z=true/\bf t=true)) (aG (.bool (under z t)) s)=_;rw[dO hz];rfl
theorem W9 (s:St)(o:Op)(hp:o.ag∈Ev.fp)(ht:o.to∈Ev.fp):bO 33 [ov o] s [] (.bool (iJ o)):=by
 obtain⟨kd,pa,to,at_,tx⟩:=o;dsimp only at hp ht;have e0:bf []=false:=rfl;refine aO f33 ?_;(repeat' (first|refine' aX|refine' Sb|((with_reducible apply WO.bG);exact aD;(first|exact λs=>OA s _ (by assumption));intro _ _ _ _)|refine' ar|fail))
 all_goals try refine cI
 all_goals(refine' av)
 all_goals(simp only[gF];refine gb Value.bool ?_;unfold iJ;unfold fR at *)
 all_goals first
  |(simp_all;done)
  |(simp_all;omega)
  |(simp_all;split<;>first|rfl|omega|(simp_all;done)|(simp_all;omega);done)
  |(by_cases e1:to=[]<;>by_cases e2:kd=7<;>first|(simp_all;done)|(simp_all;omega))
  |(by_cases e1:to=[]<;>by_cases e2:kd=7<;>by_cases e3:24<tx.length<;>first|(simp_all;done)|(simp_all;omega)|(rw[show decide ((tx.length:Int)<=24)=false by rw[lD];omega];simp_all;done)|(rw[show decide ((tx.length:Int)<=24)=true by rw[cl];omega];simp_all;done)|(rw[show decide ((tx.length:Int)<=24)=true by rw[cl];omega];simp_all;omega))
end Go.Pl
namespace Go.Lg
open Go Go.Ev
section
variable {E:dy}{X:dM}{Γ:gY}{l:Kn}{L L' R:bn}{K:KO}{x y o:Operand}{t t2:TypeId}{s:St}
theorem WO.Z8 {mn:String}{it:TypeId}{a:Addr}{g:FuncId}{c:Array Value}(hx:Ev l x (.func (.method mn) ⟨[.iface it (.pointer (some a))]⟩ c))(hm:lQ it mn E.rF=some g)(k:∀n,K (.func (.method mn) ⟨[.iface it (.pointer (some a))]⟩ c) L n n Z Z):WO E X Γ l (.nilCheck x) L K:=WO.val (λtm s call hl=>by
 show FL E (aI tm x) s=_;rw[hx.eval hl];show ob (lQ it mn E.rF) _=_;rw[hm];rfl) k
end
end Go.Lg
namespace Go.Pl
open Go Go.Ev Go.Lg Go.Proofs
abbrev SR (b:Nat):Value:=.iface 84 (aP b)
theorem GA:lQ 84 "loop.example/poolfiles/impl.lead" aU.rF=some 20:=by kernel_rfl
theorem KN:lQ 84 "loop.example/poolfiles/impl.folder" aU.rF=some 280:=by kernel_rfl
theorem IB:lQ 84 "loop.example/poolfiles/impl.entries" aU.rF=some 279:=by kernel_rfl
theorem NS:lQ 84 "loop.example/poolfiles/impl.links" aU.rF=some 77:=by kernel_rfl
theorem Sd:lQ 84 "loop.example/poolfiles/impl.room" aU.rF=some 73:=by kernel_rfl
structure vK (s:St)(b:Nat)(a:aH)(c:Nat)(p:dx)(a':aH)(c':Nat)(q:eV)(b2 b5:Nat)(k:Int):Prop where
 p:iB s b a c p a' c' q
 i:bM s (jF b2) 1 1 [SR b]
 n:bM s (jF b5) 1 1 [iv k]
structure NT (Γ:gY)(L:bn)(b:Nat)(a:aH)(c:Nat)(p:dx)(a':aH)(c':Nat)(q:eV)(b2 b5:Nat)(k:Int):Prop where
 p:uA Γ L b a c p a' c' q
 i:jR Γ L (jF b2) 1 1 [SR b]
 n:jR Γ L (jF b5) 1 1 [iv k]
abbrev Ju (b:Nat)(a a':aH)(b2 b5:Nat):List Nat:=qz b a a'++[b2,b5]
section
variable {E:dy}{X:dM}{Γ:gY}{l:Kn}{L R:bn}{K:KO}{g:FuncId}{xs:List Operand}{ts:Array TypeId}{vs:aQ}{b b2 b5:Nat}{k:Int}{a a':aH}{c c':Nat}{p:dx}{q:eV}{r:Value}{s:St}
theorem NT.row (h:NT Γ L b a c p a' c' q b2 b5 k)(hi:Inv Γ s L):vK s b a c p a' c' q b2 b5 k/\∀i∈Ju b a a' b2 b5,EF Γ s i:=by
 refine⟨⟨(h.p.row hi).1,(h.i.row hi).1,(h.n.row hi).1⟩,λi hb=>?_⟩;rcases fJ.1 hb with hb|hb
 .exact(h.p.row hi).2 i hb
 .rcases bV.1 hb with rfl|hb
  .exact(h.i.row hi).2 _ (by simp[ai])
  .rw[iN] at hb;subst hb;exact(h.n.row hi).2 _ (by simp[ai])
theorem WO.VU (hx:ky l xs vs)(h:∀s,vK s b a c p a' c' q b2 b5 k->pW E X g vs s (Ju b a a' b2 b5) r)(hh:NT Γ L b a c p a' c' q b2 b5 k)(kk:∀m m',kb L m->m<=m'->K r L m m' (λi=>i∈Ju b a a' b2 b5\/i∈([]:bn).flatMap It.aS\/(m<=i/\i<m')) (λi=>i∈([]:bn).flatMap It.aS\/(m<=i/\i<m'))):WO E X Γ l (.call ⟨.value (.func g),⟨xs⟩,ts⟩) L K:=
 WO.tH hx (λs hi=>⟨(hh.row hi).2,h s (hh.row hi).1⟩) kk
theorem DP.x (h:vK s b a c p a' c' q b2 b5 k):Rd ⟨s,([]:bn).flatMap It.aS,Ju b a a' b2 b5⟩ (jF b) 1 2 (fT a c p a' c' q):=Rd.of h.p.b λi hb=>by rw[show i=b by simpa[ai] using hb];exact jr
theorem DP.n (h:vK s b a c p a' c' q b2 b5 k):Rd ⟨s,([]:bn).flatMap It.aS,Ju b a a' b2 b5⟩ a p.length 2 (ah p):=Rd.of h.p.n λ_ hb=>di _ (lE _ (di _ hb))
theorem DP.t (h:vK s b a c p a' c' q b2 b5 k):Rd ⟨s,([]:bn).flatMap It.aS,Ju b a a' b2 b5⟩ a' q.length 3 (ah q):=Rd.of h.p.t λ_ hb=>di _ (lE _ (dH _ hb))
theorem DP.i (h:vK s b a c p a' c' q b2 b5 k):Rd ⟨s,([]:bn).flatMap It.aS,Ju b a a' b2 b5⟩ (jF b2) 1 1 [SR b]:=Rd.of h.i λi hb=>by rw[show i=b2 by simpa[ai] using hb];exact dH _ (by simp)
theorem DP.kk (h:vK s b a c p a' c' q b2 b5 k):Rd ⟨s,([]:bn).flatMap It.aS,Ju b a a' b2 b5⟩ (jF b5) 1 1 [iv k]:=Rd.of h.n λi hb=>by rw[show i=b5 by simpa[ai] using hb];exact dH _ (by simp)
end
structure IU (p:dx)(q:eV):Prop where
 sn:kq p
 st:eB q
 pl:p.length<=1000
 ql:q.length<=1000
 ps:∀x∈p,x.ag.length<=5000
 th:∀z,0<=eC p z->(nS q (eC p z)).isSome=true
 id:∀x∈p,-1000<=x.id/\x.id<=1000
theorem Xa (q:eV):∀n k,IT q n k=zp q n k
 |0,_=>rfl
 |n+1,k=>by unfold IT zp;rw[Xa q n]
section
variable {b:Nat}{a:aH}{c:Nat}{p:dx}{a':aH}{c':Nat}{q:eV}(hV:IU p q)
include hV
theorem LJ:∀s z,iB s b a c p a' c' q->bO 20 [aP b,sv z] s (qz b a a') (iv (eC p z)):=λs z hr=>Qr s b a c p a' c' q hV.sn hV.pl z hr
theorem Xb:∀s k,(nS q k).isSome=true->iB s b a c p a' c' q->bO 280 [aP b,iv k] s (qz b a a') (.bool (jD q k)):=λs k hk hr=>by
 obtain⟨t,ht⟩:=kB.1 hk;have:=SP s b a c p a' c' q hV.st hV.ql k t ht hr;unfold jD;rw[ht];exact this
theorem Xc:∀s k,iB s b a c p a' c' q->bO 279 [aP b,iv k] s (qz b a a') (iv (Oq p k:Int)):=λs k hr=>Oz s b a c p a' c' q hV.sn hV.pl hV.ps k hr
theorem li_ok:∀s k,iB s b a c p a' c' q->bO 77 [aP b,iv k] s (qz b a a') (iv (zo p k:Int)):=λs k hr=>LI s b a c p a' c' q hV.pl k hr
theorem rm_ok:∀s,iB s b a c p a' c' q->bO 73 [aP b] s (qz b a a') (iv (zp q 16 0)):=λs hr=>by
 have:=room_ok s b a c p a' c' q hV.st hV.ql hr
 rwa [Xa] at this
end
theorem ag1_ok (s:St)(b:Nat)(a:aH)(c:Nat)(p:dx)(a':aH)(c':Nat)(q:eV)(b2 b5:Nat)(k n:Int)(hV:IU p q)(hr:vK s b a c p a' c' q b2 b5 k):bO 69 [iv n,aP b2] s (Ju b a a' b2 b5) (.bool (decide (zp q 16 0<0))):=by
 have hdx:=DP.x hr;have oK:=DP.n hr;have qJ:=DP.t hr;have hdi:=DP.i hr;have hrm:=rm_ok (b:=b) (a:=a) (c:=c) (a':=a') (c':=c') hV;refine aO f69 ?_;(repeat' (first|refine' aX|refine' Z7|refine' yp|refine' zc71|refine' ar|fail))
 all_goals(refine' av)
 all_goals rfl
theorem ag2_ok (s:St)(b:Nat)(a:aH)(c:Nat)(p:dx)(a':aH)(c':Nat)(q:eV)(b2 b5:Nat)(k n:Int)(hV:IU p q)(hr:vK s b a c p a' c' q b2 b5 k):bO 70 [iv n,aP b2,aP b5] s (Ju b a a' b2 b5) (.bool (decide (9<=zo p k))):=by
 have hdx:=DP.x hr;have oK:=DP.n hr;have qJ:=DP.t hr;have hdi:=DP.i hr;have hdk:=DP.kk hr;have hli:=li_ok (b:=b) (a:=a) (c:=c) (a':=a') (c':=c') hV;refine aO f70 ?_;(repeat' (first|refine' aX|refine' Z7|refine' yp|((with_reducible apply WO.rm);exact aD;(intro s hr;exact hli s _ hr);(exact uA.mk cu cu cu);intro _ _ _ _)|refine' ar|fail))
 all_goals(refine' av)
 all_goals(refine gb Value.bool ?_;rw[FF];omega)
theorem LK (s:St)(b:Nat)(a:aH)(c:Nat)(p:dx)(a':aH)(c':Nat)(q:eV)(b2 b5:Nat)(k:Int)(hV:IU p q)(z:ay)(hz:z∈Ev.fp)(hr:vK s b a c p a' c' q b2 b5 k):bO 68 [SR b,sv z,.func (.func 69) ⟨[]⟩ ⟨[aP b2]⟩] s (Ju b a a' b2 b5) (iv (uO p q z (decide (zp q 16 0<0)))):=by
 have hdx:=DP.x hr;have oK:=DP.n hr;have qJ:=DP.t hr;have hdi:=DP.i hr;have hdk:=DP.kk hr;have P2:=LJ (b:=b) (a:=a) (c:=c) (a':=a') (c':=c') hV;have uB:=Xb (b:=b) (a:=a) (c:=c) (a':=a') (c':=c') hV;have U9:=Xc (b:=b) (a:=a) (c:=c) (a':=a') (c':=c') hV;have tU:∀s n,vK s b a c p a' c' q b2 b5 k->bO 69 [iv n,aP b2] s (Ju b a a' b2 b5) (.bool (decide (zp q 16 0<0))):=λs n hr=>ag1_ok s b a c p a' c' q b2 b5 k n hV hr
 generalize decide (zp q 16 0<0)=cK at *
 by_cases h1:z=[47]
 .have e:uO p q z cK=3:=by unfold uO;rw[if_pos h1]
  rw[e];refine aO f68 ?_;(refine' aak)
  all_goals try refine cI
  all_goals(refine' av)
  all_goals rfl
 by_cases h2:eC p (Ev.c8 z)<0
 .have e:uO p q z cK=2:=by unfold uO;rw[if_neg h1,if_pos h2]
  rw[e];refine aO f68 ?_;(refine' aak)
  all_goals try refine cI
  all_goals(refine' av)
  all_goals rfl
 by_cases h3:jD q (eC p (Ev.c8 z))=false
 .have e:uO p q z cK=4:=by unfold uO;rw[if_neg h1,if_neg h2,if_pos h3]
  rw[e];refine aO f68 ?_;(refine' aal)
  all_goals try refine ry
  all_goals(refine' av)
  all_goals rfl
 have h3t:jD q (eC p (Ev.c8 z))=true:=by simpa using h3
 by_cases h4:0<=eC p z
 .have e:uO p q z cK=3:=by unfold uO;rw[if_neg h1,if_neg h2,if_neg h3,if_pos h4]
  rw[e];refine aO f68 ?_;(refine' aal)
  all_goals try refine ry
  all_goals(refine' av)
  all_goals rfl
 .have e:uO p q z cK=if cK=true\/12<=Oq p (eC p (Ev.c8 z)) then 6 else 0:=by unfold uO;rw[if_neg h1,if_neg h2,if_neg h3,if_neg h4]
  rw[e];refine aO f68 ?_;(refine' zb71)
  all_goals refine' zaE
end Go.Pl
