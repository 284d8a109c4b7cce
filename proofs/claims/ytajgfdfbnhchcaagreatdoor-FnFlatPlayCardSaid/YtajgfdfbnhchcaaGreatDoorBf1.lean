/- Lemmas of the proof. No conditions. -/
import Derived.Shelf.Small.Strs
import Derived.Shelf.Strings.Repeat
import Derived.Shelf.Strings.OnBuilder
import Derived.Shelf.SlSortCmp.WholeK
import Derived.Ground.NamesProg
import Derived.Ground.SlsfProg
import Derived.Shelf.SlicesG.Cmp
import Derived.Ground.SlgcProg
import Derived.Test.YtajgfdfbnhchcaaGreatDoorProg
import Derived.Lib.MakeNoZero
import Derived.WalkKit
import Derived.Laws.StructEq
import Derived.Laws.Externs
import Derived.Shelf.GgSortFunc.InsertionK
import Derived.Test.YtajgfdfbnhchcaaGreatDoorBe10
set_option maxRecDepth 100000
set_option maxHeartbeats 4000000
set_option linter.unusedVariables false
set_option linter.unusedSimpArgs false
open Go.Proofs.Tryz
namespace Go
variable{P:Prop}
theorem zak (h:P:=by
 all_goals exact⟨bG,_,_,bu,ar,rfl,_,_,_,_,_,_,_,_,zk,zl,zm,zn,rfl⟩
 all_goals(rcases _ with h;exact h)):P:=h
theorem zat (h:P:=by
 all_goals exact⟨by(first|exact .inl rfl|exact .inr rfl),_,[.aQ (eT) 9 1 (ai ([]:List az))],bu,ar,none,0,rfl,rfl⟩
 all_goals(rcases _ with h;exact h)):P:=h
theorem zau (h:P:=by
 refine aT f72 ?_;(repeat' (first|refine' aW|((with_reducible apply WO.iN);exact aC;(intro s hr;exact P3 s hr);exact cb;intros)|((with_reducible apply WO.J0);exact aC;(intro s hr hv;exact yy s hr hv);(exact hd);(exact hv);intros)|refine' av|fail));all_goals try refine cj
 all_goals refine' ax
 all_goals rfl
 all_goals(rcases _ with h;exact h)):P:=h
theorem zaw (h:P:=by
 obtain⟨ks,hm,hk⟩:=uZ t xs _ h;have h1:(t=61/\ks=[0,2,1])\/(t=83/\ks=[0,0,0,0,0])\/(t=39/\ks=[1,0]):=by
  have h0:(t=39/\ks=[1,0])\/(t=61/\ks=[0,2,1])\/(t=83/\ks=[0,0,0,0,0]):=by simpa[bh] using hm
  rcases h0 with h0|h0|h0
  .exact .inr (.inr h0)
  .exact .inl h0
  .exact .inr (.inl h0)
 rcases h1 with h0|h0|h0
 all_goals(rcases _ with h;exact h)):P:=h
theorem zaB (h:P:=by
 show(Op.equalIn (9998+1) t _ _).run prog w=_;unfold Op.equalIn;simp only[Sem.run_bind,run_underlying h,Result.andThen_ok,if_true,Sem.run_pure]
 all_goals(rcases _ with h;exact h)):P:=h
theorem zaG (h:P:=by
 all_goals try refine rB
 refine W.bN (λm l L=>∃(i:Nat),Le [(0,.slice a p.length c),(1,.slice a2 p.length c2),(5,iv (i:Int))] l/\cC [] L/\m=p.length-i/\i<=p.length)
  (λl L=>Le [] l/\cC [] L) _ ⟨0,bj,ar,rfl,ag⟩ ?_ ?_
 all_goals(rcases _ with h;exact h)):P:=h
theorem zaJ (h:P:=by
 refine aT f12 ?_;(repeat' (first|refine' aW|((with_reducible apply WO.oM);exact aC;(first|exact Gp|exact hqn);intro _ _ abJ abK _ _)|refine' av|fail));all_goals try refine cj
 all_goals refine' ax
 all_goals rfl
 all_goals(rcases _ with h;exact h)):P:=h
theorem zaL (h:P:=by
 all_goals try refine rB
 all_goals refine' ax
 all_goals first|(rw[if_pos (.inl aL)];rfl)|(rw[if_pos (.inr ag)];rfl)|(rw[if_neg (by rintro(h|h)<;>first|contradiction|omega|(simp_all;done))];rfl)
 all_goals(rcases _ with h;exact h)):P:=h
theorem zaM (h:P:=by
 rw[hf] at Hy;refine aT f106 ?_;(repeat' (first|refine' aW|((with_reducible apply WO.iN);exact aC;(intro s hr;exact Hy s hr);exact cb;intros)|refine' av|fail));all_goals refine' ax
 all_goals(rcases _ with h;exact h)):P:=h
theorem zaO (h:P:=by
 have pk:=Rd.of (A:=kb a a'++aj ao) hr.n λ_ hb=>cT _ (cT _ hb)
 have ru:=Rd.of (A:=kb a a'++aj ao) hr.t λ_ hb=>cT _ (dE _ hb)
 have je:=Rd.of (A:=kb a a'++aj ao) hro λ_ hb=>dE _ hb
 all_goals(rcases _ with h;exact h)):P:=h
theorem zaP (h:P:=by
 rw[e];refine aT f48 ?_;refine' X0;all_goals try refine rB
 all_goals refine' ax
 all_goals rfl
 all_goals(rcases _ with h;exact h)):P:=h
theorem zaS (h:P:=by
 have R6:=h4 (.inr k7);have c2:¬de f.ad pa=0:=λe=>by rw[if_pos e] at h0;cases h0
 rw[if_neg c2] at h0;have c3:¬0<=de f.ad tq9:=λe=>by rw[if_pos e] at h0;cases h0
 all_goals(rcases _ with h;exact h)):P:=h
theorem zaT (h:P:=by
 obtain⟨p,hp,h1,h2,h3⟩:=yu t m _ h;simp only[bh,bT,jg,jD] at hp;rcases hp with rfl|rfl|rfl|rfl|rfl|rfl<;>dsimp only at h1 h2 h3<;>subst h1 h2 h3<;>kernel_rfl
 all_goals(rcases _ with h;exact h)):P:=h
theorem zaZ (h:P:=by
 (repeat' (first|refine' aW|refine' uA|((with_reducible apply WO.aV);exact aC;(exact hnn);intros)|refine' av|fail));all_goals try refine cj
 all_goals(rcases _ with h;exact h)):P:=h
theorem za2 (h:P:=by
 intro l h;obtain⟨l2,h1,rfl⟩:=Option.map_eq_some_iff.1 h;rw[ih l2 h1];rfl
 all_goals(rcases _ with h;exact h)):P:=h
theorem za6 (h:P:=by
 refine aT f70 ?_;repeat' (first|refine' aW|refine' TH|refine' av|fail)
 all_goals try refine cj
 all_goals refine' ax
 all_goals rfl
 all_goals(rcases _ with h;exact h)):P:=h
theorem za8 (h:P:=by
 have fY:∀j,1<=j->j<f.ad.length->(f.ad.getD j cy).af≠[47]:=λj h1 hj e=>by
  have:=h.Ba hj;rw[e,h.cI] at this;cases this;omega
 all_goals(rcases _ with h;exact h)):P:=h
theorem zbh (h:P:=by
 have pk:=Rd.of (A:=aj a++aj (jz b3)) hr λ_ hb=>cT _ hb
 have Oz:=Rd.of (A:=aj a++aj (jz b3)) hb λ_ hb=>dE _ hb
 all_goals(rcases _ with h;exact h)):P:=h
theorem zbj (h:P:=by
 all_goals exact⟨_,ag,i+1,bj,ar,rfl,ag,λj hj=>by
  by_cases uH:j=i
  .rw[uH];exact hb
  .exact h2 j ag⟩
 all_goals(rcases _ with h;exact h)):P:=h
theorem zbk (h:P:=by
 have hd1:=Rd.of (A:=aj a++aj a2) h1 λ_ hb=>cT _ hb
 have Rf:=Rd.of (A:=aj a++aj a2) h2 λ_ hb=>dE _ hb
 all_goals(rcases _ with h;exact h)):P:=h
theorem zbp (h:P:=by
 rw[Bq,Br] at h;obtain⟨i,hi,rfl⟩:=iY hx;obtain⟨j,hj,rfl⟩:=iY hy;rcases CY i j with nD|nD|nD
 all_goals(rcases _ with h;exact h)):P:=h
theorem zbq (h:P:=by
 all_goals try refine cj
 all_goals exact⟨bG,_,_,bu,ar,rfl,_,_,_,_,_,_,_,_,cG _,gY,cG _,gY,rfl⟩
 all_goals(rcases _ with h;exact h)):P:=h
theorem zbr (h:P:=by
 rw[e];refine aT f48 ?_;refine' X1;all_goals try refine rB
 all_goals refine' ax
 all_goals rfl
 all_goals(rcases _ with h;exact h)):P:=h
end Go
namespace Go.Pl
open Go.Lg
variable {f:Flat}{z:az}
theorem yo (hk:rZ f.ad (aR z).1=none):f.bI z=if z=[47] then 3 else 2:=by unfold Flat.bI;rw[show f.dy (aR z).1=none from hk]
theorem ue {k:Nat}(hk:rZ f.ad (aR z).1=some k):f.bI z=if z=[47] then 3 else if tV f.ad f.ae k=false then 4 else if(rZ f.ad z).isSome=true then 3 else 0:=by unfold Flat.bI;rw[show f.dy (aR z).1=some k from hk];show(if z=[47] then 3 else if(!f.iu (f.ad.getD k cy).id)=true then 4 else if(f.dy z).isSome=true then 3 else 0)=_;rw[show f.iu (f.ad.getD k cy).id=tV f.ad f.ae k from(JS f k).symm];cases tV f.ad f.ae k<;>rfl
theorem oD (h:¬0<f.bI z):rZ f.ad z=none/\z≠[47]/\∃k,rZ f.ad (aR z).1=some k/\tV f.ad f.ae k=true:=by
 cases hk:rZ f.ad (aR z).1 with
 |none=>
  rw[yo hk] at h;split at h<;>exact absurd bJ h
 |some k=>
  rw[ue hk] at h;by_cases h1:z=[47]
  .rw[if_pos h1] at h;exact absurd bJ h
  .rw[if_neg h1] at h;cases h2:tV f.ad f.ae k with
   |false=>rw[if_pos h2] at h;exact absurd bJ h
   |true=>
    rw[if_neg (by rw[h2];decide)] at h;cases h3:rZ f.ad z with
    |some m=>rw[h3,if_pos (show(some m).isSome=true from rfl)] at h;exact absurd bJ h
    |none=>exact⟨rfl,h1,k,rfl,h2⟩
theorem qS (hz:aP z=true)(h1:z≠[47]):Ev.dn z=(aR z).1:=if_pos ⟨hz,h1⟩
theorem Bb (h:iC f)(hz:aP z=true)(cJ:Bool):uI f.ad f.ae z cJ=if 0<f.bI z then f.bI z else if cJ=true\/12<=f.nE (aR z).1 then 6 else 0:=by
 unfold uI;by_cases h1:z=[47]
 .subst h1;have:f.bI [47]=3:=by rw[ue (k:=0) h.cI,if_pos rfl]
  rw[if_pos rfl,this];rfl
 rw[if_neg h1,qS hz h1];cases hk:rZ f.ad (aR z).1 with
 |none=>
  rw[if_pos ((h.vF _).2 hk),yo hk,if_neg h1];rfl
 |some k=>
  have Aj:=h.yn hk;rw[if_neg (λe=>by rw[(h.vF _).1 e] at hk;cases hk),h.lu hk,h.fld,ue hk,if_neg h1];cases h2:tV f.ad f.ae k with
  |false=>rw[if_pos rfl,if_pos rfl];rfl
  |true=>
   rw[if_neg (show ¬(true=false) by decide),if_neg (show ¬(true=false) by decide)];cases h3:rZ f.ad z with
   |some m=>
    rw[if_pos ((h.ld0 z).2 (by rw[h3];rfl)),if_pos (show(some m).isSome=true from rfl)];rfl
   |none=>
    (have hn:¬0<=de f.ad z:=λe=>by have:=(h.ld0 z).1 e;rw[h3] at this;cases this);rw[if_neg hn,if_neg (show ¬(none:Option Nat).isSome=true from iZ),h.ZI Aj.1,Aj.2];rfl
theorem oE (h:rZ f.ad z=none):∀y∈f.ad,y.af≠z:=λy hy e=>by
 have:=Bl.1 h y hy;rw[mg] at this;exact this e
theorem Ae {n:Int}(h:ot f.ae n=none):∀y∈f.ae,y.id≠n:=λy hy e=>by
 have:=Bl.1 h y hy;rw[mg] at this;exact this e
theorem ab6 (h:iC f)(hz:aP z=true)(fo:Bool):f.make z fo=if uI f.ad f.ae z (decide (yz f.ae 16 0<0))=0 then(⟨Ev.gS (f.ad++[⟨z,yz f.ae 16 0⟩]),Ev.il (f.ae++[⟨yz f.ae 16 0,fo,[]⟩])⟩,0) else(f,uI f.ad f.ae z (decide (yz f.ae 16 0<0))):=by
 rw[Bb h hz];unfold Flat.make;by_cases h0:0<f.bI z
 .rw[if_pos h0,if_pos h0,if_neg ag]
 rw[if_neg h0,if_neg h0];obtain⟨h1,h2,k,h3,h4⟩:=oD h0;obtain⟨g1,g2,g3⟩:=vG f;have hr:=afY f;show(if 16<=f.cx\/12<=f.nE (aR z).1 then(f,(6:Int)) else(Flat.add ⟨f.ad,Flat.oX f.ae ⟨f.cx,fo,[]⟩⟩ z f.cx,0))=_;by_cases h5:f.cx<16
 .rw[if_pos h5] at hr;rw[hr,show decide ((f.cx:Int)<0)=false by rw[mg];omega];by_cases h6:12<=f.nE (aR z).1
  .have a1:(if false=true\/12<=f.nE (aR z).1 then(6:Int) else 0)=6:=if_pos (.inr h6);rw[if_pos (show 16<=f.cx\/12<=f.nE (aR z).1 from .inr h6),a1,if_neg bJ]
  .have a1:(if false=true\/12<=f.nE (aR z).1 then(6:Int) else 0)=0:=if_neg (by rintro(e|e)<;>first|cases e|exact h6 e);rw[if_neg (show ¬(16<=f.cx\/12<=f.nE (aR z).1) by omega),a1,if_pos rfl,x9 h.sn (oE h1),EO h.st (Ae (n:=(f.cx:Int)) g1)];rfl
 .rw[if_neg h5] at hr;have a1:(if decide ((-1:Int)<0)=true\/12<=f.nE (aR z).1 then(6:Int) else 0)=6:=if_pos (.inl bJ);rw[hr,if_pos (show 16<=f.cx\/12<=f.nE (aR z).1 from .inl ag),a1,if_neg bJ]
theorem ab7 (h:iC f){z y:az}(hy:aP y=true):f.link z y=if de f.ad z<0 then(f,2) else if iw f.ae (de f.ad z)=true then(f,4) else if uI f.ad f.ae y (decide (9<=sf f.ad (de f.ad z)))=0 then(⟨Ev.gS (f.ad++[⟨y,de f.ad z⟩]),Ev.il f.ae⟩,0) else(f,uI f.ad f.ae y (decide (9<=sf f.ad (de f.ad z)))):=by
 rw[Bb h hy];unfold Flat.link;cases hk:rZ f.ad z with
 |none=>
  rw[show f.dy z=none from hk,if_pos ((h.vF _).2 hk)]
 |some k=>
  rw[show f.dy z=some k from hk,if_neg (λe=>by rw[(h.vF _).1 e] at hk;cases hk),h.lu hk,h.fld];show(if f.iu (f.ad.getD k cy).id=true then(f,(4:Int)) else if 0<f.bI y then(f,f.bI y) else if 9<=f.many (f.ad.getD k cy).id\/12<=f.nE (aR y).1 then(f,6) else(f.add y (f.ad.getD k cy).id,0))=_;rw[h.amB];by_cases h1:tV f.ad f.ae k=true
  .rw[if_pos h1,if_pos h1]
  rw[if_neg h1,if_neg h1];by_cases h0:0<f.bI y
  .rw[if_pos h0,if_pos h0,if_neg ag]
  rw[if_neg h0,if_neg h0];obtain⟨g1,_⟩:=oD h0;show(if 9<=sf f.ad (f.ad.getD k cy).id\/12<=f.nE (aR y).1 then _ else _)=_;by_cases h6:9<=sf f.ad (f.ad.getD k cy).id\/12<=f.nE (aR y).1
  .have h6':decide (9<=sf f.ad (f.ad.getD k cy).id)=true\/12<=f.nE (aR y).1:=by rw[bQ];exact h6
   have a1:(if decide (9<=sf f.ad (f.ad.getD k cy).id)=true\/12<=f.nE (aR y).1 then(6:Int) else 0)=6:=if_pos h6';rw[if_pos h6,a1,if_neg bJ]
  .have h6':¬(decide (9<=sf f.ad (f.ad.getD k cy).id)=true\/12<=f.nE (aR y).1):=by rw[bQ];exact h6
   have a1:(if decide (9<=sf f.ad (f.ad.getD k cy).id)=true\/12<=f.nE (aR y).1 then(6:Int) else 0)=0:=if_neg h6';rw[if_neg h6,a1,if_pos rfl,x9 h.sn (oE g1),qP h.st];rfl
theorem IH {l m:List a7}(h:kM l)(hs:m.Sublist l):kM m:=List.Pairwise.sublist hs h
theorem II {l m:fg}(h:gU l)(hs:m.Sublist l):gU m:=List.Pairwise.sublist hs h
theorem ab8 {q:fg}(hs:gU q){n:Int}{x:Nat}(hx:ot q n=some x):q.filter (λy=>!decide (y.id=n))=q.take x++q.drop (x+1):=by
 obtain⟨h1,h2⟩:=x8 hx;have ni:q=q.take x++q.getD x eS::q.drop (x+1):=by
  rw[aZ,bd h1];show q=q.take x++q[x]::q.drop (x+1);rw[<-ui h1,yD]
 have fY:∀j,j<q.length->j≠x->(q.getD j eS).id≠n:=λj hj hjx e=>by
  have:=EL hs hj;rw[e,hx] at this;cases this;exact hjx rfl
 have e1:(q.take x).filter (λy=>!decide (y.id=n))=q.take x:=C3.2 λy hy=>by
  obtain⟨j,hj,rfl⟩:=iY hy;rw[cW] at hj;have:=fY j ag ag;rw[aZ,bd ag] at this;rw[List.getElem_take];simpa using this
 have e2:(q.drop (x+1)).filter (λy=>!decide (y.id=n))=q.drop (x+1):=C3.2 λy hy=>by
  obtain⟨j,hj,rfl⟩:=iY hy;rw[eW] at hj;have:=fY (x+1+j) ag ag;rw[aZ,bd ag] at this;rw[List.getElem_drop];simpa using this
 have e3:q.filter (λy=>!decide (y.id=n))=(q.take x++q.getD x eS::q.drop (x+1)).filter (λy=>!decide (y.id=n)):=ep _ ni;rw[e3,qk,sj,e1,e2,if_neg (by rw[h2];simp)]
theorem ZK (h:iC f):f.eb z=if de f.ad z<0 then(f,2) else if de f.ad z=0\/(iw f.ae (de f.ad z)=true/\0<Ox f.ad (de f.ad z)) then(f,5) else(⟨Ev.gS (xg f.ad f.ae z (de f.ad z)).1,Ev.il (xg f.ad f.ae z (de f.ad z)).2⟩,0):=by
 unfold Flat.eb;cases hk:rZ f.ad z with
 |none=>
  rw[show f.dy z=none from hk,if_pos ((h.vF _).2 hk)]
 |some k=>
  obtain⟨Aj,wN⟩:=h.yn hk;rw[show f.dy z=some k from hk,if_neg (λe=>by rw[(h.vF _).1 e] at hk;cases hk)];have D0:=h.lu hk;obtain⟨x,hx⟩:=jh.1 (h.nm k Aj).1;show(if z=[47]\/0<f.nE z then(f,(5:Int)) else if(f.less z).many (f.ad.getD k cy).id=0 then(match(f.less z).cO (f.ad.getD k cy).id with
   |none=>(f.less z,0)
   |some x=>(⟨(f.less z).ad,(f.less z).ae.take x++(f.less z).ae.drop (x+1)⟩,0)) else(f.less z,0))=_
  have hf0:=h.adG Aj;rw[wN] at hf0;have Um:(f.ad.filter λx=>decide (x.af≠z))=f.ad.filter λx=>!decide (x.af=z):=by
   congr 1;funext y;simp
  have tz:=IH h.sn (Bm (p:=λx=>!decide (x.af=z)));have hC:(de f.ad z=0\/(iw f.ae (de f.ad z)=true/\0<Ox f.ad (de f.ad z)))↔(z=[47]\/0<f.nE z):=by
   rw[h.wz hk,D0,h.fld,h.ZI Aj,wN];constructor
   .rintro(h1|h1)
    .exact .inl h1
    .exact .inr h1.2
   .rintro(h1|h1)
    .exact .inl h1
    .refine .inr ⟨?_,h1⟩;cases hb:tV f.ad f.ae k with
     |true=>rfl
     |false=>rw[hf0 hb] at h1;omega
  by_cases h1:z=[47]\/0<f.nE z
  .rw[if_pos h1,if_pos (hC.2 h1)]
  .rw[if_neg h1,if_neg (λe=>h1 (hC.1 e)),D0];unfold xg;dsimp only;rw[zJ tz];show(if sf (f.ad.filter λx=>decide (x.af≠z)) (f.ad.getD k cy).id=0 then(match ot f.ae (f.ad.getD k cy).id with
    |none=>_
    |some x=>_) else _)=_
   rw[hx,Um];unfold Flat.less;rw[Um];by_cases h2:sf (f.ad.filter λx=>!decide (x.af=z)) (f.ad.getD k cy).id=0
   .rw[if_pos h2,if_pos h2,qP (II h.st Bm),ab8 h.st hx]
   .rw[if_neg h2,if_neg h2,qP h.st]
end Go.Pl
namespace Go.Pl
open Go Go.Ev Go.Lg Go.Proofs
variable {f:FuncId}{args:a6}{s:St}
section
variable {i:Nat}
theorem Yx {fn:Func}{v:Value}(h1:bh.fn.get f=some fn)(h2:∀k,uT bw f args s k=some (v,s)):bF f args s [] v:=λh3 h4 h5=>oY.aaF h1 (s':=s) (v:=v) h2 ⟨[],⟨λ_ _ _=>rfl,cG _,λx hx=>(by cases hx),λx hx=>(by cases hx),yG,λb hb=>.inl hb,λb hb=>.inl hb,λb hb=>.inl hb,λb hb=>.inl hb⟩,rfl,rfl⟩
theorem oY.ext {E:ig}{X:fR}{fn:Func}{s s':St}{v:Value}{K:Value->St->Prop}(hf:E.fn.get f=some fn)(hb:fn.body=none)(hx:xz X f=false)(he:K4 X f args s=some (v,s'))(hk:K v s'):oY E X f args s K:=by
 refine⟨v,s',⟨1,λn hn lf Ce=>?_⟩,hk⟩;obtain⟨n,rfl⟩:∃q,n=q+1:=⟨n-1,ag⟩;show(ob (E.fn.get f) λfn=>uT X f args s<| match fn.body with
   |none=>K4 X f args s
   |some c=>bo (Nat.beq f X.look) (De args s)<| dZ (Nat.ble (ec args) fn.ntmps)<| K5 E fn (lR E (pH E X lf [] n) lf c (kF args (nat_lit 0) .nil) s))=_
 refine' zaH;rw[DI hx,hb];exact he
theorem alZ {fn:Func}{v:Value}(h1:bh.fn.get f=some fn)(hb:fn.body=none)(hx:xz bw f=false)(h2:K4 bw f args s=some (v,s)):bF f args s [] v:=λh3 h4 h5=>oY.ext h1 hb hx h2 ⟨[],⟨λ_ _ _=>rfl,cG _,λx hx=>(by cases hx),λx hx=>(by cases hx),yG,λb hb=>.inl hb,λb hb=>.inl hb,λb hb=>.inl hb,λb hb=>.inl hb⟩,rfl,rfl⟩
def P2 (z:az):Option Nat:=z.findIdx? λb=>decide (b=47)
theorem Yy:∀(z:az)(i:Nat),FW 47 z i=match P2 z with
  |some j=>((i+j:Nat):Int)
  |none=>-1
 |[],i=>rfl
 |b::z,i=>by
  have h:FW 47 (b::z) i=bo (Nat.beq b.toNat 47) (.ofNat i) (FW 47 z (i+1)):=rfl;rw[h,dW,Yy z (i+1)];unfold P2;rw[GR];by_cases hb:b=47
  .subst hb;rfl
  .have h1:Nat.beq b.toNat 47=false:=by
    rw[<-jf,B7];exact λe=>hb (uJ.1 e)
   rw[if_neg (by rw[h1];exact iZ),if_neg (by simpa using hb)];cases z.findIdx? λb=>decide (b=47) with
   |none=>rfl
   |some j=>
    show(((i+1+j:Nat)):Int)=((i+(j+1):Nat):Int);omega
theorem abD (s:St)(z:az):bF 259 [sv z,.int .u8 47] s [] (iv (oI (P2 z))):=by
 refine alZ (fn:=f259) cV rfl cV ?_;show aN (Value.int .i64 (FW 47 z 0)) s=_;rw[Yy];cases P2 z with
 |none=>rfl
 |some j=>
  show aN (Value.int .i64 ((0+j:Nat):Int)) s=_;rw[mU];rfl
theorem JX (s:St)(z:az):bF 235 [sv z,.int .u8 47] s [] (iv (oI (P2 z))):=by
 refine aT f235 ?_;(repeat' (first|refine' aW|((with_reducible apply WO.aV);exact aC;exact λs=>abD s _;intros)|refine' av|fail));all_goals refine' ax
 all_goals rfl
theorem JY (s:St)(z:az):bF 189 [sv z,sv [47]] s [] (iv (oI (P2 z))):=by
 refine aT f189 ?_;(repeat' (first|refine' aW|((with_reducible apply WO.aV);exact aC;exact λs=>JX s _;intros)|refine' av|fail));all_goals try refine cj
 all_goals refine' ax
 all_goals first|rfl|(have e:[47]=z:=by assumption
                      subst e;rfl)
theorem Yz (s:St)(z:az):bF 145 [sv z,sv [47]] s [] (iv (oI (P2 z))):=by
 refine aT f145 ?_;(repeat' (first|refine' aW|((with_reducible apply WO.aV);exact aC;exact λs=>JY s _;intros)|refine' av|fail));all_goals refine' ax
 all_goals rfl
def mr (z:az):Nat:=(z.filter λb=>Nat.beq b.toNat 47).length
theorem abE (s:St)(z:az):bF 188 [sv z,.int .u8 47] s [] (iv (mr z:Int)):=Yx (fn:=f188) cV λk=>by
 show aN (Value.int .i64 (Int.ofNat (ec (z.filter λb=>Nat.beq b.toNat 47)))) s=_;rw[dm];rfl
theorem YA (s:St)(z:az):bF 144 [sv z,sv [47]] s [] (iv (mr z:Int)):=by
 refine aT f144 ?_;(repeat' (first|refine' aW|((with_reducible apply WO.aV);exact aC;exact λs=>abE s _;intros)|refine' av|fail));all_goals try refine cj
 all_goals refine' ax
 all_goals rfl
theorem gJ (x:UInt8)(s:az):cut 47 (x::s)=if x=47 then []::cut 47 s else match cut 47 s with
  |[]=>[[x]]
  |w::r=>(x::w)::r:=rfl
theorem zM:∀s:az,cut 47 s≠[]
 |[]=>by simp[cut]
 |x::s=>by
  rw[gJ];split
  .simp
  .split<;>simp
theorem zN:∀z:az,(cut 47 z).length=mr z+1
 |[]=>rfl
 |x::z=>by
  have ih:=zN z;have hc:mr (x::z)=if x=47 then mr z+1 else mr z:=by
   unfold mr;rw[sj];by_cases hx:x=47
   .subst hx;rfl
   .have h1:Nat.beq x.toNat 47=false:=by
     rw[<-jf,B7];exact λe=>hx (uJ.1 e)
    rw[h1,if_neg iZ,if_neg hx]
  rw[hc,gJ];by_cases hx:x=47
  .rw[if_pos hx,if_pos hx,cY,ih]
  .rw[if_neg hx,if_neg hx];cases h:cut 47 z with
   |nil=>exact absurd h (zM z)
   |cons w r=>rw[h] at ih;exact ih
theorem MU (x:UInt8)(z:az):P2 (x::z)=if x=47 then some 0 else(P2 z).map (·+1):=by
 unfold P2;rw[GR];by_cases hx:x=47
 .rw[if_pos (by simpa using hx),if_pos hx]
 .rw[if_neg (by simpa using hx),if_neg hx]
theorem A3:∀z:az,P2 z=none->cut 47 z=[z]
 |[],_=>rfl
 |x::z,h=>by
  rw[MU] at h;by_cases hx:x=47
  .rw[if_pos hx] at h;cases h
  .rw[if_neg hx] at h;have h1:P2 z=none:=by simpa using h
   rw[gJ,if_neg hx,A3 z h1]
theorem A4:∀(z:az)(m:Nat),P2 z=some m->m<z.length/\cut 47 z=z.take m::cut 47 (z.drop (m+1))
 |[],m,h=>by cases h
 |x::z,m,h=>by
  rw[MU] at h;by_cases hx:x=47
  .rw[if_pos hx] at h;cases h
   exact⟨ay,by rw[gJ,if_pos hx];rfl⟩
  .rw[if_neg hx] at h;obtain⟨k,h1,rfl⟩:=Option.map_eq_some_iff.1 h;obtain⟨h2,h3⟩:=A4 z k h1;refine⟨by simpa using h2,?_⟩;rw[gJ,if_neg hx,h3];rfl
def ER (all:List az)(i:Nat):List az:=all.take i++List.replicate (all.length-i) []
theorem ES (all:List az)(hi:i<=all.length):(ER all i).length=all.length:=by unfold ER;rw[bL,cW,qX];omega
theorem MV (all:List az)(hi:i<all.length){w:az}{r:List az}(hw:all.drop i=w::r):(ER all i).set i w=ER all (i+1)/\all.drop (i+1)=r:=by
 have h1:all[i]=w:=by
  have:=ui hi;rw[hw] at this;exact(List.cons.inj this).1.symm
 have h2:all.drop (i+1)=r:=by
  have:=ui hi;rw[hw] at this;exact(List.cons.inj this).2.symm
 refine⟨?_,h2⟩;unfold ER;rw[show all.length-i=(all.length-(i+1))+1 by omega,List.replicate_succ,List.set_append_right _ _ (by rw[cW];omega),cW,As ag,B9,List.set_cons_zero,<-h1,uO,bd hi,Option.toList_some,ku];rfl
theorem MW (s:St)(z:az)(hz:z.length<=100000):eU bh bw 105 [sv z,sv [47],iv 0,iv (-1)] s [] 9 (cut 47 z):=by
 have hN:=zN z;have hle:mr z<=z.length:=yI _ _;refine aT f105 ?_;(repeat' (first|refine' aW|((with_reducible apply WO.aV);exact aC;exact λs=>YA s _;intros)|refine' av|fail));all_goals try refine cj
 rw[show min ((mr z:Int)+1) ((z.length:Int)+1)-1=(mr z:Int) by omega];rw[show(min ((mr z:Int)+1) ((z.length:Int)+1)).toNat=mr z+1 by omega];have hr0:List.replicate (mr z+1) ([]:az)=ER (cut 47 z) 0:=by unfold ER;rw[hN];rfl
 rw[hr0];rw[show(ER (cut 47 z) 0).length=mr z+1 by rw[ES _ (iG _),hN]];refine W.bN (λm l L=>∃(i:Nat)(y:az)(c:Nat)(w:List az),Le [(0,sv y),(1,sv [47]),(2,iv 0),(3,iv (mr z:Int)),(9,.slice (jz bm) (mr z+1) c),(10,iv (i:Int))] l/\cC [.aQ (.slice (jz bm) (mr z+1) c) 9 1 (ai w)] L/\m=mr z-i/\i<=mr z/\w=ER (cut 47 z) i/\(cut 47 z).drop i=cut 47 y/\y.length<=100000)
                                                                                           (λl L=>∃(y:az)(c:Nat)(w:List az),Le [(0,sv y),(9,.slice (jz bm) (mr z+1) c),(10,iv (mr z:Int))] l/\cC [.aQ (.slice (jz bm) (mr z+1) c) 9 1 (ai w)] L/\w=ER (cut 47 z) (mr z)/\(cut 47 z).drop (mr z)=cut 47 y) _ ⟨0,z,_,_,bj,ar,rfl,ag,rfl,rfl,hz⟩ ?_ ?_
 .rintro m l L ⟨i,y,c,w,hl,hL,rfl,h1,h2,h3,h4⟩;refine W.le ?_ hl hL;clear hl hL;have YB:w.length=mr z+1:=by rw[h2,ES _ ag,hN]
  by_cases hi:i<mr z
  ·
   cases hs:P2 y with
   |none=>
    exfalso;rw[A3 y hs] at h3;have:=ep List.length h3;rw[eW,hN] at this;simp at this;omega
   |some j=>
    obtain⟨g1,g2⟩:=A4 y j hs;rw[g2] at h3;obtain⟨g3,g4⟩:=MV (cut 47 z) ag h3;have Hy:∀s,bF 145 [sv y,sv [47]] s [] (iv (j:Int)):=λs=>by
     have:=Yz s y;rw[hs] at this;exact this
    have qu:(([47]:az).length:Int)=1:=rfl;(repeat' (first|refine' aW|((with_reducible apply WO.aV);exact aC;(exact Hy);intros)|refine' av|fail));(all_goals try refine cj);all_goals exact⟨_,ag,i+1,y.drop (j+1),c,w.set i (y.take j),bj,ar,rfl,ag,by rw[h2];exact g3,g4,by rw[eW];omega⟩
  .have fF:i=mr z:=by omega
   subst fF;refine' cR;(all_goals try refine cj);all_goals exact⟨y,c,w,bj,ar,h2,h3⟩
 .rintro l L ⟨y,c,w,hl,hL,h2,h3⟩;refine aq ?_;refine W.le ?_ hl hL;clear hl hL;have YB:w.length=mr z+1:=by rw[h2,ES _ ag,hN]
  have hd1:(cut 47 z).drop (mr z)=[y]:=by
   have h4:(cut 47 y).length=1:=by
    rw[<-h3,eW,hN];omega
   cases hs:P2 y with
   |none=>rw[h3,A3 y hs]
   |some j=>
    rw[(A4 y j hs).2,cY] at h4;have:=zN (y.drop (j+1));omega
  obtain⟨g3,g4⟩:=MV (cut 47 z) ag hd1;(repeat' (first|refine' aW|((with_reducible apply WO.X2);exact gT;exact gT;exact oh;exact mH;intro _)|refine' av|fail));all_goals try refine cj
  have hw:w.set (mr z) y=cut 47 z:=by
   rw[h2,g3];unfold ER;rw[<-hN,B9,List.replicate_zero,gg,gY]
  rw[hw,<-hN];refine' kL;all_goals rfl
theorem YC (s:St)(z:az)(hz:z.length<=100000):eU bh bw 71 [sv z,sv [47]] s [] 9 (cut 47 z):=by
 refine aT f71 ?_;(repeat' (first|refine' aW|((with_reducible apply WO.rU);exact aC;exact λs=>MW s _ aL;intro _ _ afh afi _ _)|refine' av|fail));all_goals refine' kL
 all_goals rfl
theorem ET (s:St)(z:az)(hz:z.length<=100000)(ha:∀c∈z,c.toNat<128):bF 107 [sv z] s [] (.bool (!aU z)):=by
 have nN:∀s,bF 32 [sv z] s [] (.bool (aU z)):=λs=>Eh s z hz ha
 refine aT f107 ?_;(repeat' (first|refine' aW|((with_reducible apply WO.aV);exact aC;exact λs=>nN s;intros)|refine' av|fail));all_goals refine' ax
 all_goals rfl
theorem abF (s:St)(a:aM)(c:Nat)(p:List az)(hp:p.length<=100000)(hn:∀e∈p,e.length<=100000/\∀c∈e,c.toNat<128)(hr:bH s a p.length 1 (ai p)):bF 146 [.slice a p.length c,.func (.func 107) ⟨[]⟩ ⟨[]⟩] s (aj a) (iv (oI (p.findIdx? λz=>!aU z))):=by
 have hd:=Rd.of hr (A:=aj a) λb hb=>hb
 refine aT f146 ?_;refine' cR;all_goals try refine cj
 refine W.bN (λm l L=>∃(i:Nat),Le [(0,.slice a p.length c),(1,.func (.func 107) ⟨[]⟩ ⟨[]⟩),(7,iv (p.length:Int)),(8,iv (i:Int))] l/\cC [] L/\m=p.length-i/\i<=p.length/\∀j:Nat,j<i->aU (p.getD j ak.ah)=true)
  (λl L=>Le [] l/\cC [] L/\∀j:Nat,j<p.length->aU (p.getD j ak.ah)=true) _ ⟨0,bj,ar,rfl,ag,λj h=>by omega⟩ ?_ ?_
 .rintro m l L ⟨i,hl,hL,rfl,h1,h2⟩;refine W.le ?_ hl hL;clear hl hL;by_cases hi:i<p.length
  .obtain⟨g1,g2⟩:=hn _ (aK hi ak.ah);cases hb:aU (p.getD i ak.ah) with
   |true=>
    have hnn:∀s,bF 107 [sv (p.getD i ak.ah)] s [] (.bool false):=λs=>by
     have:=ET s _ g1 g2
     rwa [hb] at this
    refine' zaZ;all_goals refine' zbj
   |false=>
    have hnn:∀s,bF 107 [sv (p.getD i ak.ah)] s [] (.bool true):=λs=>by
     have:=ET s _ g1 g2
     rwa [hb] at this
    refine' zaZ
    have e:(p.findIdx? λz=>!aU z)=some i:=lL (d:=ak.ah (α:=az)) hi (by rw[hb];rfl) λj hj he=>by
     rw[h2 j hj] at he;cases he
    (all_goals refine' ax);all_goals(rw[e];rfl)
  ·(refine' cR)
   (all_goals try refine cj);all_goals exact⟨bj,ar,λj hj=>h2 j ag⟩
 .rintro l L ⟨hl,hL,h2⟩;refine aq ?_;refine W.le ?_ hl hL;clear hl hL;have e:(p.findIdx? λz=>!aU z)=none:=wa ak.ah λj hj he=>by
   rw[h2 j hj] at he;cases he
  refine' cR;all_goals refine' ax
  all_goals(rw[e];rfl)
theorem JZ (s:St)(a:aM)(c:Nat)(p:List az)(hp:p.length<=100000)(hn:∀e∈p,e.length<=100000/\∀c∈e,c.toNat<128)(hr:bH s a p.length 1 (ai p)):bF 106 [.slice a p.length c,.func (.func 107) ⟨[]⟩ ⟨[]⟩] s (aj a) (.bool (!p.all aU)):=by
 have hd:=Rd.of hr (A:=aj a) λb hb=>hb
 have Hy:=λs=>abF s a c p hp hn
 have e:(p.findIdx? λz=>!aU z).isSome= !p.all aU:=by rw[List.findIdx?_isSome,List.not_all_eq_any_not]
 rw[<-e];clear e hn;cases hf:p.findIdx? λz=>!aU z with
 |none=>
  refine' zaM;all_goals rfl
 |some i=>
  refine' zaM;all_goals(unfold oI;simp;rfl)
end
variable {Γ:qV}{a:aM}
section
variable {n c e sz:Nat}
theorem MX:∀p:List az,O6 (ai p)=some p
 |[]=>rfl
 |x::p=>by
  show(O6 (ai p)).map (x::·)=_;rw[MX p];rfl
theorem A5:∀z:az,kZ [47] (cut 47 z)=z
 |[]=>rfl
 |x::z=>by
  have ih:=A5 z;rw[gJ];cases h:cut 47 z with
  |nil=>exact absurd h (zM z)
  |cons w r=>
   rw[h] at ih;by_cases hx:x=47
   .rw[if_pos hx,hx];show []++([47]++kZ [47] (w::r))=_;rw[ih];rfl
   .rw[if_neg hx];cases r with
    |nil=>show x::w=_;rw[show w=z from ih]
    |cons y r=>
     show(x::w)++_=_;rw[yv];exact ep (x::·) ih
theorem YD {s:St}{A:List Nat}:Inv ⟨s,([]:bZ).flatMap It.a8,A⟩ s []:=
 ⟨λ_ _ _=>rfl,cG _,λx hx=>(by cases hx),λx hx=>(by cases hx),yG,λb hb=>.inl hb,λb hb=>.inl hb,λb hb=>.inl hb,λb hb=>.inl hb⟩
theorem w9.fr {s:St}{L:bZ}(h:w9 Γ.s0 a n c e sz)(hi:Inv Γ s L)(hM:∀b∈aj a,b∉Γ.M):w9 s a n c e sz:=by
 rcases h with h|⟨b,o,cs,w,rfl,h1,h2,h3⟩
 .exact .inl h
 .exact .inr ⟨b,o,cs,w,rfl,xn h1 hi.le,(hi.fr b h1 (hM b (by simp[aj]))).trans h2,h3⟩
theorem WO.J0 {E:ig}{X:fR}{l:Kn}{L:bZ}{K:KO}{g:FuncId}{xs:List Operand}{ts:Array TypeId}{vs:a6}{cs:a6}{r:Value}(hx:kA l xs vs)(h:∀s,bH s a n sz cs->w9 s a n c e sz->nQ E X g vs s (aj a) r)(hd:Rd Γ a n sz cs)(hv:w9 Γ.s0 a n c e sz)(k:∀m m',jX L m->m<=m'->K r L m m' (FtR (aj a) [] m m') (FtW [] m m')):WC E X Γ l g xs ts L K:=
 WO.qE hx (λs hi=>by
   have h1:=(jB.rd (L:=L) hd).row hi;exact⟨h1.2,h s h1.1 (w9.fr hv hi hd.M)⟩) k
theorem abG (s:St)(a:aM)(c:Nat)(p:List az)(h1:1<=p.length)(h2:p.length<=1000)(hl:(kZ [47] p).length<=1000000)(hr:bH s a p.length 1 (ai p))(hv:w9 s a p.length c 9 1):bF 147 [.slice a p.length c,sv [47]] s (aj a) (sv (kZ [47] p)):=λi1 i2 i3=>by
 have hI:=YD (s:=s) (A:=aj a);obtain⟨hl0,⟨h,_⟩|⟨b,o,cs,e,w,rfl,hb,hg,ht⟩⟩:=hr
 .omega
 rw[xr] at ht;have cX:o+p.length<=cs.length:=by
  have h4:=ep List.length ht;rw[cW,eW,hl0] at h4;omega
 have u0:((Nat.ble (Nat.succ c) ew&&Nat.ble p.length c)||(Nat.ble ew c&&Nat.beq o (c-ew)&&Nat.beq e 9))=true:=by
  rcases hv with⟨h,_⟩|⟨b',o',cs',w',h3,h4,h5,h6⟩
  .cases h
  .cases h3
   rw[hg] at h5;(cases h5);rcases h6 with⟨h6,h7⟩|⟨_,h6,h7,_⟩
   .rw[gp (show Nat.succ c<=ew from h7),gp h6];rfl
   .rw[gp h6,h7,xr,kD,kD,mf];exact .inr rfl
 refine oY.aaF (fn:=f147) cV (s':=s.aY b) (v:=sv (kZ [47] p)) (λk=>?_) ⟨[],hI.aY ⟨hb,.inl (by simp[aj])⟩,rfl,rfl⟩;show(s.row b λcs e _ s=>dZ (Nat.ble (o+p.length) cs.length&&((Nat.ble (Nat.succ c) ew&&Nat.ble p.length c)||(Nat.ble ew c&&Nat.beq o (c-ew)&&Nat.beq e 9))&&Nat.ble 1 p.length&&Nat.ble p.length 1000)<| ob (O6 ((cs.drop o).take p.length)) λl=>dZ (Nat.ble (kZ [47] l).length 1000000)<| aN (.string ⟨⟨kZ [47] l⟩⟩) s)=_;unfold St.row St.look;rw[hg];simp only[cu];rw[u0,gp cX,gp h1,gp h2,ht,MX];show dZ (Nat.ble (kZ [47] p).length 1000000) _=_;rw[gp hl];rfl
theorem MY (s:St)(a:aM)(c:Nat)(p:List az)(h1:1<=p.length)(h2:p.length<=1000)(hl:(kZ [47] p).length<=1000000)(hr:bH s a p.length 1 (ai p))(hv:w9 s a p.length c 9 1):bF 108 [.slice a p.length c] s (aj a) (sv (47::kZ [47] p)):=by
 have hd:=Rd.of hr (A:=aj a) λb hb=>hb
 have hjn:=λs=>abG s a c p h1 h2 hl
 refine aT f108 ?_;(repeat' (first|refine' aW|((with_reducible apply WO.J0);exact aC;(intro s hr hv;exact hjn s hr hv);(exact hd);(exact hv);intros)|refine' av|fail));all_goals refine' ax
 all_goals rfl
theorem Ui (s:St)(a:aM)(c:Nat)(p:List az)(h1:1<=p.length)(h2:p.length<=1000)(hl:(kZ [47] p).length<=1000000)(hn:∀e∈p,e.length<=100000/\∀c∈e,c.toNat<128)(hr:bH s a p.length 1 (ai p))(hv:w9 s a p.length c 9 1)(ok:Bool)(fm:ok=(decide (p.length<=4)&&p.all aU)):bF 72 [.slice a p.length c] s (aj a) (.tuple ⟨[sv (if ok then 47::kZ [47] p else []),.bool ok]⟩):=by
 have hd:=Rd.of hr (A:=aj a) λb hb=>hb
 have yy:=λs=>MY s a c p h1 h2 hl
 have P3:=λs=>JZ s a c p ag hn
 clear hn;by_cases h4:p.length<=4
 .rw[bY h4,uL] at fm;rw[<-fm] at P3;clear fm;cases ok with
  |true=>
   refine' zau
  |false=>
   refine' zau
 .rw[eI h4,Bs] at fm;subst fm;refine aT f72 ?_;(repeat' (first|refine' aW|((with_reducible apply WO.iN);exact aC;(intro s hr;exact P3 s hr);exact cb;intros)|((with_reducible apply WO.J0);exact aC;(intro s hr hv;exact yy s hr hv);(exact hd);(exact hv);intros)|refine' av|fail))
  all_goals try refine cj
  all_goals refine' ax
  all_goals rfl
end
variable {E:ig}{X:fR}{l:Kn}{L:bZ}{z:az}
theorem J1 (s:St)(z:az)(hz:z.length<=100000):bF 142 [sv z,sv [47]] s [] (.bool (decide (z.take 1=[47]))):=by
 refine aT f142 ?_;refine' cR;all_goals try refine cj
 all_goals refine' ax
 all_goals first|rfl|(cases z with
  |nil=>rfl
  |cons x z=>exfalso;simp only[cY,lW] at ur;omega)
theorem MZ (s:St)(z:az)(hz:z.length<=100000):bF 104 [sv z,sv [47]] s [] (.tuple ⟨[sv (if z.take 1=[47] then z.drop 1 else z),.bool (decide (z.take 1=[47]))]⟩):=by
 have hhp:=λs=>J1 s z hz
 by_cases h:z.take 1=[47]
 .rw[if_pos h,bY h];rw[bY h] at hhp;have h1:1<=z.length:=by
   have:=ep List.length h;rw[cW] at this;simp at this;omega
  refine aT f104 ?_;(repeat' (first|refine' aW|((with_reducible apply WO.aV);exact aC;(exact hhp);intros)|refine' av|fail));all_goals try refine cj
  all_goals refine' ax
  all_goals rfl
 .rw[if_neg h,eI h];rw[eI h] at hhp;refine aT f104 ?_;(repeat' (first|refine' aW|((with_reducible apply WO.aV);exact aC;(exact hhp);intros)|refine' av|fail))
  all_goals try refine cj
  all_goals refine' ax
  all_goals rfl
theorem J2 (s:St)(z:az)(hz:z.length<=100000):bF 70 [sv z,sv [47]] s [] (.tuple ⟨[sv (if z.take 1=[47] then z.drop 1 else z),.bool (decide (z.take 1=[47]))]⟩):=by
 have hlc:=λs=>MZ s z hz
 generalize(if z.take 1=[47] then z.drop 1 else z)=y at *
 generalize decide (z.take 1=[47])=b at *
 refine aT f70 ?_;(repeat' (first|refine' aW|((with_reducible apply WO.aV);exact aC;(exact hlc);intros)|refine' av|fail));all_goals try refine cj
 all_goals refine' ax
 all_goals rfl
theorem WO.EU {Γ:qV}{K:KO}{g:FuncId}{xs:List Operand}{ts:Array TypeId}{vs:a6}{a:aM}{n c LC e':Nat}{cs:a6}{r:Value}(hx:kA l xs vs)(hm:It.aQ (.slice a n c) e' LC cs∈L)(h:∀s,bH s a n LC cs->w9 s a n c e' LC->nQ E X g vs s (aj a) r)(k:∀m m',jX L m->m<=m'->K r L m m' (FtR (aj a) [] m m') (FtW [] m m')):WC E X Γ l g xs ts L K:=
 WO.qE hx (λs hi=>by
   have h1:=(jB.aQ (Γ:=Γ) hm).row hi;exact⟨h1.2,h s h1.1 (xL.slv (hi.it _ hm) λb hb=>(h1.2 b hb).1)⟩) k
theorem W.CR {Γ:qV}{c:Code}{Q:Ex->Kn->bZ->Prop}{e:TypeId}(h:W E X Γ c l (.aQ (eT) e 1 (ai ([]:List az))::L) Q):W E X Γ c l L Q:=λtm s h1 h2=>h tm s h1 ⟨h2.fr,h2.le,λx hx=>by
  rcases bT.1 hx with rfl|hx
  .exact .inl ⟨rfl,rfl⟩
  .exact h2.it x hx,λx hx b hb=>by
  rcases bT.1 hx with rfl|hx
  .cases hb
  .exact h2.lt x hx b hb,h2.nd,h2.cU,h2.wr,h2.top,h2.Cf⟩
theorem H9 (h:z≠[47]):aP z=(decide (z.take 1=[47])&&(decide ((cut 47 (z.drop 1)).length<=4)&&(cut 47 (z.drop 1)).all aU)):=by
 unfold aP aF;rw[if_neg h,if_neg h];cases z with
 |nil=>rfl
 |cons x r=>
  rw[gJ];show(if(x::r=[]||decide (x≠47))=true then false else _)=(decide ([x]=[47])&&(decide ((cut 47 r).length<=4)&&(cut 47 r).all aU));by_cases hx:x=47
  .subst hx;rw[if_neg ay,if_pos rfl];show((cut 47 r).all aU&&decide ((cut 47 r).length<=4))=_;rw[bY rfl,uL,Bool.and_comm]
  .rw[if_pos (by simp[hx]),eI (λe=>hx (List.cons.inj e).1),Bs]
theorem Ia:∀p:List az,p≠[]->(∀e∈p,e.length<=4)->(kZ [47] p).length+1<=5*p.length
 |[],h,_=>absurd rfl h
 |[x],_,h=>by
  have:=h x gh;show x.length+1<=5*1;omega
 |x::y::l,_,h=>by
  have h1:=h x gh;have h2:=Ia (y::l) ay λe he=>h e (jA _ he)
  show(x++([47]++kZ [47] (y::l))).length+1<=_;rw[bL,bL,cY,cY (a:=x)];simp only[lW] at *
  omega
theorem P4 (h:aP z=true):z.length<=20:=by
 by_cases h0:z=[47]
 .rw[h0];decide
 .rw[H9 h0,bO,bO,bQ,bQ,gA] at h;obtain⟨h1,h2,h3⟩:=h;have h4:=Ia _ (zM (z.drop 1)) λe he=>by
   have:=h3 e he;unfold aU at this;simp at this;omega
  rw[A5,eW] at h4;omega
theorem M0 {P:UInt8->Prop}:∀z:az,(∀c∈z,P c)->∀e∈cut 47 z,e.length<=z.length/\∀c∈e,P c
 |[],_,e,he=>by
  have:e=[]:=by simpa[cut] using he
  subst this;exact⟨cG _,λc hc=>by cases hc⟩
 |x::z,h,e,he=>by
  have ih:=M0 z λc hc=>h c (jA _ hc)
  rw[gJ] at he;split at he
  .rcases bT.1 he with rfl|he
   .exact⟨iG _,λc hc=>by cases hc⟩
   .exact⟨Nat.le_succ_of_le (ih e he).1,(ih e he).2⟩
  .split at he
   .rename_i hc;exact absurd hc (zM z)
   .rename_i w r hc;rcases bT.1 he with rfl|he
    .have:=ih w (by rw[hc];exact gh);exact⟨Nat.succ_le_succ this.1,λc hc=>by
      rcases bT.1 hc with rfl|hc
      .exact h _ gh
      .exact this.2 c hc⟩
    .have:=ih e (by rw[hc];exact jA _ he);exact⟨Nat.le_succ_of_le this.1,this.2⟩
theorem sa (s:St)(z:az)(hz:z.length<=100000)(ha:∀c∈z,c.toNat<128):jQ bh bw 33 [sv z] s [] 9 (cA z) (aP z):=by
 by_cases h0:z=[47]
 .subst h0;refine aT f33 ?_;refine W.CR (e:=9) ?_;(repeat' (first|refine' aW|((with_reducible apply WO.aV);exact aC;(exact Hz);intros)|((with_reducible apply WO.rU);exact aC;(exact M1);intro _ _ abH abI _ _)|((with_reducible apply WO.EU);exact aC;exact oh;(intro s hr hv;exact yA s _ _ hr hv);intros)|refine' av|fail))
  all_goals try refine cj
  all_goals refine' zat
 have e0:=H9 h0;have Hz:=λs=>J2 s z hz
 by_cases ht:z.take 1=[47]
 .rw[if_pos ht,bY ht] at Hz;rw[bY ht,uL] at e0;by_cases hl:z.length<=20
  .have M1:=λs=>YC s (z.drop 1) (by rw[eW];omega)
   have hj:=A5 (z.drop 1);have fY:=zM (z.drop 1);have x7:=M0 (z.drop 1) λc hc=>ha c (List.mem_of_mem_drop hc)
   have hcn:=zN (z.drop 1);have al0:mr (z.drop 1)<=20:=gK (yI _ _) (by rw[eW];omega);have zI:aF z=cut 47 (z.drop 1):=by
    unfold aF;rw[if_neg h0];cases z with
    |nil=>simp at ht
    |cons x r=>
     (have hx:x=47:=by simpa using ht);rw[gJ,if_pos hx];rfl
   generalize cut 47 (z.drop 1)=p at *
   have hz1:47::kZ [47] p=z:=by
    rw[hj];cases z with
    |nil=>simp at ht
    |cons x r=>
     (have hx:x=47:=by simpa using ht);rw[hx];rfl
   have Om:1<=p.length:=by cases p with
    |nil=>exact absurd rfl fY
    |cons x p=>simp
   have yA:∀s a c,bH s a p.length 1 (ai p)->w9 s a p.length c 9 1->bF 72 [.slice a p.length c] s (aj a) (.tuple ⟨[sv (if aP z then z else []),.bool (aP z)]⟩):=λs a c hr hv=>by
    have:=Ui s a c p Om ag (by rw[hj,eW];omega) (λe he=>⟨by have:=(x7 e he).1;rw[eW] at this;omega,(x7 e he).2⟩) hr hv (aP z) e0
    rwa [hz1] at this
   clear hz1 hj x7 e0 fY hcn al0;cases fm:aP z with
   |true=>
    (have Gp:cA z=p:=by unfold cA;rw[if_pos fm,zI]);rw[fm] at yA;rw[Gp];clear zI Gp;refine aT f33 ?_;(repeat' (first|refine' aW|((with_reducible apply WO.aV);exact aC;(exact Hz);intros)|((with_reducible apply WO.rU);exact aC;(exact M1);intro _ _ abH abI _ _)|((with_reducible apply WO.EU);exact aC;exact oh;(intro s hr hv;exact yA s _ _ hr hv);intros)|refine' av|fail));(all_goals try refine cj);(all_goals refine' fk);all_goals rfl
   |false=>
    (have Gp:cA z=[]:=by unfold cA;rw[fm];rfl);rw[fm] at yA;rw[Gp];clear zI Gp;refine aT f33 ?_;refine W.CR (e:=9) ?_;(repeat' (first|refine' aW|((with_reducible apply WO.aV);exact aC;(exact Hz);intros)|((with_reducible apply WO.rU);exact aC;(exact M1);intro _ _ abH abI _ _)|((with_reducible apply WO.EU);exact aC;exact oh;(intro s hr hv;exact yA s _ _ hr hv);intros)|refine' av|fail));(all_goals try refine cj);all_goals refine' zat
  .have fm:aP z=false:=by
    cases h:aP z with
    |false=>rfl
    |true=>exact absurd (P4 h) hl
   (have Gp:cA z=[]:=by unfold cA;rw[fm];rfl);rw[fm,Gp];refine aT f33 ?_;refine W.CR (e:=9) ?_;(repeat' (first|refine' aW|((with_reducible apply WO.aV);exact aC;(exact Hz);intros)|((with_reducible apply WO.rU);exact aC;(exact M1);intro _ _ abH abI _ _)|((with_reducible apply WO.EU);exact aC;exact oh;(intro s hr hv;exact yA s _ _ hr hv);intros)|refine' av|fail));(all_goals try refine cj);all_goals refine' zat
 .rw[if_neg ht,eI ht] at Hz;rw[eI ht,Bs] at e0;have Gp:cA z=[]:=by unfold cA;rw[e0];rfl
  rw[e0,Gp];refine aT f33 ?_;refine W.CR (e:=9) ?_;(repeat' (first|refine' aW|((with_reducible apply WO.aV);exact aC;(exact Hz);intros)|((with_reducible apply WO.rU);exact aC;(exact M1);intro _ _ abH abI _ _)|((with_reducible apply WO.EU);exact aC;exact oh;(intro s hr hv;exact yA s _ _ hr hv);intros)|refine' av|fail));all_goals try refine cj
  all_goals refine' zat
theorem EV (s:St)(z:az)(hz:z.length<=100000)(ha:∀c∈z,c.toNat<128):bF 13 [sv z] s [] (.bool (aP z)):=by
 have Gp:=λs=>sa s z hz ha
 generalize cA z=p at *
 generalize aP z=b at *
 refine aT f13 ?_;(repeat' (first|refine' aW|((with_reducible apply WO.oM);exact aC;(exact Gp);intro _ _ abJ abK _ _)|refine' av|fail));all_goals try refine cj
 all_goals refine' ax
 all_goals rfl
theorem Uj (s:St)(a:aM)(c:Nat)(a2:aM)(c2:Nat)(p q:List az)(hp:p.length<=100000)(hq:q.length<=100000)(hr:bH s a p.length 1 (ai p))(nC:bH s a2 q.length 1 (ai q)):bF 34 [.slice a p.length c,.slice a2 q.length c2] s (aj a++aj a2) (.bool (decide (p=q))):=by
 have hd:=Rd.of hr (A:=aj a++aj a2) λb hb=>cT _ hb
 have Rf:=Rd.of nC (A:=aj a++aj a2) λb hb=>dE _ hb
 by_cases hl:p.length=q.length
 .refine aT f34 ?_;refine' cR
  all_goals try refine cj
  refine W.bN (λm l L=>∃(i:Nat),Le [(0,.slice a p.length c),(1,.slice a2 q.length c2),(12,iv (p.length:Int)),(13,iv (i:Int))] l/\cC [] L/\m=p.length-i/\i<=p.length/\∀j:Nat,j<i->p.getD j ak.ah=q.getD j ak.ah)
   (λl L=>Le [] l/\cC [] L/\∀j:Nat,j<p.length->p.getD j ak.ah=q.getD j ak.ah) _ ⟨0,bj,ar,rfl,ag,λj h=>by omega⟩ ?_ ?_
  .rintro m l L ⟨i,qu,hL,rfl,h1,h2⟩;refine W.le ?_ qu hL;clear qu hL;by_cases hi:i<p.length
   .have tA:i<q.length:=by omega
    by_cases hb:p.getD i ak.ah=q.getD i ak.ah
    ·(repeat' (first|refine' aW|refine' XQ|refine' HE|refine' av|fail))
     (all_goals try refine rB);all_goals refine' zbj
    ·(repeat' (first|refine' aW|refine' XQ|refine' HE|refine' av|fail))
     (all_goals try refine rB);(have e:decide (p=q)=false:=eI λh=>hb (by rw[h]));rw[e];(all_goals refine' ax);all_goals rfl
   ·(refine' cR)
    (all_goals try refine cj);all_goals exact⟨bj,ar,λj hj=>h2 j ag⟩
  .rintro l L ⟨qu,hL,h2⟩;refine aq ?_;refine W.le ?_ qu hL;clear qu hL;have e:decide (p=q)=true:=bY (List.ext_getElem hl λj h3 h4=>by
    have:=h2 j h3
    rwa [aZ,aZ,bd h3,bd h4] at this)
   rw[e];refine' cR;(all_goals refine' ax);all_goals rfl
 .have e:decide (p=q)=false:=eI λh=>hl (ep List.length h)
  rw[e];refine aT f34 ?_;refine' cR;all_goals try refine cj
  all_goals refine' ax
  all_goals rfl
theorem RR:∀w:az,(∀c∈w,c≠47)->cut 47 w=[w]
 |[],_=>rfl
 |x::w,h=>by rw[gJ,if_neg (h x gh),RR w λc hc=>h c (jA _ hc)]
theorem M3:∀(w z:az),(∀c∈w,c≠47)->cut 47 (w++47::z)=w::cut 47 z
 |[],z,_=>by rw[pn,gJ,if_pos rfl]
 |x::w,z,h=>by rw[yv,gJ,if_neg (h x gh),M3 w z λc hc=>h c (jA _ hc)]
theorem EW:∀l:List az,(∀e∈l,∀c∈e,c≠47)->cut 47 (l.map λs=>47::s).flatten=[]::l
 |[],_=>rfl
 |x::l,h=>by
  have ih:=EW l λe he=>h e (jA _ he)
  rw[wO,List.flatten_cons,yv,gJ,if_pos rfl];cases l with
  |nil=>rw[C2,List.flatten_nil,gg,RR _ (h x gh)]
  |cons y l=>
   rw[wO,List.flatten_cons,yv] at ih⊢;rw[gJ,if_pos rfl] at ih;rw[M3 _ _ (h x gh),(List.cons.inj ih).2]
theorem P5 {l m:List az}(hl:∀e∈l,aU e=true)(hm:∀e∈m,aU e=true)(h:pathOf l=pathOf m):l=m:=by
 have HP:∀e:az,aU e=true->(∀c∈e,c≠47)/\e≠[]:=λe he=>by
  unfold aU at he;rw[bO,bO,gA] at he;refine⟨λc hc hx=>?_,λhx=>?_⟩
  .have:=he.1.1 c hc;rw[hx] at this;simp at this
  .rw[hx] at he;simp at he
 have cl:=EW l λe he=>(HP e (hl e he)).1
 have cm:=EW m λe he=>(HP e (hm e he)).1
 have h2:=ep (cut 47) h;unfold pathOf at h2;cases l with
 |nil=>
  cases m with
  |nil=>rfl
  |cons x m=>
   rw[if_pos rfl,if_neg ay,cm] at h2;exact absurd (List.cons.inj (List.cons.inj h2).2).1.symm (HP x (hm x gh)).2
 |cons y l=>
  cases m with
  |nil=>
   rw[if_pos rfl,if_neg ay,cl] at h2;exact absurd (List.cons.inj (List.cons.inj h2).2).1 (HP y (hl y gh)).2
  |cons x m=>
   rw[if_neg ay,if_neg ay,cl,cm] at h2;exact(List.cons.inj h2).2
theorem zO {z:az}(h:aP z=true):∀e∈aF z,aU e=true:=by
 unfold aP at h;split at h
 .rename_i h0;subst h0;intro e he;cases he
 .split at h
  .cases h
  .rw[bO,gA] at h;exact h.1
theorem YE (z t:az):under z t=(aP z&&(aP t&&(decide ((cA t).length<=(cA z).length)&&decide ((cA z).take (cA t).length=cA t)))):=by
 unfold under cA;cases hz:aP z with
 |false=>rfl
 |true=>
  cases ht:aP t with
  |false=>rfl
  |true=>
   rw[if_pos rfl,if_pos rfl];show(decide _&&decide _)=(decide _&&decide _);refine ep _ ?_;rw[C5];exact⟨λh=>P5 (λe he=>zO hz e (KP he)) (zO ht) h,λh=>by rw[h]⟩
theorem WO.abL {E:ig}{X:fR}{Γ:qV}{l:Kn}{L:bZ}{K:KO}{g:FuncId}{xs:List Operand}{ts:Array TypeId}{vs:a6}{r:Value}{a a2:aM}{n sz n2 sz2:Nat}{cs cs2:a6}(hx:kA l xs vs)(h:∀s,bH s a n sz cs->bH s a2 n2 sz2 cs2->nQ E X g vs s (aj a++aj a2) r)(h1:jB Γ L a n sz cs)(h2:jB Γ L a2 n2 sz2 cs2)(k:∀m m',jX L m->m<=m'->K r L m m' (FtR (aj a++aj a2) [] m m') (FtW [] m m')):WC E X Γ l g xs ts L K:=
 WO.qE hx (λs hi=>⟨λi hb=>by
   rcases eZ.1 hb with hb|hb
   .exact(h1.row hi).2 i hb
   .exact(h2.row hi).2 i hb,h s (h1.row hi).1 (h2.row hi).1⟩) k
theorem xh (s:St)(z t:az)(hz:z.length<=100000)(ha:∀c∈z,c.toNat<128)(ht:t.length<=100000)(hb:∀c∈t,c.toNat<128):bF 12 [sv z,sv t] s [] (.bool (under z t)):=by
 have Gp:=λs=>sa s z hz ha
 have hqn:=λs=>sa s t ht hb
 have cX:∀z,(cA z).length<=4:=λz=>by
  unfold cA;split
  .rename_i h;unfold aP at h;split at h
   .rename_i h0;subst h0;exact iG _
   .split at h
    .cases h
    .rw[bO,bQ] at h;exact h.2
  .exact iG _
 have hp4:=cX z;have hq4:=cX t;rw[YE];clear cX ha hb;generalize cA z=p at *
 generalize cA t=q at *
 generalize aP z=b1 at *
 generalize aP t=b2 at *
 cases b1 with
 |false=>
  refine' zaJ
 |true=>
  cases b2 with
  |false=>
   refine' zaJ
  |true=>
   by_cases hl:q.length<=p.length
   .rw[bY hl];have heq:∀s a c a2 c2,bH s a (p.take (q.length:Int).toNat).length 1 (ai (p.take (q.length:Int).toNat))->bH s a2 q.length 1 (ai q)->bF 34 [.slice a (p.take (q.length:Int).toNat).length c,.slice a2 q.length c2] s (aj a++aj a2) (.bool (decide ((p.take (q.length:Int).toNat)=q))):=λs a c a2 c2 hr nC=>Uj s a c a2 c2 _ q (by rw[cW];omega) ag hr nC
    refine aT f12 ?_;(repeat' (first|refine' aW|((with_reducible apply WO.oM);exact aC;(first|exact Gp|exact hqn);intro _ _ abJ abK _ _)|((with_reducible apply WO.abL);exact aC;(intro s hr nC;exact heq s _ _ _ _ hr nC);exact cb;exact cb;intros)|refine' av|fail));(all_goals try refine cj);(all_goals refine' ax);all_goals rfl
   .rw[eI hl];refine aT f12 ?_;(repeat' (first|refine' aW|((with_reducible apply WO.oM);exact aC;(first|exact Gp|exact hqn);intro _ _ abJ abK _ _)|refine' av|fail))
    (all_goals try refine cj);(all_goals refine' ax);all_goals rfl
theorem sQ:∀z∈Ev.dN,z.length<=100000/\∀c∈z,c.toNat<128:=λz h=>by
 have e:Ev.dN.all (λz=>decide (z.length<=100000)&&z.all λc=>decide (c.toNat<128))=true:=by decide
 have:=gA.1 e z h;rw[bO,bQ,gA] at this;exact⟨this.1,λc hc=>Bj (this.2 c hc)⟩
theorem P6 (s:St)(z:az)(hz:z∈Ev.dN):bF 13 [sv z] s [] (.bool (aP z)):=EV s z (sQ z hz).1 (sQ z hz).2
theorem D1 (s:St)(z:az)(hz:z∈Ev.dN):bF 85 [sv z] s [] (sv (Ev.dn z)):=Yx (fn:=f85) cV λk=>by
 show dZ (decide (z∈Ev.dN)) (aN (sv (Ev.dn z)) s)=_;rw[bY hz];rfl
theorem Gg (s:St)(z t:az)(hz:z∈Ev.dN/\t∈Ev.dN/\aP z=true/\aP t=true):bF 12 [sv z,sv t] s [] (.bool (under z t)):=xh s z t (sQ z hz.1).1 (sQ z hz.1).2 (sQ t hz.2.1).1 (sQ t hz.2.1).2
theorem YF (s:St)(o:Op)(hp:o.af∈Ev.dN)(ht:o.to∈Ev.dN):bF 47 [ov o] s [] (.bool (ik o)):=by
 obtain⟨kd,pa,tq9,at_,tx⟩:=o;dsimp only at hp ht;have e0:aP []=false:=rfl;refine aT f47 ?_;(repeat' (first|refine' aW|refine' TE|((with_reducible apply WO.aV);exact aC;exact λs=>P6 s _ aL;intros)|refine' av|fail));all_goals try refine cj
 all_goals refine' ax
 all_goals(simp only[gL];refine ep Value.bool ?_;unfold ik;unfold fV at *)
 all_goals first
  |(simp_all;done)
  |(simp_all;omega)
  |(simp_all;split<;>first|rfl|omega|(simp_all;done)|(simp_all;omega);done)
  |(by_cases e1:tq9=[]<;>by_cases e2:kd=7<;>first|(simp_all;done)|(simp_all;omega))
  |(by_cases e1:tq9=[]<;>by_cases e2:kd=7<;>by_cases e3:24<tx.length<;>first|(simp_all;done)|(simp_all;omega)|(rw[show decide ((tx.length:Int)<=24)=false by rw[mg];omega];simp_all;done)|(rw[show decide ((tx.length:Int)<=24)=true by rw[bQ];omega];simp_all;done)|(rw[show decide ((tx.length:Int)<=24)=true by rw[bQ];omega];simp_all;omega))
variable {R:bZ}{K:KO}{g:FuncId}{xs:List Operand}{ts:Array TypeId}{vs:a6}{b b2 b5:Nat}{k:Int}{a':aM}{c c':Nat}{q:fg}{r:Value}
abbrev Uk (b:Nat):Value:=.iface 94 (bg b)
theorem Hx:mh 94 "loop.example/poolfiles/impl.lead" bh.sk=some 21:=by kernel_rfl
theorem L4:mh 94 "loop.example/poolfiles/impl.folder" bh.sk=some 287:=by kernel_rfl
theorem JE:mh 94 "loop.example/poolfiles/impl.entries" bh.sk=some 286:=by kernel_rfl
theorem Pp:mh 94 "loop.example/poolfiles/impl.links" bh.sk=some 90:=by kernel_rfl
theorem TG:mh 94 "loop.example/poolfiles/impl.room" bh.sk=some 86:=by kernel_rfl
structure wM (s:St)(b:Nat)(a:aM)(c:Nat)(p:List a7)(a':aM)(c':Nat)(q:fg)(b2 b5:Nat)(k:Int):Prop where
 p:iX s b a c p a' c' q
 i:bH s (jz b2) 1 1 [Uk b]
 n:bH s (jz b5) 1 1 [iv k]
structure Pq (Γ:qV)(L:bZ)(b:Nat)(a:aM)(c:Nat)(p:List a7)(a':aM)(c':Nat)(q:fg)(b2 b5:Nat)(k:Int):Prop where
 p:vk Γ L b a c p a' c' q
 i:jB Γ L (jz b2) 1 1 [Uk b]
 n:jB Γ L (jz b5) 1 1 [iv k]
abbrev KF (b:Nat)(a a':aM)(b2 b5:Nat):List Nat:=rb b a a'++[b2,b5]
section
variable {p:List a7}
theorem Pq.row (h:Pq Γ L b a c p a' c' q b2 b5 k)(hi:Inv Γ s L):wM s b a c p a' c' q b2 b5 k/\∀i∈KF b a a' b2 b5,FT Γ s i:=by
 refine⟨⟨(h.p.row hi).1,(h.i.row hi).1,(h.n.row hi).1⟩,λi hb=>?_⟩;rcases eZ.1 hb with hb|hb
 .exact(h.p.row hi).2 i hb
 .rcases bT.1 hb with rfl|hb
  .exact(h.i.row hi).2 _ (by simp[aj])
  .rw[ix] at hb;subst hb;exact(h.n.row hi).2 _ (by simp[aj])
theorem WO.Xl (hx:kA l xs vs)(h:∀s,wM s b a c p a' c' q b2 b5 k->nQ E X g vs s (KF b a a' b2 b5) r)(hh:Pq Γ L b a c p a' c' q b2 b5 k)(kk:∀m m',jX L m->m<=m'->K r L m m' (FtR (KF b a a' b2 b5) [] m m') (FtW [] m m')):WC E X Γ l g xs ts L K:=
 WO.qE hx (λs hi=>⟨(hh.row hi).2,h s (hh.row hi).1⟩) kk
theorem EX.x (h:wM s b a c p a' c' q b2 b5 k):Rd ⟨s,([]:bZ).flatMap It.a8,KF b a a' b2 b5⟩ (jz b) 1 2 (ie a c p a' c' q):=Rd.of h.p.b λi hb=>by rw[show i=b by simpa[aj] using hb];exact gh
theorem EX.n (h:wM s b a c p a' c' q b2 b5 k):Rd ⟨s,([]:bZ).flatMap It.a8,KF b a a' b2 b5⟩ a p.length 2 (ai p):=Rd.of h.p.n λ_ hb=>cT _ (jA _ (cT _ hb))
theorem EX.t (h:wM s b a c p a' c' q b2 b5 k):Rd ⟨s,([]:bZ).flatMap It.a8,KF b a a' b2 b5⟩ a' q.length 3 (ai q):=Rd.of h.p.t λ_ hb=>cT _ (jA _ (dE _ hb))
theorem EX.i (h:wM s b a c p a' c' q b2 b5 k):Rd ⟨s,([]:bZ).flatMap It.a8,KF b a a' b2 b5⟩ (jz b2) 1 1 [Uk b]:=Rd.of h.i λi hb=>by rw[show i=b2 by simpa[aj] using hb];exact dE _ ay
theorem EX.kk (h:wM s b a c p a' c' q b2 b5 k):Rd ⟨s,([]:bZ).flatMap It.a8,KF b a a' b2 b5⟩ (jz b5) 1 1 [iv k]:=Rd.of h.n λi hb=>by rw[show i=b5 by simpa[aj] using hb];exact dE _ ay
end
structure J3 (p:List a7)(q:fg):Prop where
 sn:kM p
 st:gU q
 pl:p.length<=1000
 ql:q.length<=1000
 ps:∀x∈p,x.af.length<=5000
 th:∀z,0<=de p z->(ot q (de p z)).isSome=true
 id:∀x∈p,-1000<=x.id/\x.id<=1000
theorem YG (q:fg):∀n k,JU q n k=yz q n k
 |0,_=>rfl
 |n+1,k=>by unfold JU yz;rw[YG q n]
section
variable {p:List a7}(hV:J3 p q)
include hV
theorem M4:∀s z,iX s b a c p a' c' q->bF 21 [bg b,sv z] s (rb b a a') (iv (de p z)):=λs z hr=>RP s b a c p a' c' q hV.sn hV.pl z hr
theorem YH:∀s k,(ot q k).isSome=true->iX s b a c p a' c' q->bF 287 [bg b,iv k] s (rb b a a') (.bool (iw q k)):=λs k hk hr=>by
 obtain⟨t,ht⟩:=jh.1 hk;have:=Ug s b a c p a' c' q hV.st hV.ql k t ht hr;unfold iw;rw[ht];exact this
theorem YI:∀s k,iX s b a c p a' c' q->bF 286 [bg b,iv k] s (rb b a a') (iv (Ox p k:Int)):=λs k hr=>PZ s b a c p a' c' q hV.sn hV.pl hV.ps k hr
theorem ai3:∀s k,iX s b a c p a' c' q->bF 90 [bg b,iv k] s (rb b a a') (iv (sf p k:Int)):=λs k hr=>MT s b a c p a' c' q hV.pl k hr
theorem adv:∀s,iX s b a c p a' c' q->bF 86 [bg b] s (rb b a a') (iv (yz q 16 0)):=λs hr=>by
 have:=abC s b a c p a' c' q hV.st hV.ql hr
 rwa [YG] at this
end
theorem afj (s:St)(b:Nat)(a:aM)(c:Nat)(p:List a7)(a':aM)(c':Nat)(q:fg)(b2 b5:Nat)(k n:Int)(hV:J3 p q)(hr:wM s b a c p a' c' q b2 b5 k):bF 83 [iv n,bg b2] s (KF b a a' b2 b5) (.bool (decide (yz q 16 0<0))):=by
 have hdx:=EX.x hr;have pk:=EX.n hr;have ru:=EX.t hr;have hdi:=EX.i hr;have hrm:=adv (b:=b) (a:=a) (c:=c) (a':=a') (c':=c') hV;refine aT f83 ?_;repeat' (first|refine' aW|refine' aa0|refine' zg|refine' aeK|refine' av|fail)
 all_goals refine' ax
 all_goals rfl
theorem afk (s:St)(b:Nat)(a:aM)(c:Nat)(p:List a7)(a':aM)(c':Nat)(q:fg)(b2 b5:Nat)(k n:Int)(hV:J3 p q)(hr:wM s b a c p a' c' q b2 b5 k):bF 84 [iv n,bg b2,bg b5] s (KF b a a' b2 b5) (.bool (decide (9<=sf p k))):=by
 have hdx:=EX.x hr;have pk:=EX.n hr;have ru:=EX.t hr;have hdi:=EX.i hr;have hdk:=EX.kk hr;have hli:=ai3 (b:=b) (a:=a) (c:=c) (a':=a') (c':=c') hV;refine aT f84 ?_;(repeat' (first|refine' aW|refine' aa0|refine' zg|((with_reducible apply WO.rW);exact aC;(intro s hr;exact hli s _ hr);(exact vk.mk cb cb cb);intros)|refine' av|fail));all_goals refine' ax
 all_goals(refine ep Value.bool ?_;rw[C5];omega)
theorem M5 (s:St)(b:Nat)(a:aM)(c:Nat)(p:List a7)(a':aM)(c':Nat)(q:fg)(b2 b5:Nat)(k:Int)(hV:J3 p q)(z:az)(hz:z∈Ev.dN)(hr:wM s b a c p a' c' q b2 b5 k):bF 82 [Uk b,sv z,.func (.func 83) ⟨[]⟩ ⟨[bg b2]⟩] s (KF b a a' b2 b5) (iv (uI p q z (decide (yz q 16 0<0)))):=by
 have hdx:=EX.x hr;have pk:=EX.n hr;have ru:=EX.t hr;have hdi:=EX.i hr;have hdk:=EX.kk hr;have D0:=M4 (b:=b) (a:=a) (c:=c) (a':=a') (c':=c') hV;have uu:=YH (b:=b) (a:=a) (c:=c) (a':=a') (c':=c') hV;have Wu:=YI (b:=b) (a:=a) (c:=c) (a':=a') (c':=c') hV;have uV:∀s n,wM s b a c p a' c' q b2 b5 k->bF 83 [iv n,bg b2] s (KF b a a' b2 b5) (.bool (decide (yz q 16 0<0))):=λs n hr=>afj s b a c p a' c' q b2 b5 k n hV hr
 generalize decide (yz q 16 0<0)=cJ at *
 by_cases h1:z=[47]
 .have e:uI p q z cJ=3:=by unfold uI;rw[if_pos h1]
  rw[e];refine aT f82 ?_;refine' abd;all_goals try refine cj
  all_goals refine' ax
  all_goals rfl
 by_cases h2:de p (Ev.dn z)<0
 .have e:uI p q z cJ=2:=by unfold uI;rw[if_neg h1,if_pos h2]
  rw[e];refine aT f82 ?_;refine' abd;all_goals try refine cj
  all_goals refine' ax
  all_goals rfl
 by_cases h3:iw q (de p (Ev.dn z))=false
 .have e:uI p q z cJ=4:=by unfold uI;rw[if_neg h1,if_neg h2,if_pos h3]
  rw[e];refine aT f82 ?_;refine' abe;all_goals try refine rB
  all_goals refine' ax
  all_goals rfl
 have h3t:iw q (de p (Ev.dn z))=true:=by simpa using h3
 by_cases h4:0<=de p z
 .have e:uI p q z cJ=3:=by unfold uI;rw[if_neg h1,if_neg h2,if_neg h3,if_pos h4]
  rw[e];refine aT f82 ?_;refine' abe;all_goals try refine rB
  all_goals refine' ax
  all_goals rfl
 .have e:uI p q z cJ=if cJ=true\/12<=Ox p (de p (Ev.dn z)) then 6 else 0:=by unfold uI;rw[if_neg h1,if_neg h2,if_neg h3,if_neg h4]
  rw[e];refine aT f82 ?_;refine' aiO;all_goals refine' zaL
theorem M6 (s:St)(b:Nat)(a:aM)(c:Nat)(p:List a7)(a':aM)(c':Nat)(q:fg)(b2 b5:Nat)(k:Int)(hV:J3 p q)(z:az)(hz:z∈Ev.dN)(hr:wM s b a c p a' c' q b2 b5 k):bF 82 [Uk b,sv z,.func (.func 84) ⟨[]⟩ ⟨[bg b2,bg b5]⟩] s (KF b a a' b2 b5) (iv (uI p q z (decide (9<=sf p k)))):=by
 have hdx:=EX.x hr;have pk:=EX.n hr;have ru:=EX.t hr;have hdi:=EX.i hr;have hdk:=EX.kk hr;have D0:=M4 (b:=b) (a:=a) (c:=c) (a':=a') (c':=c') hV;have uu:=YH (b:=b) (a:=a) (c:=c) (a':=a') (c':=c') hV;have Wu:=YI (b:=b) (a:=a) (c:=c) (a':=a') (c':=c') hV;have uV:∀s n,wM s b a c p a' c' q b2 b5 k->bF 84 [iv n,bg b2,bg b5] s (KF b a a' b2 b5) (.bool (decide (9<=sf p k))):=λs n hr=>afk s b a c p a' c' q b2 b5 k n hV hr
 generalize decide (9<=sf p k)=cJ at *
 by_cases h1:z=[47]
 .have e:uI p q z cJ=3:=by unfold uI;rw[if_pos h1]
  rw[e];refine aT f82 ?_;refine' abd;all_goals try refine cj
  all_goals refine' ax
  all_goals rfl
 by_cases h2:de p (Ev.dn z)<0
 .have e:uI p q z cJ=2:=by unfold uI;rw[if_neg h1,if_pos h2]
  rw[e];refine aT f82 ?_;refine' abd;all_goals try refine cj
  all_goals refine' ax
  all_goals rfl
 by_cases h3:iw q (de p (Ev.dn z))=false
 .have e:uI p q z cJ=4:=by unfold uI;rw[if_neg h1,if_neg h2,if_pos h3]
  rw[e];refine aT f82 ?_;refine' abe;all_goals try refine rB
  all_goals refine' ax
  all_goals rfl
 have h3t:iw q (de p (Ev.dn z))=true:=by simpa using h3
 by_cases h4:0<=de p z
 .have e:uI p q z cJ=3:=by unfold uI;rw[if_neg h1,if_neg h2,if_neg h3,if_pos h4]
  rw[e];refine aT f82 ?_;refine' abe;all_goals try refine rB
  all_goals refine' ax
  all_goals rfl
 .have e:uI p q z cJ=if cJ=true\/12<=Ox p (de p (Ev.dn z)) then 6 else 0:=by unfold uI;rw[if_neg h1,if_neg h2,if_neg h3,if_neg h4]
  rw[e];refine aT f82 ?_;refine' aiO;all_goals refine' zaL
variable {g2:FuncId}{ca:a6}{p:List a7}
theorem WO.YJ (hx:kA l xs [Uk b,sv z,.func (.func g2) ⟨[]⟩ ⟨bg b2::ca⟩])(hh:Pq Γ L b a c p a' c' q b2 b5 k)(h:∀s,wM s b a c p a' c' q b2 b5 k->nQ E X g [Uk b,sv z,.func (.func g2) ⟨[]⟩ ⟨bg b2::ca⟩] s (KF b a a' b2 b5) r)(kk:∀m m',jX L m->m<=m'->K r L m m' (FtR (KF b a a' b2 b5) [] m m') (FtW [] m m')):WC E X Γ l g xs ts L K:=WO.Xl hx h hh kk
end Go.Pl
