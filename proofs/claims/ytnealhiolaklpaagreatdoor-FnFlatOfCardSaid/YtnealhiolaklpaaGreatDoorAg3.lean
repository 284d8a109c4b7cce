/- Lemmas of the proof. No conditions. -/
import Derived.Test.YtnealhiolaklpaaGreatDoorAg1
set_option maxRecDepth 100000
set_option maxHeartbeats 4000000
set_option linter.all false
open Bool renaming false->U,true->J
open Option renaming none->O,some->C
open List renaming length->Y
open Go.Value renaming slice->H,bool->M,int->I
open Go.Proofs.Tryz
open Nat (beq ble mul)
open Go.Result (andThen_ok)
open Go.Sem (run_bind)
open Go.Region (binds)
open List (replicate)
open Int (toNat)
open Go.Builtin (firstCells)
open Go.Instr (checkKey)
namespace Go.Pl
open Go Go.Ev Go.Lg Go.Proofs
variable {st:ae}{t:bt}
def Re (s:St)(v:SA)(st:ae)(h:tE st)(hr:jb s v st):bM 16 [eg v st] s (q7 v) (M (Pg.uW st)):=by
 have Z0:=Rd.gr hr;have hdf:=Rd.gf hr;have hdl:=Rd.gl hr;have hdg:=Rd.gg hr;have hdd:=Rd.gd hr;have hlr:=h.lr;have Q:=h.lf;have R:=h.ll;have ma:=h.gl;have ab5:=h.dl;have PW:=h.tx;have Sc:∀s,cr s v st->bM 37 [.agg ⟨[H v.f 64 v.fc,H v.l 64 v.lc]⟩] s (iB v) (M (Pg.V0 st.aI st.bW)):=λs hr=>QI s v st Q R hr;by_cases o:Pg.q6 st.aI st.bW/\(1<=st.dm/\st.dm<=900)/\(0<=st.iz/\st.iz<=st.dm-1);obtain⟨o,Z,h3⟩:=o;have p1:(!Pg.V0 st.aI st.bW)=U:=by rw[Pg.SJ o];rfl
 have p2:(!fI st.dm 1 900)=U:=by rw[qN Z];rfl
 have p3:(!fI st.iz 0 (st.dm-1))=U:=by rw[qN h3];rfl
 refine' zaU;refine W.bu (λk l L=>∃(i m:Nat),Le [(1,bk m),(3,iv (i:Int))] l/\cb [.box m (lL v st) 29 U] L/\k=64-i/\i<=64/\∀j,j<i->vw st j) (λl L=>∃(m:Nat),Le [(1,bk m)] l/\cb [.box m (lL v st) 29 U] L/\∀j,j<64->vw st j) _ ⟨0,_,bd,ak,rfl,aa,λj N=>by omega⟩ ?_ ?_
 .rintro k l L ⟨i,m,z,hL,rfl,h4,E⟩;refine' cP;by_cases hi:i<64
  .by_cases hs:vw st i
   ·(have B:∀j,j<i+1->vw st j:=λj N=>by by_cases w:j=i;subst w;exact hs;exact E j aa);rw[Io] at hs;have hle:=h.row i;refine' iK;all_goals first|exact⟨_,aa,i+1,_,bd,ak,rfl,aa,B⟩|(exfalso;rw[tT.2 hs.2.1,bne_self_eq_false] at sN;cases sN)
   rw[Pg.kc (λg=>hs ⟨(g.rw i hi).1,(g.rw i hi).2,g.la i hi⟩)];rw[Io] at hs;refine' iK;all_goals first|((refine' aC);rfl)|(exfalso;apply hs;exact⟨aa,tT.1 (bne_eq_false_iff_eq.1 hg),aa⟩)
  (have:i=64:=by omega);subst this;refine' iK;all_goals exact⟨_,bd,ak,E⟩
 rintro l L ⟨m,z,hL,h4⟩;refine' gh;refine' iK;(have e0:Pg.fE ((st.aS++st.bL).take 0)=replicate 64 0:=by rw[B9,Pg.EI]);(have A:∀r,r<64->0<=st.aI.getD r 0:=λr hr=>(o r hr).1);refine W.bu (λk l L=>∃(i m:Nat)(a:aP)(c:Nat),Le [(1,bk m),(4,H a 64 c),(5,iv (i:Int))] l/\cb [.box m (lL v st) 29 U,.aU (H a 64 c) 3 1 (ab (Pg.fE ((st.aS++st.bL).take i)))] L/\k=Y st.aS+Y st.bL-i/\i<=Y st.aS+Y st.bL/\(∀j,j<i->Pg.uV (oY st j) (oX st j))/\∀r,r<64->(Pg.mz ((st.aS++st.bL).take i) r:Int)<=st.aI.getD r 0) (λl L=>Pg.jO st) _ ⟨0,_,_,_,bd,by(rw[e0];exact ak),rfl,aa,λj N=>by omega,λr hr=>by rw[B9,Pg.Zj];exact A r hr⟩ ?_ ?_
 .rintro k l L ⟨i,m,a,c,z,hL,rfl,E,B,D⟩;refine' cP;by_cases hi:i<Y st.aS+Y st.bL;have d:=Vf hi;have cg:=Pg.qa ((st.aS++st.bL).take i);by_cases hs:Pg.uV (oY st i) (oX st i);(have h10:∀j,j<i+1->Pg.uV (oY st j) (oX st j):=λj N=>by by_cases w:j=i;subst w;exact hs;exact B j aa);by_cases b:i<Y st.aS;rw[vx b] at hs d;unfold oY at hs;rw[ai b] at hs;obtain⟨e,y,X⟩:=hs;have S:=oA e y;(have n:(!aQ (st.aS.getD i au.ad))=U:=by rw[e];rfl);have T:(Pg.fE ((st.aS++st.bL).take i)).getD (st.aS.getD i au.ad).row.toNat au.ad=(Pg.mz ((st.aS++st.bL).take i) (st.aS.getD i au.ad).row.toNat:Int):=Pg.qb _ aa;have u:=Pg.Kc ((st.aS++st.bL).take i) (st.aS.getD i au.ad).row.toNat;rw[de] at u;(have FA:(Pg.fE ((st.aS++st.bL).take i)).set (st.aS.getD i au.ad).row.toNat ((Pg.fE ((st.aS++st.bL).take i)).getD (st.aS.getD i au.ad).row.toNat au.ad+1)=Pg.fE ((st.aS++st.bL).take (i+1)):=by rw[d];exact Pg.zX ((st.aS++st.bL).take i) (st.aS.getD i au.ad) aa);(have Rh:((Pg.fE ((st.aS++st.bL).take i)).set (st.aS.getD i au.ad).row.toNat ((Pg.fE ((st.aS++st.bL).take i)).getD (st.aS.getD i au.ad).row.toNat au.ad+1)).getD (st.aS.getD i au.ad).row.toNat au.ad=(Pg.fE ((st.aS++st.bL).take i)).getD (st.aS.getD i au.ad).row.toNat au.ad+1:=by rw[eX,List.getElem?_set_self aa];rfl);(have h8:st.aI.getD (st.aS.getD i au.ad).row.toNat au.ad<(Pg.fE ((st.aS++st.bL).take i)).getD (st.aS.getD i au.ad).row.toNat au.ad+1->Pg.uW st=U:=λx=>Pg.kc λg=>by have V:=A6 g (i+1) (r:=(st.aS.getD i au.ad).row.toNat) aa;rw[d,Pg.l8,Pg.uX,ai rfl] at V;have:st.aI.getD (st.aS.getD i au.ad).row.toNat au.ad=st.aI.getD (st.aS.getD i au.ad).row.toNat 0:=rfl;omega);(have h9:¬st.aI.getD (st.aS.getD i au.ad).row.toNat au.ad<(Pg.fE ((st.aS++st.bL).take i)).getD (st.aS.getD i au.ad).row.toNat au.ad+1->∀r,r<64->(Pg.mz ((st.aS++st.bL).take (i+1)) r:Int)<=st.aI.getD r 0:=λx r hr=>by have F:=D r hr;rw[d,Pg.l8,Pg.uX];split;rename_i G;subst G;have:st.aI.getD (st.aS.getD i au.ad).row.toNat au.ad=st.aI.getD (st.aS.getD i au.ad).row.toNat 0:=rfl;omega;omega);refine' zaz;(have K:((i:Int)-(Y st.aS:Int)).toNat<Y st.bL:=by omega);rw[EJ b] at hs d;unfold oY at hs;rw[af b] at hs;obtain⟨e,y,X⟩:=hs;have S:=oA e y;(have n:(!aQ (st.bL.getD ((i:Int)-(Y st.aS:Int)).toNat au.ad))=U:=by rw[e];rfl);have T:(Pg.fE ((st.aS++st.bL).take i)).getD (st.bL.getD ((i:Int)-(Y st.aS:Int)).toNat au.ad).row.toNat au.ad=(Pg.mz ((st.aS++st.bL).take i) (st.bL.getD ((i:Int)-(Y st.aS:Int)).toNat au.ad).row.toNat:Int):=Pg.qb _ aa;have u:=Pg.Kc ((st.aS++st.bL).take i) (st.bL.getD ((i:Int)-(Y st.aS:Int)).toNat au.ad).row.toNat;rw[de] at u;(have FA:(Pg.fE ((st.aS++st.bL).take i)).set (st.bL.getD ((i:Int)-(Y st.aS:Int)).toNat au.ad).row.toNat ((Pg.fE ((st.aS++st.bL).take i)).getD (st.bL.getD ((i:Int)-(Y st.aS:Int)).toNat au.ad).row.toNat au.ad+1)=Pg.fE ((st.aS++st.bL).take (i+1)):=by rw[d];exact Pg.zX ((st.aS++st.bL).take i) (st.bL.getD ((i:Int)-(Y st.aS:Int)).toNat au.ad) aa);(have Rh:((Pg.fE ((st.aS++st.bL).take i)).set (st.bL.getD ((i:Int)-(Y st.aS:Int)).toNat au.ad).row.toNat ((Pg.fE ((st.aS++st.bL).take i)).getD (st.bL.getD ((i:Int)-(Y st.aS:Int)).toNat au.ad).row.toNat au.ad+1)).getD (st.bL.getD ((i:Int)-(Y st.aS:Int)).toNat au.ad).row.toNat au.ad=(Pg.fE ((st.aS++st.bL).take i)).getD (st.bL.getD ((i:Int)-(Y st.aS:Int)).toNat au.ad).row.toNat au.ad+1:=by rw[eX,List.getElem?_set_self aa];rfl);(have h8:st.aI.getD (st.bL.getD ((i:Int)-(Y st.aS:Int)).toNat au.ad).row.toNat au.ad<(Pg.fE ((st.aS++st.bL).take i)).getD (st.bL.getD ((i:Int)-(Y st.aS:Int)).toNat au.ad).row.toNat au.ad+1->Pg.uW st=U:=λx=>Pg.kc λg=>by have V:=A6 g (i+1) (r:=(st.bL.getD ((i:Int)-(Y st.aS:Int)).toNat au.ad).row.toNat) aa;rw[d,Pg.l8,Pg.uX,ai rfl] at V;have:st.aI.getD (st.bL.getD ((i:Int)-(Y st.aS:Int)).toNat au.ad).row.toNat au.ad=st.aI.getD (st.bL.getD ((i:Int)-(Y st.aS:Int)).toNat au.ad).row.toNat 0:=rfl;omega);(have h9:¬st.aI.getD (st.bL.getD ((i:Int)-(Y st.aS:Int)).toNat au.ad).row.toNat au.ad<(Pg.fE ((st.aS++st.bL).take i)).getD (st.bL.getD ((i:Int)-(Y st.aS:Int)).toNat au.ad).row.toNat au.ad+1->∀r,r<64->(Pg.mz ((st.aS++st.bL).take (i+1)) r:Int)<=st.aI.getD r 0:=λx r hr=>by have F:=D r hr;rw[d,Pg.l8,Pg.uX];split;rename_i G;subst G;have:st.aI.getD (st.bL.getD ((i:Int)-(Y st.aS:Int)).toNat au.ad).row.toNat au.ad=st.aI.getD (st.bL.getD ((i:Int)-(Y st.aS:Int)).toNat au.ad).row.toNat 0:=rfl;omega;omega);refine' zaz;rw[Pg.kc (λg=>hs (Kd g hi))];by_cases b:i<Y st.aS;rw[vx b] at hs;unfold oY at hs;rw[ai b] at hs;cases e:aQ (st.aS.getD i au.ad) with
  |false=>(have n:(!aQ (st.aS.getD i au.ad))=J:=by rw[e];rfl);refine' zan
  |true=>
   (have n:(!aQ (st.aS.getD i au.ad))=U:=by rw[e];rfl);cases y:av (st.aS.getD i au.ad) with
   |true=>refine' zan
   |false=>(have X:¬(st.aS.getD i au.ad).bE<=st.dm-1:=λh=>hs ⟨e,y,h⟩);refine' zan
  (have K:((i:Int)-(Y st.aS:Int)).toNat<Y st.bL:=by omega);rw[EJ b] at hs;unfold oY at hs;rw[af b] at hs;cases e:aQ (st.bL.getD ((i:Int)-(Y st.aS:Int)).toNat au.ad) with
  |false=>(have n:(!aQ (st.bL.getD ((i:Int)-(Y st.aS:Int)).toNat au.ad))=J:=by rw[e];rfl);refine' zan
  |true=>
   (have n:(!aQ (st.bL.getD ((i:Int)-(Y st.aS:Int)).toNat au.ad))=U:=by rw[e];rfl);cases y:av (st.bL.getD ((i:Int)-(Y st.aS:Int)).toNat au.ad) with
   |true=>refine' zan
   |false=>(have X:¬(st.bL.getD ((i:Int)-(Y st.aS:Int)).toNat au.ad).bE<=st.iz:=λh=>hs ⟨e,y,h⟩);refine' zan
  (have:i=Y st.aS+Y st.bL:=by omega);subst this;rw[za (by rw[dB];omega)] at D;refine' iK;all_goals exact NR o Z h3 h4 B D
 rintro l L hg;refine aJ ?_;refine W.le ?_ (Le.nil _) (cb.nil _);rw[Pg.yZ hg];refine' eR;refine' aC;rfl;rw[Pg.kc (λg=>o ⟨g.sp,g.tx,g.kp⟩)];refine a8 f16 ?_;(repeat' first|(apply eV;exact aj;exact λs hr=>Sc s hr;exact dO;intros)|refine' KF|refine' cY|fail);all_goals first|((refine' aC);rfl)|skip
 all_goals first|(exfalso;exact o ⟨Pg.SK.1 aT,aT,aT⟩)|skip
 all_goals skip
variable {E:hJ}{X:fb}{Γ:ng}{l:Kn}{L R:cq}{K:KO}{g:FuncId}{xs:List Operand}{ts:Array TypeId}{vs:aV}{v:SA}{f:Flat}
def OG (s:St)(v:SA)(st:ae)(h:cZ 100000 st)(t:bt)(a:dL st t=U)(hr:cr s v st):et aZ aW 41 [eg v st,tv t] s (iB v) 48 ([]:List cB) U:=by
 have e:=Rd.Bt hr;have c:=Rd.off hr;have d:=Rd.y8 hr;have b:(!dL st t)=J:=by rw[a];rfl
 refine a8 f41 ?_;repeat' first|refine' AG|refine' Mq|refine' qgb|fail
 all_goals exact CY bK bH ak rfl rfl
abbrev Rf (E:hJ)(X:fb)(g:FuncId)(vs:aV)(s:St)(A:List Nat):Prop:=eJ E X g vs s [] A λR L=>R= .tuple ⟨[.agg ⟨tq O 0 [] O 0 []⟩,M U]⟩/\L=[]
abbrev ZP (E:hJ)(X:fb)(g:FuncId)(vs:aV)(s:St)(A:List Nat)(f:Flat):Prop:=eJ E X g vs s [] A λR L=>∃a c a' c',R= .tuple ⟨[.agg ⟨tq a c f.names a' c' f.aB⟩,M J]⟩/\L=[jI a c f.names,q5 a' c' f.aB]
def VI (d:iu l xs vs)(h:∀s,cr s v st->Rf E X g vs s (iB v))(b:cJ Γ L v st)(k:∀m a,gk L m->m<=a->K (.tuple ⟨[.agg ⟨tq O 0 [] O 0 []⟩,M U]⟩) L m a (iI (iB v) [] m a) (iJ [] m a)):WC E X Γ l g xs ts L K:=
 cI (Lm:=[]) (R:=L) d (.refl _) (λs hi=>(b.row hi).2) (λs hi=>h s (b.row hi).1) (by rintro e L' m a c hm ⟨rfl,rfl⟩;exact k m a c hm)
def VJ (i:iu l xs vs)(h:∀s,cr s v st->ZP E X g vs s (iB v) f)(d:cJ Γ L v st)(k:∀m b a c a' c',gk L m->m<=b->K (.tuple ⟨[.agg ⟨tq a c f.names a' c' f.aB⟩,M J]⟩) (jI a c f.names::q5 a' c' f.aB::L) m b (iI (iB v) [] m b) (iJ [] m b)):WC E X Γ l g xs ts L K:=
 cI (Lm:=[]) (R:=L) i (.refl _) (λs hi=>(d.row hi).2) (λs hi=>h s (d.row hi).1) (by rintro j L' m b e hm ⟨a,c,a',c',rfl,rfl⟩;exact k m b a c a' c' e hm)
def ZQ (s:St)(v:SA)(st:ae)(h:cZ 100000 st)(t:bt)(hf:pI st t=O)(hr:cr s v st):Rf aZ aW 17 [eg v st,tv t] s (iB v):=by
 have m:=Rd.Bt hr;have j:=Rd.off hr;have k:=Rd.y8 hr;have e:fO st t=O:=by
  unfold pI at hf;cases c:fO st t with
  |none=>rfl
  |some all=>rw[c] at hf;cases hf
 have d:∀s,cr s v st->et aZ aW 41 [eg v st,tv t] s (iB v) 48 ([]:List cB) U:=λs hr=>by
  cases i:dL st t with
  |false=>exact OG s v st h t i hr
  |true=>have c:=H7 s v st h t (ee.of (Bool.and_eq_true_iff.1 i).1) hr;rwa[e] at c
 refine a8 f17 ?_;(repeat' first|refine' AG|(apply kU;exact aj;exact λs hr=>d s hr;exact dO;intro _ _ a b _ _)|refine' qgb|fail);all_goals exact⟨bK,_,[],bH,ak,rfl,rfl⟩
abbrev s8 (E:hJ)(X:fb)(g:FuncId)(vs:aV)(s:St)(A:List Nat)(st:ae)(t:bt):Prop:=eJ E X g vs s [] A λR L=>∃(a:aP)(c:Nat)(a':aP)(c':Nat)(F:Flat)(ok:Bool),R= .tuple ⟨[.agg ⟨tq a c F.names a' c' F.aB⟩,M ok]⟩/\L=[.aU (H a (Y F.names) c) 48 2 (ab F.names),.aU (H a' (Y F.aB) c') 50 3 (ab F.aB)]/\(ok=J↔Pg.jO st/\Pg.iM st t)/\F=if ok=J then fQ st t else⟨[],[]⟩
def Fm (s:St)(v:SA)(st:ae)(h:tE st)(t:bt)(hr:jb s v st):s8 aZ aW 6 [eg v st,tv t] s (q7 v) st t:=by
 have z:=Rd.gr hr;have w:=Rd.gf hr;have y:=Rd.gl hr;have x:=Rd.gg hr;have u:=Rd.gd hr;have a:=λs hr=>Re s v st h hr;by_cases hg:Pg.jO st
 .rw[Pg.yZ hg] at a;have d:∀s,jb s v st->bM 16 [eg v st] s (q7 v) (M J):=a;clear a;have n:=Kt h hg;by_cases m:Pg.iM st t
  .have r:∀s,cr s v st->ZP aZ aW 17 [eg v st,tv t] s (iB v) (fQ st t):=λs hr=>YK s v st n t (ee.of (Bool.and_eq_true_iff.1 m.1).1) _ (Ov m) hr;refine a8 f6 ?_;(repeat' first|refine' AG|(apply sg;exact aj;(exact d);(exact⟨cJ.mk ax ax ax,ax,ax⟩);intros)|(apply VJ;exact aj;(exact r);exact dO;intro _ _ i j b c _ _)|refine' qgb|fail);all_goals exact⟨bK,_,[jI i j (fQ st t).names,q5 b c (fQ st t).aB],bH,ak,i,j,b,c,fQ st t,J,rfl,rfl,⟨λ_=>⟨hg,m⟩,λ_=>rfl⟩,rfl⟩
  have o:∀s,cr s v st->Rf aZ aW 17 [eg v st,tv t] s (iB v):=λs hr=>ZQ s v st n t (Ow m) hr;refine a8 f6 ?_;refine W.lO (α:=cB) (e:=48) ?_;refine W.lO (α:=eF) (e:=50) ?_;(repeat' first|refine' AG|(apply sg;exact aj;(exact d);(exact⟨cJ.mk ax ax ax,ax,ax⟩);intros)|(apply VI;exact aj;(exact o);exact dO;intros)|refine' qgb|fail);all_goals exact⟨bK,_,[.aU (ew) 48 2 (ab ([]:List cB)),.aU (ew) 50 3 (ab ([]:ot))],bH,ak,O,0,O,0,⟨[],[]⟩,U,rfl,rfl,⟨λk=>(by cases k),λk=>absurd k.2 m⟩,rfl⟩
 rw[Pg.kc hg] at a;have d:∀s,jb s v st->bM 16 [eg v st] s (q7 v) (M U):=a;clear a;refine a8 f6 ?_;refine W.lO (α:=cB) (e:=48) ?_;refine W.lO (α:=eF) (e:=50) ?_;(repeat' first|refine' AG|(apply sg;exact aj;(exact d);(exact⟨cJ.mk ax ax ax,ax,ax⟩);intros)|refine' qgb|fail);all_goals exact⟨bK,_,[.aU (ew) 48 2 (ab ([]:List cB)),.aU (ew) 50 3 (ab ([]:ot))],bH,ak,O,0,O,0,⟨[],[]⟩,U,rfl,rfl,⟨λk=>(by cases k),λk=>absurd k.1 hg⟩,rfl⟩
end Go.Pl
