/- Lemmas of the proof. No conditions. -/
import Derived.Test.YtnealhiolaklpaaGreatDoorAc1
set_option maxRecDepth 100000
set_option maxHeartbeats 4000000
set_option linter.all false
open Bool renaming false->U,true->J
open Option renaming none->O,some->C
open List renaming length->Y
open Go.Value renaming slice->H,bool->M,int->I
open Go.Proofs.Tryz
open Nat (beq ble mul)
open Go.Result (andThen_ok)
open Go.Sem (run_bind)
open Go.Region (binds)
open List (replicate)
open Int (toNat)
open Go.Builtin (firstCells)
open Go.Instr (checkKey)
namespace Go
variable{P:Prop}
def zaa (h:P:=by
 have hdb:Rd ⟨s,([]:cq).flatMap It.bC,mL b v++[5,1]⟩ (ko b) 1 8 (lL v st):=Rd.of hr.b λ_ hb=>by simp[ah] at hb;subst hb;simp
 have Z0:Rd ⟨s,([]:cq).flatMap It.bC,mL b v++[5,1]⟩ v.r 64 1 (ab st.dV):=Rd.of hr.w.r λ_ hb=>im _ (dI _ (uO hb));have hdf:Rd ⟨s,([]:cq).flatMap It.bC,mL b v++[5,1]⟩ v.f 64 1 (ab st.aI):=Rd.of hr.w.f λ_ hb=>im _ (dI _ (uP hb));have hdl:Rd ⟨s,([]:cq).flatMap It.bC,mL b v++[5,1]⟩ v.l 64 1 (ab st.bW):=Rd.of hr.w.l λ_ hb=>im _ (dI _ (uQ hb));all_goals obtain h:=_;exact h):P:=h
def zab (h:P:=by have Z0:Rd ⟨s,([]:cq).flatMap It.bC,q7 v++[5,1]⟩ v.r 64 1 (ab st.dV):=Rd.of hr.w.r λ_ hb=>im _ (im _ (uO hb));have hdf:Rd ⟨s,([]:cq).flatMap It.bC,q7 v++[5,1]⟩ v.f 64 1 (ab st.aI):=Rd.of hr.w.f λ_ hb=>im _ (im _ (uP hb));have hdl:Rd ⟨s,([]:cq).flatMap It.bC,q7 v++[5,1]⟩ v.l 64 1 (ab st.bW):=Rd.of hr.w.l λ_ hb=>im _ (im _ (uQ hb));have hdg:Rd ⟨s,([]:cq).flatMap It.bC,q7 v++[5,1]⟩ v.g st.aS.length 5 (ab st.aS):=Rd.of hr.g λ_ hb=>im _ (dt _ (im _ hb));have hdd:Rd ⟨s,([]:cq).flatMap It.bC,q7 v++[5,1]⟩ v.d st.bL.length 5 (ab st.bL):=Rd.of hr.d λ_ hb=>im _ (dt _ (dt _ hb));all_goals obtain h:=_;exact h):P:=h
def zaf (h:P:=by obtain⟨⟨t1,t2,t3,t4,t5⟩,t6,t7⟩:=tt;(repeat' first|(apply xq;exact aj;assumption;(intro s h hr;exact FN s _ _ hr h);exact ax;intros)|(apply bq;exact aj;assumption;(intro s h;first|exact hnp s h|exact qO s ⟨_,_,_,⟨⟨_,_,_,_,_⟩,_,_⟩⟩ h);intros)|refine' nJ|fail);all_goals obtain h:=_;exact h):P:=h
def zah (h:P:=by
 all_goals first|(exfalso;omega;done)|contradiction|(exfalso;rw[OR] at hc;cases hc;done)|skip
 rw[OR];(repeat' first|refine' AG|(apply BF;exact bN;(repeat(first|exact dt _ NU|apply dI));(exact rfl);intro _)|(apply uu;exact bN;(repeat(first|exact dt _ NU|apply dI));(exact rfl);intro _)|(apply sd;exact aj;assumption;(exact VS);(exact eh.mk ax (cJ.mk ax ax ax));intros)|(apply mA;exact aj;assumption;(exact heg);intro _ _ abX abY _ _)|refine' qgb|fail);all_goals exact⟨bK,_,[],bH,cb.nil _,.inr ⟨IW,rfl,rfl⟩⟩
 all_goals obtain h:=_;exact h):P:=h
def zai (h:P:=by refine a8 f84 ?_;(repeat' first|(apply ag;exact aj;(exact hwi);intros)|(apply QM;exact bN;exact bN;assumption;exact mv;intro _)|(apply uZ;exact bN;assumption;exact mv;(exact VV);intro _)|refine' Bp|refine' nJ|fail);all_goals obtain h:=_;exact h):P:=h
def zak (h:P:=by
 all_goals first|(exfalso;omega;done)|contradiction|(exfalso;rw[OR] at hc;cases hc;done)|skip
 rw[OR];(repeat' first|refine' AG|(apply BF;exact bN;(repeat(first|exact dt _ NU|apply dI));(exact rfl);intro _)|(apply uu;exact bN;(repeat(first|exact dt _ NU|apply dI));(exact rfl);intro _)|(apply sd;exact aj;assumption;(exact PW);(exact eh.mk ax (cJ.mk ax ax ax));intros)|refine' qgb|fail);all_goals obtain h:=_;exact h):P:=h
def zav (h:P:=by
 (repeat' first|(apply ag;exact aj;exact λs=>eW s ⟨_,_,_,_,_⟩;intros)|(apply ag;exact aj;exact λs=>bO s ⟨_,_,_,_,_⟩;intros)|refine' cY|fail);all_goals exact⟨bK,_,_,bH,ak,.inr ⟨rfl,hq,_,cg,rfl⟩⟩
 all_goals obtain h:=_;exact h):P:=h
def zaw (h:P:=by
 all_goals exact⟨bK,_,[],bH,cb.nil _,.inr ⟨IW,rfl,rfl⟩⟩
 all_goals obtain h:=_;exact h):P:=h
def zay (h:P:=by
 all_goals first|(exfalso;omega;done)|contradiction|(exfalso;simp at *;done)|skip
 all_goals obtain h:=_;exact h):P:=h
def zaG (h:P:=by
 all_goals exact⟨bK,_,[.aU (ew) 31 5 (ab ([]:cc))],bH,ak,none,0,rfl,rfl⟩
 all_goals obtain h:=_;exact h):P:=h
def zaJ (h:P:=by have hd:lN ⟨s,([]:cq).flatMap It.bC,ah a++[5,1]⟩:=lN.of hn aq aq;have hdp:Rd ⟨s,([]:cq).flatMap It.bC,ah a++[5,1]⟩ a p.length 1 (ab p):=Rd.of hr λ_ hb=>im _ hb;all_goals obtain h:=_;exact h):P:=h
def zaK (h:P:=by
 all_goals exact⟨bK,_,[.aU (ew) 68 1 (ab ([]:List (aP)))],bH,ak,[],none,0,rfl,rfl,rfl⟩
 all_goals obtain h:=_;exact h):P:=h
def zaW (h:P:=by rw[rW];rw[nz (g:=λ_=>0) λa _=>by rcases tG (cE j (aY G a)) with h|h;exact h;exact absurd ⟨a,h⟩ hex];exact sM 16;all_goals obtain h:=_;exact h):P:=h
def zaY (h:P:=by have F1:jF ⟨s,([]:cq).flatMap It.bC,nD P⟩ P:=jF.of hr λ_ hb=>hb;all_goals obtain h:=_;exact h):P:=h
end Go
