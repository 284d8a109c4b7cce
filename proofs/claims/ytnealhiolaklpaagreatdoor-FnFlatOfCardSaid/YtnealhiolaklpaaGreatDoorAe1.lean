/- Lemmas of the proof. No conditions. -/
import Derived.Test.YtnealhiolaklpaaGreatDoorAc1
set_option maxRecDepth 100000
set_option maxHeartbeats 4000000
set_option linter.all false
open Bool renaming false->U,true->J
open Option renaming none->O,some->C
open List renaming length->Y
open Go.Value renaming slice->H,bool->M,int->I
open Go.Proofs.Tryz
open Nat (beq ble mul)
open Go.Result (andThen_ok)
open Go.Sem (run_bind)
open Go.Region (binds)
open List (replicate)
open Int (toNat)
open Go.Builtin (firstCells)
open Go.Instr (checkKey)
namespace Go
variable{P:Prop}
def VW (h:P:=by
 all_goals(refine FP (v':=v) bK bH ak ?_ (λhc=>(by cases hc));rfl)
 all_goals obtain h:=_;exact h):P:=h
def zam (h:P:=by
 have PZ:∀VX a c s,bJ s a es2.length 2 (ab es2)->(∀j∈ah a,j∉(kE b VX f1).flatMap It.bC)->Ht 175 [bk b,iv bD,.slice a es2.length c] s (kE b VX f1) (ah a) λR L=>∃v':SA,R= .tuple ⟨[]⟩/\L=kE b v' (Fs.bz f1 bD es2):=λVX a c s hr hm=>
  pX s b VX f1 (Lh.mono aa) bD rK a c es2 aa hab.2 hr hm
 generalize Fs.bz f1 bD es2=f2 at *
 all_goals obtain h:=_;exact h):P:=h
def zap (h:P:=by
 have e:wM o=(let two:=decide (o.kind=6)||decide (o.kind=7)
   let at2:=decide (o.kind=3)||decide (o.kind=4)
   if !fI o.kind 1 7||!bQ o.ar||(two&&!bQ o.dF)||(!two&&decide (o.dF≠[])) then false
   else if(decide (o.kind≠3)&&decide (o.b0≠[]))||decide (24<o.b0.length) then false
   else decide (o.bD=0)||(at2&&fI o.bD 0 192)):=rfl
 all_goals obtain h:=_;exact h):P:=h
def zaq (h:P:=by
 have agy:((ble (Nat.succ c) cl&&ble p.length c)||(ble cl c&&beq o (c-cl)&&beq e 9))=true:=by rcases hv with⟨h,_⟩|⟨b',o',cs',w',h3,h4,h5,h6⟩;cases h;cases h3;rw[hg] at h5;(cases h5);rcases h6 with⟨h6,h7⟩|⟨_,h6,h7,_⟩;rw[dQ (show Nat.succ c<=cl from h7),dQ h6];rfl;rw[dQ h6,h7,sh,kY,kY,km];exact .inr rfl
 all_goals obtain h:=_;exact h):P:=h
def zar (h:P:=by
 all_goals exact⟨by(first|exact .inl rfl|exact .inr rfl),_,[.aU (ew) 9 1 (ab ([]:List aw))],bH,ak,none,0,rfl,rfl⟩
 all_goals obtain h:=_;exact h):P:=h
def zas (h:P:=by obtain⟨⟨fB,t2,dz⟩,code⟩:=r;simp only at lM BD;by_cases VY:code=0;all_goals obtain h:=_;exact h):P:=h
def zat (h:P:=by
 obtain⟨ks,hm,hk⟩:=x4 t xs _ h;have h1:(t=50/\ks=[0,2,1])\/(t=31/\ks=[0,0,0,0,0])\/(t=48/\ks=[1,0]):=by
  have h0:(t=31/\ks=[0,0,0,0,0])\/(t=48/\ks=[1,0])\/(t=50/\ks=[0,2,1]):=by simpa[aZ] using hm
  rcases h0 with h0|h0|h0;exact .inr (.inl h0);exact .inr (.inr h0);exact .inl h0
 rcases h1 with h0|h0|h0;all_goals obtain h:=_;exact h):P:=h
def zau (h:P:=by rw[e];refine a8 f272 ?_;(repeat' first|(apply ag;exact aj;(first|exact λs=>eW s _|exact λs=>eW s ⟨_,_,_,_,_⟩);intros)|(apply ag;exact aj;(first|exact λs=>bO s _|exact λs=>bO s ⟨_,_,_,_,_⟩);intros)|refine' nJ|fail);all_goals obtain h:=_;exact h):P:=h
def zaA (h:P:=by
 have e3:rest=fu x.length++58::(x++fieldsOf l'):=by rw[e2,cS];simp
 have hd:=YL x.length (c:=58) rfl;have e4:eb 58 rest=fu x.length:=by rw[e3];exact sc hd
 have e5:lD 58 rest=x++fieldsOf l':=by rw[e3];exact Eg hd
 all_goals obtain h:=_;exact h):P:=h
def zaB (h:P:=by show(Op.equalIn (9998+1) t _ _).run prog w=_;unfold Op.equalIn;simp only[run_bind,run_underlying h,andThen_ok,iO,Sem.run_pure];all_goals obtain h:=_;exact h):P:=h
def zaH (h:P:=by
 have lM:iR st t o=(fB,t2,0):=lM;rw[lM];refine a8 f64 ?_;dsimp only[db];refine' Mz;all_goals try refine PN
 all_goals(refine FP (v':=FQ) bK bH ak ?_ (λhc=>(by cases hc));rfl)
 all_goals obtain h:=_;exact h):P:=h
def zaV (h:P:=by
 simp only;generalize Fs.put ⟨fB,t,!ok⟩ k n2=f2 at *
 have ha2:0<=o.bD/\o.bD<=192:=by omega
 have h32:¬192<o.bD+(o.b0.length:Int):=by omega
 all_goals obtain h:=_;exact h):P:=h
end Go
