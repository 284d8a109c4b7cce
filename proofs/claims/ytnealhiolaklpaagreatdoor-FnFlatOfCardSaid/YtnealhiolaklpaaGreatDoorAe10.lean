/- Lemmas of the proof. No conditions. -/
import Derived.Test.YtnealhiolaklpaaGreatDoorAe9
set_option maxRecDepth 100000
set_option maxHeartbeats 4000000
set_option linter.all false
open Bool renaming false->U,true->J
open Option renaming none->O,some->C
open List renaming length->Y
open Go.Value renaming slice->H,bool->M,int->I
open Go.Proofs.Tryz
open Nat (beq ble mul)
open Go.Result (andThen_ok)
open Go.Sem (run_bind)
open Go.Region (binds)
open List (replicate)
open Int (toNat)
open Go.Builtin (firstCells)
open Go.Instr (checkKey)
namespace Go.Pl
open Go Go.Ev Go.Lg Go.Proofs
variable {a a':aP}{c c':Nat}{s:St}
def aiR {s a c a' c' f i A B}(h:IfH s a a' f i A)(y z D F){t:Nat}(ht:Jh f.aB (f.names.getD i au.ad).id=C t)(N:¬9<IfT f i A)(d:(f.aB.getD t au.ad).ej=J->¬1<IfT f i A)
  (u:(0<i/\bP (f.names.getD ((i:Int)-1).toNat au.ad).ar (f.names.getD i au.ad).ar=J/\(cO A.fo (bS (f.names.getD i au.ad).ar).1).getD U=J/\bG (bS (f.names.getD i au.ad).ar).2=J/\¬12<IfI f i A/\B=⟨ig A.li (f.names.getD i au.ad).id ((cO A.li (f.names.getD i au.ad).id).getD 0+1),ig A.xB (bS (f.names.getD i au.ad).ar).1 ((cO A.xB (bS (f.names.getD i au.ad).ar).1).getD 0+1),ig A.fo (f.names.getD i au.ad).ar (f.aB.getD t au.ad).ej⟩)\/(¬0<i/\B=⟨ig A.li (f.names.getD i au.ad).id ((cO A.li (f.names.getD i au.ad).id).getD 0+1),A.xB,ig A.fo (f.names.getD i au.ad).ar (f.aB.getD t au.ad).ej⟩)):agF s a c a' c' f y z D F i A B:=by
 obtain⟨hf,hr,hs,hi,g2⟩:=h;intro Q v;unfold IfW IfK IfM;unfold IfT at N d;unfold IfI at u;refine W.U1 rfl rfl ?_;have Z:=YY.n hr;have hdt:=YY.t hr;have RM:=hf.tl;have ON:=hf.nl;have x:=(hf.nm _ (a7 hi au.ad)).1;have hxl:=x.1;have T:=Qo (f.names.getD i au.ad).ar;have V:∀e∈(bS (f.names.getD i au.ad).ar).2,e.toNat<128:=λe m=>x.2.1 e (Qh _ e m);have j:=agD f.names i (bS (f.names.getD i au.ad).ar).1;have k:=agE f.names i (f.names.getD i au.ad).id;rw[<-g2.xB] at j;rw[<-g2.li] at k;have hii:((i:Int)-1).toNat=i-1:=by omega
 have w:=aeo ht;have hth:∀s b,Qp s b a c f.names a' c' f.aB->bM 23 [bk b,iv (f.names.getD i au.ad).id] s (flP b a a') (fY a' t 3 0):=λs b hr=>by have:=Y2 s b a c f.names a' c' f.aB hs aa (f.names.getD i au.ad).id hr;rwa[ht] at this
 have o:=qJ (f.names.getD ((i:Int)-1).toNat au.ad).ar (f.names.getD i au.ad).ar;clear hr hf hs g2;have key:((f.aB.getD t au.ad).ej=J/\¬1<(cO (ig A.li (f.names.getD i au.ad).id ((cO A.li (f.names.getD i au.ad).id).getD 0+1)) (f.names.getD i au.ad).id).getD 0)\/(f.aB.getD t au.ad).ej=U:=by
  cases h:(f.aB.getD t au.ad).ej with
  |true=>exact .inl ⟨rfl,d h⟩
  |false=>exact .inr rfl
 clear d;obtain⟨S,c6⟩|S:=key<;>obtain⟨h0,G,c2,c3,c7,rfl⟩|⟨h0,rfl⟩:=u;all_goals dsimp only[IfK,IfM] at v
 all_goals(try rw[G] at o)
 all_goals refine' agq
 all_goals try refine z_2
 all_goals exact v _ _ bd ak
end Go.Pl
