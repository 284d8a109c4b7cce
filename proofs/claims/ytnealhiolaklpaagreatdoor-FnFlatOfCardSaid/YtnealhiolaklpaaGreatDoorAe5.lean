/- Lemmas of the proof. No conditions. -/
import Derived.Test.YtnealhiolaklpaaGreatDoorAe4
set_option maxRecDepth 100000
set_option maxHeartbeats 4000000
set_option linter.all false
open Bool renaming false->U,true->J
open Option renaming none->O,some->C
open List renaming length->Y
open Go.Value renaming slice->H,bool->M,int->I
open Go.Proofs.Tryz
open Nat (beq ble mul)
open Go.Result (andThen_ok)
open Go.Sem (run_bind)
open Go.Region (binds)
open List (replicate)
open Int (toNat)
open Go.Builtin (firstCells)
open Go.Instr (checkKey)
namespace Go.Pl
open Go Go.Ev Go.Lg Go.Proofs
def doV (t:bt)(code:Int):Value->Value:=λV=>.tuple ⟨[V,tv t,iv code]⟩
def YP {o:Op}(h:wM o=J):(1<=o.kind/\o.kind<=7)/\Y o.b0<=24:=by refine' zap;rw[e] at h;simp only at h;split at h;cases h;rename_i a;split at h;cases h;rename_i c;simp only[fI,km,ep,gv,ra,not_or] at a c;refine⟨?_,aa⟩;have:=a.1.1.1;simpa using this
end Go.Pl
