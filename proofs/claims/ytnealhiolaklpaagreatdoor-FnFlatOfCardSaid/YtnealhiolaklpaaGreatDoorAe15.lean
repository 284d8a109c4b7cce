/- Lemmas of the proof. No conditions. -/
import Derived.Test.YtnealhiolaklpaaGreatDoorAe14
set_option maxRecDepth 100000
set_option maxHeartbeats 4000000
set_option linter.all false
open Bool renaming false->U,true->J
open Option renaming none->O,some->C
open List renaming length->Y
open Go.Value renaming slice->H,bool->M,int->I
open Go.Proofs.Tryz
open Nat (beq ble mul)
open Go.Result (andThen_ok)
open Go.Sem (run_bind)
open Go.Region (binds)
open List (replicate)
open Int (toNat)
open Go.Builtin (firstCells)
open Go.Instr (checkKey)
namespace Go.Pl
open Go Go.Ev Go.Lg Go.Proofs
variable {a:Int}{l:Kn}{L:cq}{s:St}{α:Type}{sz:Nat}{enc:au α sz}{e:TypeId}{p:List α}{c:Code}
def QL (s:St)(a:aP)(c:Nat)(p:cc)(V:Y p<=100000)(hn:dy s)(hr:bJ s a (Y p) 5 (ab p)):bM 234 [H a (Y p) c] s (ah a++[5,1]) (.tuple ⟨[sv ((fM p).getD []),M (fM p).isSome]⟩):=by
 have S:Rd ⟨s,([]:cq).flatMap It.bC,ah a++[5,1]⟩ a (Y p) 5 (ab p):=Rd.of hr λ_ hb=>im _ hb;have hd:lN ⟨s,([]:cq).flatMap It.bC,ah a++[5,1]⟩:=lN.of hn aq aq;have f:=λs hr=>QK s a c p V hr;by_cases N:Y p=4;cases B:p.all av with
 |true=>(have d:∀s,bJ s a (Y p) 5 (ab p)->bM 164 [H a (Y p) c,.func (.func 273) ⟨[]⟩ ⟨[]⟩] s (ah a) (M U):=λs hr=>by have:=f s hr;rwa[B] at this);(have e:fM p=O:=by unfold fM;rw[af aa];split<;>simp_all);rw[e];refine a8 f234 ?_;(repeat' first|(apply dG;exact aj;(intro s hr;exact d s hr);exact ax;intros)|refine' nJ|fail)
 |false=>
  (have d:∀s,bJ s a (Y p) 5 (ab p)->bM 164 [H a (Y p) c,.func (.func 273) ⟨[]⟩ ⟨[]⟩] s (ah a) (M J):=λs hr=>by have:=f s hr;rwa[B] at this);have cg:∀l:cc,Y (eQ [44] (l.map b9))<=25*Y l:=λl=>by
   induction l with
   |nil=>exact fG _
   |cons x l ih=>
    have h0:=Pg.je (p:=x);cases l with
    |nil=>show(b9 x).length<=_;simp;omega
    |cons y l=>show(b9 x++([44]++eQ [44] ((y::l).map b9))).length<=_;rw[dB,dB];simp only[fS,jm] at ih⊢;omega
  (have D:=λs a c=>NT s a c [44] (p.map b9) (by rw[fH];omega) (by rw[fH];omega) (by have:=cg p;omega));refine a8 f234 ?_;(repeat' first|(apply dG;exact aj;(intro s hr;exact d s hr);exact ax;intros)|refine' cY|fail);refine W.vv (e:=9) ?_;refine W.bu (λk l L=>∃(i:Nat)(j:aP)(m:Nat),Le [(4,H j (Y ((p.take i).map b9)) m),(15,H a (Y p) c),(16,iv (Y p:Int)),(17,iv (i:Int))] l/\cb [.aU (H j (Y ((p.take i).map b9)) m) 9 1 (ab ((p.take i).map b9))] L/\k=Y p-i/\i<=Y p/\∀x∈p.take i,aQ x=J) (λl L=>∃(j:aP)(m:Nat),Le [(4,H j (Y (p.map b9)) m)] l/\cb [.aU (H j (Y (p.map b9)) m) 9 1 (ab (p.map b9))] L/\∀x∈p,aQ x=J) _ ⟨0,_,_,bd,ak,rfl,aa,aq⟩ ?_ ?_
  .rintro k l L ⟨i,j,m,hl,Q,rfl,G,z⟩;refine' cP;by_cases hi:i<Y p;have u:p.take (i+1)=p.take i++[p.getD i au.ad]:=dS p au.ad hi;(have t:(p.take (i+1)).map b9=(p.take i).map b9++[b9 (p.getD i au.ad)]:=by rw[u,qR];rfl);(have T:Y ((p.take i).map b9)=i:=by rw[fH,de];omega);cases F:aQ (p.getD i au.ad) with
   |false=>(have w:(!aQ (p.getD i au.ad))=J:=by rw[F];rfl);(have e:fM p=O:=by unfold fM;rw[af aa,ai];rw[Cj];exact⟨_,a7 hi _,w⟩);rw[e];(repeat' first|(apply ag;exact aj;(first|exact λs=>eW s _|exact λs=>eW s ⟨_,_,_,_,_⟩);intros)|refine' nJ|fail)
   |true=>(have w:(!aQ (p.getD i au.ad))=U:=by rw[F];rfl);(repeat' first|(apply ag;exact aj;(first|exact λs=>eW s _|exact λs=>eW s ⟨_,_,_,_,_⟩);intros)|(apply bq;exact aj;assumption;(intro s h;first|exact qc s _ h|exact qc s ⟨_,_,_,_,_⟩ h);intros)|refine' cY|fail);all_goals exact⟨_,aa,i+1,_,_,by(rw[t];exact bd),by(rw[t];exact ak),rfl,aa,λx o=>by rw[u] at o;obtain o|o:=cG.1 o;exact z x o;rw[gI] at o;subst o;exact F⟩
   (have:i=Y p:=by omega);subst this;rw[lG] at z⊢;refine' iK;all_goals exact⟨_,_,bd,ak,z⟩
  rintro l L ⟨j,m,hl,Q,G⟩;refine' gh;have e:fM p=C (eQ [44] (p.map b9)):=by
   rw[Pg.zy N G B];have:∀l:List aw,gp 44 l=eQ [44] l:=λl=>by
    induction l with
    |nil=>rfl
    |cons x l ih=>
     cases l with
     |nil=>rfl
     |cons y l=>show x++44::gp 44 (y::l)=x++([44]++eQ [44] (y::l));rw[ih];rfl
   rw[this]
  rw[e];(repeat' first|(apply zF;exact aj;exact kD;(intro s hr hv;exact D s _ _ hr hv);intros)|refine' nJ|fail)
 have e:fM p=O:=by unfold fM;rw[ai N]
 rw[e];refine a8 f234 ?_;refine' qcy
end Go.Pl
