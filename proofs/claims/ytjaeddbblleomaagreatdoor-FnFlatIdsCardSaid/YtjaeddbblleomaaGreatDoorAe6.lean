/- Lemmas of the proof. No conditions. -/
import Derived.Test.YtjaeddbblleomaaGreatDoorAe5
set_option maxRecDepth 100000
set_option maxHeartbeats 4000000
set_option linter.unusedVariables false
set_option linter.unusedSimpArgs false
open Go.Proofs.Tryz
namespace Go.Pl
open Go Go.Ev Go.Lg Go.Proofs
section
variable {E:dy}{X:dM}{Γ:gY}{l:Kn}{L R:bn}{K:KO}{x y:Operand}{t t2:TypeId}{g:FuncId}{xs:List Operand}{ts:Array TypeId}{vs:aQ}{a:aH}{br c p d:Nat}{code:ay}{Q:Value->Prop}
theorem WO.xorI {m n:Int}(hx:Ev l x (iv m))(hy:Ev l y (iv n))(hm:0<=m/\m<4611686018427387904)(hn:0<=n/\n<4611686018427387904)(h:∀i,K (iv ((m.toNat^^^ n.toNat:Nat):Int)) L i i Z Z):WO E X Γ l (.binOp .xor t x y t2) L K:=
 WO.xor (m:=m.toNat) (n:=n.toNat) (by rw[xG hm.1];exact hx) (by rw[xG hn.1];exact hy) af af h
abbrev nU (br:Nat)(a:aH)(n c p:Nat):It:=.box br [.slice a n c,iv (p:Int)] 51 false
abbrev Ht (E:dy)(X:dM)(g:FuncId)(vs:aQ)(s:St)(br:Nat)(a:aH)(code:ay)(c p d:Nat)(Q:Value->Prop):Prop:=fI E X g vs s [nU br a code.length c p] (ai a) λR L=>∃p':Nat,p'<=p+d/\Q R/\L=[nU br a code.length c p']
theorem WO.Qb (hx:ky l xs vs)(hp:oz [nU br a code.length c p] L R)(hh:s9 Γ a code)(h:∀s,uW s a code->(∀i∈ai a,i∉[nU br a code.length c p].flatMap It.aS)->Ht E X g vs s br a code c p d Q)(k:∀m m' p' r,p'<=p+d->Q r->kb L m->m<=m'->K r (nU br a code.length c p'::R) m m' (λi=>i∈ai a\/i∈[nU br a code.length c p].flatMap It.aS\/(m<=i/\i<m')) (λi=>i∈[nU br a code.length c p].flatMap It.aS\/(m<=i/\i<m'))):WO E X Γ l (.call ⟨.value (.func g),⟨xs⟩,ts⟩) L K:=
 WO.call (Lm:=[nU br a code.length c p]) (R:=R) hx hp.cR (λs hi=>(hh.row (hi.cR hp.cR|>.sub ⟨R,.refl _,np _ _⟩)).2) (λs hi=>h s (hh.row (hi.cR hp.cR|>.sub ⟨R,.refl _,np _ _⟩)).1 (s9.apart hh (hi.cR hp.cR))) (by rintro r' L' m m' ho hm ⟨p',h1,h2,rfl⟩;exact k m m' p' r' h1 h2 ho hm)
theorem KE {rs:List ResultVar}{x:Ex}{p':Nat}{ws:aQ}(hx:x= .normal\/x= .ret)(hr:pV E l L rs ws)(hL:cr [nU br a code.length c p'] L)(hp:p'<=p+d)(hv:Q (gF ws)):
  ux E rs (λR L=>∃p':Nat,p'<=p+d/\Q R/\L=[nU br a code.length c p']) x l L:=⟨hx,ws,_,hr,hL,p',hp,hv,rfl⟩
end
def numIn (n:Int)(R:Value):Prop:=∃k:Int,R=iv k/\0<=k/\(1<=n->k<n)
theorem zd {x n:Int}(hx:0<=x)(hn:0<n):0<=x.tmod n/\x.tmod n<n:=⟨Int.tmod_nonneg _ hx,Int.tmod_lt_of_pos _ hn⟩
theorem aad (s:St)(br:Nat)(a:aH)(code:ay)(c p:Nat)(n:Int)(hc:code.length<=2000)(hp:p<=100000)(hn: -100000<=n/\n<=100000)(hr:uW s a code)(hm:∀i∈ai a,i∉[nU br a code.length c p].flatMap It.aS):
  Ht aU aW 23 [aP br,iv n] s br a code c p 1 (numIn n):=by
 have hd:s9 ⟨s,[nU br a code.length c p].flatMap It.aS,ai a⟩ a code:=⟨hr,λb hb=>hb,hm⟩;dsimp only[Ht,nU] at *
 by_cases PJ:n<1
 .refine aO f23 ?_;(repeat' (first|refine' aX|refine' Wb|refine' Wc|refine' ar|fail))
  all_goals try exact pb
  exact KE (p':=p+1) bB bj aq (cy _) ⟨0,rfl,af,af⟩
 .by_cases hl:code.length=0
  .refine aO f23 ?_;(repeat' (first|refine' aX|refine' Wb|refine' Wc|refine' ar|fail))
   all_goals try exact pb
   exact KE (p':=p+1) bB bj aq (cy _) ⟨0,rfl,af,af⟩
  .have hlp:0<(code.length:Int):=by omega
   have r1:=zd (x:=(p:Int)+1-1) (n:=code.length) af hlp;have r2:=zd (x:=((p:Int)+1-1)*7+3) (n:=code.length) af hlp;have b0:=(code.getD ((p:Int)+1-1).toNat c9.lW).toNat_lt;have b1:=(code.getD (((p:Int)+1-1).tmod code.length).toNat c9.lW).toNat_lt;have b2:=(code.getD ((((p:Int)+1-1)*7+3).tmod code.length).toNat c9.lW).toNat_lt;have q1:0<=((p:Int)+1-1).tdiv code.length:=Int.tdiv_nonneg af af;have q2:((p:Int)+1-1).tdiv code.length<=(p:Int)+1-1:=Int.tdiv_le_self _ af;have q3:0<=(((code.getD (((p:Int)+1-1).tmod code.length).toNat c9.lW).toNat:Int)*131+((code.getD ((((p:Int)+1-1)*7+3).tmod code.length).toNat c9.lW).toNat:Int)*1117+((p:Int)+1-1)*29+((p:Int)+1-1).tdiv code.length*53).tdiv 64/\(((code.getD (((p:Int)+1-1).tmod code.length).toNat c9.lW).toNat:Int)*131+((code.getD ((((p:Int)+1-1)*7+3).tmod code.length).toNat c9.lW).toNat:Int)*1117+((p:Int)+1-1)*29+((p:Int)+1-1).tdiv code.length*53).tdiv 64<=(((code.getD (((p:Int)+1-1).tmod code.length).toNat c9.lW).toNat:Int)*131+((code.getD ((((p:Int)+1-1)*7+3).tmod code.length).toNat c9.lW).toNat:Int)*1117+((p:Int)+1-1)*29+((p:Int)+1-1).tdiv code.length*53):=⟨Int.tdiv_nonneg af af,Int.tdiv_le_self _ af⟩;refine aO f23 ?_;(repeat' (first|refine' aX|refine' Wb|refine' Wc|refine' ar|fail))
   all_goals try exact pb
   all_goals exact KE (p':=p+1) bB bj aq (cy _) ⟨_,rfl,(zd af af).1,λ_=>(zd af af).2⟩
def xp:List ay:=[[],[97],[47,47],[47,97,47],[47,65],[47,97,47,98,47,99,47,97,47,98],[47,97,98,99,100,101],[47,97,47,47,98]]++[[47,97],[47,98],[47,97,47,98],[47,97,47,99],[47,98,47,97],[47,99],[47,97,47,98,47,99],[47,99,47,97],[47,97,98],[47]]
def pathIn (R:Value):Prop:=∃z:ay,R=sv z/\z∈xp
end Go.Pl
