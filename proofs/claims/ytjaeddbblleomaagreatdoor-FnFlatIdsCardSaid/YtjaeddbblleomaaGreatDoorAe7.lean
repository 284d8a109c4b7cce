/- Lemmas of the proof. No conditions. -/
import Derived.Test.YtjaeddbblleomaaGreatDoorAe6
set_option maxRecDepth 100000
set_option maxHeartbeats 4000000
set_option linter.unusedVariables false
set_option linter.unusedSimpArgs false
open Go.Proofs.Tryz
namespace Go.Pl
open Go Go.Ev Go.Lg Go.Proofs
theorem aaf (s:St)(br:Nat)(a:aH)(code:ay)(c p:Nat)(hc:code.length<=2000)(hp:p<=99000)(hr:uW s a code)(hm:∀i∈ai a,i∉[nU br a code.length c p].flatMap It.aS):
  Ht aU aW 24 [aP br] s br a code c p 2 pathIn:=by
 have hd:s9 ⟨s,[nU br a code.length c p].flatMap It.aS,ai a⟩ a code:=⟨hr,λb hb=>hb,hm⟩;refine aO f24 ?_;(repeat' (first|refine' aX|refine' AM|refine' ar|fail))
 all_goals try exact pb
 .exact KE (p':=mR) bB bj aq af ⟨_,rfl,di _ (aF (by simp only[dh,mD];omega) _)⟩
 .exact KE (p':=mR) bB bj aq af ⟨_,rfl,dH _ (aF (by simp only[dh,mD];omega) _)⟩
def txtIn (n:Int)(R:Value):Prop:=∃z:ay,R=sv z/\(z.length:Int)<=n
theorem aah (s:St)(br:Nat)(a:aH)(code:ay)(c p:Nat)(n:Int)(hc:code.length<=2000)(hp:p<=90000)(hn:0<=n/\n<=100)(hr:uW s a code)(hm:∀i∈ai a,i∉[nU br a code.length c p].flatMap It.aS):
  Ht aU aW 25 [aP br,iv n] s br a code c p 202 (txtIn n):=by
 have hd:s9 ⟨s,[nU br a code.length c p].flatMap It.aS,ai a⟩ a code:=⟨hr,λb hb=>hb,hm⟩;refine aO f25 ?_;(repeat(first|refine' wU|refine' AM|refine' ar|fail))
 rename_i many uN _ _ _ _ _ _ _;obtain⟨kind,hkind⟩:∃k,k=C8:=⟨_,rfl⟩;rw[<-hkind];refine W.bH (λk l L=>∃(q:ay)(a1:aH)(c1 p1:Nat),Le [(0,aP br),(6,iv many),(7,iv kind),(5,.slice a1 q.length c1)] l/\cr [nU br a code.length c p1,.aJ (.slice a1 q.length c1) 5 1 (ah q)] L/\k=(many-q.length).toNat/\(q.length:Int)<=many/\p1<=p+2+2*q.length)
                                                                                        (λl L=>∃(q:ay)(a1:aH)(c1 p1:Nat),Le [(5,.slice a1 q.length c1)] l/\cr [nU br a code.length c p1,.aJ (.slice a1 q.length c1) 5 1 (ah q)] L/\(q.length:Int)<=many/\p1<=p+2+2*q.length) _ ⟨[],_,_,mR,bd,aq,rfl,by simp only[mD];omega,af⟩ ?_ ?_
 .rintro k l L ⟨q,a1,c1,p1,hl,hL,rfl,h1,h2⟩;refine W.le ?_ hl hL;clear hl hL;(repeat' (first|refine' aX|refine' AM|((with_reducible apply WO.lit (α:=UInt8) (xs:=[97,98,126,48,58,59,61]));exact yo;exact rfl;exact rfl;intro bl _)|refine' ar|fail))
  all_goals try exact pb
  .refine⟨_,?_,q++[_],_,_,mR,bd,aq,rfl,?_,?_⟩<;>first|omega|(simp only[bR,dh,mD];omega)
  .refine⟨_,?_,q++[_],_,_,mR,bd,aq,rfl,?_,?_⟩<;>first|omega|(simp only[bR,dh,mD];omega)
  .refine W.bH (λk l L=>∃(q':ay)(a2:aH)(c2:Nat)(bb:UInt8)(j:Int),Le [(0,aP br),(6,iv many),(7,iv kind),(8,bv bb),(9,iv j),(5,.slice a2 q'.length c2)] l/\cr [nU br a code.length c mR,.aJ (.slice a2 q'.length c2) 5 1 (ah q')] L/\k=(j+1).toNat/\ -1<=j/\j<=100/\(q'.length:Int)<=many/\q.length<=q'.length/\(q'.length=q.length->0<=j))
    (λl L=>∃(q':ay)(a2:aH)(c2:Nat),Le [(0,aP br),(6,iv many),(7,iv kind),(5,.slice a2 q'.length c2)] l/\cr [nU br a code.length c mR,.aJ (.slice a2 q'.length c2) 5 1 (ah q')] L/\(q'.length:Int)<=many/\q.length<q'.length) _ ⟨q,a1,c1,_,_,bd,aq,rfl,af,af,af,af,af⟩ ?_ ?_
   .rintro k l L ⟨q',a2,c2,bb,j,hl,hL,rfl,g1,g2,g3,g4,g5⟩;refine W.le ?_ hl hL;clear hl hL;(refine' cO)
    all_goals try exact pb
    .refine⟨_,?_,q'++[bb],_,_,bb,j-1,bd,aq,rfl,?_,?_,?_,?_,?_⟩<;>first|omega|(simp only[bR,dh,mD];omega)
    all_goals exact⟨q',a2,c2,bd,aq,g3,af⟩
   .rintro l L ⟨q',a2,c2,hl,hL,g3,g4⟩;refine cP (cP (dC ?_));exact⟨_,af,q',a2,c2,mR,hl,hL,rfl,g3,af⟩
  .refine⟨_,?_,q++[_],_,_,mR,bd,aq,rfl,?_,?_⟩<;>first|omega|(simp only[bR,dh,mD];omega)
  .exact⟨q,a1,c1,p1,bd,aq,h1,h2⟩
 .rintro l L ⟨q,a1,c1,p1,hl,hL,h1,h2⟩;refine aj ?_;refine W.le ?_ hl hL;clear hl hL;(refine' cO)
  exact KE (p':=p1) bB bj aq af ⟨q,rfl,af⟩
theorem QK (s:St)(o:Op)(h1:o.ag.length<=90000)(h2:o.to.length<=90000)(h3:o.bh.length<=90000):bO 16 [ov o] s [] (.bool (iJ o)):=by
 refine' zar
 generalize iJ o=r at *
 refine aO f16 ?_;(repeat' (first|refine' aX|refine' M1|refine' zc21|refine' ar|fail))
 all_goals refine' zaB
 all_goals(rw[e];simp_all [gF,fR];try omega)
section
variable {E:dy}{X:dM}{Γ:gY}{l:Kn}{L:bn}{K:KO}{g:FuncId}{xs:List Operand}{ts:Array TypeId}{vs:aQ}{Q:Value->Prop}
abbrev XT (E:dy)(X:dM)(g:FuncId)(vs:aQ)(s:St)(Q:Value->Prop):Prop:=fI E X g vs s [] [] λR L=>Q R/\L=[]
theorem WO.callE (hx:ky l xs vs)(h:∀s,XT E X g vs s Q)(k:∀m m' r,Q r->kb L m->m<=m'->K r L m m' (λi=>i∈([]:List Nat)\/i∈([]:bn).flatMap It.aS\/(m<=i/\i<m')) (λi=>i∈([]:bn).flatMap It.aS\/(m<=i/\i<m'))):WO E X Γ l (.call ⟨.value (.func g),⟨xs⟩,ts⟩) L K:=
 WO.call (Lm:=[]) (R:=L) (A:=[]) hx (.refl _) (λs hi b hb=>by cases hb) (λs _=>h s) (by rintro r L' m m' ho hm ⟨h1,rfl⟩;exact k m m' r h1 ho hm)
end
theorem XU (z n:Nat):z*n=z*(n% 2)+(z+z)*(n/ 2):=by
 have h:n=2*(n/ 2)+n% 2:=(Nat.div_add_mod n 2).symm;generalize n/ 2=m at *
 generalize n% 2=r at *
 subst h;rw[Nat.mul_add,<-Nat.mul_assoc,FD z 2,Nat.two_mul,Nat.add_comm]
end Go.Pl
