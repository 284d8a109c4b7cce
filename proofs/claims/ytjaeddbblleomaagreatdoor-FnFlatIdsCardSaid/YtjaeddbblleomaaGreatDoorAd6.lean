/- Lemmas of the proof. No conditions. -/
import Derived.Test.YtjaeddbblleomaaGreatDoorAd5
set_option maxRecDepth 100000
set_option maxHeartbeats 4000000
set_option linter.unusedVariables false
set_option linter.unusedSimpArgs false
open Go.Proofs.Tryz
namespace Go.Pl
open Go Go.Ev Go.Lg Go.Proofs
section
variable {E:dy}{X:dM}{Γ:gY}{l:Kn}{L R:bn}{K:KO}{g g2:FuncId}{xs:List Operand}{ts:Array TypeId}{vs:aQ}{b n n' n1 n2 b3 sz2 nn:Nat}{a a':aH}{c c':Nat}{p:dx}{q:eV}{cs2:aQ}{r:Value}{P:dx}{Q:eV}
theorem WO.callSo {N N':Nat}(hx:ky l xs [aP b])(hp:oz [.box b [.slice a n c,.slice a' n' c'] 26 false,.aJ (.slice a N c) 70 2 (ah p),.aJ (.slice a' N' c') 37 3 (ah q)] L R)(hN:N=p.length)(hN':N'=q.length)(hP:p.take n=P)(hQ:q.take n'=Q)(hn:n<=p.length)(hn':n'<=q.length)(h:∀s,fI E X g [aP b] s (vv b a n c p a' n' c' q) [] λR L=>R= .tuple ⟨[]⟩/\L=vv b a n c (Ev.iF (p.take n)++p.drop n) a' n' c' (Ev.ja (q.take n')++q.drop n'))
  (k:∀m m' p2 q2,kb L m->m<=m'->n<=p2.length->p2.take n=Ev.iF P->n'<=q2.length->q2.take n'=Ev.ja Q->K (.tuple ⟨[]⟩) (vv b a n c p2 a' n' c' q2++R) m m' (λi=>i∈([]:List Nat)\/i∈(vv b a n c p a' n' c' q).flatMap It.aS\/(m<=i/\i<m')) (λi=>i∈(vv b a n c p a' n' c' q).flatMap It.aS\/(m<=i/\i<m'))):WO E X Γ l (.call ⟨.value (.func g),⟨xs⟩,ts⟩) L K:=by
 subst hN hN';exact WO.call (Lm:=vv b a n c p a' n' c' q) (R:=R) (A:=[]) hx hp.cR (λs hi b hb=>by cases hb) (λs hi=>h s) (by
  rintro r' L' m m' ho hm ⟨rfl,rfl⟩;have e1:(Ev.iF (p.take n)).length=n:=by rw[vt,dg];omega
  have e2:(Ev.ja (q.take n')).length=n':=by rw[vu,dg];omega
  refine k m m' _ _ ho hm ?_ ?_ ?_ ?_
  .rw[bR,e1];omega
  .rw[BZ af,q9 af,hP]
  .rw[bR,e2];omega
  .rw[BZ af,q9 af,hQ])
theorem WO.Qu {α:Type}{sz e:Nat}{enc:c9 α sz}{p f:List α}(hx:ky l xs [.slice a p.length c,.func (.func g2) ⟨[]⟩ ⟨[aP b3]⟩])(hp:oz [It.aJ (.slice a p.length c) e sz (ah (sz:=sz) p)] L R)(hh:jR Γ R (jF b3) nn sz2 cs2)
  (h:∀s,bM s (jF b3) nn sz2 cs2->b3∉[It.aJ (.slice a p.length c) e sz (ah (sz:=sz) p)].flatMap It.aS->fI E X g [.slice a p.length c,.func (.func g2) ⟨[]⟩ ⟨[aP b3]⟩] s [It.aJ (.slice a p.length c) e sz (ah (sz:=sz) p)] (ai (jF b3)) λR L=>∃p':List α,p'.length=p.length/\p'.take f.length=f/\R= .slice a f.length c/\L=[It.aJ (.slice a p.length c) e sz (ah (sz:=sz) p')])
  (k:∀m m' (p':List α),kb L m->m<=m'->p'.length=p.length->p'.take f.length=f->Sub sz a p' a f->K (.slice a f.length c) (It.aJ (.slice a p'.length c) e sz (ah (sz:=sz) p')::R) m m' (λi=>i∈ai (jF b3)\/i∈[It.aJ (.slice a p.length c) e sz (ah (sz:=sz) p)].flatMap It.aS\/(m<=i/\i<m')) (λi=>i∈[It.aJ (.slice a p.length c) e sz (ah (sz:=sz) p)].flatMap It.aS\/(m<=i/\i<m'))):WO E X Γ l (.call ⟨.value (.func g),⟨xs⟩,ts⟩) L K:=
 WO.call (Lm:=[It.aJ (.slice a p.length c) e sz (ah (sz:=sz) p)]) (R:=R) hx hp.cR (λs hi=>(hh.row (hi.cR hp.cR|>.sub ⟨R,.refl _,np _ _⟩)).2) (λs hi=>h s (hh.row (hi.cR hp.cR|>.sub ⟨R,.refl _,np _ _⟩)).1 (jR.apart hh (hi.cR hp.cR) _ (by simp[ai]))) (by
   rintro r' L' m m' ho hm ⟨p',h1,h2,rfl,rfl⟩;have h3:f.length<=p'.length:=by
    have:=gb List.length h2;rw[dg] at this;omega
   have:=k m m' p' ho hm h1 h2 ⟨⟨0,f.length,by rw[B1,h2],af,⟨.inl (by rw[HO,ZW])⟩⟩⟩
   rwa [h1] at this)
theorem WO.VY {k1 k2:Int}{z1 z2 z3:ay}{t3:TypeId}{w3:Bool}{α:Type}{sz e:Nat}{enc:c9 α sz}{p f:List α}(hx:ky l xs [.slice a p.length c,.func (.func g2) ⟨[]⟩ ⟨[aP b3]⟩])(hp:oz [It.aJ (.slice a p.length c) e sz (ah (sz:=sz) p)] L R)(hm3:It.box b3 [iv k1,sv z1,sv z2,iv k2,sv z3] t3 w3∈R)
  (h:∀s,bM s (jF b3) 1 5 [iv k1,sv z1,sv z2,iv k2,sv z3]->b3∉[It.aJ (.slice a p.length c) e sz (ah (sz:=sz) p)].flatMap It.aS->fI E X g [.slice a p.length c,.func (.func g2) ⟨[]⟩ ⟨[aP b3]⟩] s [It.aJ (.slice a p.length c) e sz (ah (sz:=sz) p)] (ai (jF b3)) λR L=>∃p':List α,p'.length=p.length/\p'.take f.length=f/\R= .slice a f.length c/\L=[It.aJ (.slice a p.length c) e sz (ah (sz:=sz) p')])
  (k:∀m m' (p':List α),kb L m->m<=m'->p'.length=p.length->p'.take f.length=f->Sub sz a p' a f->K (.slice a f.length c) (It.aJ (.slice a p'.length c) e sz (ah (sz:=sz) p')::R) m m' (λi=>i∈ai (jF b3)\/i∈[It.aJ (.slice a p.length c) e sz (ah (sz:=sz) p)].flatMap It.aS\/(m<=i/\i<m')) (λi=>i∈[It.aJ (.slice a p.length c) e sz (ah (sz:=sz) p)].flatMap It.aS\/(m<=i/\i<m'))):WO E X Γ l (.call ⟨.value (.func g),⟨xs⟩,ts⟩) L K:=
 WO.Qu hx hp (jR.box (n:=1) hm3 rfl rfl) h k
theorem WO.VZ {k1:Int}{t3:TypeId}{w3:Bool}{α:Type}{sz e:Nat}{enc:c9 α sz}{p f:List α}(hx:ky l xs [.slice a p.length c,.func (.func g2) ⟨[]⟩ ⟨[aP b3]⟩])(hp:oz [It.aJ (.slice a p.length c) e sz (ah (sz:=sz) p)] L R)(hm3:It.box b3 [iv k1] t3 w3∈R)
  (h:∀s,bM s (jF b3) 1 1 [iv k1]->b3∉[It.aJ (.slice a p.length c) e sz (ah (sz:=sz) p)].flatMap It.aS->fI E X g [.slice a p.length c,.func (.func g2) ⟨[]⟩ ⟨[aP b3]⟩] s [It.aJ (.slice a p.length c) e sz (ah (sz:=sz) p)] (ai (jF b3)) λR L=>∃p':List α,p'.length=p.length/\p'.take f.length=f/\R= .slice a f.length c/\L=[It.aJ (.slice a p.length c) e sz (ah (sz:=sz) p')])
  (k:∀m m' (p':List α),kb L m->m<=m'->p'.length=p.length->p'.take f.length=f->Sub sz a p' a f->K (.slice a f.length c) (It.aJ (.slice a p'.length c) e sz (ah (sz:=sz) p')::R) m m' (λi=>i∈ai (jF b3)\/i∈[It.aJ (.slice a p.length c) e sz (ah (sz:=sz) p)].flatMap It.aS\/(m<=i/\i<m')) (λi=>i∈[It.aJ (.slice a p.length c) e sz (ah (sz:=sz) p)].flatMap It.aS\/(m<=i/\i<m'))):WO E X Γ l (.call ⟨.value (.func g),⟨xs⟩,ts⟩) L K:=
 WO.Qu hx hp (jR.box (n:=1) hm3 rfl rfl) h k
theorem WO.strB {x:Operand}{t t2:TypeId}{n c e:Nat}{w:Bool}{z:List UInt8}{enc:c9 UInt8 1}[h1:TT E t e 1 UInt8 enc][h2:yj E t2][h3:wN E e .u8](he:∀c,c9.cells c=[bv c])(hx:Ev l x (.slice (jF b) n c))(hm:It.box b (ah z) e w∈L)(hn:n=z.length)(k:∀m,K (sv z) L m m (λi=>i∈ai (jF b)) Z):WO E X Γ l (.convert t t2 x) L K:=by
 subst hn;exact WO.str he hx (jR.box hm rfl (by rw[bc])) k
end
abbrev Ad (E:dy)(X:dM)(g:FuncId)(vs:aQ)(s:St)(b:Nat)(a:aH)(c:Nat)(p:dx)(a':aH)(c':Nat)(q:eV)(r:Value)(F:Flat):Prop:=
 fI E X g vs s (vv b a p.length c p a' q.length c' q) [] λR L=>R=r/\∃a1 n1 c1 p1 a2 n2 c2 q2,n1<=p1.length/\p1.take n1=F.ad/\n2<=q2.length/\q2.take n2=F.ae/\L=vv b a1 n1 c1 p1 a2 n2 c2 q2
end Go.Pl
