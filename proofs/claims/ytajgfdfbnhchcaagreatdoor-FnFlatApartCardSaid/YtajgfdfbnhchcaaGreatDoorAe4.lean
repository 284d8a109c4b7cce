/- Lemmas of the proof. No conditions. -/
import Derived.Test.YtajgfdfbnhchcaaGreatDoorAe3
set_option maxRecDepth 100000
set_option maxHeartbeats 4000000
set_option linter.unusedVariables false
set_option linter.unusedSimpArgs false
open Go.Proofs.Tryz
namespace Go.Pl
open Go Go.Ev Go.Lg Go.Proofs
theorem aaL (s:St)(br:Nat)(a:aK)(code:aA)(c p:Nat)(n:Int)(hc:code.length<=2000)(hp:p<=100000)(hn: -100000<=n/\n<=100000)(hr:pH s a code)(hm:∀i∈aj a,i∉[oo br a code.length c p].flatMap It.aY):
  HT a8 bj 38 [bc br,iv n] s br a code c p 1 (aiO n):=by
 have hd:sy ⟨s,[oo br a code.length c p].flatMap It.aY,aj a⟩ a code:=⟨hr,λb hb=>hb,hm⟩;dsimp only[HT,oo] at *
 by_cases Qr:n<1
 .refine aU f38 ?_;(repeat' (first|refine' a7|refine' WX|refine' WY|refine' aw|fail))
  all_goals try exact pq
  exact Lb (p':=p+1) bB bn au (cA _) ⟨0,rfl,ag,ag⟩
 .by_cases hl:code.length=0
  .refine aU f38 ?_;(repeat' (first|refine' a7|refine' WX|refine' WY|refine' aw|fail))
   all_goals try exact pq
   exact Lb (p':=p+1) bB bn au (cA _) ⟨0,rfl,ag,ag⟩
  .have hlp:0<(code.length:Int):=by omega
   have r1:=zF (x:=(p:Int)+1-1) (n:=code.length) ag hlp;have r2:=zF (x:=((p:Int)+1-1)*7+3) (n:=code.length) ag hlp;have b0:=(code.getD ((p:Int)+1-1).toNat ak.ah).toNat_lt;have b1:=(code.getD (((p:Int)+1-1).tmod code.length).toNat ak.ah).toNat_lt;have b2:=(code.getD ((((p:Int)+1-1)*7+3).tmod code.length).toNat ak.ah).toNat_lt;have q1:0<=((p:Int)+1-1).tdiv code.length:=Int.tdiv_nonneg ag ag;have q2:((p:Int)+1-1).tdiv code.length<=(p:Int)+1-1:=Int.tdiv_le_self _ ag;have q3:0<=(((code.getD (((p:Int)+1-1).tmod code.length).toNat ak.ah).toNat:Int)*131+((code.getD ((((p:Int)+1-1)*7+3).tmod code.length).toNat ak.ah).toNat:Int)*1117+((p:Int)+1-1)*29+((p:Int)+1-1).tdiv code.length*53).tdiv 64/\(((code.getD (((p:Int)+1-1).tmod code.length).toNat ak.ah).toNat:Int)*131+((code.getD ((((p:Int)+1-1)*7+3).tmod code.length).toNat ak.ah).toNat:Int)*1117+((p:Int)+1-1)*29+((p:Int)+1-1).tdiv code.length*53).tdiv 64<=(((code.getD (((p:Int)+1-1).tmod code.length).toNat ak.ah).toNat:Int)*131+((code.getD ((((p:Int)+1-1)*7+3).tmod code.length).toNat ak.ah).toNat:Int)*1117+((p:Int)+1-1)*29+((p:Int)+1-1).tdiv code.length*53):=⟨Int.tdiv_nonneg ag ag,Int.tdiv_le_self _ ag⟩;refine aU f38 ?_;(repeat' (first|refine' a7|refine' WX|refine' WY|refine' aw|fail))
   all_goals try exact pq
   all_goals exact Lb (p':=p+1) bB bn au (cA _) ⟨_,rfl,(zF ag ag).1,λ_=>(zF ag ag).2⟩
def xX:List aA:=[[],[97],[47,47],[47,97,47],[47,65],[47,97,47,98,47,99,47,97,47,98],[47,97,98,99,100,101],[47,97,47,47,98]]++[[47,97],[47,98],[47,97,47,98],[47,97,47,99],[47,98,47,97],[47,99],[47,97,47,98,47,99],[47,99,47,97],[47,97,98],[47]]
def pathIn (R:Value):Prop:=∃z:aA,R=sv z/\z∈xX
theorem aaN (s:St)(br:Nat)(a:aK)(code:aA)(c p:Nat)(hc:code.length<=2000)(hp:p<=99000)(hr:pH s a code)(hm:∀i∈aj a,i∉[oo br a code.length c p].flatMap It.aY):
  HT a8 bj 39 [bc br] s br a code c p 2 pathIn:=by
 have hd:sy ⟨s,[oo br a code.length c p].flatMap It.aY,aj a⟩ a code:=⟨hr,λb hb=>hb,hm⟩;refine aU f39 ?_;(repeat' (first|refine' a7|refine' Bl|refine' aw|fail))
 all_goals try exact pq
 .exact Lb (p':=ng) bB bn au ag ⟨_,rfl,cP _ (aJ (by simp only[cY,mJ];omega) _)⟩
 .exact Lb (p':=ng) bB bn au ag ⟨_,rfl,dz _ (aJ (by simp only[cY,mJ];omega) _)⟩
def aiP (n:Int)(R:Value):Prop:=∃z:aA,R=sv z/\(z.length:Int)<=n
theorem aaP (s:St)(br:Nat)(a:aK)(code:aA)(c p:Nat)(n:Int)(hc:code.length<=2000)(hp:p<=90000)(hn:0<=n/\n<=100)(hr:pH s a code)(hm:∀i∈aj a,i∉[oo br a code.length c p].flatMap It.aY):
  HT a8 bj 40 [bc br,iv n] s br a code c p 202 (aiP n):=by
 have hd:sy ⟨s,[oo br a code.length c p].flatMap It.aY,aj a⟩ a code:=⟨hr,λb hb=>hb,hm⟩;refine aU f40 ?_;(repeat(first|refine' xz|refine' Bl|refine' aw|fail))
 rename_i many vc _ _ _ _ _ _ _;obtain⟨kind,aiQ⟩:∃k,k=DL:=⟨_,rfl⟩;rw[<-aiQ];refine W.bN (λk l L=>∃(q:aA)(a1:aK)(c1 p1:Nat),Le [(0,bc br),(6,iv many),(7,iv kind),(5,.slice a1 q.length c1)] l/\cz [oo br a code.length c p1,.aN (.slice a1 q.length c1) 5 1 (ai q)] L/\k=(many-q.length).toNat/\(q.length:Int)<=many/\p1<=p+2+2*q.length)
                                                                                        (λl L=>∃(q:aA)(a1:aK)(c1 p1:Nat),Le [(5,.slice a1 q.length c1)] l/\cz [oo br a code.length c p1,.aN (.slice a1 q.length c1) 5 1 (ai q)] L/\(q.length:Int)<=many/\p1<=p+2+2*q.length) _ ⟨[],_,_,ng,bk,au,rfl,by simp only[mJ];omega,ag⟩ ?_ ?_
 .rintro k l L ⟨q,a1,c1,p1,hl,hL,rfl,h1,h2⟩;refine W.le ?_ hl hL;clear hl hL;(repeat' (first|refine' a7|refine' Bl|((with_reducible apply WO.lit (α:=UInt8) (xs:=[97,98,126,48,58,59,61]));exact yT;exact rfl;exact rfl;intro bl _)|refine' aw|fail))
  all_goals try exact pq
  .refine⟨_,?_,q++[_],_,_,ng,bk,au,rfl,?_,?_⟩<;>first|omega|(simp only[bJ,cY,mJ];omega)
  .refine⟨_,?_,q++[_],_,_,ng,bk,au,rfl,?_,?_⟩<;>first|omega|(simp only[bJ,cY,mJ];omega)
  .refine W.bN (λk l L=>∃(q':aA)(a2:aK)(c2:Nat)(bb:UInt8)(j:Int),Le [(0,bc br),(6,iv many),(7,iv kind),(8,bv bb),(9,iv j),(5,.slice a2 q'.length c2)] l/\cz [oo br a code.length c ng,.aN (.slice a2 q'.length c2) 5 1 (ai q')] L/\k=(j+1).toNat/\ -1<=j/\j<=100/\(q'.length:Int)<=many/\q.length<=q'.length/\(q'.length=q.length->0<=j))
    (λl L=>∃(q':aA)(a2:aK)(c2:Nat),Le [(0,bc br),(6,iv many),(7,iv kind),(5,.slice a2 q'.length c2)] l/\cz [oo br a code.length c ng,.aN (.slice a2 q'.length c2) 5 1 (ai q')] L/\(q'.length:Int)<=many/\q.length<q'.length) _ ⟨q,a1,c1,_,_,bk,au,rfl,ag,ag,ag,ag,ag⟩ ?_ ?_
   .rintro k l L ⟨q',a2,c2,bb,j,hl,hL,rfl,g1,g2,g3,g4,g5⟩;refine W.le ?_ hl hL;clear hl hL;(refine' cU)
    all_goals try exact pq
    .refine⟨_,?_,q'++[bb],_,_,bb,j-1,bk,au,rfl,?_,?_,?_,?_,?_⟩<;>first|omega|(simp only[bJ,cY,mJ];omega)
    all_goals exact⟨q',a2,c2,bk,au,g3,ag⟩
   .rintro l L ⟨q',a2,c2,hl,hL,g3,g4⟩;refine dH (dH (eB ?_));exact⟨_,ag,q',a2,c2,ng,hl,hL,rfl,g3,ag⟩
  .refine⟨_,?_,q++[_],_,_,ng,bk,au,rfl,?_,?_⟩<;>first|omega|(simp only[bJ,cY,mJ];omega)
  .exact⟨q,a1,c1,p1,bk,au,h1,h2⟩
 .rintro l L ⟨q,a1,c1,p1,hl,hL,h1,h2⟩;refine aq ?_;refine W.le ?_ hl hL;clear hl hL;(refine' cU)
  exact Lb (p':=p1) bB bn au ag ⟨q,rfl,ag⟩
theorem Rp (s:St)(o:Op)(h1:o.af.length<=90000)(h2:o.to.length<=90000)(h3:o.aW.length<=90000):bP 25 [ov o] s [] (.bool (gJ o)):=by
 refine' zas
 generalize gJ o=r at *
 refine aU f25 ?_;(repeat' (first|refine' a7|refine' NI|refine' aea|refine' aw|fail))
 all_goals refine' zaD
 all_goals(rw[e];simp_all [gB,fR];try omega)
section
variable {E:dA}{X:dM}{Γ:ij}{l:Kn}{L:bE}{K:KO}{g:FuncId}{xs:List Operand}{ts:Array TypeId}{vs:aQ}{Q:Value->Prop}
abbrev YE (E:dA)(X:dM)(g:FuncId)(vs:aQ)(s:St)(Q:Value->Prop):Prop:=fH E X g vs s [] [] λR L=>Q R/\L=[]
theorem WO.aiR (hx:kL l xs vs)(h:∀s,YE E X g vs s Q)(k:∀m m' r,Q r->kq L m->m<=m'->K r L m m' (λi=>i∈([]:List Nat)\/i∈([]:bE).flatMap It.aY\/(m<=i/\i<m')) (λi=>i∈([]:bE).flatMap It.aY\/(m<=i/\i<m'))):WO E X Γ l (.call ⟨.value (.func g),⟨xs⟩,ts⟩) L K:=
 WO.call (Lm:=[]) (R:=L) (A:=[]) hx (.refl _) (λs hi b hb=>by cases hb) (λs _=>h s) (by rintro r L' m m' ho hm ⟨h1,rfl⟩;exact k m m' r h1 ho hm)
end
theorem YF (z n:Nat):z*n=z*(n% 2)+(z+z)*(n/ 2):=by
 have h:n=2*(n/ 2)+n% 2:=(Nat.div_add_mod n 2).symm;generalize n/ 2=m at *
 generalize n% 2=r at *
 subst h;rw[Nat.mul_add,<-Nat.mul_assoc,Ge z 2,Nat.two_mul,Nat.add_comm]
end Go.Pl
