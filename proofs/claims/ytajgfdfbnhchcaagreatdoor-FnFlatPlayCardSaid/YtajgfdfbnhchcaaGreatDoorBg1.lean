/- Lemmas of the proof. No conditions. -/
import Derived.Test.YtajgfdfbnhchcaaGreatDoorBf4
set_option maxRecDepth 100000
set_option maxHeartbeats 4000000
set_option linter.unusedVariables false
set_option linter.unusedSimpArgs false
open Go.Proofs.Tryz
namespace Go.Proofs
open Go Go.Ev Go.Lg
variable {f k o:Nat}{w:World}
theorem acw {s:St}{vs CA:a6}{ρ:iD}{Al:List Nat}(hC:Pl.bF f vs s Al (.bool true))(hn:16<=s.next)(hw0:s.wr=0)(lV:∀b,s.next<=b->s.heap.get b=none)
  (iK:fp prog (λ_=>True) (λi=>i<s.next) ρ s.heap.get w)(hg:∀g,g<16->(ρ g).1=g)(hV:LR (λi=>i<s.next) ρ vs CA):lT prog f ⟨CA⟩ w λr w'=>r= .bool true/\Fr w w' λ_=>False:=by
 obtain⟨r,s',⟨N,hN⟩,L',hI,rfl,_⟩:=hC (λ_ h=>by cases h) (λ_ h=>by cases h) yG;have hc:=hN N (cG _) N (cG _);have hCC:=DE adN aka mixed N (tab:=[]) (λe he=>by cases he) N;obtain⟨Z7,hk⟩:=hCC _ _ _ _ _ hc;have:=hk (λb=>In s'.cU b) (λi=>i<s.next) ρ w CA ⟨λi hi=>hi,lV,λb hb=>hb,iK.sub λ_ _=>trivial⟩ (λg hg'=>⟨ag,hg g hg'⟩) hV;refine this.mono λr w' ⟨eK,h1,hG⟩=>⟨h1.tn,hG.fU.os,hG.fU.tape,hG.fU.output,hG.fU.size,λr hr _=>hG.fU.block r hr ?_⟩
 rintro⟨b,o,h2,_,h3,_⟩;rcases hI.wr b h2 with h4|h4|h4
 .rw[show(qV.s0 ⟨s,([]:bZ).flatMap It.a8,Al⟩).wr=0 from hw0] at h4;simp[In] at h4
 .cases h4
 .have h5:s.next<=b:=h4
  rw[lV b h5] at h3;cases h3
theorem acx {n:Int}(h:(Lit.int .u8 n).wf=true):((UInt8.ofNat n.toNat).toNat:Int)=n:=by simp[Lit.wf,IntKind.has,IntKind.min,IntKind.max,IntKind.bits,IntKind.signed] at h;have:(UInt8.ofNat n.toNat).toNat=n.toNat% 256:=rfl;rw[this];omega
abbrev d8:UInt8:=ak.ah (α:=UInt8)
abbrev acy (w:World)(v:Value):Prop:=v= .slice none 0 0\/∃(b o n c:Nat)(zs:List Int),v= .slice (some ⟨b,o,none⟩) n c/\n<=zs.length/\n<=c/\c<ew/\(∀z∈zs,(Lit.int .u8 z).wf=true)/\∀i,i<zs.length->w.cell? ((⟨b,o,none⟩:Addr).add i)=some (.int .u8 (zs.getD i 0))
inductive amS (w:World)(v:Value):Prop where
 |empty (b c:Nat) (hu:c<ew) (h:∀k,∃a,(∀j∈aj a,j=k)/\∀N ρ,k<N->(ρ k).1=b->VR (λi=>i<N) ρ (.slice a 0 c) v)
 |bytes (b o c:Nat) (code:Pl.az) (cs:a6) (t:TypeId) (fr:Nat×Nat) (h:v= .slice (some ⟨b,o,none⟩) code.length c) (h0:0<code.length) (hc:code.length<=c) (hu:c<ew) (hb:w.heap[b]?=some (.cells ⟨cs⟩ t fr)) (nJ:∀i,i<code.length->cs[o+i]?=some (bv (code.getD i d8)))
theorem akb {ρ:iD}{k b:Nat}{N:Nat}(hk:k<N)(hb:(ρ k).1=b)(o n c:Nat)(hu:c<ew):VR (λi=>i<N) ρ (.slice (some ⟨k,o,none⟩) n c) (.slice (some ⟨b,o,none⟩) n c):=λeK e=>by
 rw[eH,e k hk,fG hu,hb]
theorem acy.c {v:Value}(hv:acy w v):amS w v:=by
 rcases hv with rfl|⟨b,o,n,c,zs,rfl,hn,hc,hu,hz,qq⟩
 .exact .empty 0 0 bJ λk=>⟨none,λj h=>by simp[aj] at h,λN ρ _ _=>VR.ground ay⟩
 by_cases h0:n=0
 .subst h0;exact .empty b c hu λk=>⟨some ⟨k,o,none⟩,λj h=>by simpa[aj] using h,λN ρ hk hb=>akb hk hb _ _ _ hu⟩
 have uV:((zs.take n).map λz=>UInt8.ofNat z.toNat).length=n:=by rw[td,cW];omega
 have hbv:∀i,i<n->bv (((zs.take n).map λz=>UInt8.ofNat z.toNat).getD i d8)= .int .u8 (zs.getD i 0):=λi hi=>by
  rw[aZ,Ar,IV,if_pos hi,aZ,bd (show i<zs.length by omega)];show Value.int .u8 ((UInt8.ofNat (zs[i]).toNat).toNat:Int)= .int .u8 zs[i];rw[acx (hz _ (rj _))]
 have hx:=qq 0 ag;simp only[Addr.add,if_true,World.cell?] at hx;split at hx
 rotate_left
 .cases hx
 rename_i cs t fr hblk;obtain⟨cs⟩:=cs;have nJ:∀i,i<zs.length->cs[o+i]?=some (.int .u8 (zs.getD i 0)):=λi hi=>by
  have:=qq i hi;rw[<-this];by_cases rM:i=0
  .subst rM;simp[Addr.add,World.cell?,hblk]
  .simp[Addr.add,World.cell?,hblk,rM]
 exact .bytes b o c ((zs.take n).map λz=>UInt8.ofNat z.toNat) cs t fr (by rw[uV]) ag ag hu hblk λi hi=>by
  rw[uV] at hi;rw[hbv i hi,nJ i ag]
theorem amT {code:Pl.az}{i:Nat}(hi:i<code.length)(l:List (Nat×a6)):∃p,Bv ((o,code.map bv)::l) (o+i)=some p/\p.2[o+i-p.1]?=some (bv (code.getD i d8)):=by
 refine⟨(o,code.map bv),?_,?_⟩
 .show bo (Nat.ble o (o+i)&&Nat.ble (Nat.succ (o+i-o)) (code.map bv).length) _ _=_;rw[dW,if_pos];rw[bO,nG,nG,td];omega
 .show(code.map bv)[o+i-o]?=_;rw[show o+i-o=i by omega,Ar,aZ,bd hi];rfl
theorem acz {code:Pl.az}{cs:a6}(h0:0<code.length)(h:∀i,i<code.length->cs[o+i]?=some (bv (code.getD i d8)))(A:Nat->Prop)(ρ:iD):∃pre c' aS,cs=pre++(c'++aS)/\pre.length=o/\LR A ρ (code.map bv) c':=by
 have cX:o+code.length<=cs.length:=by
  have:=(te.1 (h (code.length-1) ag)).1;omega
 have Oh:(cs.drop o).take code.length=code.map bv:=by
  apply VA;intro i;by_cases hi:i<code.length
  .rw[IV,if_pos hi,wQ,h i hi,Ar,aZ,bd hi];rfl
  .rw[sh (by rw[cW];omega),sh (by rw[td];omega)]
 refine⟨cs.take o,(cs.drop o).take code.length,(cs.drop o).drop code.length,?_,by rw[cW];omega,?_⟩
 .rw[yD,yD]
 .rw[Oh];exact λeK _=>(CW λy hy=>by
   obtain⟨u,_,rfl⟩:=jK.1 hy;simp).trans (List.map_id _)
theorem acA {s:St}{ws:List (Nat×a6)}{code:Pl.az}(dG:k<s.next)(h:s.heap.get k=some (.yJ ws))(hw:∀i,i<code.length->∃p,Bv ws (o+i)=some p/\p.2[o+i-p.1]?=some (bv (code.getD i d8))):Pl.sZ s (some ⟨k,o,none⟩) code:=
 ⟨λb hb=>by simp[aj] at hb;omega,λ_=>⟨k,o,ws,rfl,h,hw⟩⟩
noncomputable abbrev S1 (o1:Option (List (Nat×a6))):St:=⟨T.set 18 T.nil 16 (o1.map .yJ),18,0,0⟩
abbrev R1 (p q:Nat):iD:=λi=>if i=16 then(p,0) else if i=17 then(q,0) else(i,0)
theorem agl (o1:Option (List (Nat×a6)))(m:Nat):(S1 o1).heap.get m=if m=16 then o1.map .yJ else none:=by show(T.set 18 (T.nil:T gV) 16 (o1.map .yJ)).get m=_;rw[T.Q0 18 _ _ _ _ bJ,T.get_nil]
theorem apo (hL:∀(s:St)(a:aM)(code:Pl.az)(c:Nat)(a2:aM)(n2 c2:Nat),Pl.sZ s a code->Pl.UL code.length c->Pl.bF f [.slice a code.length c,.slice a2 n2 c2] s (aj a) (.bool true))(w:World)(v v2:Value)(h1:acy w v)(h2:acy w v2):lT prog f ⟨[v,v2]⟩ w λr w'=>r= .bool true/\Fr w w' λ_=>False:=by
 have hq:∃q a2 n2 c2,∀p,VR (λi=>i<18) (R1 p q) (.slice a2 n2 c2) v2:=by
  rcases h2 with rfl|⟨b,o,n,c,zs,rfl,_,_,hu,_⟩
  .exact⟨0,none,0,0,λp=>VR.ground ay⟩
  .exact⟨b,some ⟨17,o,none⟩,n,c,λp=>akb bJ rfl _ _ _ hu⟩
 obtain⟨q,a2,n2,c2,r2⟩:=hq;have gen:∀(o1:Option (List (Nat×a6)))(p:Nat)(a1:aM)(c1:Nat)(x1:Pl.az),(∀ws,o1=some ws->∃cs t fr,w.heap[p]?=some (.cells ⟨cs⟩ t fr)/\∀x∈ws,∃pre c' aS,cs=pre++(c'++aS)/\pre.length=x.1/\LR (λi=>i<18) (R1 p q) x.2 c')->Pl.sZ (S1 o1) a1 x1->Pl.UL x1.length c1->VR (λi=>i<18) (R1 p q) (.slice a1 x1.length c1) v->lT prog f ⟨[v,v2]⟩ w λr w'=>r= .bool true/\Fr w w' λ_=>False:=λo1 p a1 c1 x1 f1 hr1 s1 r1=>by
  have k:∀i o,(S1 o1).heap.get i=some o->i=16/\∃ws,o1=some ws/\gV.yJ ws=o:=λi o h=>by
   rw[agl] at h;split at h
   .exact⟨‹_›,Option.map_eq_some_iff.1 h⟩
   cases h
  refine acw (s:=S1 o1) (ρ:=R1 p q) (hL _ a1 x1 c1 a2 n2 c2 hr1 s1) (by show 16<=18;omega) rfl (λb h=>?_) ⟨λi o _ h=>?_,λi i' o o' _ _ h h' e=>?_⟩ (λg hg=>?_) (LR.cons r1 (LR.cons (r2 p) LR.nil))
  .have h:18<=b:=h;rw[agl,if_neg ag]
  .obtain⟨rfl,ws,e,rfl⟩:=k i o h;obtain⟨cs,t,fr,hb,hw⟩:=f1 ws e;exact⟨by show 16<18;omega,_,hb,cs,t,fr,rfl,hw⟩
  .rw[(k i o h).1,(k i' o' h').1]
  .simp only[R1,show ¬g=16 by omega,show ¬g=17 by omega,pB]
 rcases h1.c with⟨b1,c1,u1,k1⟩|⟨b1,o1,c1,x1,cs1,t1,fr1,rfl,n1,m1,u1,FQ,amV⟩
 .obtain⟨a1,l1,r1⟩:=k1 16;exact gen none b1 a1 c1 [] (λ_ h=>by cases h) ⟨λb hb=>by have:=l1 b hb;show b<18;omega,λh=>by cases h⟩ ⟨iG _,u1⟩ (r1 18 _ bJ rfl)
 .exact gen (some [(o1,x1.map bv)]) b1 (some ⟨16,o1,none⟩) c1 x1 (λws e=>by
   cases e
   exact⟨cs1,t1,fr1,FQ,λp hp=>by rw[ix] at hp;subst hp;exact acz n1 amV _ _⟩) (acA (by show 16<18;omega) (by rw[agl];rfl) λi hi=>amT hi []) ⟨m1,u1⟩ (akb bJ rfl _ _ _ u1)
end Go.Proofs
