/- Lemmas of the proof. No conditions. -/
import Derived.Test.YtnealhiolaklpaaGreatDoorAd4
set_option maxRecDepth 100000
set_option maxHeartbeats 4000000
set_option linter.all false
open Bool renaming false->U,true->J
open Option renaming none->O,some->C
open List renaming length->Y
open Go.Value renaming slice->H,bool->M,int->I
open Go.Proofs.Tryz
open Nat (beq ble mul)
open Go.Result (andThen_ok)
open Go.Sem (run_bind)
open Go.Region (binds)
open List (replicate)
open Int (toNat)
open Go.Builtin (firstCells)
open Go.Instr (checkKey)
namespace Go.Pl
open Go Go.Ev Go.Lg Go.Proofs
variable {E:hJ}{X:fb}{Γ:ng}{l:Kn}{L:cq}{K:KO}{g:FuncId}{xs:List Operand}{ts:Array TypeId}{vs:aV}{v:SA}{f:Fs}{b:Nat}{s:St}{R Lm:cq}{x y:Operand}{a:aP}{c i:Nat}{k:IntKind}{p d:Nat}{Q:Value->Prop}
variable {a':aP}{r:Value}
def adi (z:aw):Prop:=Y z<=10000/\(∀c∈z,c.toNat<128)/\(z.take 2=[47,47]->Y z=2)
structure adj (f:Flat):Prop where
 nl:f.names.length<=144
 tl:f.aB.length<=16
 nm:∀x∈f.names,adi x.ar/\0<=x.id/\x.id<=16
 th:∀x∈f.aB,0<=x.id/\x.id<=16/\x.b0.length<=192
structure tu (s:St)(a a':aP)(f:Flat):Prop where
 n:bJ s a f.names.length 2 (ab f.names)
 t:bJ s a' f.aB.length 3 (ab f.aB)
structure R9 (Γ:ng)(L:cq)(a a':aP)(f:Flat):Prop where
 n:ga Γ L a f.names.length 2 (ab f.names)
 t:ga Γ L a' f.aB.length 3 (ab f.aB)
abbrev flA (a a':aP):List Nat:=ah a++ah a'
abbrev flV (a:aP)(c:Nat)(a':aP)(c':Nat)(f:Flat):Value:=.agg ⟨tq a c f.names a' c' f.aB⟩
section
variable {f:Flat}
def U0 (o:iu l xs vs)(h:∀s,tu s a a' f->jA E X g vs s (flA a a') r)(e:R9 Γ L a a' f)(k:∀m j,gk L m->m<=j->K r L m j (iI (flA a a') [] m j) (iJ [] m j)):WC E X Γ l g xs ts L K:=
 dZ o (λs hi=>⟨λi hb=>by obtain hb|hb:=cG.1 hb;exact(e.n.row hi).2 i hb;exact(e.t.row hi).2 i hb,h s ⟨(e.n.row hi).1,(e.t.row hi).1⟩⟩) k
def YY.n (h:tu s a a' f):Rd ⟨s,([]:cq).flatMap It.bC,flA a a'⟩ a (Y f.names) 2 (ab f.names):=Rd.of h.n λ_ hb=>im _ hb
def YY.t (h:tu s a a' f):Rd ⟨s,([]:cq).flatMap It.bC,flA a a'⟩ a' (Y f.aB) 3 (ab f.aB):=Rd.of h.t λ_ hb=>dt _ hb
end
def pJ (a:aw)(b:Int)(a':aw)(b':Int):gi [sv a,iv b] [sv a',iv b']=C (decide (a=a'/\b=b')):=by simp only[lg,uc,lJ,bF,kl,dC,fk];congr 1;rw[o6];simp
def WR (a:Int)(b:Bool)(c:aw)(a':Int)(b':Bool)(c':aw):gi [iv a,M b,sv c] [iv a',M b',sv c']=C (decide (a=a'/\b=b'/\c=c')):=by simp only[lg,uc,lJ,bF,kl,dC,fk];congr 1;rw[o6];cases b<;>cases b'<;>simp
def SB {X:fb}{Γ:ng}{l:Kn}{L:cq}{K:KO}{x y:Operand}{t2:TypeId}{p q:cB}(e:Ev l x (.agg ⟨au.cells p⟩))(h:Ev l y (.agg ⟨au.cells q⟩))(k:∀n,K (M !(decide (p=q))) L n n Z Z):WO aZ X Γ l (.binOp .neq 48 x y t2) L K:=by refine Jp e h rfl (pJ _ _ _ _) λn=>?_;have:=k n;obtain⟨a,b⟩:=p;obtain⟨a',b'⟩:=q;simpa using this
def XV {X:fb}{Γ:ng}{l:Kn}{L:cq}{K:KO}{x y:Operand}{t2:TypeId}{p:cB}(e:Ev l x (.agg ⟨au.cells p⟩))(h:Ev l y (.agg ⟨au.cells (⟨[47],0⟩:cB)⟩))(k:∀n,K (M !(decide (p=⟨[47],0⟩))) L n n Z Z):WO aZ X Γ l (.binOp .neq 48 x y t2) L K:=SB e h k
def abA {X:fb}{Γ:ng}{l:Kn}{L:cq}{K:KO}{x y:Operand}{t2:TypeId}{p q:eF}(e:Ev l x (.agg ⟨au.cells p⟩))(h:Ev l y (.agg ⟨au.cells q⟩))(k:∀n,K (M !(decide (p=q))) L n n Z Z):WO aZ X Γ l (.binOp .neq 50 x y t2) L K:=by refine Jp e h rfl (WR _ _ _ _ _ _) λn=>?_;have:=k n;obtain⟨a,b,c⟩:=p;obtain⟨a',b',c'⟩:=q;simpa using this
def abB {s:St}{Lm:cq}{A:List Nat}(h1:∀x∈Lm,x.ok s)(h2:∀x∈Lm,∀b∈x.bC,b<s.next)(h:(Lm.flatMap It.bC).Nodup):Inv ⟨s,Lm.flatMap It.bC,A⟩ s Lm:=
 ⟨λ_ _ _=>rfl,fG _,h1,λx e b hb=>⟨h2 x e b hb,.inr (kZ.2 ⟨x,e,hb⟩)⟩,h,λb hb=>.inl hb,λb hb=>.inl hb,λb hb=>.inl hb,λb hb=>.inl hb⟩
def YZ {α:Type}{sz:Nat}{enc:au α sz}{h g e:Nat}{fn:Func}{dec:aV->Option (List α)}{cells:α->aV}{sort:List α->List α}{apart:List α->Bool}(m:∀l:List α,dec (ab (sz:=sz) l)=C l)(JM:∀l:List α,l.flatMap cells=ab (sz:=sz) l)(B:aZ.fn.get h=C fn)
  (S:∀args s k,vU aW h args s k=Ev.RN g sz dec cells sort apart args s)(cg:∀l,Y (sort l)=Y l)(s:St)(a:aP)(c n:Nat)(p:List α)(F:1<=n)(G:n<=Y p)(h3:Y p<=100000)(t:apart (p.take n)=J):
  Ht h [H a n c,.func (.func g) ⟨[]⟩ ⟨[]⟩] s [.aU (H a (Y p) c) e sz (ab (sz:=sz) p)] [] λR L=>R= .tuple ⟨[]⟩/\L=[.aU (H a (Y p) c) e sz (ab (sz:=sz) (sort (p.take n)++p.drop n))]:=λV W Z=>by
 have q:=abB (A:=[]) V W Z;obtain⟨o,_⟩|⟨b,n',k',w,rest,o,N,h6,P⟩:=q.it _ ed;exfalso;have:=(Value.slice.inj o).2.1;omega;cases o;have D:=q.may ed (b:=b) (by simp[It.bC,nH]);have hr:=q.aL D;have j:=bn (sz:=sz) p;have hle:n*sz<=Y p*sz:=Ai _ G;have z:(ab (sz:=sz) p++rest).take 0++(sort (p.take n)).flatMap cells++(ab (sz:=sz) p++rest).drop (0+n*sz)=ab (sz:=sz) (sort (p.take n)++p.drop n)++rest:=by rw[JM,LG,<-zr,B9,kG,kz,Al (by rwa[j]),iD]
 refine lE.Ji B (s':=(s.aL b).put b (C (.cells (ab (sz:=sz) (sort (p.take n)++p.drop n)++rest) e w))) (v:=.tuple ⟨[]⟩) (λk=>(S _ _ _).trans ?_) ⟨_,hr.put (x':=.aU (H (ko b) (Y p) c) e sz (ab (sz:=sz) (sort (p.take n)++p.drop n))) CT.here rfl rfl (Or.inr ⟨b,Y p,_,w,rest,rfl,by show T.get (St.heap _) b=_;simp,?_,Jj P (by rw[bn,bn,dB,cg,de,fq];congr 1;omega)⟩),rfl,rfl⟩;show dq (beq g g&&ble 1 n&&ble n 1000000) (s.row b λc e w s=>dq (ble (0+n*sz) (Y c))<| ob (dec ((c.drop 0).take (n*sz))) λl=>dq (apart l&&beq (Y l) n)<| aD (Value.tuple ⟨[]⟩) (s.put b (C (.cells (c.take 0++(sort l).flatMap cells++c.drop (0+n*sz)) e w))))=_;rw[kY,dQ F,dQ (show n<=1000000 by omega)];show(s.row b λc e w s=>_)=_;unfold St.row St.look;rw[N];simp only[bF];rw[dQ (show 0+n*sz<=Y (ab (sz:=sz) p++rest) by rw[dB,j,kz];omega),Ah,tP (by rwa[j]),G9,m];show dq (apart (p.take n)&&beq (Y (p.take n)) n) _=_;rw[t,show(p.take n).length=n by rw[de];omega,kY];show aD _ _=_;rw[z];rfl;rw[bn];congr 1;rw[dB,cg,de,fq];omega
def Nn (x:cB):∀l,Y (Ev.uo x l)=Y l+1
 |[]=>rfl
 |y::l=>by unfold Ev.uo;split;rfl;rw[fS,Nn x l,fS]
def Ia:∀l,Y (Ev.lW l)=Y l
 |[]=>rfl
 |x::l=>by show(Ev.uo x (Ev.lW l)).length=_;rw[Nn,Ia l,fS]
def No:∀l:List cB,Ev.Tt (ab l)=C l
 |[]=>rfl
 |x::l=>by rw[eU];show(Ev.Tt (ab l)).map _=_;rw[No l];rfl
def Y0 (s:St)(a:aP)(c n:Nat)(p:List cB)(h1:1<=n)(h2:n<=Y p)(j:Y p<=100000)(e:Ev.CN (p.take n)=J):Ht 88 [H a n c,.func (.func 89) ⟨[]⟩ ⟨[]⟩] s [.aU (H a (Y p) c) 48 2 (ab p)] [] λR L=>R= .tuple ⟨[]⟩/\L=[.aU (H a (Y p) c) 48 2 (ab (Ev.lW (p.take n)++p.drop n))]:=
 YZ (fn:=f88) No (λl=>rfl) bV (λargs s k=>rfl) Ia s a c n p h1 h2 j e
section
variable {x y:It}
def Y1 (o:iu l xs vs)(h:∀s,eJ E X g vs s [x] [] λR L=>R=r/\L=[y])(n:l3 [x] L R)(k:∀m e,gk L m->m<=e->K r (y::R) m e (iI [] [x] m e) (iJ [x] m e)):WC E X Γ l g xs ts L K:=
 cI (Lm:=[x]) (R:=R) (A:=[]) o n.bX (λs hi b hb=>by cases hb) (λs hi=>h s) (by rintro q L' m e j hm ⟨rfl,rfl⟩;exact k m e j hm)
end
end Go.Pl
namespace Go.Pl
open Go.Lg


end Go.Pl
namespace Go.Pl
open Go.Lg
open Go Go.Ev Go.Lg Go.Proofs
structure SC (f:Flat):Prop where
 nl:f.names.length<=900
 tl:f.aB.length<=900
 nm:∀x∈f.names,adi x.ar/\0<=x.id/\x.id<=16
 th:∀x∈f.aB,0<=x.id/\x.id<=16/\x.b0.length<=192
def adj.e {f:Flat}(h:adj f):SC f:=⟨by have:=h.nl;omega,by have:=h.tl;omega,h.nm,h.th⟩
def aen (f:Flat):iok f=(fI (Y f.aB) 1 16&&decide (Y f.names≠0)&&decide (f.names.getD 0 fp=⟨[47],0⟩)&&(List.range (Y f.aB)).all (tB f.aB)&&decide ((f.aB.getD 0 nG).id=0)&&(f.aB.getD 0 nG).ej&&match Z6 f.names f.aB (Y f.names) 0 ⟨[],[],[]⟩ with
 |none=>U
 |some A=>decide (Y A.li=Y f.aB)):=rfl
def agD (p:List cB)(i:Nat)(z:aw):0<=(cN p i z:Int)/\(cN p i z:Int)<=i:=by unfold cN;have:=Ce (p:=λj=>decide (1<=j)&&decide ((bS (p.getD j fp).ar).1=z)) (l:=List.range i);rw[V6] at this;omega
def agE (p:List cB)(i:Nat)(n:Int):0<=(cL p i n:Int)/\(cL p i n:Int)<=i:=by unfold cL;have:=Ce (p:=λj=>decide ((p.getD j fp).id=n)) (l:=List.range i);rw[V6] at this;omega
def Qo (z:aw):Y (bS z).1<=Y z/\Y (bS z).2<=Y z:=by unfold bS;split;simp;rw[de,fq];omega
def oP:Code->Option Code
 |.loop b=>C b
 |.seq x y=>match oP y with
  |some z=>C z
  |none=>oP x
 |.block _ b=>oP b
 |.cond _ x y=>match oP y with
  |some z=>C z
  |none=>oP x
 |_=>O
def U1 (g:Func):Code:=match g.body with
 |some c=>(oP c).getD .skip
 |none=>.skip
def W.U1 {E:hJ}{X:fb}{Γ:ng}{l:Kn}{L:cq}{Q:Ex->Kn->cq->Prop}{g:Func}{b c:Code}(h0:g.body=C b)(h:oP b=C c)(a:W E X Γ c l L Q):W E X Γ (U1 g) l L Q:=by
 have:Pl.U1 g=c:=by unfold Pl.U1;rw[h0];show(oP b).getD .skip=c;rw[h];rfl
 rwa[this]
structure IfH (s:St)(a a':aP)(f:Flat)(i:Nat)(A:Acc):Prop where
 hf:SC f
 hr:tu s a a' f
 hs:nM f.aB
 hi:i<f.names.length
 g2:D4 f.names f.aB i A
abbrev IfT (f:Flat)(i:Nat)(A:Acc):Int:=((cO (ig A.li (f.names.getD i au.ad).id ((cO A.li (f.names.getD i au.ad).id).getD 0+1)) (f.names.getD i au.ad).id).getD 0)
abbrev IfI (f:Flat)(i:Nat)(A:Acc):Int:=((cO (ig A.xB (bS (f.names.getD i au.ad).ar).1 ((cO A.xB (bS (f.names.getD i au.ad).ar).1).getD 0+1)) (bS (f.names.getD i au.ad).ar).1).getD 0)
abbrev IfK (a:aP)(c:Nat)(f:Flat)(b d e g i:Nat):Kn:=[(1,bk b),(5,.map (C d)),(6,.map (C e)),(7,.map (C g)),(94,H a (Y f.names) c),(95,iv (Y f.names:Int)),(96,iv (i:Int))]
abbrev IfM (a:aP)(c:Nat)(a':aP)(c':Nat)(f:Flat)(b d e g:Nat)(A:Acc):cq:=[.box b (tq a c f.names a' c' f.aB) 39 U,.iC d (VT A.li),.iC e (mSI A.xB),.iC g (mSB A.fo)]
abbrev IfW (s:St)(a:aP)(c:Nat)(a':aP)(c':Nat)(f:Flat)(b d e g i:Nat)(A:Acc)(Q:Ex->Kn->cq->Prop):Prop:=W aZ aW ⟨s,([]:cq).flatMap It.bC,flA a a'⟩ (U1 f11) (IfK a c f b d e g i) (IfM a c a' c' f b d e g A) Q
abbrev agF (s:St)(a:aP)(c:Nat)(a':aP)(c':Nat)(f:Flat)(b d e g i:Nat)(A B:Acc):Prop:=∀Q:Ex->Kn->cq->Prop,(∀l L,Le (IfK a c f b d e g (i+1)) l->cb (IfM a c a' c' f b d e g B) L->Q .normal l L)->IfW s a c a' c' f b d e g i A Q
end Go.Pl
namespace Go.Pl
open Go Go.Ev Go.Lg Go.Proofs
variable {E:hJ}{X:fb}{Γ:ng}{l:Kn}{L R:cq}{K:KO}{g:FuncId}{xs:List Operand}{ts:Array TypeId}{vs:aV}{a a':aP}{c c':Nat}{p:List cB}{q:ot}{r:Value}{s:St}
structure Qp (s:St)(b:Nat)(a:aP)(c:Nat)(p:List cB)(a':aP)(c':Nat)(q:ot):Prop where
 b:bJ s (ko b) 1 2 (tq a c p a' c' q)
 n:bJ s a p.length 2 (ab p)
 t:bJ s a' q.length 3 (ab q)
structure abh (Γ:ng)(L:cq)(b:Nat)(a:aP)(c:Nat)(p:List cB)(a':aP)(c':Nat)(q:ot):Prop where
 b:ga Γ L (ko b) 1 2 (tq a c p a' c' q)
 n:ga Γ L a p.length 2 (ab p)
 t:ga Γ L a' q.length 3 (ab q)
abbrev flP (b:Nat)(a a':aP):List Nat:=b::(ah a++ah a')
section
variable {b:Nat}
def abh.row (h:abh Γ L b a c p a' c' q)(hi:Inv Γ s L):Qp s b a c p a' c' q/\∀i∈flP b a a',qW Γ s i:=by refine⟨⟨(h.b.row hi).1,(h.n.row hi).1,(h.t.row hi).1⟩,λi hb=>?_⟩;obtain rfl|hb:=cA.1 hb;exact(h.b.row hi).2 _ (by simp[ah]);rcases cG.1 hb with hb|hb;exact(h.n.row hi).2 i hb;exact(h.t.row hi).2 i hb
def Uw (f:iu l xs vs)(h:∀s,Qp s b a c p a' c' q->jA E X g vs s (flP b a a') r)(e:abh Γ L b a c p a' c' q)(k:∀m d,gk L m->m<=d->K r L m d (iI (flP b a a') [] m d) (iJ [] m d)):WC E X Γ l g xs ts L K:=
 dZ f (λs hi=>⟨(e.row hi).2,h s (e.row hi).1⟩) k
def VZ.x (h:Qp s b a c p a' c' q):Rd ⟨s,([]:cq).flatMap It.bC,flP b a a'⟩ (ko b) 1 2 (tq a c p a' c' q):=Rd.of h.b λi hb=>by rw[show i=b by simpa[ah] using hb];exact ed
def VZ.n (h:Qp s b a c p a' c' q):Rd ⟨s,([]:cq).flatMap It.bC,flP b a a'⟩ a (Y p) 2 (ab p):=Rd.of h.n λ_ hb=>dI _ (im _ hb)
def VZ.t (h:Qp s b a c p a' c' q):Rd ⟨s,([]:cq).flatMap It.bC,flP b a a'⟩ a' (Y q) 3 (ab q):=Rd.of h.t λ_ hb=>dI _ (dt _ hb)
end
def thV (a:aP):Option Nat->Value
 |none=>.pointer O
 |some i=>fY a i 3 0
def Y2 (s:St)(b:Nat)(a:aP)(c:Nat)(p:List cB)(a':aP)(c':Nat)(q:ot)(hs:nM q)(j:Y q<=1000)(k:Int)(hr:Qp s b a c p a' c' q):bM 23 [bk b,iv k] s (flP b a a') (thV a' (Jh q k)):=by
 have e:=VZ.x hr;have f:=VZ.t hr;rw[adF hs k au.ad];by_cases d:Bl q k<Y q/\(q.getD (Bl q k) au.ad).id=k
 .rw[ai d];have hd:(!(decide (Bl q k<Y q/\(q.getD (Bl q k) au.ad).id=k)))=U:=by rw[gZ d];rfl
  have i:=d.1;refine a8 f23 ?_;repeat' first|refine' afY|refine' eI|fail
  all_goals first|(exfalso;simp_all;done)|skip
  all_goals refine' aC
  all_goals rfl
 rw[af d];have hd:(!(decide (Bl q k<Y q/\(q.getD (Bl q k) au.ad).id=k)))=J:=by rw[kX d];rfl
 refine a8 f23 ?_;repeat' first|refine' afY|refine' eI|fail
 all_goals first|(exfalso;simp_all;done)|skip
 all_goals refine' aC
 all_goals rfl
def aeo {q:ot}{k:Int}{t:Nat}(h:Jh q k=C t):t<Y q:=(Ae.1 h).1
end Go.Pl
