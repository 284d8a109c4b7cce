/- Lemmas of the proof. No conditions. -/
import Derived.Test.YtnealhiolaklpaaGreatDoorAg2
import Derived.Test.YtnealhiolaklpaaGreatDoorAg3
set_option maxRecDepth 100000
set_option maxHeartbeats 4000000
set_option linter.all false
open Bool renaming false->U,true->J
open Option renaming none->O,some->C
open List renaming length->Y
open Go.Value renaming slice->H,bool->M,int->I
open Go.Proofs.Tryz
open Nat (beq ble mul)
open Go.Result (andThen_ok)
open Go.Sem (run_bind)
open Go.Region (binds)
open List (replicate)
open Int (toNat)
open Go.Builtin (firstCells)
open Go.Instr (checkKey)
namespace Go.Pl
open Go Go.Ev Go.Lg Go.Proofs
variable {st:ae}{t:bt}{E:hJ}{X:fb}{Γ:ng}{l:Kn}{L R:cq}{K:KO}{g:FuncId}{xs:List Operand}{ts:Array TypeId}{vs:aV}{v:SA}{f:Flat}
abbrev VK (v:SA)(st:ae):Value:=.agg ⟨[H v.r 63 v.rc,H v.f 64 v.fc,H v.l 64 v.lc,iv st.dm,H v.g (Y st.aS) v.gc,iv st.iz,H v.d (Y st.bL) v.dc,M st.same]⟩
def OH (s:St)(v:SA)(st:ae):bM 16 [VK v st] s [] (M U):=by refine a8 f16 ?_;refine' qcy
def KB (s:St)(v:SA)(st:ae):bM 33 [VK v st] s [] (M U):=by refine a8 f33 ?_;refine' qcy
def KC (s:St)(v:SA)(st:ae)(t:bt):bM 14 [VK v st,tv t] s [] (.tuple ⟨[.pointer O,M U]⟩):=by refine a8 f14 ?_;(repeat' first|refine' AG|(apply ag;exact aj;exact λs=>KB s _ _;intros)|refine' qgy|fail)
def OI (s:St)(v:SA)(st:ae)(t:bt):bM 6 [VK v st,tv t] s [] (.tuple ⟨[.agg ⟨tq O 0 [] O 0 []⟩,M U]⟩):=by refine a8 f6 ?_;(repeat' first|refine' AG|(apply ag;exact aj;exact λs=>OH s _ _;intros)|refine' qgy|fail)
def OJ (s:St)(v:SA)(st:ae)(t:bt):bM 5 [VK v st,tv t] s [] (.tuple ⟨[.agg ⟨tq O 0 [] O 0 []⟩,M U]⟩):=by refine a8 f5 ?_;(repeat' first|refine' AG|(apply ag;exact aj;exact λs=>KC s _ _ _;intros)|refine' qgy|fail)
variable {a a' a2 OS:aP}{c c' c2 c2':Nat}{p:List cB}{q:ot}{code:aw}{ok:Bool}{r:Value}
abbrev u5 (E:hJ)(X:fb)(g:FuncId)(vs:aV)(s:St)(A:List Nat)(f:Flat)(ok:Bool):Prop:=eJ E X g vs s [] A λR L=>∃a c a' c',R= .tuple ⟨[.agg ⟨tq a c f.names a' c' f.aB⟩,M ok]⟩/\L=[jI a c f.names,q5 a' c' f.aB]
abbrev ZR (E:hJ)(X:fb)(g:FuncId)(vs:aV)(s:St)(A:List Nat)(w:List cB):Prop:=eJ E X g vs s [] A λR L=>∃a c,R= .tuple ⟨[H a (Y w) c,M J]⟩/\L=[jI a c w]
def s8.y {E:hJ}{X:fb}{g:FuncId}{vs:aV}{s:St}{A:List Nat}{st:ae}{t:bt}(h:s8 E X g vs s A st t)(k:Pg.jO st/\Pg.iM st t):u5 E X g vs s A (fQ st t) J:=
 eJ.mono h λR L ⟨a,c,a',c',F,ok,e,i,j,d⟩=>by have b:ok=J:=j.2 k;subst b;rw[ai rfl] at d;subst d;exact⟨a,c,a',c',e,i⟩
def s8.n {E:hJ}{X:fb}{g:FuncId}{vs:aV}{s:St}{A:List Nat}{st:ae}{t:bt}(h:s8 E X g vs s A st t)(k:¬(Pg.jO st/\Pg.iM st t)):u5 E X g vs s A ⟨[],[]⟩ U:=
 eJ.mono h λR L ⟨a,c,a',c',F,ok,e,i,j,d⟩=>by
  have b:ok=U:=by
   cases ok with
   |false=>rfl
   |true=>exact absurd (j.1 rfl) k
  subst b;rw[af B3] at d;subst d;exact⟨a,c,a',c',e,i⟩
def VL (e:iu l xs vs)(hd:lN Γ)(h:∀s,jb s v st->dy s->jA E X g vs s (q7 v++[5,1]) r)(d:A4 Γ L v st)(k:∀m b,gk L m->m<=b->K r L m b (iI (q7 v++[5,1]) [] m b) (iJ [] m b)):WC E X Γ l g xs ts L K:=
 dZ e (λs hi=>⟨λi hb=>(cG.1 hb).elim ((d.row hi).2 i) (hd.may hi i),h s (d.row hi).1 (hd.row hi).1⟩) k
def IC (j:iu l xs vs)(hd:lN Γ)(h:∀s,jb s v st->dy s->u5 E X g vs s (q7 v++[5,1]) f ok)(d:A4 Γ L v st)(k:∀m b a c a' c',gk L m->m<=b->K (.tuple ⟨[.agg ⟨tq a c f.names a' c' f.aB⟩,M ok]⟩) (jI a c f.names::q5 a' c' f.aB::L) m b (iI (q7 v++[5,1]) [] m b) (iJ [] m b)):WC E X Γ l g xs ts L K:=
 cI (Lm:=[]) (R:=L) j (.refl _) (λs hi i hb=>(cG.1 hb).elim ((d.row hi).2 i) (hd.may hi i)) (λs hi=>h s (d.row hi).1 (hd.row hi).1) (by rintro n L' m b e hm ⟨a,c,a',c',rfl,rfl⟩;exact k m b a c a' c' e hm)
def VM {w:List cB}(j:iu l xs vs)(hd:lN Γ)(h:∀s,jb s v st->dy s->ZR E X g vs s (q7 v++[5,1]) w)(d:A4 Γ L v st)(k:∀m b a c,gk L m->m<=b->K (.tuple ⟨[H a (Y w) c,M J]⟩) (jI a c w::L) m b (iI (q7 v++[5,1]) [] m b) (iJ [] m b)):WC E X Γ l g xs ts L K:=
 cI (Lm:=[]) (R:=L) j (.refl _) (λs hi i hb=>(cG.1 hb).elim ((d.row hi).2 i) (hd.may hi i)) (λs hi=>h s (d.row hi).1 (hd.row hi).1) (by rintro n L' m b e hm ⟨a,c,rfl,rfl⟩;exact k m b a c e hm)
def ID (i:iu l xs vs)(h:∀s,jb s v st->u5 E X g vs s (q7 v) f ok)(d:A4 Γ L v st)(k:∀m b a c a' c',gk L m->m<=b->K (.tuple ⟨[.agg ⟨tq a c f.names a' c' f.aB⟩,M ok]⟩) (jI a c f.names::q5 a' c' f.aB::L) m b (iI (q7 v) [] m b) (iJ [] m b)):WC E X Γ l g xs ts L K:=
 cI (Lm:=[]) (R:=L) i (.refl _) (λs hi=>(d.row hi).2) (λs hi=>h s (d.row hi).1) (by rintro j L' m b e hm ⟨a,c,a',c',rfl,rfl⟩;exact k m b a c a' c' e hm)
def VN (i:iu l xs vs)(h:∀s,oO s a code->UX (Y code) c->ZN E X g vs s a)(hd:qI Γ a code)(hv:UX (Y code) c)
  (j:∀m b v st t,tE st->gk L m->m<=b->K (.tuple ⟨[eg v st,tv t]⟩) (db v st++L) m b (iI (ah a) [] m b) (iJ [] m b))
  (k:∀m b (v:SA)(st:ae) t,gk L m->m<=b->K (.tuple ⟨[VK v st,tv t]⟩) L m b (iI (ah a) [] m b) (iJ [] m b)):WC E X Γ l g xs ts L K:=
 cI (Lm:=[]) (R:=L) (A:=ah a) i (.refl _) (λs hi=>(hd.row hi).2) (λs hi=>h s (hd.row hi).1 hv) (by rintro n L' m b d hm ⟨v,st,t,(⟨e,rfl,rfl⟩|⟨rfl,rfl⟩)⟩;exact j m b v st t e d hm;exact k m b v st t d hm)
def IE {e:Flat}(i:iu l xs vs)(h:∀s,tu s a a' f->tu s a2 OS e->jA E X g vs s ((ah a++ah a')++(ah a2++ah OS)) r)(h1:R9 Γ L a a' f)(h2:R9 Γ L a2 OS e)(k:∀m d,gk L m->m<=d->K r L m d (iI ((ah a++ah a')++(ah a2++ah OS)) [] m d) (iJ [] m d)):WC E X Γ l g xs ts L K:=
 dZ i (λs hi=>⟨λb hb=>by obtain hb|hb:=cG.1 hb<;>obtain hb|hb:=cG.1 hb;exact(h1.n.row hi).2 b hb;exact(h1.t.row hi).2 b hb;exact(h2.n.row hi).2 b hb;exact(h2.t.row hi).2 b hb,h s ⟨(h1.n.row hi).1,(h1.t.row hi).1⟩ ⟨(h2.n.row hi).1,(h2.t.row hi).1⟩⟩) k
def Rg (s:St)(a:aP)(code:aw)(c:Nat)(hr:oO s a code)(hv:UX (Y code) c)(hn:dy s):bM 3 [H a (Y code) c] s (ah a++[5,1]) (M J):=by
 have hd:qI ⟨s,([]:cq).flatMap It.bC,ah a++[5,1]⟩ a code:=qI.of hr λ_ hb=>im _ hb;have hdn:lN ⟨s,([]:cq).flatMap It.bC,ah a++[5,1]⟩:=lN.of hn aq aq;have hv':UX (Y code) c:=hv;refine a8 f3 ?_;refine' iK;all_goals try(focus((refine' aC);rfl;done))
 with_reducible apply VN
 exact aj;intro s D G;exact Gk s a code c D G;exact hd;exact hv'
 .intro m m' v st t hw _ _;dsimp only[db,List.cons_append,List.nil_append];by_cases N:Pg.jO st/\Pg.iM st t
  .have hif:∀s,jb s v st->dy s->u5 aZ aW 5 [eg v st,tv t] s (q7 v++[5,1]) (fQ st t) J:=λs hr hn=>s8.y (Fh Fj Oy s v st hw t hr hn) N;have hsf:∀s,jb s v st->u5 aZ aW 6 [eg v st,tv t] s (q7 v) (fQ st t) J:=λs hr=>s8.y (Fm s v st hw t hr) N;(have hwk:∀s,jb s v st->dy s->ZR aZ aW 8 [eg v st,tv t] s (q7 v++[5,1]) (fQ st t).names:=λs hr hn=>eJ.mono (Gi Fj s v st hw t hr hn) λR L ⟨a,c,w,ok,D,G,h3,h4⟩=>by have x8:ok=J:=h3.2 N;subst x8;rw[ai rfl] at h4;subst h4;exact⟨a,c,D,G⟩);have hE:=aeP N.2;have ON:=(Fl N.2).1;have RM:=(Fl N.2).2;(have hfo:∀s a c a' c',tu s a a' (fQ st t)->bM 11 [flV a c a' c' (fQ st t)] s (flA a a') (M J):=λs a c a' c' hr=>by exact Np s a c a' c' (fQ st t) hE ((abw _).2 (OE N.2)) hr);have Q:∀s a c a' c' a2 c2 OS c2',tu s a a' (fQ st t)->tu s a2 OS (fQ st t)->bM 7 [flV a c a' c' (fQ st t),flV a2 c2 OS c2' (fQ st t)] s ((ah a++ah a')++(ah a2++ah OS)) (M J):=λs a c a' c' a2 c2 OS c2' D G=>zR s a c a' c' a2 c2 OS c2' _ _ aa aa D.n D.t G.n G.t;have S:∀i,i<Y (fQ st t).names->∃(z:aw)(is:Bool),(∀s,jb s v st->dy s->bM 9 [eg v st,tv t,sv ((fQ st t).names.getD i au.ad).ar] s (q7 v++[5,1]) (.tuple ⟨[sv z,M is]⟩))/\(is=J->∀T∈(fQ st t).aB,T.id=((fQ st t).names.getD i au.ad).id->T.b0=z/\T.ej=U):=λi hi=>by
    have hy:=a7 hi au.ad;generalize(fQ st t).names.getD i au.ad=y at *
    obtain⟨h0,⟨n,hn⟩,hlk,hb,hl,ON⟩:=Ox N.2 hy;(have hx:=λs hr hm=>Gj s v st hw t N.1 N.2 y.ar hl hb y.id.toNat hlk ON n hn hr hm);by_cases hp:bQ y.ar=J;refine⟨(iL st n).getD [],(iL st n).isSome,λs hr hm=>?_,λZ T hT hid=>?_⟩;have:=hx s hr hm;rwa [ai hp] at this;cases PW:iL st n with
    |none=>rw[PW] at Z;cases Z
    |some z=>exact OF h0 hn PW hT hid
    refine⟨[],U,λs hr hm=>?_,λZ=>by cases Z⟩;have:=hx s hr hm;rwa [af hp] at this
   generalize fQ st t=F at *
   clear N hE;(repeat' first|refine' AG|(apply IC;exact aj;assumption;(exact hif);(exact⟨cJ.mk ax ax ax,ax,ax⟩);intro _ _ u x b d _ _)|(apply ID;exact aj;(exact hsf);(exact⟨cJ.mk ax ax ax,ax,ax⟩);intro _ _ a_s c_s ajl ajm _ _)|(apply IE;exact aj;(intro s D G;exact Q s _ _ _ _ _ _ _ _ D G);exact Dl;exact Dl;intros)|(apply VM;exact aj;assumption;(exact hwk);(exact⟨cJ.mk ax ax ax,ax,ax⟩);intro _ _ A B _ _)|refine' gL|fail);(all_goals try refine Dk);refine W.bu (λm l L=>∃(i e j o:Nat),Le [(3,bk e),(4,bk j),(5,bk o),(10,H A (Y F.names) B),(11,M J),(12,iv (i:Int))] l/\cb (.box e (lL v st) 29 U:: .box j (eN t) 33 U:: .box o (tq u x F.names b d F.aB) 39 U::jI u x F.names::q5 b d F.aB::jI A B F.names::db v st) L/\m=Y F.names-i/\i<=Y F.names)
    (λl L=>∃(e j o:Nat),Le [(3,bk e),(4,bk j),(5,bk o),(10,H A (Y F.names) B),(11,M J)] l/\cb (.box e (lL v st) 29 U:: .box j (eN t) 33 U:: .box o (tq u x F.names b d F.aB) 39 U::jI u x F.names::q5 b d F.aB::jI A B F.names::db v st) L) _ ⟨0,_,_,_,bd,ak,rfl,aa⟩ ?_ ?_
   .rintro m l L ⟨i,e,j,o,hl,hL,rfl,g1⟩;refine' cP;dsimp only[db,jI,q5];by_cases hi:i<Y F.names
    .obtain⟨z,is,VS,V⟩:=S i hi;clear S;(repeat' first|refine' AG|(apply VL;exact aj;assumption;(exact VS);(exact⟨cJ.mk ax ax ax,ax,ax⟩);intros)|refine' qgb|fail);refine W.bu (λm l L=>∃(k e j o:Nat),Le [(3,bk e),(4,bk j),(5,bk o),(10,H A (Y F.names) B),(11,M J),(12,iv (i:Int)),(13,sv z),(14,M is),(15,iv (k:Int))] l/\cb (.box e (lL v st) 29 U:: .box j (eN t) 33 U:: .box o (tq u x F.names b d F.aB) 39 U::jI u x F.names::q5 b d F.aB::jI A B F.names::db v st) L/\m=Y F.aB-k/\k<=Y F.aB)
      (λl L=>∃(e j o:Nat),Le [(3,bk e),(4,bk j),(5,bk o),(10,H A (Y F.names) B),(11,M J),(12,iv (i:Int))] l/\cb (.box e (lL v st) 29 U:: .box j (eN t) 33 U:: .box o (tq u x F.names b d F.aB) 39 U::jI u x F.names::q5 b d F.aB::jI A B F.names::db v st) L) _ ⟨0,_,_,_,bd,ak,rfl,aa⟩ ?_ ?_
     .rintro m l L ⟨k,e,j,o,hl,hL,rfl,g2⟩;refine' cP;dsimp only[db,jI,q5];by_cases hk:k<Y F.aB;cases is with
      |false=>refine' eR;(all_goals try refine Dk);all_goals exact⟨_,aa,k+1,e,j,o,bd,ak,rfl,aa⟩
      |true=>
       have V:=V rfl _ (a7 hk au.ad);by_cases hid:(F.aB.getD k au.ad).id=(F.names.getD i au.ad).id
       .obtain⟨e1,e2⟩:=V hid;have e3:decide ((F.aB.getD k au.ad).id=(F.names.getD i au.ad).id)=J:=gZ hid;(have e4:(!decide ((F.aB.getD k au.ad).b0=z))=U:=by rw[gZ e1];rfl);clear V;refine' eR;(all_goals try refine Dk);all_goals exact⟨_,aa,k+1,e,j,o,bd,ak,rfl,aa⟩
       have e3:decide ((F.aB.getD k au.ad).id=(F.names.getD i au.ad).id)=U:=kX hid;clear V;refine' eR;(all_goals try refine Dk);all_goals exact⟨_,aa,k+1,e,j,o,bd,ak,rfl,aa⟩
      (refine' eR);(all_goals try refine Dk);all_goals exact⟨e,j,o,bd,ak⟩
     rintro l L ⟨e,j,o,hl,hL⟩;(repeat(first|(with_reducible first|refine aJ ?_|refine eZ ?_|refine gG ?_)));refine' cP;dsimp only[db,jI,q5];refine' eR;(all_goals try refine Dk);all_goals exact⟨_,aa,i+1,e,j,o,bd,ak,rfl,aa⟩
    (refine' eR);(all_goals try refine Dk);all_goals exact⟨e,j,o,bd,ak⟩
   rintro l L ⟨e,j,o,hl,hL⟩;(repeat(first|(with_reducible first|refine aJ ?_|refine eZ ?_|refine gG ?_)));refine' cP;dsimp only[db,jI,q5];(repeat' first|refine' AG|(apply Ib;exact aj;(intro s D G;exact El s _ _ _ _ _ aa D G);exact ax;exact ax;intros)|(apply U0;exact aj;(intro s hr;exact hfo s _ _ _ _ hr);exact Dl;intros)|refine' gL|fail);(all_goals try refine Dk);(all_goals refine' aC);all_goals rfl
  have hif:∀s,jb s v st->dy s->u5 aZ aW 5 [eg v st,tv t] s (q7 v++[5,1]) ⟨[],[]⟩ U:=λs hr hn=>s8.n (Fh Fj Oy s v st hw t hr hn) N;(have hsf:∀s,jb s v st->u5 aZ aW 6 [eg v st,tv t] s (q7 v) ⟨[],[]⟩ U:=λs hr=>s8.n (Fm s v st hw t hr) N);(have Q:∀s a c a' c' a2 c2 OS c2',tu s a a' ⟨[],[]⟩->tu s a2 OS ⟨[],[]⟩->bM 7 [flV a c a' c' ⟨[],[]⟩,flV a2 c2 OS c2' ⟨[],[]⟩] s ((ah a++ah a')++(ah a2++ah OS)) (M J):=λs a c a' c' a2 c2 OS c2' D G=>zR s a c a' c' a2 c2 OS c2' _ _ aq aq D.n D.t G.n G.t);(repeat' first|refine' AG|(apply IC;exact aj;assumption;(exact hif);(exact⟨cJ.mk ax ax ax,ax,ax⟩);intro _ _ u x b d _ _)|(apply ID;exact aj;(exact hsf);(exact⟨cJ.mk ax ax ax,ax,ax⟩);intro _ _ a_s c_s ajl ajm _ _)|(apply IE;exact aj;(intro s D G;exact Q s _ _ _ _ _ _ _ _ D G);exact Dl;exact Dl;intros)|refine' gL|fail);(all_goals try refine Dk);(all_goals refine' aC);all_goals rfl
 intro m m' v st t _ _;have Q:∀s,bM 7 [flV O 0 O 0 ⟨[],[]⟩,flV O 0 O 0 ⟨[],[]⟩] s ((ah O++ah O)++(ah O++ah O)) (M J):=λs=>zR s O 0 O 0 O 0 O 0 _ _ aq aq ⟨rfl,.inl ⟨rfl,.inl rfl⟩⟩ ⟨rfl,.inl ⟨rfl,.inl rfl⟩⟩ ⟨rfl,.inl ⟨rfl,.inl rfl⟩⟩ ⟨rfl,.inl ⟨rfl,.inl rfl⟩⟩;have ajn:∀s,bM 7 [.agg ⟨tq O 0 [] O 0 []⟩,.agg ⟨tq O 0 [] O 0 []⟩] s [] (M J):=Q;(repeat' first|refine' AG|(apply ag;exact aj;exact λs=>OJ s _ _ _;intros)|(apply ag;exact aj;exact λs=>OI s _ _ _;intros)|(apply ag;exact aj;exact λs=>ajn s;intros)|refine' gL|fail);all_goals try refine Dk
 all_goals refine' aC
 all_goals rfl
end Go.Pl
namespace Go.Proofs
open Go Go.Ev Go.Lg
variable {f k o:Nat}{w:World}
def acq {s:St}{vs a:aV}{ρ:iw}{q:List Nat}(y:Pl.bM f vs s q (.bool J))(hn:16<=s.next)(p:s.wr=0)(j:∀b,s.next<=b->s.heap.get b=O)
  (n:ez prog (λ_=>True) (λi=>i<s.next) ρ s.heap.get w)(E:∀g,g<16->(ρ g).1=g)(B:LR (λi=>i<s.next) ρ vs a):js prog f ⟨a⟩ w λr w'=>r= .bool J/\Fr w w' λ_=>False:=by
 obtain⟨r,s',⟨N,A⟩,L',z,rfl,_⟩:=y (λ_ h=>by cases h) (λ_ h=>by cases h) ta;have hc:=A N (fG _) N (fG _);have l:=CL adl agO mixed N (tab:=[]) (λe D=>by cases D) N;obtain⟨F,G⟩:=l _ _ _ _ _ hc;have:=G (λb=>In s'.cC b) (λi=>i<s.next) ρ w a ⟨λi hi=>hi,j,λb hb=>hb,n.sub λ_ _=>trivial⟩ (λg m=>⟨aa,E g m⟩) B;refine this.mono λr w' ⟨er,u,d⟩=>⟨u.su,d.gm.os,d.gm.tape,d.gm.output,d.gm.size,λr hr _=>d.gm.block r hr ?_⟩;rintro⟨b,o,v,_,t,_⟩;obtain c|c|c:=z.wr b v
 rw[show(ng.s0 ⟨s,([]:cq).flatMap It.bC,q⟩).wr=0 from p] at c;simp[In] at c;cases c;have x:s.next<=b:=c;rw[j b x] at t;cases t
def acr {n:Int}(h:(Lit.int .u8 n).wf=J):((UInt8.ofNat n.toNat).toNat:Int)=n:=by simp[Lit.wf,IntKind.has,IntKind.min,IntKind.max,IntKind.bits,IntKind.signed] at h;have:(UInt8.ofNat n.toNat).toNat=n.toNat% 256:=rfl;rw[this];omega
abbrev d8:UInt8:=au.ad (α:=UInt8)
abbrev acs (w:World)(v:Value):Prop:=v= .slice O 0 0\/∃(b o n c:Nat)(zs:List Int),v= .slice (C ⟨b,o,O⟩) n c/\n<=Y zs/\n<=c/\c<cl/\(∀z∈zs,(Lit.int .u8 z).wf=J)/\∀i,i<Y zs->w.cell? ((⟨b,o,O⟩:Addr).add i)=C (.int .u8 (zs.getD i 0))
inductive ajo (w:World)(v:Value):Prop where
 |empty (b c:Nat) (hu:c<cl) (h:∀k,∃a,(∀j∈ah a,j=k)/\∀N ρ,k<N->(ρ k).1=b->VR (λi=>i<N) ρ (.slice a 0 c) v)
 |bytes (b o c:Nat) (code:Pl.aw) (cs:aV) (t:TypeId) (fr:Nat×Nat) (h:v= .slice (some ⟨b,o,none⟩) code.length c) (h0:0<code.length) (hc:code.length<=c) (hu:c<cl) (hb:w.heap[b]?=some (.cells ⟨cs⟩ t fr)) (rK:∀i,i<code.length->cs[o+i]?=some (bv (code.getD i d8)))
def ag8 {ρ:iw}{k b:Nat}{N:Nat}(a:k<N)(hb:(ρ k).1=b)(o n c:Nat)(hu:c<cl):VR (λi=>i<N) ρ (.slice (C ⟨k,o,O⟩) n c) (.slice (C ⟨b,o,O⟩) n c):=λer e=>by rw[eK,e k a,gz hu,hb]
def acs.c {v:Value}(hv:acs w v):ajo w v:=by
 obtain rfl|⟨b,o,n,c,zs,rfl,hn,hc,hu,p,a⟩:=hv;exact .empty 0 0 cx λk=>⟨O,λj h=>by simp[ah] at h,λN ρ _ _=>VR.ground aq⟩
 by_cases h0:n=0;subst h0;exact .empty b c hu λk=>⟨C ⟨k,o,O⟩,λj h=>by simpa[ah] using h,λN ρ m hb=>ag8 m hb _ _ _ hu⟩;have d:Y ((zs.take n).map λz=>UInt8.ofNat z.toNat)=n:=by rw[fH,de];omega
 have g:∀i,i<n->bv (((zs.take n).map λz=>UInt8.ofNat z.toNat).getD i d8)= .int .u8 (zs.getD i 0):=λi hi=>by rw[eX,mP,xI,ai hi,eX,c8 (show i<Y zs by omega)];show Value.int .u8 ((UInt8.ofNat (zs[i]).toNat).toNat:Int)= .int .u8 zs[i];rw[acr (p _ (B5 _))]
 have l:=a 0 aa;simp only[Addr.add,iO,World.cell?] at l;split at l;rotate_left;cases l;rename_i cs t fr hblk;obtain⟨cs⟩:=cs;have rK:∀i,i<Y zs->cs[o+i]?=C (.int .u8 (zs.getD i 0)):=λi hi=>by have:=a i hi;rw[<-this];by_cases e:i=0;subst e;simp[Addr.add,World.cell?,hblk];simp[Addr.add,World.cell?,hblk,e]
 exact .bytes b o c ((zs.take n).map λz=>UInt8.ofNat z.toNat) cs t fr (by rw[d]) aa aa hu hblk λi hi=>by rw[d] at hi;rw[g i hi,rK i aa]
def ajp {code:Pl.aw}{i:Nat}(hi:i<Y code)(l:List (Nat×aV)):∃p,Au ((o,code.map bv)::l) (o+i)=C p/\p.2[o+i-p.1]?=C (bv (code.getD i d8)):=by refine⟨(o,code.map bv),?_,?_⟩;show bo (ble o (o+i)&&ble (Nat.succ (o+i-o)) (Y (code.map bv))) _ _=_;rw[dC,ai];rw[ep,mm,mm,fH];omega;show(code.map bv)[o+i-o]?=_;rw[show o+i-o=i by omega,mP,eX,c8 hi];rfl
def acu {code:Pl.aw}{cs:aV}(h0:0<Y code)(h:∀i,i<Y code->cs[o+i]?=C (bv (code.getD i d8)))(A:Nat->Prop)(ρ:iw):∃pre c' rest,cs=pre++(c'++rest)/\Y pre=o/\LR A ρ (code.map bv) c':=by
 have cg:o+Y code<=Y cs:=by have:=(qS.1 (h (Y code-1) aa)).1;omega
 have a:(cs.drop o).take (Y code)=code.map bv:=by apply Gt;intro i;by_cases hi:i<Y code;rw[xI,ai hi,Cg,h i hi,mP,eX,c8 hi];rfl;rw[mQ (by rw[de];omega),mQ (by rw[fH];omega)]
 refine⟨cs.take o,(cs.drop o).take (Y code),(cs.drop o).drop (Y code),?_,by rw[de];omega,?_⟩;rw[vC,vC];rw[a];exact λer _=>(qo λy b=>by obtain⟨u,_,rfl⟩:=qj.1 b;simp).trans (Cf _)
def acv {s:St}{ws:List (Nat×aV)}{code:Pl.aw}(a:k<s.next)(h:s.heap.get k=C (.mX ws))(c:∀i,i<Y code->∃p,Au ws (o+i)=C p/\p.2[o+i-p.1]?=C (bv (code.getD i d8))):Pl.oO s (C ⟨k,o,O⟩) code:=
 ⟨λb hb=>by simp[ah] at hb;omega,λ_=>⟨k,o,ws,rfl,h,c⟩⟩
structure ag9 (w:World):Prop where
 pow:∃t fr,w.heap[5]?=some (.cells ⟨kb⟩ t fr)
 err:∃t fr tp q o,w.heap[1]?=some (.cells ⟨[.iface tp (.pointer (some ⟨q,o,none⟩))]⟩ t fr)
noncomputable def S1 (tp o:Nat)(a:Option (List (Nat×aV))):St:=⟨T.set 18 (T.set 18 (T.set 18 T.nil 1 (C (.mX [(0,[.iface tp (.pointer (C ⟨17,o,O⟩))])]))) 5 (C (.mX [(0,kb),(20,[])]))) 16 (a.map .mX),18,0,0⟩
abbrev R1 (p q:Nat):iw:=λi=>if i=16 then(p,0,0) else if i=17 then(q,0,0) else(i,0,0)
def ZS (tp o:Nat)(a:Option (List (Nat×aV)))(m:Nat):(S1 tp o a).heap.get m=if m=16 then a.map .mX else if m=5 then C (.mX [(0,kb),(20,[])]) else if m=1 then C (.mX [(0,[.iface tp (.pointer (C ⟨17,o,O⟩))])]) else O:=by show(T.set 18 (T.set 18 (T.set 18 (T.nil:T fa) 1 _) 5 _) 16 _).get m=_;rw[T.Bx 18 _ _ _ _ cx,T.Bx 18 _ _ _ _ cx,T.Bx 18 _ _ _ _ cx,T.get_nil]
def acw:AB (.mX [(0,kb),(20,[])])=J:=by kernel_rfl
def ajq (hL:∀(s:St)(a:aP)(code:Pl.aw)(c:Nat),Pl.oO s a code->Pl.UX (Y code) c->Pl.dy s->Pl.bM f [.slice a (Y code) c] s (ah a++[5,1]) (.bool J))(w:World)(v:Value)(hT:ag9 w)(h1:acs w v):js prog f ⟨[v]⟩ w λr w'=>r= .bool J/\Fr w w' λ_=>False:=by
 obtain⟨⟨t5,f5,V⟩,te,fe,tp,q,eo,W⟩:=hT;have gen:∀(d:Option (List (Nat×aV)))(p:Nat)(A:aP)(m:Nat)(l:Pl.aw),(∀ws,d=C ws->(p≠1/\p≠5)/\∃cs t fr,w.heap[p]?=C (.cells ⟨cs⟩ t fr)/\∀x∈ws,∃pre c' rest,cs=pre++(c'++rest)/\Y pre=x.1/\LR (λi=>i<18) (R1 p q) x.2 c'/\(x.2=[]->rest=[]))->Pl.oO (S1 tp eo d) A l->Pl.UX (Y l) m->VR (λi=>i<18) (R1 p q) (.slice A (Y l) m) v->js prog f ⟨[v]⟩ w λr w'=>r= .bool J/\Fr w w' λ_=>False:=by
  intro d p A m l f1 S s1 F;have k:∀i o,(S1 tp eo d).heap.get i=C o->(i=16/\∃ws,d=C ws/\fa.mX ws=o)\/(i=5/\o= .mX [(0,kb),(20,[])])\/(i=1/\o= .mX [(0,[.iface tp (.pointer (C ⟨17,eo,O⟩))])]):=λi o h=>by rw[ZS] at h;split at h;exact .inl ⟨‹_›,Gy.1 h⟩;split at h;exact .inr (.inl ⟨‹_›,(dM h).symm⟩);split at h;exact .inr (.inr ⟨‹_›,(dM h).symm⟩);cases h
  have hN:Pl.dy (S1 tp eo d):=⟨by show 5<18;omega,⟨.mX [(0,kb),(20,[])],by rw[ZS,af cx,ai rfl],acw⟩,.mX [(0,[.iface tp (.pointer (C ⟨17,eo,O⟩))])],by rw[ZS,af cx,af cx,ai rfl],rfl⟩;have E:(S1 tp eo d).next=18:=rfl
  have T:(S1 tp eo d).wr=0:=rfl;have D:=ZS tp eo d;generalize S1 tp eo d=z at *
  have hid:∀i,i≠16->i≠17->(R1 p q i).1=i:=λi h1 Q=>by simp only[R1,af h1,af Q]
  have N:(R1 p q 16).1=p:=rfl;have h17:(R1 p q 17).1=q:=rfl;have f1:∀ws,d=C ws->(p≠1/\p≠5)/\∃cs t fr,w.heap[p]?=C (.cells ⟨cs⟩ t fr)/\∀x∈ws,∃pre c' rest,cs=pre++(c'++rest)/\Y pre=x.1/\LR (λi=>i<z.next) (R1 p q) x.2 c'/\(x.2=[]->rest=[]):=by rwa[E]
  have F:VR (λi=>i<z.next) (R1 p q) (.slice A (Y l) m) v:=by rwa[E]
  refine acq (s:=z) (ρ:=R1 p q) (hL _ A l m S s1 hN) aa T (λb h=>?_) ⟨λi o _ h=>?_,λi i' o o' _ _ h h' e=>?_⟩ (λg hg=>hid g aa aa) (LR.cons F LR.nil);rw[D,af aa,af aa,af aa];rcases k i o h with⟨rfl,ws,e,rfl⟩|⟨rfl,rfl⟩|⟨rfl,rfl⟩;obtain⟨_,cs,t,fr,hb,hw⟩:=f1 ws e;exact⟨by show 16<z.next;omega,_,hb,cs,t,fr,rfl,hw⟩;exact⟨by show 5<z.next;omega,_,V,_,_,_,rfl,λp y=>by rw[cA,gI] at y;obtain rfl|rfl:=y;exact⟨[],kb,[],aq,rfl,λer _=>ED er,λh=>by cases h⟩;exact⟨kb,[],[],aq,rfl,LR.nil,λ_=>rfl⟩⟩;exact⟨by show 1<z.next;omega,_,W,_,_,_,rfl,λp y=>by rw[gI] at y;subst y;refine⟨[],[.iface tp (.pointer (C ⟨q,eo,O⟩))],[],aq,rfl,λer e=>?_,λh=>by cases h⟩;show [bZ er (.iface tp (.pointer (C ⟨17,eo,O⟩)))]=[.iface tp (.pointer (C ⟨q,eo,O⟩))];have:=e 17 (by show 17<z.next;omega);simp only[bZ,this];rfl⟩;rcases k i o h with⟨rfl,ws,Z,_⟩|⟨rfl,_⟩|⟨rfl,_⟩<;>obtain⟨rfl,ws',e2,_⟩|⟨rfl,_⟩|⟨rfl,_⟩:=k i' o' h'<;>first
   |rfl
   |(exfalso;simp only[N,hid 5 cx cx,hid 1 cx cx] at e;first|(have:=(f1 _ Z).1;omega)|(have:=(f1 _ e2).1;omega)|omega)
 obtain⟨B,m,G,k1⟩|⟨B,d,m,l,K,t1,L,rfl,X,m1,G,j,u⟩:=h1.c;obtain⟨A,l1,F⟩:=k1 16;exact gen O B A m [] (λ_ h=>by cases h) ⟨λb hb=>by have:=l1 b hb;show b<18;omega,λh=>by cases h⟩ ⟨jl _,G⟩ (F 18 _ cx rfl);have ha:=u 0 X;have R:B≠1/\B≠5:=by refine⟨λe=>?_,λe=>?_⟩;subst e;rw[W] at j;cases j;have:=Cd ha;rw[gI] at this;cases this;subst e;rw[V] at j;cases j;have:=Cd ha;unfold kb at this;obtain⟨n,_,e⟩:=qj.1 this;cases e
 exact gen (C [(d,l.map bv)]) B (C ⟨16,d,O⟩) m l (λws e=>by cases e;exact⟨R,K,t1,L,j,λp y=>by rw[gI] at y;subst y;obtain⟨pre,c',rest,w1,w2,w3⟩:=acu X u _ _;exact⟨pre,c',rest,w1,w2,w3,λh=>by have Q:Y (l.map bv)=0:=congrArg List.length h;rw[fH] at Q;omega⟩⟩) (acv (by show 16<18;omega) (by rw[ZS];rfl) λi hi=>ajp hi []) ⟨m1,G⟩ (ag8 cx rfl _ _ _ G)
end Go.Proofs
