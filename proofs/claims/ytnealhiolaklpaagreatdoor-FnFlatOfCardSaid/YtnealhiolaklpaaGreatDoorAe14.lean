/- Lemmas of the proof. No conditions. -/
import Derived.Test.YtnealhiolaklpaaGreatDoorAe12
import Derived.Test.YtnealhiolaklpaaGreatDoorAe13
set_option maxRecDepth 100000
set_option maxHeartbeats 4000000
set_option linter.all false
open Bool renaming false->U,true->J
open Option renaming none->O,some->C
open List renaming length->Y
open Go.Value renaming slice->H,bool->M,int->I
open Go.Proofs.Tryz
open Nat (beq ble mul)
open Go.Result (andThen_ok)
open Go.Sem (run_bind)
open Go.Region (binds)
open List (replicate)
open Int (toNat)
open Go.Builtin (firstCells)
open Go.Instr (checkKey)
namespace Go.Pg
open Go.Pl
variable {rest d f g:aw}{out l l':List az}{e:az}
def eb (c:UInt8)(s:aw):aw:=s.takeWhile (λx=>decide (x≠c))
def lD (c:UInt8)(s:aw):aw:=s.drop (Y (eb c s)+1)
def BX (c:UInt8)(s:aw):Y (eb c s)<=Y s:=(KV _).length_le
def sc {c:UInt8}:∀{a b:aw},(∀x∈a,x≠c)->eb c (a++c::b)=a
 |[],b,_=>by unfold eb;rw[kG,xL,af aq]
 |x::a,b,h=>by unfold eb;rw[jk,xL,ai (by simpa using h x aq)];exact congrArg (x::·) (sc (a:=a) (b:=b) λy i=>h y (by simp[i]))
def Eg {c:UInt8}{a b:aw}(h:∀x∈a,x≠c):lD c (a++c::b)=b:=by unfold lD;rw[sc h,<-wx,Ap];rfl
def J8 {c:UInt8}:∀{s:aw},Y (eb c s)<Y s->s=eb c s++c::lD c s
 |[],h=>by simp[eb] at h
 |x::s,h=>by unfold lD;unfold eb at h⊢;rw[xL] at h⊢;by_cases a:x=c;subst a;simp;rw[ai (by simpa using a)] at h⊢;have:=J8 (c:=c) (s:=s) (by simpa[eb] using h);unfold lD at this;unfold eb at this;rw[jk,fS,List.drop_succ_cons];exact congrArg (x::·) this
def QA {c:UInt8}{a b:aw}(h:∀x∈a,x≠c):Y (eb c (a++c::b))<Y (a++c::b):=by rw[sc h,dB,fS];omega
def Im:∀{l:List aw}{out t:aw},jJ l out=C t->t=out++fieldsOf l
 |[],out,t,h=>by rw[jJ] at h;cases h;simp[fieldsOf]
 |s::l,out,t,h=>by rw[jJ] at h;split at h;cases h;dsimp only at h;split at h;cases h;rw[Im h,cS];simp
def l7 {s:aw}{l:List aw}(h:b6 s=C l):s=fieldsOf l/\Y l<=60:=by unfold b6 at h;split at h;cases h;split at h;cases h;rename_i t ht;split at h;rename_i a;cases h;unfold iy at ht;split at ht;cases ht;have:=Im ht;rw[<-a];exact⟨by simpa using this,aa⟩;cases h
def sV (a b:List aw):fieldsOf (a++b)=fieldsOf a++fieldsOf b:=by simp[fieldsOf]
def yX:fieldsOf []=[]:=rfl
structure FG (s rest:aw)(out:List aw):Prop where
 eq:s=fieldsOf out++rest
 len:out.length<=60
 ex:∀l,b6 s=some l->∃l',l=out++l'/\rest=fieldsOf l'
def YL (n:Nat){c:UInt8}(hc:gR c=U):∀x∈fu n,x≠c:=zx (yj n) hc
def FG.start (s:aw):FG s s []:=⟨rfl,jl _,λl h=>⟨l,rfl,(l7 h).1⟩⟩
def FG.step {s rest:aw}{out:List aw}{n:Nat}(h:FG s rest out)(h1:Y (eb 58 rest)<Y rest)(h2:aA (eb 58 rest)=C n)(b:n<=Y (lD 58 rest))(k:Y out<60):FG s ((lD 58 rest).drop n) (out++[(lD 58 rest).take n]):=by
 have j:=J8 h1;have hn:=(hZ h2).1;refine⟨?_,by simp;omega,λl hl=>?_⟩;rw[h.eq,sV,cS,yX,fT,de,tH b,<-hn];conv=>lhs;rw[j]
 simp;obtain⟨l',a,e2⟩:=h.ex l hl;cases l' with
 |nil=>rw[e2] at h1;simp[fieldsOf] at h1
 |cons x l'=>
  refine' zaA;rw[e4] at h2;have:Y x<1000000000:=by have:=(hZ h2).2;have i:=wS (Y x);rw[(hZ h2).1,wS] at i;omega
  rw[qC this] at h2;(cases h2);refine⟨l',?_,?_⟩;rw[e5,Ca,a];simp;rw[e5,Ap]
def FG.fail {s rest:aw}{out:List aw}(h:FG s rest out)(hs:Y s<=2048)(hr:rest≠[])(hf:¬Y (eb 58 rest)<Y rest\/aA (eb 58 rest)=O\/(∃n,aA (eb 58 rest)=C n/\Y (lD 58 rest)<n)\/Y out=60):b6 s=O:=by
 cases i:b6 s with
 |none=>rfl
 |some l=>
  exfalso;obtain⟨l',j,e2⟩:=h.ex l i;obtain⟨k,a⟩:=l7 i;cases l' with
  |nil=>exact hr e2
  |cons x l'=>refine' zaA;(have hl:Y x<=Y s:=by rw[h.eq,e3];simp only[dB,fS];omega);(have b:aA (eb 58 rest)=C (Y x):=by rw[e4];exact qC aa);obtain hf|hf|⟨n,hf,hn⟩|hf:=hf;exact hf (by rw[e3];exact QA hd);rw[hf] at b;cases b;rw[hf] at b;cases b;rw[e5,dB] at hn;omega;rw[j] at a;simp only[dB,fS] at a;omega
def FG.done {s:aw}{out:List aw}(h:FG s [] out)(hs:Y s<=2048):b6 s=C out:=by have:=h.eq;rw[fT] at this;rw[this];exact qZ h.len (by rw[<-this];exact hs)
def EF {s:aw}(h:2048<Y s):b6 s=O:=by
 cases a:b6 s with
 |none=>rfl
 |some l=>unfold b6 at a;rw[ai h] at a;dsimp only at a;have:iy []=C []:=rfl;rw[this] at a;dsimp only at a;split at a;rename_i b;rw[<-b] at h;cases h;cases a
def p9 {s:aw}{n:dX}(h:bY s=C n):b6 s=C (fw n)/\aA (dec n.kind)=C n.kind.toNat/\aA (dec n.aX)=C n.aX.toNat/\aA (dec n.size)=C n.size.toNat/\aA (dec n.aO.depth)=C n.aO.depth.toNat/\aA (dec n.aO.many)=C n.aO.many.toNat/\cy (b9 n.aO.bU)=C n.aO.bU:=by obtain⟨a,c⟩:=jW h;obtain⟨i,hs,_,hm,hd,hr,hl,_⟩:=ef a;have b:=eE n.aO.many;refine⟨?_,hU aa aa,hU aa aa,hU aa aa,hU aa aa,hU aa aa,wT hr⟩;rw[<-c,sJ a];exact qZ (by simp[fw]) (by have:=kQ _ (pc a);simp[fw] at this⊢;omega)
def J9 {s:aw}(h:b6 s=O):bY s=O:=by
 cases a:bY s with
 |none=>rfl
 |some n=>rw[(p9 a).1] at h;cases h
def NM {s:aw}{f:List aw}(h:b6 s=C f)(a:Y f≠7):bY s=O:=by
 cases b:bY s with
 |none=>rfl
 |some n=>rw[(p9 b).1] at h;cases h;exact absurd rfl a
def NN {s:aw}{a b c d e f g:aw}(h:b6 s=C [a,b,c,d,e,f,g])(hb:aA a=O\/aA b=O\/aA c=O\/cy d=O\/aA e=O\/aA f=O):bY s=O:=by
 cases j:bY s with
 |none=>rfl
 |some n=>obtain⟨i,k,m,o,p,q,r⟩:=p9 j;rw[i] at h;unfold fw at h;simp only[o4,List.cons.injEq,tA] at h;obtain⟨rfl,rfl,rfl,rfl,rfl,rfl,rfl⟩:=h;obtain hb|hb|hb|hb|hb|hb:=hb<;>simp_all
def F4 {s:aw}{a b c d e f g:aw}{i j m n o:Nat}{p:fm}(h:b6 s=C [a,b,c,d,e,f,g])(h1:aA a=C i)(h2:aA b=C j)(u:aA c=C m)(v:cy d=C p)(x:aA e=C n)(y:aA f=C o):
  bY s=if dK ⟨i,j,m,p,n,o⟩=s then C ⟨i,j,m,p,n,o⟩ else O:=by
 unfold bY;rw[h];dsimp only;have r:∀{w:aw}{k:Nat},aA w=C k->pa w=(k:Int):=λ{w k} z=>by unfold pa;rw[z];rfl
 rw[r h1,r h2,r u,v,r x,r y];dsimp only[Option.getD];by_cases q:dK ⟨i,j,m,p,n,o⟩=s;rw[ai q];have t:cM ⟨i,j,m,p,n,o⟩=J:=by
  cases t:cM ⟨i,j,m,p,n,o⟩ with
  |true=>rfl
  |false=>(have:dK ⟨i,j,m,p,n,o⟩=[]:=by unfold dK;rw[t];rfl);rw[this] at q;subst q;have h0:=(l7 h).1;rw[cS] at h0;simp at h0
 rw[af (by rw[t];simp[q])];rw[af q,ai (by simp[q])]
structure EG (s rest:aw)(out:List az):Prop where
 eq:s=aR out++rest
 len:out.length<=12
 ex:∀l,df s=some l->∃l',l=out++l'/\rest=aR l'
def EG.start (s:aw):EG s s []:=⟨rfl,jl _,λl h=>⟨l,rfl,(lY h).2.symm⟩⟩
def F5 (a b:List az):aR (a++b)=aR a++aR b:=by simp[aR]
def A3 {s:aw}(i:df s=C l)(h1:l=out++e::l'):(∀x∈e.name,x≠59/\x≠61)/\(∀x∈dec e.id,x≠59/\x≠61)/\1<=e.id/\e.id<=15:=by obtain⟨c,_,_⟩:=ea (lY i).1;have b:=c e (by rw[h1];simp);have hd:=yk (n:=e.id) aa;exact⟨λx a=>⟨BN b.1 cx x a,BN b.1 cx x a⟩,λx a=>⟨zx hd rfl x a,zx hd rfl x a⟩,b.2⟩
def EH {s rest:aw}(j:df s=C l)(h1:l=out++e::l')(h2:rest=aR (e::l')):eb 59 rest=e.name++61::dec e.id/\lD 59 rest=aR l'/\Y (eb 59 rest)<Y rest/\eb 61 (eb 59 rest)=e.name/\lD 61 (eb 59 rest)=dec e.id/\Y (eb 61 (eb 59 rest))<Y (eb 59 rest)/\aA (dec e.id)=C e.id.toNat:=by
 obtain⟨hn,hd,k,m⟩:=A3 j h1;rw[jB] at h2;have a:∀x∈e.name++61::dec e.id,x≠59:=λx a=>by obtain a|a:=cG.1 a;exact(hn x a).1;rcases cA.1 a with rfl|a;decide;exact(hd x a).1
 have b:eb 59 rest=e.name++61::dec e.id:=by rw[h2];exact sc a
 have i:lD 59 rest=aR l':=by rw[h2];exact Eg a
 have c:=λx a=>(hn x a).2;refine⟨b,i,by rw[h2];exact QA a,by rw[b];exact sc c,by rw[b];exact Eg c,by rw[b];exact QA c,hU aa aa⟩
def EG.step {s rest:aw}{n:Nat}(h:EG s rest out)(h1:Y (eb 59 rest)<Y rest)(h2:Y (eb 61 (eb 59 rest))<Y (eb 59 rest))(c:aA (lD 61 (eb 59 rest))=C n)(k:Y out<12):EG s (lD 59 rest) (out++[⟨eb 61 (eb 59 rest),n⟩]):=by
 refine⟨?_,by simp;omega,λl hl=>?_⟩;have a:=J8 h1;have b:=J8 h2;have hn:=(hZ c).1;rw[h.eq,F5,jB,aaV,<-hn];have:aR []=[]:=rfl;rw[this];conv=>lhs;rw[a]
 conv=>lhs;rw[b]
 simp;obtain⟨l',a,b⟩:=h.ex l hl;cases l' with
 |nil=>rw[b] at h1;simp[aR] at h1
 |cons e l'=>obtain⟨f1,f2,f3,f4,f5,f6,f7⟩:=EH hl a b;obtain⟨_,_,j,i⟩:=A3 hl a;rw[f5,f7] at c;(cases c);refine⟨l',?_,f2⟩;rw[f4,a];(have:((e.id.toNat:Nat):Int)=e.id:=by omega);rw[this];simp
def EG.fail {s rest:aw}(h:EG s rest out)(hr:rest≠[])(hf:¬Y (eb 59 rest)<Y rest\/¬Y (eb 61 (eb 59 rest))<Y (eb 59 rest)\/aA (lD 61 (eb 59 rest))=O\/Y out=12):df s=O:=by
 cases a:df s with
 |none=>rfl
 |some l=>
  exfalso;obtain⟨l',b,c⟩:=h.ex l a;cases l' with
  |nil=>exact hr c
  |cons e l'=>obtain⟨f1,f2,f3,f4,f5,f6,f7⟩:=EH a b c;have i:=(ea (lY a).1).2.2;obtain hf|hf|hf|hf:=hf;exact hf f3;exact hf f6;rw[f5,f7] at hf;cases hf;rw[b] at i;simp only[dB,fS] at i;omega
def Ka:aR (e::l)≠[]:=by rw[jB];simp
def EG.done {s:aw}(h:EG s [] out):df s=if bg out=J then C out else O:=by
 have c:=h.eq;rw[fT] at c;cases a:bg out with
 |true=>rw[ai rfl,c];exact uz a
 |false=>
  rw[af B3];cases i:df s with
  |none=>rfl
  |some l=>
   obtain⟨l',b,j⟩:=h.ex l i;cases l' with
   |nil=>rw[fT] at b;subst b;rw[(lY i).1] at a;cases a
   |cons e l'=>exact absurd j.symm Ka
end Go.Pg
namespace Go.Pl
open Go Go.Ev Go.Lg Go.Proofs
def QB {E:hJ}{X:fb}{Γ:ng}{l:Kn}{L R:cq}{K:KO}{x y:Operand}{t t2:TypeId}{a:aP}{n m c e:Nat}{enc:au UInt8 1}{z:List UInt8}(b:∀c:UInt8,au.cells c=[bv c])[hs:ie E e 1](d:iE E t=C (.pointer e))(f:Ev l x (.pointer a))(g:Ev l y (iv (m:Nat)))(hr:Bm (.aU (H a n c) e 1 (ab z)) L R)(hn:n=Y z)(hm:m=Y z)(h0:0<Y z)(hl:Y z<=1000000)(k:∀n,K (sv z) R n n (λi=>i∈ah a) (λi=>i∈ah a)):WO E X Γ l (.call ⟨.builtin .unsafeString,⟨[x,y]⟩,⟨[t,t2]⟩⟩) L K:=by subst hn hm;exact yH b d f g hr h0 hl k
def Kb (s:St)(z:aw)(a:Y z<=100000):bM 205 [sv z] s [] (sv z):=by by_cases h0:Y z=0;have:=jG h0;subst this;refine a8 f205 ?_;refine' qcy;refine a8 f205 ?_;(repeat' first|(apply Yq;(exact λ_=>rfl);exact bN;exact bN;exact FO;(exact rfl);(rw[sk];omega);exact mv;intro _)|((with_reducible apply QB (e:=5));(exact λ_=>rfl);(exact bV);exact bN;exact bN;exact Bn;(rw[sk];omega);(rw[sk];omega);exact mv;exact mv;intro _)|refine' nJ|fail)
def NO (s:St)(z:aw)(a:Y z<=100000):bM 147 [sv z] s [] (sv z):=by refine a8 f147 ?_;(repeat' first|(apply ag;exact aj;exact λs=>Kb s _ aa;intros)|refine' Ux|fail)
def SI (c:UInt8)(z:aw):Pg.eb c (c::z)=[]:=by unfold Pg.eb;rw[xL,af aq]
def abV {b c:UInt8}(h:b≠c)(z:aw):Pg.eb c (b::z)=b::Pg.eb c z:=by unfold Pg.eb;rw[xL,ai (by simpa using h)]
def NP (c:UInt8):∀(z:aw)(i:Nat),wC c.toNat z i=if(Pg.eb c z).length<Y z then((i+Y (Pg.eb c z):Nat):Int) else -1
 |[],i=>rfl
 |b::z,i=>by
  have h:wC c.toNat (b::z) i=bo (beq b.toNat c.toNat) (.ofNat i) (wC c.toNat z (i+1)):=rfl;rw[h,dC,NP c z (i+1)];by_cases hb:b=c;subst hb;rw[ai (kY _),SI,ai aq];rfl;have a:¬beq b.toNat c.toNat=J:=by rw[lH];exact λe=>hb (tz.1 e)
  rw[af a,abV hb,fS,fS];by_cases hl:Y (Pg.eb c z)<Y z;rw[ai hl,ai aa];congr 1;omega;rw[af hl,af aa]
def QC (c:UInt8)(z:aw):Int:=if(Pg.eb c z).length<Y z then(Y (Pg.eb c z):Int) else -1
def Vd (s:St)(z:aw)(c:UInt8):bM 290 [sv z,I .u8 (c.toNat:Int)] s [] (iv (QC c z)):=by refine abC (fn:=f290) bV rfl bV ?_;show ob (dq (ble (Nat.succ c.toNat) 256) (C (Value.int .i64 (wC c.toNat z 0)))) (λv=>aD v s)=_;rw[dQ (show Nat.succ c.toNat<=256 from c.toNat_lt),NP,kz];rfl
def QD (s:St)(z:aw)(c:UInt8):bM 277 [sv z,I .u8 (c.toNat:Int)] s [] (iv (QC c z)):=by refine a8 f277 ?_;(repeat' first|(apply ag;exact aj;exact λs=>Vd s _ _;intros)|refine' Ux|fail)
def QE (s:St)(z:aw)(c:UInt8):bM 254 [sv z,sv [c]] s [] (iv (QC c z)):=by
 refine a8 f254 ?_;(repeat' first|(apply ag;exact aj;exact λs=>QD s _ _;intros)|refine' cY|fail);all_goals refine' aC
 all_goals first|rfl|(have e:[c]=z:=by assumption
                      subst e;show dP=iv (QC c [c]);unfold QC;rw[SI];rfl)
def QG (s:St)(z:aw)(c:UInt8)(g:Y z<=100000):bM 202 [sv z,sv [c]] s [] (.tuple ⟨[sv (Pg.eb c z),sv (Pg.lD c z),M (decide (Y (Pg.eb c z)<Y z))]⟩):=by
 have hle:=Pg.BX c z;have a:=λs=>QE s z c;by_cases b:Y (Pg.eb c z)<Y z
 .have hc:QC c z=(Y (Pg.eb c z):Int):=ai b;rw[hc] at a;rw[gZ b];have d:z.take (Y (Pg.eb c z))=Pg.eb c z:=(List.prefix_iff_eq_take.1 (KV _)).symm;refine a8 f202 ?_;(repeat' first|(apply ag;exact aj;(exact a);intros)|(apply CS;exact bN;exact bN;(constructor<;>(simp only[fS,jm];omega));intro _)|refine' cY|fail);all_goals refine' aC
  all_goals(rw[d];rfl)
 have hc:QC c z= -1:=af b;rw[hc] at a;rw[kX b];have d:Pg.eb c z=z:=by have f:Pg.eb c z<+:z:=KV _;exact f.eq_of_length aa
 have e:Pg.lD c z=[]:=by unfold Pg.lD;exact xC aa
 rw[d,e];refine a8 f202 ?_;(repeat' first|(apply ag;exact aj;(exact a);intros)|(apply CS;exact bN;exact bN;(constructor<;>(simp only[fS,jm];omega));intro _)|refine' nJ|fail)
def QH (s:St)(z:aw)(c:UInt8)(a:Y z<=100000):bM 145 [sv z,sv [c]] s [] (.tuple ⟨[sv (Pg.eb c z),sv (Pg.lD c z),M (decide (Y (Pg.eb c z)<Y z))]⟩):=by refine a8 f145 ?_;(repeat' first|(apply ag;exact aj;exact λs=>QG s _ _ aa;intros)|refine' Ux|fail)
end Go.Pl
namespace Go.Pg
open Go.Pl
variable {aI bW:List Int}{st:ae}
def yY (aI bW:List Int)(i:Nat):Prop:=0<=aI.getD i 0/\aI.getD i 0<=bW.getD i 0/\bW.getD i 0<=900/\(aI.getD i 0=0->bW.getD i 0=0)/\(0<aI.getD i 0->8<=i)
def q6 (aI bW:List Int):Prop:=∀i,i<64->yY aI bW i
def mz (l:cc)(r:Nat):Nat:=l.countP λp=>decide (p.row.toNat=r)
def uV (a:Int)(p:fm):Prop:=aQ p=J/\av p=U/\p.bE<=a
structure jO (st:ae):Prop where
 sp:q6 st.aI st.bW
 tx:1<=st.dm/\st.dm<=900
 kp:0<=st.iz/\st.iz<=st.dm-1
 la:∀i,i<64->st.bW.getD i 0<=st.dm
 rw:∀i,i<64->(st.dV.getD i []).length<=128/\(st.dV.getD i []=[]↔st.aI.getD i 0=0)
 gn:∀p∈st.aS,uV (st.dm-1) p
 dd:∀p∈st.bL,uV st.iz p
 ow:∀r,r<64->(mz st.aS r:Int)+mz st.bL r<=st.aI.getD r 0
open Classical in
noncomputable def V0 (aI bW:List Int):Bool:=decide (q6 aI bW)
open Classical in
noncomputable def uW (st:ae):Bool:=decide (jO st)
def SJ (h:q6 aI bW):V0 aI bW=J:=by unfold V0;simpa using h
def adn (h:¬q6 aI bW):V0 aI bW=U:=by unfold V0;simpa using h
def SK:V0 aI bW=J↔q6 aI bW:=by unfold V0;simp
def yZ (h:jO st):uW st=J:=by unfold uW;simpa using h
def kc (h:¬jO st):uW st=U:=by unfold uW;simpa using h
def l8 (a b:cc)(r:Nat):mz (a++b) r=mz a r+mz b r:=by unfold mz;rw[Ag]
def uX (p:fm)(r:Nat):mz [p] r=if p.row.toNat=r then 1 else 0:=by unfold mz;simp[tF]
def Zj (r:Nat):mz [] r=0:=rfl
def fE (l:cc):List Int:=(List.range 64).map λr=>(mz l r:Int)
def qa (l:cc):Y (fE l)=64:=by unfold fE;simp
def qb (l:cc){r:Nat}(h:r<64):(fE l).getD r 0=mz l r:=by unfold fE;rw[eX,mP,Gu h];rfl
def EI:fE []=replicate 64 0:=by decide
def zX (l:cc)(p:fm)(h:p.row.toNat<64):(fE l).set p.row.toNat ((fE l).getD p.row.toNat 0+1)=fE (l++[p]):=by apply List.ext_getElem;rw[mV,qa,qa];intro i a d;rw[mV,qa] at a;rw[List.getElem_set];have b:=qb l a;have c:=qb (l++[p]) a;rw[eX,c8 (by rwa[qa]),lI] at b c;rw[b,c,qb l h,l8,uX];split;rename_i hi;subst hi;omega;omega
def Kc (l:cc)(r:Nat):mz l r<=Y l:=Ce
def Ve (l:cc)(i r:Nat):mz (l.take i) r<=mz l r:=by have:=l8 (l.take i) (l.drop i) r;rw[vC] at this;omega
def NQ {l:cc}{p:fm}(h:p∈l):0<mz l p.row.toNat:=by unfold mz;rw[tN];exact⟨p,h,aq⟩
end Go.Pg
namespace Go.Pl
open Go Go.Ev Go.Lg Go.Proofs
variable {n a b:Int}
def agP (h:¬(a<=n/\n<=b)):fI n a b=U:=by unfold fI;obtain c|c:=Decidable.em (a<=n);rw[gZ c,kX (λd=>h ⟨c,d⟩)];rfl;rw[kX c];rfl
def qN (h:a<=n/\n<=b):fI n a b=J:=by unfold fI;rw[gZ h.1,gZ h.2];rfl
def BY {aI bW:List Int}{i:Nat}:Pg.yY aI bW i↔0<=aI.getD i au.ad/\aI.getD i au.ad<=bW.getD i au.ad/\bW.getD i au.ad<=900/\(aI.getD i au.ad=0->bW.getD i au.ad=0)/\(0<aI.getD i au.ad->8<=i):=Iff.rfl
def QI (s:St)(v:SA)(st:ae)(hf:Y st.aI=64)(hl:Y st.bW=64)(hr:cr s v st):bM 37 [.agg ⟨[H v.f 64 v.fc,H v.l 64 v.lc]⟩] s (iB v) (M (Pg.V0 st.aI st.bW)):=by
 have t:=Rd.off hr;have u:=Rd.y8 hr;refine a8 f37 ?_;refine' iK;refine W.bu (λk l L=>∃(i c:Nat),Le [(1,bk c),(3,iv (i:Int))] l/\cb [.box c [H v.f 64 v.fc,H v.l 64 v.lc] 26 U] L/\k=64-i/\i<=64/\∀j,j<i->Pg.yY st.aI st.bW j) (λl L=>Pg.q6 st.aI st.bW) _ ⟨0,_,bd,ak,rfl,aa,λj w=>by omega⟩ ?_ ?_
 .rintro k l L ⟨i,c,z,D,rfl,B,o⟩;refine' cP;by_cases hi:i<64
  .by_cases hs:Pg.yY st.aI st.bW i
   ·(have r:∀j,j<i+1->Pg.yY st.aI st.bW j:=λj w=>by by_cases d:j=i;subst d;exact hs;exact o j aa);rw[BY] at hs;generalize e:st.aI.getD i au.ad=x at hs;generalize g:st.bW.getD i au.ad=y at hs;(have F:(!fI y 0 900)=U:=by rw[qN ⟨aa,aa⟩];rfl);(have G:(!fI x 0 y)=U:=by rw[qN ⟨aa,aa⟩];rfl);(have A:0<x->(!zq (i:Int))=U:=λh=>by unfold zq;rw[qN ⟨aa,aa⟩];rfl);rw[<-e,<-g] at *
    (repeat' first|refine' KF|refine' zc3|refine' cY|fail);all_goals first|exact⟨_,aa,i+1,_,bd,ak,rfl,aa,r⟩|(exfalso;have:=A aT;simp_all;done)|skip
   rw[Pg.adn (λh=>hs (h i hi))];rw[BY] at hs;(have m:zq (i:Int)=J->8<=i:=λh=>by simp only[zq,fI,ep,gv] at h;omega);(repeat' first|refine' KF|refine' zc3|refine' cY|fail);all_goals first|((refine' aC);rfl)|(exfalso;apply hs;have E:=m aT;exact⟨aa,aa,aa,λh=>by omega,λh=>by omega⟩)|(exfalso;apply hs;exact⟨aa,aa,aa,λh=>by omega,λh=>by omega⟩)
  have:i=64:=by omega
  subst this;(repeat' first|refine' KF|refine' zc3|refine' cY|fail);all_goals exact o
 rintro l L h;refine aJ ?_;refine W.le ?_ (Le.nil _) (cb.nil _);rw[Pg.SJ h];refine' eR;refine' aC;rfl
variable {E:hJ}{X:fb}{Γ:ng}{l:Kn}{L R:cq}{K:KO}{xs:List Operand}{ts:Array TypeId}{vs:aV}{r:Value}{v:SA}{st:ae}{s:St}
structure tE (st:ae):Prop where
 lr:st.dV.length=64
 lf:st.aI.length=64
 ll:st.bW.length=64
 rw:∀x∈st.dV,x.length<=3000
 tx: -100000<=st.dm/\st.dm<=100000
 gl:st.aS.length<=100000
 dl:st.bL.length<=100000
def tE.row {st:ae}(h:tE st)(i:Nat):Y (st.dV.getD i [])<=3000:=by rw[eX];by_cases hi:i<Y st.dV;rw[c8 hi];exact h.rw _ (B5 _);rw[mQ aa];simp
structure jb (s:St)(v:SA)(st:ae):Prop where
 w:cr s v st
 g:bJ s v.g st.aS.length 5 (ab st.aS)
 d:bJ s v.d st.bL.length 5 (ab st.bL)
structure A4 (Γ:ng)(L:cq)(v:SA)(st:ae):Prop where
 w:cJ Γ L v st
 g:ga Γ L v.g st.aS.length 5 (ab st.aS)
 d:ga Γ L v.d st.bL.length 5 (ab st.bL)
abbrev q7 (v:SA):List Nat:=iB v++(ah v.g++ah v.d)
section
variable {g:FuncId}
def A4.row (h:A4 Γ L v st)(hi:Inv Γ s L):jb s v st/\∀b∈q7 v,qW Γ s b:=by refine⟨⟨(h.w.row hi).1,(h.g.row hi).1,(h.d.row hi).1⟩,λb hb=>?_⟩;obtain hb|hb:=cG.1 hb;exact(h.w.row hi).2 b hb;rcases cG.1 hb with hb|hb;exact(h.g.row hi).2 b hb;exact(h.d.row hi).2 b hb
def Rd.gr (h:jb s v st):Rd ⟨s,([]:cq).flatMap It.bC,q7 v⟩ v.r 64 1 (ab st.dV):=Rd.of h.w.r λ_ hb=>im _ (uO hb)
def Rd.gf (h:jb s v st):Rd ⟨s,([]:cq).flatMap It.bC,q7 v⟩ v.f 64 1 (ab st.aI):=Rd.of h.w.f λ_ hb=>im _ (uP hb)
def Rd.gl (h:jb s v st):Rd ⟨s,([]:cq).flatMap It.bC,q7 v⟩ v.l 64 1 (ab st.bW):=Rd.of h.w.l λ_ hb=>im _ (uQ hb)
def Rd.gg (h:jb s v st):Rd ⟨s,([]:cq).flatMap It.bC,q7 v⟩ v.g (Y st.aS) 5 (ab st.aS):=Rd.of h.g λ_ hb=>dt _ (im _ hb)
def Rd.gd (h:jb s v st):Rd ⟨s,([]:cq).flatMap It.bC,q7 v⟩ v.d (Y st.bL) 5 (ab st.bL):=Rd.of h.d λ_ hb=>dt _ (dt _ hb)
end
def vw (st:ae)(i:Nat):Prop:=Y (st.dV.getD i [])<=128/\(st.dV.getD i []=[]↔st.aI.getD i 0=0)/\st.bW.getD i 0<=st.dm
def Io {st:ae}{i:Nat}:vw st i↔Y (st.dV.getD i au.ad)<=128/\(st.dV.getD i au.ad=[]↔st.aI.getD i au.ad=0)/\st.bW.getD i au.ad<=st.dm:=Iff.rfl
def oX (st:ae)(i:Nat):fm:=(st.aS++st.bL).getD i bp
def oY (st:ae)(i:Nat):Int:=if i<Y st.aS then st.dm-1 else st.iz
def vx {st:ae}{i:Nat}(h:i<Y st.aS):oX st i=st.aS.getD i au.ad:=by unfold oX;rw[eX,tw h,<-eX];rfl
def zY {st:ae}{i:Nat}(h:¬i<Y st.aS):oX st i=st.bL.getD (i-Y st.aS) au.ad:=by unfold oX;rw[eX,wv aa,<-eX];rfl
def EJ {st:ae}{i:Nat}(h:¬i<Y st.aS):oX st i=st.bL.getD ((i:Int)-(Y st.aS:Int)).toNat au.ad:=by rw[zY h,show((i:Int)-(Y st.aS:Int)).toNat=i-Y st.aS by omega]
def NR {st:ae}(h1:Pg.q6 st.aI st.bW)(h2:1<=st.dm/\st.dm<=900)(f:0<=st.iz/\st.iz<=st.dm-1)(c:∀i,i<64->vw st i)(e:∀i,i<Y st.aS+Y st.bL->Pg.uV (oY st i) (oX st i))(g:∀r,r<64->(Pg.mz (st.aS++st.bL) r:Int)<=st.aI.getD r 0):Pg.jO st:=by refine⟨h1,h2,f,λi hi=>(c i hi).2.2,λi hi=>⟨(c i hi).1,(c i hi).2.1⟩,λp d=>?_,λp d=>?_,λr hr=>?_⟩;obtain⟨i,hi,rfl⟩:=si d;have:=e i aa;unfold oY at this;rwa [ai hi,vx hi,getD_at _ hi] at this;obtain⟨i,hi,rfl⟩:=si d;have:=e (Y st.aS+i) aa;unfold oY at this;rwa [af aa,zY aa,Nat.add_sub_cancel_left,getD_at _ hi] at this;have:=g r hr;rw[Pg.l8] at this;omega
def Kd {st:ae}(h:Pg.jO st){i:Nat}(hi:i<Y st.aS+Y st.bL):Pg.uV (oY st i) (oX st i):=by unfold oY;by_cases c:i<Y st.aS;rw[ai c,vx c];exact h.gn _ (a7 c _);rw[af c,zY c];exact h.dd _ (a7 aa _)
def A6 {st:ae}(h:Pg.jO st)(i:Nat){r:Nat}(hr:r<64):(Pg.mz ((st.aS++st.bL).take i) r:Int)<=st.aI.getD r 0:=by have d:=h.ow r hr;have c:=Pg.Ve (st.aS++st.bL) i r;rw[Pg.l8] at c;omega
def Vf {st:ae}{i:Nat}(hi:i<Y st.aS+Y st.bL):(st.aS++st.bL).take (i+1)=(st.aS++st.bL).take i++[oX st i]:=by rw[vS];unfold oX;rw[eX,c8 (by rwa[dB])];rfl
def Vg (s:St)(n:Int):bM 143 [iv n] s [] (M (zq n)):=by refine a8 f143 ?_;(repeat' first|refine' uH|refine' eI|fail)<;>(refine' aC)<;>simp_all [fj,zq]
def bO (s:St)(p:fm):bM 82 [pv p] s [] (M (av p)):=by refine a8 f82 ?_;refine' eR;apply Jo;exact Ev.tmp rfl;exact Ev.tmp rfl;rfl;exact uK _ _ _ _ _ _ _ _ _ _;intro _;refine' eR;refine' aC;simp only[fj,av,bp];congr 1;obtain⟨a,b,c,d,e⟩:=p;simp
def eW (s:St)(p:fm):bM 81 [pv p] s [] (M (aQ p)):=by refine a8 f81 ?_;(repeat' first|(apply ag;exact aj;exact λs=>bO s ⟨_,_,_,_,_⟩;intros)|(apply ag;exact aj;exact λs=>Vg s _;intros)|refine' uH|refine' eI|fail)<;>(refine' aC)<;>simp_all [fj,aQ]
def Vh (s:St)(z:aw)(u:Y z<=100000):bM 166 [sv z] s [] (iv (sumOf z:Nat)):=by
 refine a8 f166 ?_;(repeat(first|refine' v7|refine' gL|fail));refine W.bu (λk l L=>∃(i a b:Nat),Le [(0,sv z),(3,iv a),(4,iv b),(7,iv (Y z)),(8,iv i)] l/\cb [] L/\k=Y z-i/\i<=Y z/\a<9973/\b<9973/\G6 (z.drop i) a b=sumOf z)
  (λl L=>∃(a b:Nat),Le [(3,iv a),(4,iv b)] l/\cb [] L/\a<9973/\b<9973/\a*9973+b=sumOf z) (Y z) ⟨0,1,0,bd,ak,aa,aa,aa,aa,by simp[sumOf]⟩ ?_ ?_
 rintro k l L ⟨i,a,b,hl,g,rfl,j,e,d,f⟩;refine' cP;have o:=(z.getD i 0).toNat_lt;have t:((a:Int)+(z.getD i 0).toNat+1).tmod 9973=(((a+(z.getD i 0).toNat+1)% 9973:Nat):Int):=rfl;have m:((a+(z.getD i 0).toNat+1)% 9973)<9973:=xG _ aa;have c:((((a+(z.getD i 0).toNat+1)% 9973:Nat):Int)+(b:Int)).tmod 9973=(((b+(a+(z.getD i 0).toNat+1)% 9973)% 9973:Nat):Int):=by rw[Cb b];rfl
 refine' eR;refine⟨_,?_,i+1,(a+(z.getD i 0).toNat+1)% 9973,(b+(a+(z.getD i 0).toNat+1)% 9973)% 9973,by(rw[<-c];exact bd),ak,rfl,aa,m,xG _ aa,?_⟩;omega;exact(DO z aa a b).symm.trans f;have hi:i=Y z:=by omega
 subst hi;refine⟨a,b,bd,ak,e,d,?_⟩;rw[<-f,re];rfl;rintro l L ⟨a,b,hl,g,j,e,d⟩;refine aJ ?_;refine W.le ?_ hl g;refine' eR;refine' aC;rw[<-d];rfl
def NS (s:St)(p:fm)(z:aw)(c:Y z<=100000):bM 107 [pv p,sv z] s [] (M (fits p z)):=by refine a8 f107 ?_;(repeat' first|(apply ag;exact aj;exact λs=>eW s ⟨_,_,_,_,_⟩;intros)|(apply ag;exact aj;exact λs=>bO s ⟨_,_,_,_,_⟩;intros)|(apply ag;exact aj;exact λs=>Vh s _ aa;intros)|refine' eI|fail)<;>(refine' aC)<;>(first|(simp_all [fj,fits];done)|(obtain⟨_,_,_,_,_⟩:=p;simp only at *;subst_vars;simp_all [fj,fits];done))
variable {g:FuncId}{A:List Nat}
structure dy (s:St):Prop where
 lt:5<s.next
 pow:∃o,s.heap.get 5=some o/\AB o=true
 err:∃o,s.heap.get 1=some o/\Tu o=true
structure lN (Γ:ng):Prop where
 r0:dy Γ.s0
 A5:5∈Γ.A
 A1:1∈Γ.A
 M5:5∉Γ.M
 M1:1∉Γ.M
def lN.of {A:List Nat}(h:dy s)(c:5∈A)(h1:1∈A):lN ⟨s,([]:cq).flatMap It.bC,A⟩:=⟨h,c,h1,λh=>(by cases h),λh=>by cases h⟩
def lN.row (h:lN Γ)(hi:Inv Γ s L):dy s/\qW Γ s 5/\qW Γ s 1:=by have hle:=hi.le;have h0:=h.r0.lt;refine⟨⟨aa,?_,?_⟩,⟨aa,.inl h.A5⟩,⟨aa,.inl h.A1⟩⟩;obtain⟨o,c,d⟩:=h.r0.pow;exact⟨o,by rw[hi.fr 5 aa h.M5];exact c,d⟩;obtain⟨o,c,d⟩:=h.r0.err;exact⟨o,by rw[hi.fr 1 aa h.M1];exact c,d⟩
def bq (d:iu l xs vs)(hd:lN Γ)(h:∀s,dy s->jA E X g vs s [5,1] r)(k:∀m c,gk L m->m<=c->K r L m c (iI [5,1] [] m c) (iJ [] m c)):WC E X Γ l g xs ts L K:=
 dZ d (λs hi=>⟨λb hb=>by obtain rfl|hb:=cA.1 hb;exact(hd.row hi).2.1;rw[gI] at hb;subst hb;exact(hd.row hi).2.2,h s (hd.row hi).1⟩) k
def agQ (s:St)(A:List Nat):Inv ⟨s,([]:cq).flatMap It.bC,A⟩ s ([]:cq):=⟨λ_ _ _=>rfl,fG _,λx c=>(by cases c),λx c=>(by cases c),ta,λb hb=>.inl hb,λb hb=>.inl hb,λb hb=>.inl hb,λb hb=>.inl hb⟩
def SL (s:St)(n:Int)(h0:0<=n)(h1:n<=999999999)(hr:dy s):bM 257 [iv n] s [5,1] (sv (dec n)):=λhi ht e=>by obtain⟨k,rfl⟩:∃k:Nat,n=k:=⟨n.toNat,aa⟩;obtain⟨o,c,d⟩:=hr.pow;refine lE.Ji (fn:=f257) bV (s':=s.aL 5) (v:=sv (dec (k:Nat))) (λq=>?_) ⟨[],(agQ s [5,1]).aL ⟨hr.lt,.inl aq⟩,rfl,rfl⟩;show dq (ble k 999999999) (ob (s.look 5) λo=>dq (AB o)<| aD (.string ⟨⟨dec (.ofNat k)⟩⟩) (s.aL 5))=_;rw[dQ (show k<=999999999 by omega),dY];unfold St.look;rw[c,bF,d];rfl
def ia (s:St)(z:aw)(hr:dy s):bM 146 [sv z] s [5,1] (.tuple ⟨[iv (((aA z).getD 0:Nat):Int),M (aA z).isSome]⟩):=λhi ht j=>by obtain⟨o,c,d⟩:=hr.pow;obtain⟨q,e,f⟩:=hr.err;have i:=hr.lt;refine lE.Ji (fn:=f146) bV (s':=(s.aL 5).aL 1) (v:=.tuple ⟨[iv (((aA z).getD 0:Nat):Int),M (aA z).isSome]⟩) (λq=>?_) ⟨[],((agQ s [5,1]).aL ⟨hr.lt,.inl aq⟩).aL ⟨by rw[bh];omega,.inl aq⟩,rfl,rfl⟩;show ob (s.look 5) (λo=>dq (AB o)<| ob (s.look 1) λq=>dq (Tu q)<| aD (.tuple ⟨[I .i64 (.ofNat ((aA z).getD 0)),M (aA z).isSome]⟩) ((s.aL 5).aL 1))=_;unfold St.look;rw[c,bF,d,e];show dq (Tu _) _=_;rw[f];rfl
def EK (s:St)(n:Int)(h0:0<=n)(h1:n<=999999999)(hr:dy s):bM 204 [iv n] s [5,1] (sv (dec n)):=by have hd:lN ⟨s,([]:cq).flatMap It.bC,[5,1]⟩:=lN.of hr aq aq;have d:fI n 0 999999999=J:=qN ⟨h0,h1⟩;have c:∀s,bM 22 [iv n,iv 0,iv 999999999] s [] (M J):=λs=>d▸vq s n 0 999999999;refine a8 f204 ?_;(repeat' first|(apply ag;exact aj;(exact c);intros)|(apply bq;exact aj;assumption;(intro s h;exact SL s _ aa aa h);intros)|refine' nJ|fail)
variable {α:Type}{sz:Nat}{enc:au α sz}{e:TypeId}{p:List α}{q:Bool}{c:Code}
def W.lO {E:hJ}{X:fb}{Γ:ng}{l:Kn}{L:cq}{α:Type}{sz:Nat}[enc:au α sz]{e:TypeId}{c:Code}{Q:Ex->Kn->cq->Prop}(h:W E X Γ c l (.aU (ew) e sz (ab (sz:=sz) ([]:List α))::L) Q):W E X Γ c l L Q:=λj s i d=>h j s i ⟨d.fr,d.le,λx f=>by
 obtain rfl|f:=cA.1 f;exact .inl ⟨rfl,rfl⟩;exact d.it x f,λx f b hb=>by
 obtain rfl|f:=cA.1 f;cases hb;exact d.lt x f b hb,d.nd,d.cC,d.wr,d.top,d.ye⟩
def mA (f:iu l xs vs)(hd:lN Γ)(h:∀s,dy s->et E X g vs s [5,1] e p q)(k:∀m d a c,gk L m->m<=d->K (.tuple ⟨[H a (Y p) c,M q]⟩) (.aU (H a (Y p) c) e sz (ab (sz:=sz) p)::L) m d (iI [5,1] [] m d) (iJ [] m d)):WC E X Γ l g xs ts L K:=
 vk f (λs hi=>⟨λb hb=>by obtain rfl|hb:=cA.1 hb;exact(hd.row hi).2.1;rw[gI] at hb;subst hb;exact(hd.row hi).2.2,h s (hd.row hi).1⟩) k
def Vi (f:iu l xs vs)(hd:lN Γ)(h:∀s,dy s->eD E X g vs s [5,1] e p)(k:∀m d a c,gk L m->m<=d->K (H a (Y p) c) (.aU (H a (Y p) c) e sz (ab (sz:=sz) p)::L) m d (iI [5,1] [] m d) (iJ [] m d)):WC E X Γ l g xs ts L K:=
 oG f (λs hi=>⟨λb hb=>by obtain rfl|hb:=cA.1 hb;exact(hd.row hi).2.1;rw[gI] at hb;subst hb;exact(hd.row hi).2.2,h s (hd.row hi).1⟩) k
def F6 (s:St)(z:aw)(T:Y z<=100000)(hr:dy s):et aZ aW 199 [sv z] s [5,1] 9 ((b6 z).getD []) (b6 z).isSome:=by
 have hd:lN ⟨s,([]:cq).flatMap It.bC,[5,1]⟩:=lN.of hr aq aq;by_cases hl:Y z<=2048
 .refine a8 f199 ?_;refine W.lO (α:=aw) (e:=9) ?_;refine W.lO (α:=aw) (e:=9) ?_;refine' iK;refine W.bu (λk l L=>∃(rest:aw)(out:List aw)(a:aP)(c:Nat),Le [(4,H a (Y out) c),(5,sv rest)] l/\cb [.aU (H a (Y out) c) 9 1 (ab out),.aU (ew) 9 1 (ab ([]:List aw))] L/\k=Y rest/\Pg.FG z rest out) (λl L=>∃(out:List aw)(a:aP)(c:Nat),Le [(4,H a (Y out) c)] l/\cb [.aU (H a (Y out) c) 9 1 (ab out)] L/\b6 z=C out) _ ⟨z,[],O,0,bd,ak,rfl,Pg.FG.start z⟩ ?_ ?_
  .rintro k l L ⟨rest,out,a,c,x,B,rfl,i⟩;refine' cP;(have S:Y rest<=Y z:=by have:=congrArg List.length i.eq;rw[dB] at this;omega);have Q:=i.len;by_cases o:rest=[]
   .subst o;have:=i.done hl;refine' iK;all_goals exact⟨out,a,c,bd,ak,this⟩
   have f:=λs=>QH s rest 58 aa;(have d:=λs=>ia s (Pg.eb 58 rest));have D:=Pg.BX 58 rest;(have F:Y (Pg.lD 58 rest)<=Y rest:=by unfold Pg.lD;rw[fq];omega);by_cases t:Y (Pg.eb 58 rest)<Y rest;rw[gZ t] at f;have m:=f;clear f;cases hn:aA (Pg.eb 58 rest) with
   |none=>rw[hn] at d;have j:∀s,dy s->bM 146 [sv (Pg.eb 58 rest)] s [5,1] (.tuple ⟨[iv 0,M U]⟩):=d;clear d;rw[i.fail hl o (.inr (.inl hn))];(repeat' first|(apply ag;exact aj;(exact m);intros)|(apply bq;exact aj;assumption;(exact j);intros)|refine' cY|fail);all_goals exact⟨bK,_,[.aU (ew) 9 1 (ab ([]:List aw))],bH,ak,O,0,rfl,rfl⟩
   |some n=>
    rw[hn] at d;have j:∀s,dy s->bM 146 [sv (Pg.eb 58 rest)] s [5,1] (.tuple ⟨[iv (n:Nat),M J]⟩):=d;clear d;have N:=(Pg.hZ hn).2;by_cases hle:n<=Y (Pg.lD 58 rest)
    .by_cases w:Y out<60
     .have y:=i.step t hn hle w;(have u:Y ((Pg.lD 58 rest).drop n)<Y rest:=by unfold Pg.lD;rw[fq,fq];omega);(repeat' first|(apply ag;exact aj;(exact m);intros)|(apply bq;exact aj;assumption;(exact j);intros)|(apply ag;exact aj;exact λs=>NO s _ (by first|omega|(rw[de];omega));intros)|refine' cY|fail);all_goals exact⟨_,u,(Pg.lD 58 rest).drop n,out++[(Pg.lD 58 rest).take n],_,_,bd,ak,rfl,y⟩
     rw[i.fail hl o (.inr (.inr (.inr aa)))];(repeat' first|(apply ag;exact aj;(exact m);intros)|(apply bq;exact aj;assumption;(exact j);intros)|refine' cY|fail);all_goals exact⟨bK,_,[.aU (ew) 9 1 (ab ([]:List aw))],bH,ak,O,0,rfl,rfl⟩
    rw[i.fail hl o (.inr (.inr (.inl ⟨n,hn,aa⟩)))];(repeat' first|(apply ag;exact aj;(exact m);intros)|(apply bq;exact aj;assumption;(exact j);intros)|refine' cY|fail);all_goals exact⟨bK,_,[.aU (ew) 9 1 (ab ([]:List aw))],bH,ak,O,0,rfl,rfl⟩
   rw[kX t] at f;have m:=f;clear f;have j:=d;clear d;rw[i.fail hl o (.inl t)];(repeat' first|(apply ag;exact aj;(exact m);intros)|(apply bq;exact aj;assumption;(exact j);intros)|refine' cY|fail);all_goals exact⟨bK,_,[.aU (ew) 9 1 (ab ([]:List aw))],bH,ak,O,0,rfl,rfl⟩
  rintro l L ⟨out,a,c,x,B,G⟩;refine' gh;rw[G];refine' iK;(all_goals refine' eu);all_goals rfl
 rw[Pg.EF aa];refine a8 f199 ?_;refine W.lO (α:=aw) (e:=9) ?_;refine' iK;all_goals exact⟨bK,_,[.aU (ew) 9 1 (ab ([]:List aw))],bH,ak,O,0,rfl,rfl⟩
def uY (s:St)(n:Int):bM 105 [iv n] s [] (iv (bR n)):=by refine a8 f105 ?_;(refine' eR)<;>(refine' aC)<;>simp_all [fj,bR]<;>omega
def EL (s:St)(k n:Int):bM 104 [iv k,iv n] s [] (iv (dT k n)):=by
 by_cases h0:0<=n
 .have f:(n+12-1).tdiv 12=(n+12-1)/ 12:=KS aa;have i:(n+128-1).tdiv 128=(n+128-1)/ 128:=KS aa;refine a8 f104 ?_;repeat' first|refine' uH|refine' cY|fail
  all_goals refine' aC
  all_goals(simp only[fj,dT,eG,cV])
  all_goals(simp_all [fI];try omega)
 have d:∀m,fI n 0 m=U:=λm=>agP aa;refine a8 f104 ?_;repeat' first|refine' uH|refine' cY|fail
 all_goals refine' aC
 all_goals(simp only[fj,dT,eG,cV,d])
 all_goals(simp_all;try omega)
def F7 (s:St)(n:Int)(k:Nat)(hn:0<=n/\n<=10000)(d:k<=10000):bM 51 [iv n,iv (k:Nat)] s [] (iv (max 0 (eC n k))):=by refine a8 f51 ?_;(refine' eR)<;>(refine' aC)<;>simp_all [fj,eC]<;>omega
def xn (s:St)(n:dX):bM 47 [nv n] s [] (M (cM n)):=by refine a8 f47 ?_;(repeat' first|(apply ag;exact aj;exact λs=>EL s _ _;intros)|(apply ag;exact aj;exact λs=>uY s _;intros)|(apply ag;exact aj;(first|exact λs=>eW s _|exact λs=>eW s ⟨_,_,_,_,_⟩);intros)|(apply ag;exact aj;(first|exact λs=>bO s _|exact λs=>bO s ⟨_,_,_,_,_⟩);intros)|refine' uH|refine' cY|fail);all_goals first|((refine' aC);simp_all [fj,cM,fI];done)|((refine' aC);simp_all [fj,cM];done)
def Vj (x z:aw):Bool:=decide (Y z<=Y x)&&decide (x.drop (Y x-Y z)=z)
def QJ (s:St)(x z:aw)(f:Y x<=100000)(i:Y z<=100000):bM 109 [sv x,sv z] s [] (M (Vj x z)):=by
 unfold Vj;have d:Y z<=Y x->((Y x:Int)-(Y z:Int)).toNat=Y x-Y z:=λh=>by omega
 refine a8 f109 ?_;refine' iK;all_goals refine' aC
 all_goals simp only[fj]
 all_goals first|rfl|(refine congrArg Value.bool ?_;first|(rw[gZ (by omega:Y z<=Y x),wo,d aa];done)|(rw[gZ (by omega:Y z<=Y x),wo];done)|(rw[kX (by omega:¬Y z<=Y x),tO];done))
def Ke (s:St)(x z:aw)(f:Y x<=100000)(i:Y z<=100000):bM 52 [sv x,sv z] s [] (M (Vj x z)):=by have d:∀s,bM 109 [sv x,sv z] s [] (M (Vj x z)):=λs=>QJ s x z f i;refine a8 f52 ?_;(repeat' first|(apply ag;exact aj;exact λs=>d s;intros)|refine' nJ|fail)
def zZ:∀n:Nat,Ev.FH [0] n=replicate n 0
 |0=>rfl
 |n+1=>by show [0]++Ev.FH [0] n=_;rw[zZ n];rfl
def EM (z:aw)(n:Int):Option aw:=if fI n 0 12=J/\(Y z:Int)<=n then C (z++jt (n-Y z)) else O
def F8 (s:St)(z:aw)(n:Int)(k:Y z<=100000):bM 50 [sv z,iv n] s [] (.tuple ⟨[sv ((EM z n).getD []),M (EM z n).isSome]⟩):=by
 unfold EM;by_cases h:fI n 0 12=J/\(Y z:Int)<=n
 .rw[ai h];have d:(!fI n 0 12)=U:=by rw[h.1];rfl
  have i:0<=n/\n<=12:=by have:=h.1;simp only[fI,ep,gv] at this;exact this
  have f:=h.2;have j:Y (Ev.FH [0] (n-(Y z:Int)).toNat)<=12:=by rw[zZ,sk];omega
  refine a8 f50 ?_;(repeat' first|refine' uH|(apply ag;exact aj;exact λs=>Ic s _ aa;intros)|refine' cY|fail);all_goals refine' aC
  all_goals(rw[zZ];rfl)
 rw[af h];refine a8 f50 ?_;(repeat' first|refine' uH|(apply ag;exact aj;exact λs=>Ic s _ aa;intros)|refine' eI|fail);all_goals first|(exfalso;omega;done)|contradiction|(exfalso;apply h;exact⟨by first|assumption|exact qN aa,aa⟩)|skip
 all_goals refine' aC
 all_goals rfl
instance:au (aP) 1:=⟨λa=>[.pointer a],O,λ_=>rfl,λs v h=>by simp at h;subst h;rfl,aa⟩
instance:TT aZ 241 240 1 (aP) inferInstance:=⟨_,XO,O,rfl⟩
instance:TT aZ 70 68 1 (aP) inferInstance:=⟨_,XM,O,rfl⟩
instance:TD aZ 70 1 (aP) inferInstance O:=⟨_,_,XM,rfl⟩
abbrev xp (b:Nat):List (aP):=[C ⟨b,0,O⟩,C ⟨b,1,O⟩,C ⟨b,2,O⟩,C ⟨b,3,O⟩,C ⟨b,4,O⟩]
def z6 (s:St)(b:Nat):eD aZ aW 271 [bk b] s [] 240 (xp b):=by refine a8 f271 ?_;refine' iK;all_goals first|((refine' kT);rfl)
def NT (s:St)(a:aP)(c:Nat)(zs:aw)(p:List aw)(h1:1<=Y p)(h2:Y p<=1000)(hl:Y (eQ zs p)<=1000000)(hr:bJ s a (Y p) 1 (ab p))(hv:tg s a (Y p) c 9 1):bM 99 [H a (Y p) c,sv zs] s (ah a) (sv (eQ zs p)):=λi j m=>by
 have f:=uU (s:=s) (A:=ah a);obtain⟨d,⟨h,_⟩|⟨b,o,cs,e,w,rfl,hb,hg,ht⟩⟩:=hr;omega;rw[sh] at ht;have cg:o+Y p<=Y cs:=by have h4:=congrArg List.length ht;rw[de,fq,d] at h4;omega
 refine' zaq;refine lE.Ji (fn:=f99) bV (s':=s.aL b) (v:=sv (eQ zs p)) (λk=>?_) ⟨[],f.aL ⟨hb,.inl (by simp[ah])⟩,rfl,rfl⟩;show(s.row b λcs e _ s=>dq (ble (o+Y p) (Y cs)&&((ble (Nat.succ c) cl&&ble (Y p) c)||(ble cl c&&beq o (c-cl)&&beq e 9))&&ble 1 (Y p)&&ble (Y p) 1000)<| ob (Lt ((cs.drop o).take (Y p))) λl=>dq (ble (Y (eQ zs l)) 1000000)<| aD (.string ⟨⟨eQ zs l⟩⟩) s)=_;unfold St.row St.look;rw[hg];simp only[bF];rw[agy,dQ cg,dQ h1,dQ h2,ht,Er];show dq (ble (Y (eQ zs p)) 1000000) _=_;rw[dQ hl];rfl
abbrev nC (p:fm):List aw:=[dec p.row,dec p.bE,dec p.size,dec p.sum,dec p.level]
def qc (s:St)(p:fm)(hr:dy s):bM 272 [pv p] s [5,1] (sv (b9 p)):=by
 have hd:lN ⟨s,([]:cq).flatMap It.bC,[5,1]⟩:=lN.of hr aq aq;cases m:aQ p with
 |false=>
  have w:(!aQ p)=J:=by rw[m];rfl
  have e:b9 p=[]:=by unfold b9;rw[m];rfl
  refine' zau
 |true=>
  have w:(!aQ p)=U:=by rw[m];rfl
  cases x:av p with
  |true=>(have e:b9 p=[45]:=by rw[Pg.kP.1 x];exact Pg.mG);refine' zau
  |false=>
   have hb:=yE m;(have e:b9 p=eQ [46] (nC p):=by rw[Pg.rO x m];rfl);have B:=kq p.row aa;have D:=kq p.bE aa;have F:=kq p.size aa;have G:=kq p.sum aa;have N:=kq p.level aa;(have cg:Y (eQ [46] (nC p))<=1000000:=by show(dec p.row++([46]++(dec p.bE++([46]++(dec p.size++([46]++(dec p.sum++([46]++dec p.level)))))))).length<=1000000;simp only[dB,fS,jm];omega);rw[e];(have t:=λs a c=>NT s a c [46] (nC p) aq aq cg);refine a8 f272 ?_;(repeat' first|(apply ag;exact aj;(first|exact λs=>eW s _|exact λs=>eW s ⟨_,_,_,_,_⟩);intros)|(apply ag;exact aj;(first|exact λs=>bO s _|exact λs=>bO s ⟨_,_,_,_,_⟩);intros)|(apply lp;exact aj;exact λs=>z6 s _;intro _ _ d j _ _)|refine' cY|fail);refine W.vv (e:=9) ?_;refine W.bu (λk l L=>∃(i f:Nat)(ap a:aP)(o c:Nat),Le [(1,bk f),(3,H a (Y ((nC p).take i)) c),(13,H ap (Y (xp f)) o),(14,iv ((5:Nat):Int)),(15,iv (i:Int))] l/\cb [.box f (nA p) 31 U,.aU (H ap (Y (xp f)) o) 240 1 (ab (xp f)),.aU (H a (Y ((nC p).take i)) c) 9 1 (ab ((nC p).take i))] L/\k=5-i/\i<=5) (λl L=>∃(a:aP)(c:Nat),Le [(3,H a (Y (nC p)) c)] l/\cb [.aU (H a (Y (nC p)) c) 9 1 (ab (nC p))] L) _ ⟨0,_,_,_,_,_,bd,ak,rfl,aa⟩ ?_ ?_
   .rintro k l L ⟨i,f,ap,a,o,c,u,z,rfl,Q⟩;refine' cP;(have y:i=0\/i=1\/i=2\/i=3\/i=4\/i=5:=by omega);obtain rfl|rfl|rfl|rfl|rfl|rfl:=y;(all_goals(repeat' first|(apply bq;exact aj;assumption;(intro s h;exact EK s _ aa aa h);intros)|refine' cY|fail));exact⟨_,aa,1,_,_,_,_,_,bd,ak,rfl,aa⟩;exact⟨_,aa,2,_,_,_,_,_,bd,ak,rfl,aa⟩;exact⟨_,aa,3,_,_,_,_,_,bd,ak,rfl,aa⟩;exact⟨_,aa,4,_,_,_,_,_,bd,ak,rfl,aa⟩;exact⟨_,aa,5,_,_,_,_,_,bd,ak,rfl,aa⟩;exact⟨_,_,bd,ak⟩
   rintro l L ⟨a,c,u,z⟩;refine' gh;(repeat' first|(apply zF;exact aj;exact kD;(intro s hr hv;exact t s _ _ hr hv);intros)|refine' nJ|fail)
def Zk (s:St)(p:fm):bM 273 [pv p] s [] (M (!av p)):=by refine a8 f273 ?_;(repeat' first|(apply ag;exact aj;(first|exact λs=>bO s _|exact λs=>bO s ⟨_,_,_,_,_⟩);intros)|refine' Ux|fail)
def abW (s:St)(a:aP)(c:Nat)(p:cc)(z:Y p<=100000)(hr:bJ s a (Y p) 5 (ab p)):bM 235 [H a (Y p) c,.func (.func 273) ⟨[]⟩ ⟨[]⟩] s (ah a) (iv (oI (p.findIdx? λx=>!av x))):=by
 have hd:=Rd.of (A:=ah a) hr λ_ hb=>hb;refine a8 f235 ?_;refine' iK;refine W.bu (λk l L=>∃(i:Nat),Le [(0,H a (Y p) c),(1,.func (.func 273) ⟨[]⟩ ⟨[]⟩),(7,iv (Y p:Int)),(8,iv (i:Int))] l/\cb [] L/\k=Y p-i/\i<=Y p/\∀j,j<i->av (p.getD j au.ad)=J) (λl L=>cb [] L/\∀j,j<Y p->av (p.getD j au.ad)=J) _ ⟨0,bd,ak,rfl,aa,λj m=>by omega⟩ ?_ ?_
 .rintro k l L ⟨i,hl,u,rfl,y,o⟩;refine' cP;by_cases hi:i<Y p;cases hb:av (p.getD i au.ad) with
  |true=>(have f:∀s,bM 273 [.agg ⟨au.cells (p.getD i au.ad)⟩] s [] (M U):=λs=>by have:=Zk s (p.getD i au.ad);rwa[hb] at this);(repeat' first|refine' zC|(apply ag;exact aj;exact λs=>f s;intros)|refine' cY|fail);all_goals exact⟨_,aa,i+1,bd,ak,rfl,aa,λj m=>by by_cases w:j=i;rw[w];exact hb;exact o j aa⟩
  |false=>(have f:∀s,bM 273 [.agg ⟨au.cells (p.getD i au.ad)⟩] s [] (M J):=λs=>by have:=Zk s (p.getD i au.ad);rwa[hb] at this);(repeat' first|refine' zC|(apply ag;exact aj;exact λs=>f s;intros)|refine' cY|fail);(have e:(p.findIdx? λx=>!av x)=C i:=nU (d:=au.ad (α:=fm)) hi (by rw[hb];rfl) λj m t=>by rw[o j m] at t;cases t);(all_goals refine' aC);all_goals(rw[e];rfl)
  (refine' iK);all_goals exact⟨ak,λj m=>o j aa⟩
 rintro l L ⟨u,o⟩;refine aJ ?_;refine W.le ?_ (Le.nil _) u;clear u;have e:(p.findIdx? λx=>!av x)=O:=yb au.ad λj m t=>by rw[o j m] at t;cases t
 refine' eR;all_goals refine' aC
 all_goals(rw[e];rfl)
def QK (s:St)(a:aP)(c:Nat)(p:cc)(f:Y p<=100000)(hr:bJ s a (Y p) 5 (ab p)):bM 164 [H a (Y p) c,.func (.func 273) ⟨[]⟩ ⟨[]⟩] s (ah a) (M (!p.all av)):=by
 have hd:=Rd.of (A:=ah a) hr λ_ hb=>hb;have d:=λs hr=>abW s a c p f hr;have e:(!p.all av)=(p.findIdx? λx=>!av x).isSome:=by rw[Rv,o6];simp
 rw[e];cases hf:p.findIdx? λx=>!av x with
 |none=>
  rw[hf] at d;have hix:∀s,bJ s a (Y p) 5 (ab p)->bM 235 [H a (Y p) c,.func (.func 273) ⟨[]⟩ ⟨[]⟩] s (ah a) (iv (-1)):=d;refine a8 f164 ?_;refine' abj;all_goals try refine PN
  all_goals refine' aC
  all_goals rfl
 |some i=>
  rw[hf] at d;have hix:∀s,bJ s a (Y p) 5 (ab p)->bM 235 [H a (Y p) c,.func (.func 273) ⟨[]⟩ ⟨[]⟩] s (ah a) (iv (i:Int)):=d;refine a8 f164 ?_;refine' abj;all_goals try refine PN
  all_goals refine' aC
  all_goals(simp only[fj];exact congrArg Value.bool (gZ aa))
end Go.Pl
