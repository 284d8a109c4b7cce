/- Lemmas of the proof. No conditions. -/
import Derived.Test.YtnealhiolaklpaaGreatDoorProg
import Derived.Test.YtnealhiolaklpaaGreatDoorAb1
set_option maxRecDepth 100000
set_option maxHeartbeats 4000000
set_option linter.all false
open Bool renaming false->U,true->J
open Option renaming none->O,some->C
open List renaming length->Y
open Go.Value renaming slice->H,bool->M,int->I
open Go.Proofs.Tryz
open Nat (beq ble mul)
open Go.Result (andThen_ok)
open Go.Sem (run_bind)
open Go.Region (binds)
open List (replicate)
open Int (toNat)
open Go.Builtin (firstCells)
open Go.Instr (checkKey)
namespace Go
variable{P:Prop}
def zaF (h:P:=by
 obtain⟨l1,q1,ZZ⟩:=Js (e:=en) hfx hid hni Pe;have e4':ij G id (some en) bD=some e:=by rw[gC _ _ rK];exact e4
 have qA:=dH e4;have GZ:bg e.es=true:=by have:=ou hG.wf bD;rwa [qA] at this
 all_goals obtain h:=_;exact h):P:=h
def zaZ (h:P:=by
 have:t.depth.toNat=0\/t.depth.toNat=1\/t.depth.toNat=2:=by rw[h.dp];omega
 rcases this with hh|hh|hh<;>rw[hh] at h3<;>simp at h3<;>omega;all_goals obtain h:=_;exact h):P:=h
end Go
namespace Go.Pg
open Go.Pl
variable {l:List aw}
section
variable {n:Nat}
def qB (h:n<10):fu n=[UInt8.ofNat (48+n)]:=by rw[fu,dif_pos h]
def vm (h:¬n<10):fu n=fu (n/ 10)++[UInt8.ofNat (48+n% 10)]:=by rw[fu,dif_neg h]
def PA (h:n<10):(UInt8.ofNat (48+n)).toNat=48+n:=by rw[UInt8.toNat_ofNat_of_lt' (by show _<256;omega)]
def rL (n:Nat):1<=Y (fu n):=by rw[fu];split<;>simp
def yj (n:Nat):∀c∈fu n,gR c=J:=by
 induction n using Nat.strongRecOn with
 |_ n ih=>intro c hc;by_cases h:n<10;rw[qB h] at hc;simp only[gI] at hc;subst hc;simp only[gR,PA h,ep,gv];omega;rw[vm h] at hc;obtain hc|hc:=cG.1 hc;exact ih (n/ 10) aa c hc;simp only[gI] at hc;subst hc;simp only[gR,PA (xG n aa),ep,gv];omega
def gu (n:Nat):∀k,1<=k->n<10^ k->Y (fu n)<=k:=by
 induction n using Nat.strongRecOn with
 |_ n ih=>
  intro k b hn;by_cases h:n<10;rw[qB h];exact b;rw[vm h,dB];obtain⟨k,rfl⟩:∃j,k=j+1:=⟨k-1,aa⟩;have a:1<=k:=by obtain _|k:=k;simp at hn;omega;omega
  have:=ih (n/ 10) aa k a (by rw[qm] at hn;omega);simp only[fS,jm];omega
def zw (s:aw)(c:UInt8):numOf (s++[c])=10*numOf s+(c.toNat-48):=by unfold numOf;rw[List.foldl_append];rfl
def wS (n:Nat):numOf (fu n)=n:=by
 induction n using Nat.strongRecOn with
 |_ n ih=>by_cases h:n<10;rw[qB h];show 10*0+((UInt8.ofNat (48+n)).toNat-48)=n;rw[PA h];omega;rw[vm h,zw,ih (n/ 10) aa,PA (xG n aa)];omega
def T2 (n:Nat):(fu n).headD 0=48->n=0:=by
 induction n using Nat.strongRecOn with
 |_ n ih=>
  intro h;by_cases hn:n<10;rw[qB hn] at h;(have:(UInt8.ofNat (48+n)).toNat=(48:UInt8).toNat:=by rw[show UInt8.ofNat (48+n)=48 from h]);rw[PA hn] at this;have d:(48:UInt8).toNat=48:=rfl;omega;rw[vm hn] at h;have b:(fu (n/ 10)++[UInt8.ofNat (48+n% 10)]).headD 0=(fu (n/ 10)).headD 0:=by
   have:=rL (n/ 10);cases c:fu (n/ 10) with
   |nil=>rw[c] at this;simp at this
   |cons a l=>rfl
  rw[b] at h;have:=ih (n/ 10) aa h;omega
def vY {p:UInt8->Bool}:∀(a b:aw),(∀c∈a,p c=J)->(b.head?.all λc=>!p c)=J->(a++b).takeWhile p=a
 |[],[],_,_=>rfl
 |[],c::b,_,h=>by
  have:p c=U:=by simpa using h
  simp[this]
 |x::a,b,h,d=>by rw[jk,xL,h x aq];simp only[iO];rw[vY a b (λc hc=>h c (by simp[hc])) d]
def T3 (hn:n<1000000000)(b:aw)(hb:(b.head?.all λc=>!gR c)=J):lU (fu n++b)=fu n:=by
 have a:Y (fu n)<=9:=gu n 9 aa aa;unfold lU;rw[V2,za a];apply vY;exact yj n;cases b with
 |nil=>simp
 |cons c b=>
  cases h:9-Y (fu n) with
  |zero=>simp
  |succ k=>simpa using hb
def Hg (hn:n<1000000000)(b:aw)(hb:(b.head?.all λc=>!gR c)=J):kA (fu n++b)=(n,Y (fu n)):=by
 unfold kA;simp only[T3 hn b hb];rw[af,wS];rintro⟨d,e⟩;have f:(fu n++b).headD 0=(fu n).headD 0:=by
  have:=rL n;cases g:fu n with
  |nil=>rw[g] at this;simp at this
  |cons a l=>rfl
 rw[f] at e;have:=T2 n e;subst this;rw[qB aa] at d;simp at d
def qC (hn:n<1000000000):aA (fu n)=C n:=by unfold aA;have h:=Hg hn [] rfl;rw[fT] at h;simp only[h];rw[af];have:=rL n;omega
def aaV (n:Nat):dec (n:Int)=fu n:=rfl
def nj {n:Int}(h:0<=n):dec n=fu n.toNat:=by obtain⟨k,rfl⟩:=tI h;rfl
def hU {n:Int}(h0:0<=n)(h:n<1000000000):aA (dec n)=C n.toNat:=by rw[nj h0,qC aa]
def rM {n:Int}(h0:0<=n)(h:n<1000000000):pa (dec n)=n:=by unfold pa;rw[hU h0 h];simp;omega
def aaW {n:Int}(h0:0<=n)(h:n<1000000000):Y (dec n)<=9:=by rw[nj h0];exact gu _ 9 aa aa
def yk {n:Int}(h0:0<=n):∀c∈dec n,gR c=J:=by rw[nj h0];exact yj _
def uw (c:UInt8):∀s:aw,(∀x∈s,x≠c)->cut c s=[s]
 |[],_=>rfl
 |x::s,h=>by rw[cut,af (h x aq),uw c s (λy a=>h y (by simp[a]))]
def BM (c:UInt8):∀(s b:aw),(∀x∈s,x≠c)->cut c (s++c::b)=s::cut c b
 |[],b,_=>by rw[kG,cut,ai rfl]
 |x::s,b,h=>by rw[jk,cut,af (h x aq),BM c s b (λy a=>h y (by simp[a]))]
def yl (c:UInt8):∀l:List aw,l≠[]->(∀s∈l,∀x∈s,x≠c)->cut c (gp c l)=l
 |[],h,_=>absurd rfl h
 |[s],_,h=>uw c s (h s aq)
 |s::t::l,_,h=>by rw[gp,BM c s _ (h s aq),yl c (t::l) aq (λu hu=>h u (by simp[hu]))];simp
def cS (s:aw)(l:List aw):fieldsOf (s::l)=fu (Y s)++58::s++fieldsOf l:=by simp[fieldsOf]
def LM:∀(l:List aw)(out:aw),Y (out++fieldsOf l)<=2048->jJ l out=C (out++fieldsOf l)
 |[],out,_=>by simp[jJ,fieldsOf]
 |s::l,out,h=>by rw[cS] at h;simp only[dB,fS] at h;rw[jJ,af aa];dsimp only;rw[af (by simp only[dB,fS];omega),LM l _ (by simp only[dB,fS];omega),cS];simp
def ym (h:Y l<=60)(hl:Y (fieldsOf l)<=2048):iy l=C (fieldsOf l):=by unfold iy;rw[af aa,LM l [] (by simpa using hl)];simp
def LN:∀(l:List aw)(f:Nat)(out:List aw),Y l<f->Y (fieldsOf l)<=2048->rF f (fieldsOf l) out=C (out++l)
 |[],f,out,h,_=>by obtain⟨f,rfl⟩:∃g,f=g+1:=⟨f-1,aa⟩;simp[rF,fieldsOf]
 |s::l,f,out,h,hl=>by
  obtain⟨f,rfl⟩:∃g,f=g+1:=⟨f-1,aa⟩;have m:=hl;rw[cS] at hl;simp only[dB,fS] at hl;have b:fieldsOf (s::l)≠[]:=by rw[cS];simp
  obtain⟨c,z,e⟩:∃c z,fieldsOf (s::l)=c::z:=by
   cases k:fieldsOf (s::l) with
   |nil=>exact absurd k b
   |cons c z=>exact⟨c,z,rfl⟩
  have hn:kA (fieldsOf (s::l))=(Y s,Y (fu (Y s))):=by rw[cS,iD];exact Hg aa _ (by simp[gR])
  rw[e,rF];rw[<-e,hn];have o:=rL (Y s);(have cg:Y (fieldsOf (s::l))=Y (fu (Y s))+1+Y s+Y (fieldsOf l):=by rw[cS];simp only[dB,fS];omega);(have i:(fieldsOf (s::l)).getD (Y (fu (Y s))) 0=58:=by rw[cS,iD,eX,wv (fG _),vG];rfl);(have d:(fieldsOf (s::l)).drop (Y (fu (Y s))+1)=s++fieldsOf l:=by rw[cS,iD,<-wx,Ap];rfl);(have j:(fieldsOf (s::l)).drop (Y (fu (Y s))+1+Y s)=fieldsOf l:=by rw[<-wx,d,Ap]);dsimp only;(have a:Y l<f:=by rw[fS] at h;omega);rw[af (by rw[i,cg];rintro(h|h|h|h)<;>first|omega|exact h rfl),j,d,Ca,LN l f _ a aa];simp;simp
def ux:∀l:List aw,2*Y l<=Y (fieldsOf l)
 |[]=>by simp[fieldsOf]
 |s::l=>by have:=ux l;have:=rL (Y s);rw[cS];simp only[dB,fS];omega
def qZ (h:Y l<=60)(hl:Y (fieldsOf l)<=2048):b6 (fieldsOf l)=C l:=by unfold b6;rw[af aa,LN l _ [] (by have:=ux l;omega) hl];simp only[kG];rw[ym h hl];simp
end
variable {s:aw}{c:UInt8}
section
variable {l:cc}
def zx (h:∀x∈s,gR x=J)(hc:gR c=U):∀x∈s,x≠c:=by rintro x a rfl;rw[h x a] at hc;cases hc
def rN {p:fm}(h:av p=U):aQ p=J↔(8<=p.row/\p.row<=63)/\(1<=p.bE/\p.bE<=900)/\(1<=p.size/\p.size<=128)/\(0<=p.sum/\p.sum<=99460728)/\0<=p.level/\p.level<=2:=by simp[aQ,h,zq,fI,and_assoc]
def kP {p:fm}:av p=J↔p=bp:=by simp[av]
def lz:av bp=J:=by simp[av]
def rO {p:fm}(h:av p=U)(a:aQ p=J):b9 p=gp 46 [dec p.row,dec p.bE,dec p.size,dec p.sum,dec p.level]:=by simp[b9,h,a,gp]
def mG:b9 bp=[45]:=by decide
def Jt {p:fm}(b:aQ p=J):∀x∈b9 p,gR x=J\/x=46\/x=45:=by
 cases h:av p with
 |true=>rw[kP.1 h,mG];simp
 |false=>
  have d:=(rN h).1 b;rw[rO h b];intro x a;simp only[gp,cG,cA] at a;have hd:=λ{n:Int} (h0:0<=n) (a:x∈dec n)=>yk h0 x a;obtain a|a|a|a|a|a|a|a|a:=a
  exact .inl (hd aa a);exact .inr (.inl a);exact .inl (hd aa a);exact .inr (.inl a);exact .inl (hd aa a);exact .inr (.inl a);exact .inl (hd aa a);exact .inr (.inl a);exact .inl (hd aa a)
def je {p:fm}:Y (b9 p)<=24:=by
 cases a:aQ p with
 |false=>simp[b9,a]
 |true=>
 cases h:av p with
 |true=>rw[kP.1 h,mG];simp
 |false=>
  have i:=(rN h).1 a;rw[rO h a];have b:Y (dec p.row)<=2:=by rw[nj aa];exact gu _ 2 aa aa
  have d:Y (dec p.bE)<=3:=by rw[nj aa];exact gu _ 3 aa aa
  have e:Y (dec p.size)<=3:=by rw[nj aa];exact gu _ 3 aa aa
  have f:Y (dec p.sum)<=9:=by rw[nj aa];exact gu _ 9 aa aa
  have g:Y (dec p.level)<=1:=by rw[nj aa];exact gu _ 1 aa aa
  simp only[gp,dB,fS];omega
def wT {p:fm}(g:aQ p=J):cy (b9 p)=C p:=by
 cases h:av p with
 |true=>rw[kP.1 h,mG];rfl
 |false=>
  have j:=(rN h).1 g;have hc:cut 46 (b9 p)=[dec p.row,dec p.bE,dec p.size,dec p.sum,dec p.level]:=by rw[rO h g];apply yl _ _ aq;intro s hs;simp only[cA,k6,k7] at hs;obtain rfl|rfl|rfl|rfl|rfl:=hs<;>exact zx (yk aa) cx
  have f:b9 p≠[45]:=by intro i;have:=congrArg List.length hc;rw[i] at this;simp[cut] at this
  unfold cy;rw[af f,hc];simp only[hU (show 0<=p.row by omega) aa,hU (show 0<=p.bE by omega) aa,hU (show 0<=p.size by omega) aa,hU (show 0<=p.sum by omega) aa,hU (show 0<=p.level by omega) aa];have e:(⟨(p.row.toNat:Int),(p.bE.toNat:Int),(p.size.toNat:Int),(p.sum.toNat:Int),(p.level.toNat:Int)⟩:fm)=p:=by obtain⟨a,b,c,d,e⟩:=p;simp only at j;simp;omega
  rw[e];simp[g,h]
def Hh {p:fm}(h:cy s=C p):aQ p=J:=by unfold cy at h;split at h;cases h;decide;split at h;split at h;simp only at h;split at h;cases h;rename_i a;cases h;simp at a;exact a.1;cases h;cases h
def mapM_some {α β:Type}(f:α->Option β):∀{l:List α}{r:List β},l.mapM f=C r->Y r=Y l/\∀y∈r,∃x∈l,f x=C y
 |[],r,h=>by simp at h;subst h;simp
 |x::l,r,h=>by
  rw[tR] at h;cases a:f x with
  |none=>rw[a] at h;simp at h
  |some y=>
   cases hl:l.mapM f with
   |none=>rw[a,hl] at h;simp at h
   |some j=>rw[a,hl] at h;simp at h;subst h;obtain⟨e,g⟩:=mapM_some f hl;refine⟨by simp[e],λz d=>?_⟩;obtain rfl|d:=cA.1 d;exact⟨x,aq,a⟩;obtain⟨w,i,b⟩:=g z d;exact⟨w,by simp[i],b⟩
def C2 {α β:Type}(f:α->Option β)(g:β->α):∀l:List β,(∀x∈l,f (g x)=C x)->(l.map g).mapM f=C l
 |[],_=>rfl
 |x::l,h=>by rw[lF,tR,h x aq,C2 f g l (λy a=>h y (by simp[a]))];rfl
def PB (b:Y l=4)(d:∀p∈l,aQ p=J)(e:l.all av=U):eY (gp 44 (l.map b9))=C l:=by unfold eY;rw[yl _ _ (by intro h;rw[List.map_eq_nil_iff] at h;subst h;simp at b)];rw[C2 cy b9 l (λp a=>wT (d p a))];simp[b,e];intro s hs x f;obtain⟨p,a,rfl⟩:=qj.1 hs;obtain h|rfl|rfl:=Jt (d p a) x f;rintro rfl;exact absurd h cx;decide;decide
def qD (h:eY s=C l):Y l=4/\(∀p∈l,aQ p=J)/\l.all av=U:=by unfold eY at h;split at h;cases h;rename_i r hr;split at h;cases h;rename_i a;cases h;refine⟨aa,λp b=>?_,by simpa using λh=>a (.inr h)⟩;obtain⟨x,_,d⟩:=(mapM_some cy hr).2 p b;exact Hh d
def uy (h:fM l=C s):Y l=4/\(∀p∈l,aQ p=J)/\l.all av=U/\s=gp 44 (l.map b9):=by unfold fM at h;split at h;cases h;split at h;cases h;split at h;cases h;rename_i e a b;cases h;refine⟨aa,λp d=>?_,by simpa using b,rfl⟩;simp only[Cj,not_exists,not_and] at a;have:=a p d;simpa using this
def zy (e:Y l=4)(b:∀p∈l,aQ p=J)(a:l.all av=U):fM l=C (gp 44 (l.map b9)):=by unfold fM;rw[af aa,af,af (by simp[a])];simp only[Cj,not_exists,not_and];intro p d;simp[b p d]
def aaX (e:Y l=4):Y (gp 44 (l.map b9))<=128/\1<=Y (gp 44 (l.map b9)):=by
 match l,e with
 |[a,b,c,d],_=>
  have:=je (p:=a);have:=je (p:=b);have:=je (p:=c);have:=je (p:=d);simp only[lF,KL,gp,dB,fS];omega
def T4 (k:Int):0<=eG k/\eG k<=128:=by unfold eG;split;omega;split<;>omega
def ef {n:dX}(h:cM n=J):(n.kind=1\/n.kind=2)/\(0<=n.size/\n.size<=2048)/\n.aO.many=dT n.kind n.size/\(0<=n.aO.many/\n.aO.many<=16)/\n.aO.depth=bR n.aO.many/\aQ n.aO.bU=J/\(1<=n.aX/\n.aX<=9)/\(n.kind=2->n.aX=1):=by
 simp only[cM,ep,ra,Ci,mW,Ch,fI,gv] at h;obtain⟨⟨⟨⟨b,j⟩,k⟩,g⟩,d,m⟩:=h;have a:n.kind=1\/n.kind=2:=by by_cases e:n.kind=1;exact .inl e;by_cases f:n.kind=2;exact .inr f;exfalso;apply b;simp[dT,eG,e,f]
 have hs:0<=n.size/\n.size<=16*eG n.kind:=by unfold dT at b;split at b;exact absurd aa b;rename_i i;simp[fI] at i;omega
 have o:=T4 n.kind;have hm:n.aO.many=dT n.kind n.size:=by omega
 have p:dT n.kind n.size<=16:=by unfold dT cV;split;omega;rcases a with a|a;rw[a] at hs⊢;simp[eG] at hs⊢;omega;rw[a] at hs⊢;simp[eG] at hs⊢;omega
 refine⟨a,⟨hs.1,aa⟩,hm,aa,by rw[hm];omega,g,?_,?_⟩;split at d<;>omega;intro a;rw[ai a] at d;omega
def eE (m:Int):0<=bR m/\bR m<=2:=by unfold bR;split;omega;split<;>omega
def kQ:∀l:List aw,(∀s∈l,Y s<=24)->Y (fieldsOf l)<=Y l*34
 |[],_=>by simp[fieldsOf]
 |s::l,h=>by have:=kQ l (λx a=>h x (by simp[a]));have b:=h s aq;have:Y (fu (Y s))<=9:=gu _ 9 aa aa;rw[cS];simp only[dB,fS];omega
def pc {n:dX}(h:cM n=J):∀s∈fw n,Y s<=24:=by
 obtain⟨b,hs,_,hm,hd,hr,hl,_⟩:=ef h;have:=eE n.aO.many;intro s hs;simp only[fw,cA,k6,k7] at hs;have a:=λ{n:Int} (h0:0<=n) (h:n<1000000000)=>jR (aaW h0 h) (show 9<=24 by omega);obtain rfl|rfl|rfl|rfl|rfl|rfl|rfl:=hs
 exact a aa aa;exact a aa aa;exact a aa aa;exact je;exact a aa aa;exact a aa aa;simp
def sJ {n:dX}(h:cM n=J):dK n=fieldsOf (fw n):=by unfold dK;rw[h,ym (by simp[fw]) (by have:=kQ _ (pc h);simp[fw] at this⊢;omega)];rfl
def qE {n:dX}(h:cM n=J):1<=Y (dK n)/\Y (dK n)<=128:=by
 rw[sJ h];obtain⟨d,hs,_,hm,hd,hr,hl,_⟩:=ef h;have b:=eE n.aO.many;have e:Y (dec n.kind)<=1:=by rw[nj aa];exact gu _ 1 aa aa
 have f:Y (dec n.aX)<=1:=by rw[nj aa];exact gu _ 1 aa aa
 have g:Y (dec n.size)<=4:=by rw[nj aa];exact gu _ 4 aa aa
 have i:Y (dec n.aO.depth)<=1:=by rw[nj aa];exact gu _ 1 aa aa
 have j:Y (dec n.aO.many)<=2:=by rw[nj aa];exact gu _ 2 aa aa
 have m:=je (p:=n.aO.bU);have a:∀k:Nat,k<=24->Y (fu k)<=2:=λk d=>gu _ 2 aa aa;simp only[fw,cS,dB,fS];have:=a (Y (dec n.kind)) aa;have:=a (Y (dec n.aX)) aa;have:=a (Y (dec n.size)) aa;have:=a (Y (dec n.aO.depth)) aa;have:=a (Y (dec n.aO.many)) aa;have:=a (Y (b9 n.aO.bU)) aa;have:=a 3 aa;have:Y (fieldsOf [])=0:=rfl;simp only[jm];simp only[kz,Nat.reduceAdd];omega
def LO {n:dX}(h:cM n=J):bY (dK n)=C n:=by
 have b:b6 (dK n)=C (fw n):=by rw[sJ h];exact qZ (by simp[fw]) (by have:=kQ _ (pc h);simp[fw] at this⊢;omega)
 obtain⟨d,hs,_,hm,hd,hr,hl,_⟩:=ef h;have a:=eE n.aO.many;unfold bY;rw[b];simp only[fw];rw[rM (show 0<=n.kind by omega) aa,rM (show 0<=n.aX by omega) aa,rM (show 0<=n.size by omega) aa,rM (show 0<=n.aO.depth by omega) aa,rM (show 0<=n.aO.many by omega) aa,wT hr];simp[h]
def jW {n:dX}(h:bY s=C n):cM n=J/\dK n=s:=by unfold bY at h;split at h;simp only at h;split at h;cases h;rename_i a;cases h;simpa using a;cases h
def mH:bY []=O:=by
 cases h:bY [] with
 |none=>rfl
 |some n=>obtain⟨a,b⟩:=jW h;have:=(qE a).1;rw[b] at this;simp at this
def gJ (h:bG s=J):(∀c∈s,97<=c.toNat/\c.toNat<=122)/\1<=Y s/\Y s<=4:=by simp only[bG,ep,gv,o5] at h;exact⟨λc hc=>h.1.1 c hc,h.1.2,h.2⟩
def BN (h:bG s=J)(hc:c.toNat<97):∀x∈s,x≠c:=by rintro x a rfl;have:=(gJ h).1 x a;omega
def jB (e:az)(l:List az):aR (e::l)=(e.name++61::dec e.id)++59::aR l:=by simp[aR]
def acI:∀l:List az,(∀e∈l,bG e.name=J/\0<=e.id)->(cut 59 (aR l)).dropLast=l.map λe=>e.name++61::dec e.id
 |[],_=>rfl
 |e::l,h=>by
  have d:=h e aq;rw[jB,BM];have b:cut 59 (aR l)≠[]:=by
   cases f:aR l with
   |nil=>simp[cut]
   |cons x z=>rw[cut];split;simp;split<;>simp
  rw[List.dropLast_cons_of_ne_nil b,acI l (λx a=>h x (by simp[a]))];rfl;intro x a;obtain a|a:=cG.1 a;exact BN d.1 cx x a;rcases cA.1 a with rfl|a;decide;exact zx (yk d.2) cx x a
def LP {e:az}(h:bG e.name=J)(h0:0<=e.id)(h1:e.id<1000000000):mc (e.name++61::dec e.id)=C e:=by unfold mc;rw[BM _ _ _ (BN h cx),uw _ _ (zx (yk h0) cx)];simp only[rM h0 h1]
def ea {l:List az}(h:bg l=J):(∀e∈l,bG e.name=J/\1<=e.id/\e.id<=15)/\lV l=J/\Y l<=12:=by simp only[bg,ep,gv,o5,fI] at h;exact⟨λe a=>h.1.1 e a,h.1.2,h.2⟩
def uz {l:List az}(h:bg l=J):df (aR l)=C l:=by obtain⟨b,_,_⟩:=ea h;unfold df;rw[acI l (λe a=>⟨(b e a).1,by have:=b e a;omega⟩)];rw[C2 mc _ l (λe a=>by have:=b e a;exact LP this.1 aa aa)];simp[h]
def lY {l:List az}(h:df s=C l):bg l=J/\aR l=s:=by unfold df at h;split at h;cases h;split at h;cases h;rename_i a;cases h;simpa using a
def lZ {l:List az}(h:bg l=J):Y (aR l)<=96/\(l≠[]->1<=Y (aR l)):=by
 obtain⟨a,_,f⟩:=ea h;have:∀l:List az,(∀e∈l,bG e.name=J/\1<=e.id/\e.id<=15)->Y (aR l)<=Y l*8/\(l≠[]->1<=Y (aR l)):=by
  intro l;induction l with
  |nil=>simp[aR]
  |cons e l ih=>intro h;have b:=h e aq;have g:=(gJ b.1).2;(have i:Y (dec e.id)<=2:=by rw[nj aa];exact gu _ 2 aa aa);have:=(ih (λx d=>h x (by simp[d]))).1;rw[jB];simp only[dB,fS];refine⟨aa,λ_=>by omega⟩
 have:=this l a;exact⟨aa,this.2⟩
end
variable {a b st bB:ae}{Q':cc}{p:fm}{level:Int}
def nh (p:fm):Bool:=!av p
def adW (i:Nat)(p:fm):Bool:=decide (p.row.toNat=i)
def y7 (i:Nat)(Q:cc):Nat:=Q.countP (adW i)
def aaY (i:Nat):y7 i []=0:=rfl
def jf (i:Nat)(p q:cc):y7 i (p++q)=y7 i p+y7 i q:=by simp[y7]
def oH (i:Nat)(p:fm)(q:cc):y7 i (p::q)=y7 i q+if p.row.toNat=i then 1 else 0:=by simp[y7,tF,adW]
def LQ {i:Nat}{p q:cc}(h:p.Perm q):y7 i p=y7 i q:=h.countP_eq _
def C3 {i:Nat}{Q:cc}(h:y7 i Q=0):∀p∈Q,p.row.toNat≠i:=by intro p e d;have:=(Ac.1 h) p e;simp[adW,d] at this
def Live (st:ae)(p:fm):Prop:=fits p (gB st p)=J/\p.bE<=st.dm
structure mT (st:ae)(Q:cc):Prop where
 lr:st.dV.length=64
 lf:st.aI.length=64
 ll:st.bW.length=64
 kp:st.iz=0
 tx:1<=st.dm
 lv:∀p∈Q,Live st p
 ct:∀i:Nat,i<64->((y7 i (Q++st.aS):Nat):Int)<=st.aI.getD i 0
 gn:∀p∈st.aS,8<=p.row.toNat/\p.row.toNat<64
structure fb (st bB:ae)(Q:cc):Prop where
 tx:bB.dm=st.dm
 row:∀p∈Q,gB bB p=gB st p
def fb.refl (st:ae)(Q:cc):fb st st Q:=⟨rfl,λ_ _=>rfl⟩
def fb.trans {a b c:ae}{Q Q':cc}(h:fb a b Q)(k:fb b c Q')(hs:∀p∈Q,p∈Q'):fb a c Q:=⟨k.tx.trans h.tx,λp d=>(k.row p (hs p d)).trans (h.row p d)⟩
def fb.mono {Q Q':cc}(h:fb a b Q)(hs:∀p∈Q',p∈Q):fb a b Q':=⟨h.tx,λp d=>h.row p (hs p d)⟩
def Live.nh (h:Live st p):av p=U/\aQ p=J:=by have:=h.1;simp[fits] at this;exact⟨this.1.1.2,this.1.1.1⟩
def Live.WA (h:Live st p):8<=p.row.toNat/\p.row.toNat<64/\1<=p.bE:=by have:=(rN h.nh.1).1 h.nh.2;omega
def Live.ext {Q:cc}(h:Live st p)(hr:gB bB p=gB st p)(ht:st.dm<=bB.dm):Live bB p:=⟨by rw[hr];exact h.1,by have:=h.2;omega⟩
def mT.bX {Q Q':cc}(h:mT st Q)(d:Q.Perm Q'):mT st Q':=
 ⟨h.lr,h.lf,h.ll,h.kp,h.tx,λp e=>h.lv p (d.mem_iff.2 e),λi hi=>by rw[LQ (d.symm.append_right _)];exact h.ct i hi,h.gn⟩
def mT.less {Q Q':cc}(h:mT st Q)(hm:∀p∈Q',p∈Q)(hc:∀i,y7 i Q'<=y7 i Q):mT st Q':=
 ⟨h.lr,h.lf,h.ll,h.kp,h.tx,λp d=>h.lv p (hm p d),λi hi=>by have:=h.ct i hi;rw[jf] at this⊢;have:=hc i;omega,h.gn⟩
def mT.sub {Q Q':cc}(h:mT st Q)(hs:Q'.Sublist Q):mT st Q':=h.less (λp d=>hs.subset d) (λi=>hs.countP_le)
def nY {p:Nat->Bool}:∀{n i k:Nat},nL p n i=C k->i<=k/\k<i+n/\p k=J
 |0,i,k,h=>by cases h
 |n+1,i,k,h=>by unfold nL at h;split at h;rename_i e;cases h;exact⟨aa,aa,e⟩;obtain⟨f,g,d⟩:=nY h;exact⟨aa,aa,d⟩
def j8 {α:Type}(l:List α)(i j:Nat)(x d:α):(l.set i x).getD j d=if i=j/\j<Y l then x else l.getD j d:=by rw[eX,eX,List.getElem?_set];by_cases h:i=j;subst h;by_cases e:i<Y l;simp[e];simp[e];simp[h]
def C4 {i bE level:Int}(h:rG i bE level s=C p):p=⟨i,bE,Y s,sumOf s,level⟩/\1<=Y s/\Y s<=128/\aQ p=J:=by unfold rG at h;simp only at h;split at h;cases h;split at h;cases h;rename_i d e;cases h;simp[Jb] at d;exact⟨rfl,wq.2 d.1,d.2,by simpa using e⟩
def Ju {i:Nat}(h:oq st s level=C i):8<=i/\i<64/\(st.dV.getD i []=s\/st.aI.getD i 0=0):=by unfold oq at h;split at h;rename_i k f;cases h;split at f;obtain⟨e,g,d⟩:=nY f;simp only[x9,ep,gv] at d;exact⟨e,aa,.inl d.1.1⟩;cases f;obtain⟨e,g,d⟩:=nY h;exact⟨e,aa,.inr (by simpa using d)⟩
def LS {Q:cc}(h:mT st Q)(f:bz st s level=C (bB,p)):
  mT bB (p::Q)/\fb st bB Q/\gB bB p=s/\p.level=level/\p.bE=st.dm/\bB.aS=st.aS:=by
 unfold bz at f;split at f;cases f;rename_i i hi;obtain⟨z,t,n⟩:=Ju hi;split at f;cases f;rename_i q x;obtain⟨g,A,B,y⟩:=C4 x;cases f;have d:p.row.toNat=i:=by rw[g];simp
 have o:av p=U:=by rw[g];simp[av,bp];omega
 have m:∀q:fm,q∈Q->gB {st with dV:=st.dV.set i s,aI:=st.aI.set i (st.aI.getD i 0+1),bW:=st.bW.set i st.dm} q=gB st q:=by intro r hr;unfold gB;rw[j8];split;rename_i hc;obtain n|n:=n;rw[<-hc.1,n];have u:=h.ct i t;rw[n,jf] at u;have v:=C3 (i:=i) (Q:=Q) aa r hr;exact absurd hc.1.symm v;rfl
 have k:gB {st with dV:=st.dV.set i s,aI:=st.aI.set i (st.aI.getD i 0+1),bW:=st.bW.set i st.dm} p=s:=by unfold gB;rw[j8,d,ai ⟨rfl,by rw[h.lr];exact t⟩]
 refine⟨⟨by simp[h.lr],by simp[h.lf],by simp[h.ll],h.kp,h.tx,?_,?_,h.gn⟩,⟨rfl,m⟩,k,by rw[g],by rw[g],rfl⟩;intro r hr;obtain rfl|hr:=cA.1 hr;refine⟨?_,?_⟩;rw[k];simp[fits,y,o];constructor<;>rw[g];rw[g];exact xM _;exact(h.lv r hr).ext (Q:=Q) (m r hr) (xM _);intro j w;have:=h.ct j w;rw[jk,oH,j8,d];by_cases e:i=j;subst e;rw[ai rfl,ai ⟨rfl,by rw[h.lf];exact t⟩];show((y7 i (Q++st.aS)+1:Nat):Int)<=_;omega;rw[af e,af (by rintro⟨h,_⟩;exact e h)];show((y7 j (Q++st.aS)+0:Nat):Int)<=_;omega
def aaZ {Q:cc}(h:mT st (p::Q)):mT (drop st p.row) Q/\fb st (drop st p.row) Q:=by
 have j:=(h.lv p aq).WA;have d:=h.ct p.row.toNat j.2.1;rw[jk,oH,ai rfl] at d;have e:∀q∈Q,gB (drop st p.row) q=gB st q:=by intro q f;unfold drop gB;dsimp only;split;rename_i h0;rw[j8];split;rename_i hc;exfalso;rw[jf] at d;exact C3 (i:=p.row.toNat) (Q:=Q) aa q f hc.1.symm;rfl;rfl
 refine⟨⟨?_,?_,?_,h.kp,h.tx,λq f=>(h.lv q (by simp[f])).ext (Q:=Q) (e q f) (xM _),?_,h.gn⟩,⟨rfl,e⟩⟩;unfold drop;dsimp only;split<;>simp[h.lr];unfold drop;simp[h.lf];unfold drop;dsimp only;split<;>simp[h.ll];intro i hi;have g:=h.ct i hi;rw[jk,oH] at g;show((y7 i (Q++st.aS):Nat):Int)<=(st.aI.set p.row.toNat (st.aI.getD p.row.toNat 0-1)).getD i 0;rw[j8];by_cases hc:p.row.toNat=i;subst hc;rw[ai ⟨rfl,by rw[h.lf];exact j.2.1⟩];omega;rw[af (by rintro⟨h,_⟩;exact hc h)];rw[af hc] at g;omega
def RX {Q:cc}(h:mT st (p::Q)):mT (free st p) Q/\fb st (free st p) Q:=by
 have hl:=h.lv p aq;have hr:=hl.WA;unfold free;rw[af (by rw[hl.nh.1];simp),af (by rw[h.kp];omega)];split;refine⟨⟨h.lr,h.lf,h.ll,h.kp,h.tx,λq d=>h.lv q (by simp[d]),λi hi=>?_,λq d=>?_⟩,⟨rfl,λ_ _=>rfl⟩⟩;have:=h.ct i hi;rw[jk,oH,jf] at this;rw[jf,jf,oH,aaY];show((_:Nat):Int)<=st.aI.getD i 0;omega;rcases cG.1 d with d|d;exact h.gn q d;have:q=p:=by simpa using d
 subst this;exact⟨hr.1,hr.2.1⟩;exact aaZ h
def zA (h:av p=J):free st p=st:=by unfold free;rw[ai h]
def pQ:∀{L:cc}{st:ae}{Q:cc},mT st (L.filter nh++Q)->mT (dA L st) Q/\fb st (dA L st) Q
 |[],st,Q,h=>⟨h,fb.refl _ _⟩
 |p::L,st,Q,h=>by
  cases d:av p with
  |true=>rw[vN,af (by simp[nh,d])] at h;have:=pQ h;show mT (dA L (free st p)) Q/\_;rwa[show dA (p::L) st=dA L (free st p) from rfl,zA d]
  |false=>rw[vN,ai (by simp[nh,d])] at h;obtain⟨f,g⟩:=RX h;obtain⟨i,j⟩:=pQ f;exact⟨i,(g.mono (λq e=>by simp[e])).trans j (λq e=>e)⟩
def aa0 {Q:cc}(h:mT st Q):mT (next st) Q/\(next st).dm=st.dm+1/\∀p∈Q,gB (next st) p=gB st p:=by
 have key:∀(g:cc)(s:ae),Y s.dV=64->Y s.aI=64->Y s.bW=64->s.iz=0->s.dm=st.dm->(∀p∈Q,gB s p=gB st p)->(∀p∈g,p.row.toNat<64)->(∀i:Nat,i<64->((y7 i (Q++g):Nat):Int)<=s.aI.getD i 0)->
   let s':=g.foldl (λst p=>drop st p.row) s
   (Y s'.dV)=64/\Y s'.aI=64/\Y s'.bW=64/\s'.iz=0/\s'.dm=st.dm/\(∀p∈Q,gB s' p=gB st p)/\(∀i:Nat,i<64->((y7 i Q:Nat):Int)<=s'.aI.getD i 0):=by
  intro g;induction g with
  |nil=>intro s d f k m r j n o;simp only[fT] at o;exact⟨d,f,k,m,r,j,o⟩
  |cons p g ih=>
   intro s d f k m r j n o;have e:=n p aq;have u:=o p.row.toNat e;rw[jf,oH,ai rfl] at u;apply ih (drop s p.row)
   .unfold drop;dsimp only;split<;>simp[d]
   .unfold drop;simp[f]
   .unfold drop;dsimp only;split<;>simp[k]
   .exact m
   .exact r
   .intro q t;rw[<-j q t];unfold drop gB;dsimp only;split
    .rw[j8];split
     .rename_i hc;exfalso;exact C3 (i:=p.row.toNat) (Q:=Q) aa q t hc.1.symm
     .rfl
    .rfl
   .exact λq t=>n q (by simp[t])
   .intro i hi;have d:=o i hi;rw[jf,oH] at d;show((y7 i (Q++g):Nat):Int)<=(s.aI.set p.row.toNat (s.aI.getD p.row.toNat 0-1)).getD i 0;rw[j8,jf];by_cases hc:p.row.toNat=i
    .subst hc;rw[ai ⟨rfl,by rw[f];exact e⟩];omega
    .rw[af (by rintro⟨h,_⟩;exact hc h)];rw[af hc] at d;omega
 obtain⟨d,f,k,m,r,j,n⟩:=key st.aS st h.lr h.lf h.ll h.kp rfl (λ_ _=>rfl) (λp e=>(h.gn p e).2) h.ct;have ht:(next st).dm=st.dm+1:=rfl;refine⟨⟨d,f,k,m,by rw[ht];have:=h.tx;omega,λp e=>(h.lv p e).ext (Q:=Q) (j p e) (by rw[ht];omega),λi hi=>?_,by simp[next]⟩,rfl,j⟩;show((y7 i (Q++[]):Nat):Int)<=_;rw[fT];exact n i hi
variable {k r q:cc}{t:bt}
section
variable {n:Int}{l a:cc}
def kR (n:Nat):(cX n).filter nh=[]:=by rw[List.filter_eq_nil_iff];intro p d;rw[List.eq_of_mem_replicate d];decide
def kh {n:Nat}(h:p∈cX n):p=bp:=List.eq_of_mem_replicate h
def iW (n:Nat):Y (cX n)=n:=sk
def jX:aQ bp=J:=by decide
def Xs:nh p=J↔av p=U:=by simp[nh]
def dw:p∈l.filter nh↔p∈l/\av p=U:=by rw[Ad,Xs]
def hY {st:ae}{level:Int}(h:below st p level=C k):
  (Y k)=4/\(∀q∈k,aQ q=J)/\((av p=J/\k=cX 4)\/(av p=U/\p.level=level/\p.bE<=st.dm/\fits p (gB st p)=J/\eY (gB st p)=C k/\∀q∈k,q.bE<=p.bE)):=by unfold below at h;split at h;rename_i d;cases h;exact⟨iW 4,λq g=>by rw[kh g];exact jX,.inl ⟨d,rfl⟩⟩;rename_i d;split at h;cases h;rename_i f;split at h;cases h;rename_i s hs;split at h;cases h;rename_i l hl;split at h;cases h;rename_i hb;cases h;have e:=qD hl;unfold dD at hs;rw[af d] at hs;split at hs;rename_i hf;cases hs;refine⟨e.1,e.2.1,.inr ⟨by simpa using d,?_,?_,hf,hl,?_⟩⟩;simp at f;omega;simp at f;omega;simpa using hb;cases hs
def LU {st:ae}{level:Int}(h:av p=U)(hl:p.level=level)(hb:p.bE<=st.dm)(hf:fits p (gB st p)=J)(d:eY (gB st p)=C k)(e:∀q∈k,q.bE<=p.bE):below st p level=C k:=by
 have f:aQ p=J:=by simp[fits] at hf;exact hf.1.1.1
 unfold below;rw[af (by simp[h]),af (by simp[f,hl];omega)];have:dD st p=C (gB st p):=by unfold dD;rw[af (by simp[h]),ai hf]
 rw[this];simp only;rw[d];simp only;rw[af];simpa using e
def nZ {st:ae}{level:Int}(h:av p=J):below st p level=C (cX 4):=by unfold below;rw[ai h]
def rP {st bB:ae}{level:Int}(h:below st p level=C k)(hr:av p=U->gB bB p=gB st p)(ht:st.dm<=bB.dm):below bB p level=C k:=by obtain⟨_,_,⟨d,rfl⟩|⟨d,e,j,f,g,i⟩⟩:=hY h;exact nZ d;exact LU d e aa (by rw[hr d];exact f) (by rw[hr d];exact g) i
def LW (st:ae)(n:Int):down st n []=C []:=rfl
def po {st:ae}(h:below st p n=C k)(h2:down st n l=C r):down st n (p::l)=C (k++r):=by
 unfold down at h2⊢;rw[tR,h];cases hm:l.mapM λp=>below st p n with
 |none=>rw[hm] at h2;cases h2
 |some w=>rw[hm] at h2;cases h2;rfl
def fy {st:ae}(h:down st n (p::l)=C r):∃k d,below st p n=C k/\down st n l=C d/\r=k++d:=by
 unfold down at h⊢;rw[tR] at h;cases hb:below st p n with
 |none=>rw[hb] at h;cases h
 |some k=>
  cases hm:l.mapM λp=>below st p n with
  |none=>rw[hb,hm] at h;cases h
  |some w=>rw[hb,hm] at h;cases h;exact⟨k,_,rfl,rfl,rfl⟩
def C5 {st:ae}:∀{l l2 r d:cc},down st n l=C r->down st n l2=C d->down st n (l++l2)=C (r++d)
 |[],l2,r,d,h,e=>by cases h;exact e
 |p::l,l2,r,d,h,e=>by obtain⟨k,i,f,g,rfl⟩:=fy h;rw[jk,iD];exact po f (C5 g e)
def C6 {st:ae}:∀{l l2 r:cc},down st n (l++l2)=C r->∃d e,down st n l=C d/\down st n l2=C e/\r=d++e
 |[],l2,r,h=>⟨[],r,rfl,h,rfl⟩
 |p::l,l2,r,h=>by obtain⟨k,m,f,g,rfl⟩:=fy h;obtain⟨d,e,i,j,rfl⟩:=C6 g;exact⟨k++d,e,po f i,j,aq⟩
def wU (st:ae)(n:Int):∀m:Nat,down st n (cX m)=C (cX (4*m))
 |0=>rfl
 |m+1=>by have:=po (nZ (st:=st) (level:=n) lz) (wU st n m);rw[show cX (m+1)=bp::cX m from rfl,this];congr 1
def pR {st:ae}:∀{l r:cc},down st n l=C r->Y r=4*Y l/\∀q∈r,aQ q=J
 |[],r,h=>by cases h;simp
 |p::l,r,h=>by obtain⟨k,o,e,f,rfl⟩:=fy h;obtain⟨g,i⟩:=pR f;obtain⟨j,m,_⟩:=hY e;refine⟨by simp[g,j];omega,λq d=>?_⟩;obtain d|d:=cG.1 d;exact m q d;exact i q d
def C7 {st bB:ae}:∀{l r:cc},down st n l=C r->(∀p∈l.filter nh,gB bB p=gB st p)->st.dm<=bB.dm->down bB n l=C r
 |[],r,h,_,_=>h
 |p::l,r,h,hr,ht=>by obtain⟨k,i,e,f,rfl⟩:=fy h;refine po (rP e (λg=>hr p (dw.2 ⟨aq,g⟩)) ht) (C7 f (λq d=>hr q ?_) ht);rw[dw] at d⊢;exact⟨by simp[d.1],d.2⟩
def uA {st:ae}:∀{l r:cc},down st n l=C r->∀p∈l,(below st p n).isSome=J
 |[],r,h=>by simp
 |p::l,r,h=>by obtain⟨k,g,e,f,rfl⟩:=fy h;intro q d;obtain rfl|d:=cA.1 d;rw[e];rfl;exact uA f q d
def pd (st:ae):Nat->cc->Option (cc×cc)
 |0,l=>C (l,[])
 |n+1,l=>match down st (n+1:Nat) l with
  |none=>O
  |some l'=>match pd st n l' with
   |none=>O
   |C (a,q)=>C (a,l.filter nh++q)
def qF (st:ae):∀(n:Nat)(l:cc),du.go st n l=(pd st n l).map (·.1)
 |0,l=>rfl
 |n+1,l=>by
  rw[du.go,pd];cases down st (n+1:Nat) l with
  |none=>rfl
  |some l'=>
   simp only;rw[qF st n l'];cases pd st n l' with
   |none=>rfl
   |some r=>rfl
def gU {st:ae}{n:Nat}(h:pd st (n+1) l=C (a,q)):∃l' d,down st (n+1:Nat) l=C l'/\pd st n l'=C (a,d)/\q=l.filter nh++d:=by
 rw[pd] at h;cases hd:down st (n+1:Nat) l with
 |none=>rw[hd] at h;cases h
 |some l'=>
  rw[hd] at h;simp only at h;cases hl:pd st n l' with
  |none=>rw[hl] at h;cases h
  |some r=>rw[hl] at h;(cases h);exact⟨l',r.2,rfl,hl,rfl⟩
def sK {st:ae}{n:Nat}{l l' a d:cc}(h:down st (n+1:Nat) l=C l')(h2:pd st n l'=C (a,d)):pd st (n+1) l=C (a,l.filter nh++d):=by rw[pd,h];simp only;rw[h2]
def C8 {st bB:ae}:∀{n:Nat}{l a q:cc},pd st n l=C (a,q)->(∀p∈q,gB bB p=gB st p)->st.dm<=bB.dm->pd bB n l=C (a,q)
 |0,l,a,q,h,_,_=>h
 |n+1,l,a,q,h,hr,ht=>by obtain⟨l',g,e,f,rfl⟩:=gU h;exact sK (C7 e (λp d=>hr p (im _ d)) ht) (C8 f (λp d=>hr p (dt _ d)) ht)
def C9 {st:ae}:∀{n:Nat}{l a q:cc},pd st n l=C (a,q)->Y a=4^ n*Y l/\((∀p∈l,aQ p=J)->∀p∈a,aQ p=J)
 |0,l,a,q,h=>by cases h;simp
 |n+1,l,a,q,h=>by obtain⟨l',m,d,e,rfl⟩:=gU h;obtain⟨f,g⟩:=C9 e;obtain⟨i,j⟩:=pR d;refine⟨by rw[f,i,qm,GG],λ_=>g j⟩
structure qk (st:ae)(t:bt)(l q:cc):Prop where
 mn:0<=t.many/\t.many<=16
 dp:t.depth=bR t.many
 rt:aQ t.bU=true
 lv:∃a,pd st t.depth.toNat [t.bU]=some (a,q)/\l=a++cX (16-a.length)
 hl:∀i:Nat,t.many<=i->l.getD i bp=bp
 l0:∀p∈l,av p=false->p.level=0
def cD (l q:cc):cc:=q++l.filter nh
def qk.len {st:ae}(h:qk st t l q):Y l=16/\∀p∈l,aQ p=J:=by
 obtain⟨a,e,rfl⟩:=h.lv;obtain⟨f,g⟩:=C9 e;have hd:=eE t.many;have:t.depth.toNat=0\/t.depth.toNat=1\/t.depth.toNat=2:=by rw[h.dp];omega
 refine⟨?_,λp d=>?_⟩;rw[dB,iW,f];obtain h|h|h:=this<;>rw[h]<;>simp;rcases cG.1 d with d|d;exact g (by simpa using h.rt) p d;rw[kh d];exact jX
def qk.ext {st bB:ae}(h:qk st t l q)(hr:∀p∈q,gB bB p=gB st p)(ht:st.dm<=bB.dm):qk bB t l q:=by obtain⟨a,d,e⟩:=h.lv;exact⟨h.mn,h.dp,h.rt,⟨a,C8 d hr ht,e⟩,h.hl,h.l0⟩
def qk.cv {st:ae}(h:qk st t l q):cv st t=l:=by obtain⟨a,d,e⟩:=h.lv;unfold Go.Pl.cv du;rw[qF,d,e];rfl
def rQ (st:ae):qk st fC (cX 16) []:=⟨cx,cx,cx,⟨[bp],rfl,rfl⟩,λi _=>by rw[eX];by_cases hi:i<16;rw[c8 (by rwa[iW])];exact Rs ..;rw[mQ (by rw[iW];omega)];rfl,λp d h=>by rw[kh d] at h;cases h⟩
def qk.fV {st:ae}(h:qk st t l q):fV st t=q:=by
 obtain⟨a,e,x⟩:=h.lv;have hd:=eE t.many;have u:0<=t.depth:=by rw[h.dp];exact hd.1
 have hc:t.depth.toNat=0\/t.depth.toNat=1\/t.depth.toNat=2:=by rw[h.dp];omega
 unfold Go.Pl.fV;obtain hc|hc|hc:=hc<;>rw[hc] at e;cases e;rw[ai (.inl aa)];obtain⟨l',v,i,f,rfl⟩:=gU e;cases f;cases hr:av t.bU with
 |true=>rw[ai (.inr rfl)];simp[nh,hr]
 |false=>rw[af (by simp;omega),af aa];simp[nh,hr]
 obtain⟨l',v,i,f,rfl⟩:=gU e;obtain⟨z,A,y,j,rfl⟩:=gU f;cases j;obtain⟨k,w,m,o,rfl⟩:=fy i;have g:w=[]:=by cases o;rfl
 subst g;simp only[fT] at *
 have d:below st t.bU 2=C k:=m;cases hr:av t.bU with
 |true=>rw[ai (.inr rfl)];rw[nZ hr] at d;(cases d);rw[kR];simp[nh,hr]
 |false=>rw[af (by simp;omega),ai aa,d];simp[nh,hr];rfl
def adX {st bB:ae}{Q l:cc}{level:Int}{old p:fm}(h:mT st Q)(o:Y l=4)(hl:∀p∈l,aQ p=J/\p.bE<=st.dm)(G:av old=U->old∈Q/\(below st old level).isSome=J)(hf:Pf st l level old=C (bB,p)):
  ∃new d,[p].filter nh=new++d/\mT bB (new++Q)/\fb st bB Q/\below bB p level=C l/\aQ p=J/\p.bE<=st.dm/\(d=[]\/(d=[p]/\p=old))/\bB.aS=st.aS:=by
 unfold Pf at hf;split at hf;rename_i ha;cases hf;have w:l=cX 4:=by rw[<-o];exact List.eq_replicate_iff.2 ⟨rfl,λp g=>kP.1 (o5.1 ha p g)⟩
 exact⟨[],[],rfl,h,fb.refl _ _,by rw[w];exact nZ lz,jX,by show(0:Int)<=_;have:=h.tx;omega,.inl rfl,rfl⟩;rename_i ha;have ha:l.all av=U:=by simpa using ha
 have g:=zy o (λp g=>(hl p g).1) ha;have z:=PB o (λp g=>(hl p g).1) ha;rw[g] at hf;simp only[lI] at hf;split at hf;rename_i hc;cases hf;simp only[ep,ra,gv] at hc;obtain⟨⟨f,F⟩,u⟩:=hc;obtain⟨j,x⟩:=G f;obtain⟨k,A⟩:=sj.1 x;have v:k=l:=by obtain⟨_,_,⟨i,_⟩|⟨_,_,_,_,m,_⟩⟩:=hY A;rw[f] at i;cases i;rw[u,z] at m;cases m;rfl
 subst v;exact⟨[],[old],by simp[nh,f],h,fb.refl _ _,A,(h.lv old j).nh.2,(h.lv old j).2,.inr ⟨rfl,rfl⟩,rfl⟩;obtain⟨i,B,D,m,y,E⟩:=LS h hf;have e:=i.lv p aq;refine⟨[p],[],by simp[nh,e.nh.1],i,B,?_,e.nh.2,by rw[y];exact xM _,.inl rfl,E⟩;exact LU e.nh.1 m e.2 e.1 (by rwa[D]) (λq K=>by rw[y];exact(hl q K).2)
def vn {level:Int}:∀(k:Nat){L was:cc}{st bB:ae}{Q stays e out g:cc},Y L=4*k->k<=Y was->mT st Q->(∀p∈L,aQ p=J/\p.bE<=st.dm)->(∀w∈was,av w=U->w∈Q/\(below st w level).isSome=J)->kn level L was st stays out=(bB,C (e,g))->
  ∃o new f,g=out++o/\Y o=k/\(o.filter nh).Perm (new++f)/\mT bB (new++Q)/\fb st bB Q/\down bB level o=C L/\(∀p∈o,aQ p=J/\p.bE<=st.dm)/\f.Sublist (was.filter nh)/\(∀r∈f,r∈e)/\(∀r∈stays,r∈e)
 |0,L,was,st,bB,Q,stays,e,out,g,z,D,h,F,B,m=>by have:L=[]:=jG aa;subst this;rw[kn] at m;cases m;exact⟨[],[],[],aq,rfl,.refl _,h,fb.refl _ _,rfl,aq,List.nil_sublist _,aq,λr hr=>hr⟩;intros;contradiction
 |k+1,L,was,st,bB,Q,stays,e,out,g,z,D,h,F,B,m=>by
  match L,z with
  |a::b::c::d::L,z=>
  match was,D with
  |w::was,D=>
  rw[kn] at m;simp only[List.headD_cons,List.tail_cons] at m;split at m;cases m;rename_i st1 p hf;have G:∀x∈[a,b,c,d],aQ x=J/\x.bE<=st.dm:=λx i=>F x (by simp at i⊢;obtain rfl|rfl|rfl|rfl:=i<;>simp);obtain⟨n1,r1,f1,f2,f3,f4,f5,f6,f7,_⟩:=adX h rfl G (B w aq) hf;have v:st1.dm=st.dm:=f3.tx;obtain⟨o,new,f,S,g2,T,V,E,W,X,N,Z,g10⟩:=vn k (by simp at z;omega) (by simp at D;omega) f2 (λx i=>by rw[v];exact F x (by simp[i])) (λx i A=>by obtain⟨R,h2⟩:=B x (by simp[i]) A;obtain⟨y,hy⟩:=sj.1 h2;exact⟨by simp[R],by rw[rP hy (λ_=>f3.row x R) aa];rfl⟩) m;have j:(∀r∈stays,r∈e)/\(p=w->p∈e):=by refine⟨λr hr=>g10 r ?_,λu=>g10 p ?_⟩;by_cases u:p=w<;>simp[u,hr];simp[u]
  refine⟨p::o,new++n1,r1++f,by rw[S];simp,by simp[g2],?_,by rwa[iD],f3.trans E (λx i=>by simp[i]),?_,?_,?_,?_,?_⟩;(have:(p::o).filter nh=[p].filter nh++o.filter nh:=by rw[<-ri];rfl);rw[this,f1];refine(vI _ T).trans ?_;simp only[iD];refine(tL _ _ _).trans ?_;refine(tL _ _ _).trans ?_;refine(vI _ (tL _ _ _)).trans ?_;exact tL _ _ _;refine po (rP f4 (λA=>E.row p ?_) (by rw[E.tx];omega)) W;(have:p∈[p].filter nh:=by simp[nh,A]);rw[f1] at this;obtain hm|hm:=cG.1 this;exact im _ hm;rcases f7 with f7|⟨f7,f8⟩;rw[f7] at hm;cases hm;subst f8;exact dt _ (B p aq A).1;intro x i;obtain rfl|i:=cA.1 i;exact⟨f5,f6⟩;rw[<-v];exact X x i;rcases f7 with f7|⟨f7,f8⟩;rw[f7,kG];exact N.trans (List.Sublist.filter _ (List.sublist_cons_self _ _));subst f8;(have K:nh p=J:=by rw[f7] at f1;(have:p∈[p].filter nh:=by rw[f1];simp);exact(Ad.1 this).2);rw[f7,vN,ai K];exact N.cons_cons _;intro r hr;obtain hr|hr:=cG.1 hr;rcases f7 with f7|⟨f7,f8⟩;rw[f7] at hr;cases hr;rw[f7] at hr;(have:r=p:=by simpa using hr);subst this;exact j.2 f8;exact Z r hr;exact j.1
end
variable {R:cc}{many:Int}
section
variable {l:cc}
def wV (l:cc):∃k,Y (fD l)=4*k/\4*k<Y l+4/\Y l<=4*k:=by unfold fD;rw[dB,iW];refine⟨(Y l+3)/ 4,?_,?_,?_⟩<;>omega
def wW {p:fm}(h:p∈fD l):p∈l\/p=bp:=by obtain h|h:=cG.1 h;exact .inl h;exact .inr (kh h)
def T5 (l:cc):(fD l).filter nh=l.filter nh:=by unfold fD;rw[ri,kR,fT]
def Xt (h:qk st t l q)(depth:Int)(hd:depth=1\/depth=2):
  ∃g j:cc,(depth=1->jj st t depth 1=g/\j=[]/\1<=Y g)/\(depth=2->jj st t depth 1=g/\jj st t depth 2=j/\4<=Y g/\1<=Y j)/\
   (∀w∈g,av w=U->(below st w 1).isSome=J)/\(∀w∈j,av w=U->(below st w 2).isSome=J)/\(j.filter nh++g.filter nh).Sublist q:=by
 obtain⟨a,m,F⟩:=h.lv;have B:=eE t.many;have u:∀w∈cX 4,av w=U->False:=λw d h=>by rw[kh d] at h;cases h
 by_cases e:t.depth=depth;rcases hd with hd|hd;(have hc:t.depth.toNat=1:=by rw[e,hd];rfl);rw[hc] at m;obtain⟨l',D,n,o,rfl⟩:=gU m;(cases o);refine⟨[t.bU],[],λ_=>⟨?_,rfl,aq⟩,λh=>by omega,λw d _=>uA n w d,aq,aq⟩;unfold jj;rw[af aa,ai aa];have hc:t.depth.toNat=2:=by rw[e,hd];rfl
 rw[hc] at m;obtain⟨l',D,n,o,rfl⟩:=gU m;obtain⟨K,L,x,y,rfl⟩:=gU o;(cases y);obtain⟨k,E,z,A,rfl⟩:=fy n;have v:E=[]:=by cases A;rfl
 subst v;simp only[fT] at *
 have f:below st t.bU 2=C k:=z;have G:=(hY f).1;refine⟨k,[t.bU],λh=>by omega,λ_=>⟨?_,?_,aa,aq⟩,λw d _=>uA x w d,λw d _=>by simp at d;subst d;rw[f];rfl,GB _⟩;unfold jj;rw[af aa,af aa,hd,f];rfl;unfold jj;rw[af aa,ai aa];rcases hd with hd|hd;refine⟨cX 4,[],λ_=>⟨?_,rfl,cx⟩,λh=>by omega,λw d i=>(u w d i).elim,aq,by rw[kR];simp⟩;unfold jj;rw[ai e];refine⟨cX 4,cX 4,λh=>by omega,λ_=>⟨?_,?_,cx,cx⟩,λw d i=>(u w d i).elim,λw d i=>(u w d i).elim,by rw[kR];simp⟩;unfold jj;rw[ai e];unfold jj;rw[ai e]
def T6 (h:qk st t l q)(hr:∀p∈q,gB bB p=gB st p)(ht:st.dm<=bB.dm)(hd:t.depth=2->(t.bU∈q\/av t.bU=J))(depth level:Int)(e:depth=2):jj bB t depth level=jj st t depth level:=by
 unfold jj;split;rfl;split;rfl;rename_i m _;obtain⟨a,f,n⟩:=h.lv;have hc:t.depth.toNat=2:=by omega
 rw[hc] at f;obtain⟨l',v,g,o,rfl⟩:=gU f;obtain⟨k,w,i,u,rfl⟩:=fy g;have d:below st t.bU 2=C k:=i;rw[e,d,rP d (λj=>hr _ ?_) ht];obtain hd|hd:=hd aa;exact hd;rw[j] at hd;cases hd
def Xu (h:qk st t l q)(hd:t.depth=2):t.bU∈q\/av t.bU=J:=by
 obtain⟨a,d,e⟩:=h.lv;have hc:t.depth.toNat=2:=by omega
 rw[hc] at d;obtain⟨l',i,f,g,rfl⟩:=gU d;cases hr:av t.bU with
 |true=>exact .inr rfl
 |false=>left;apply im;simp[nh,hr]
def T7 {st st1:ae}{l q R lt l1 stays:cc}(h:qk st t l q)(hs:mT st (q++R))(hm:0<=many/\many<=16)(j:Y lt=many.toNat)(G:∀p∈lt,aQ p=J/\p.bE<=st.dm)
  (hl:iQ t (bR many) (bR many).toNat 1 lt st []=(st1,C (stays,l1))):
  ∃a new d q',mT st1 (new++(q++R))/\fb st st1 (q++R)/\pd st1 (bR many).toNat [l1.headD bp]=C (a,q')/\a++cX (16-Y a)=lt++cX (16-many.toNat)/\q'.Perm (new++d)/\d.Sublist q/\(∀r∈d,r∈stays)/\aQ (l1.headD bp)=J:=by
 by_cases h1:many<=1;have hd:bR many=0:=by unfold bR;rw[ai h1]
 rw[hd] at hl⊢;cases hl;refine⟨[lt.headD bp],[],[],[],hs,fb.refl _ _,rfl,?_,.refl _,List.nil_sublist _,aq,?_⟩;match lt,j with
 |[],j=>rw[show many.toNat=0 from j.symm];rfl
 |[x],j=>rw[show many.toNat=1 from j.symm];rfl
 |x::y::z,j=>simp at j;omega
 cases lt with
 |nil=>exact jX
 |cons x z=>exact(G x aq).1
 by_cases h4:many<=4;have hd:bR many=1:=by unfold bR;rw[af h1,ai h4]
 rw[hd] at hl⊢;obtain⟨w1,w2,i,_,D,_,f⟩:=Xt h 1 (.inl rfl);obtain⟨E,rfl,L⟩:=i rfl;simp only[List.filter_nil,kG] at f;have e:iQ t 1 (0+1) 1 lt st []=(st1,C (stays,l1)):=hl;rw[iQ,E] at e;obtain⟨k,n,Lq,hk3⟩:=wV lt;(have hk:k=1:=by omega);subst hk;split at e;cases e;rename_i stx v N hg;rw[iQ] at e;cases e;have F:∀w∈w1,av w=U->w∈q++R/\(below st w 1).isSome=J:=λw i m=>⟨im _ (f.subset (dw.2 ⟨i,m⟩)),D w i m⟩;obtain⟨o,new,d,S,g2,T,g4,B,g6,g7,V,g9,g10⟩:=vn 1 n L hs (λp g=>by obtain g|rfl:=wW g;exact G p g;exact⟨jX,by show(0:Int)<=_;have:=hs.tx;omega⟩) F hg;match o,g2 with
 |[p],_=>rw[S];refine⟨fD lt,new,d,[p].filter nh++[],g4,B,sK g6 rfl,?_,by rw[fT];exact T,V.trans f,g9,(g7 p aq).1⟩;rw[n];unfold fD;rw[iD];congr 1;simp only[cX,List.replicate_append_replicate];congr 1;(have:Y (fD lt)=Y lt+(4-Y lt% 4)% 4:=by unfold fD;rw[dB,iW]);omega
 have hd:bR many=2:=by unfold bR;rw[af h1,af h4]
 rw[hd] at hl⊢;obtain⟨w1,w2,_,i,D,hb2,f⟩:=Xt h 2 (.inr rfl);obtain⟨E,hw2,L,hw4⟩:=i rfl;have e:iQ t 2 (0+1+1) 1 lt st []=(st1,C (stays,l1)):=hl;rw[iQ,E] at e;obtain⟨k,n,Lq,hk3⟩:=wV lt;split at e;cases e;rename_i stx v N hg;have hq1:∀w∈w1,av w=U->w∈q:=λw i m=>f.subset (dt _ (dw.2 ⟨i,m⟩));have K:∀w∈w2,av w=U->w∈q:=λw i m=>f.subset (im _ (dw.2 ⟨i,m⟩));obtain⟨o,new,d,S,g2,T,g4,B,g6,g7,V,g9,g10⟩:=vn k n aa hs (λp g=>by obtain g|rfl:=wW g;exact G p g;exact⟨jX,by show(0:Int)<=_;have:=hs.tx;omega⟩) (λw i m=>⟨im _ (hq1 w i m),D w i m⟩) hg;rw[kG] at S;subst S;(have A:∀p∈q,gB stx p=gB st p:=λp G=>B.row p (im _ G));rw[iQ,show(1:Int)+1=2 from rfl,T6 h A (by rw[B.tx];omega) (Xu h) 2 2 rfl,hw2] at e;obtain⟨k2,hk4,hk5,hk6⟩:=wV N;(have hk:k2=1:=by omega);subst hk;split at e;cases e;rename_i sty W ly hg2;rw[iQ] at e;cases e;obtain⟨o2,Q,u,e1,e2,e3,e4,Z,e6,e7,e8,e9,X⟩:=vn 1 hk4 hw4 g4 (λp g=>by
  rw[B.tx];obtain g|rfl:=wW g;exact g7 p g;exact⟨jX,by show(0:Int)<=_;have:=hs.tx;omega⟩) (λw i m=>by
  refine⟨dt _ (im _ (K w i m)),?_⟩;obtain⟨y,hy⟩:=sj.1 (hb2 w i m);rw[rP hy (λ_=>A w (K w i m)) (by rw[B.tx];omega)];rfl) hg2
 match o2,e2 with
 |[p],_=>
 rw[e1];have hx6:down st1 1 (fD N)=C (fD lt++cX (4*((4-Y N% 4)% 4))):=by unfold fD;refine C5 (C7 g6 (λr hr=>Z.row r ?_) (by rw[Z.tx];omega)) (wU _ _ _);rw[T.mem_iff] at hr;obtain hr|hr:=cG.1 hr;exact im _ hr;exact dt _ (im _ (f.subset (dt _ (V.subset hr))))
 refine⟨_,Q++new,u++d,[p].filter nh++((fD N).filter nh++[]),?_,B.trans Z (λx hx=>dt _ hx),sK e6 (sK hx6 rfl),?_,?_,?_,?_,(e7 p aq).1⟩;rw[iD];exact e4;have hlx:Y (fD lt)=Y lt+(4-Y lt% 4)% 4:=by unfold fD;rw[dB,iW]
 rw[dB,iW,n];unfold fD;rw[iD,iD];congr 1;simp only[cX,List.replicate_append_replicate];congr 1;omega;rw[fT,T5];refine(List.Perm.append e3 T).trans ?_;simp only[iD];refine vI _ ?_;exact tL _ _ _;exact(KQ e8 V).trans f;intro r hr;obtain hr|hr:=cG.1 hr;exact e9 r hr;exact X r (g9 r hr)
def PC (i:Nat)(f:fm->Bool)(q:cc):y7 i (q.filter f)+y7 i (q.filter λp=>!f p)=y7 i q:=by
 induction q with
 |nil=>rfl
 |cons p q ih=>rw[vN,vN];cases hf:f p<;>simp[oH]<;>omega
def PD {a b:cc}{f:fm->Bool}(h:a.Sublist b)(hf:∀x∈a,f x=J):a.Sublist (b.filter f):=by have:=h.filter f;rwa[List.filter_eq_self.2 hf] at this
def Xv {t n:bt}{l q R lv:cc}(h:qk st t l q)(hs:mT st (q++R))(cg:Y lv=16)(hm:0<=many/\many<=16)(m:∀p∈lv,aQ p=J/\p.bE<=st.dm/\(av p=U->p.level=0))(hl:iG st t lv many=(bB,C n)):
  ∃f,qk bB n (lv.take many.toNat++cX (16-many.toNat)) f/\mT bB (f++R)/\fb st bB R/\n.many=many:=by
 unfold iG at hl;simp only at hl;split at hl;cases hl;rename_i st1 stays L j;cases hl;obtain⟨a,new,e,f,z,A,B,D,o,u,E,F⟩:=T7 h hs hm (by rw[de,cg];omega) (λp d=>⟨(m p (An d)).1,(m p (An d)).2.1⟩) j;rw[h.fV];have hf:mT st1 ((q.filter λp=>!(stays.contains p)).filter nh++(f++R)):=by
  have w:mT st1 ((q.filter λp=>!(stays.contains p))++(f++R)):=by refine z.less (λp d=>?_) (λi=>?_);simp only[cG,Ad] at d⊢;obtain⟨d,_⟩|d|d:=d;exact .inr (.inl d);rcases cG.1 (o.mem_iff.1 d) with d|d;exact .inl d;exact .inr (.inl (u.subset d));exact .inr (.inr d);have v:=LQ (i:=i) o;have G:y7 i e<=y7 i (q.filter λp=>stays.contains p):=(PD u (λx y=>by simpa using E x y)).countP_le;have K:=PC i (λp=>stays.contains p) q;simp only[jf] at v⊢;omega
  exact w.sub (KQ V1 (GB _))
 obtain⟨f1,f2⟩:=pQ hf;refine⟨f,⟨hm,rfl,F,⟨a,C8 B (λp d=>f2.row p (im _ d)) (by rw[f2.tx];omega),D.symm⟩,λi hi=>?_,λp d g=>?_⟩,f1,?_,rfl⟩;have hi:many<=(i:Int):=hi;rw[eX,wv (by rw[de,cg];omega)];by_cases hb:i-Y (lv.take many.toNat)<Y (cX (16-many.toNat));rw[c8 hb];exact Rs ..;rw[mQ aa];rfl;rcases cG.1 d with d|d;exact(m p (An d)).2.2 g;rw[kh d] at g;cases g;exact(A.mono (λp d=>dt _ d)).trans f2 (λp d=>dt _ d)
end
variable {t':bt}
def jC (h:av p=J):b0 st p=[]:=by unfold b0 dD;rw[ai h];rfl
def T8 (h:Live st p):b0 st p=gB st p:=by unfold b0 dD;rw[af (by rw[h.nh.1];simp),ai h.1];rfl
def nk (hr:av p=U->gB bB p=gB st p):b0 bB p=b0 st p:=by
 cases h:av p with
 |true=>rw[jC h,jC h]
 |false=>unfold b0 dD;rw[hr h]
def Hi {l:cc}{k:Nat}(h:k<Y l)(p:fm):l=l.take k++l.getD k bp::l.drop (k+1)/\l.set k p=l.take k++p::l.drop (k+1):=by
 have:l.getD k bp=l[k]:=by rw[eX,c8 h];rfl
 refine⟨?_,?_⟩;rw[this];simp;rw[List.set_eq_take_append_cons_drop,ai h]
def set_perm {l:cc}{k:Nat}(h:k<Y l)(p:fm):((l.set k p).filter nh++[l.getD k bp].filter nh).Perm ([p].filter nh++l.filter nh):=by
 obtain⟨d,f⟩:=Hi h p;rw[f];conv=>rhs;rw[d]
 generalize l.take k=a;generalize l.drop (k+1)=b;generalize l.getD k bp=x;have e:∀y:fm,(a++y::b).filter nh=a.filter nh++([y].filter nh++b.filter nh):=λy=>by show(a++([y]++b)).filter nh=_;rw[ri,ri]
 rw[e,e];generalize a.filter nh=a;generalize b.filter nh=b;generalize [x].filter nh=x;generalize [p].filter nh=p;have d:(a++(p++b)++x).Perm (p++(a++(b++x))):=by simp only[iD];exact tL _ _ _
 have f:(p++(a++(b++x))).Perm (p++(a++(x++b))):=vI _ (vI _ Cm);exact d.trans f
def T9 {l:cc}{many:Nat}(d:Y l=16)(hm:many<=16)(h:∀i:Nat,many<=i->l.getD i bp=bp):l.take many++cX (16-many)=l:=by apply Gt;intro i;by_cases hi:i<many;rw[tw (by rw[de];omega),List.getElem?_take_of_lt hi];rw[wv (by rw[de];omega),de,d,tH hm];by_cases e:i<16;have:=h i aa;rw[eX,c8 aa] at this;rw[c8 (by rw[iW];omega),c8 aa];simp only[lI] at this;rw[this];congr 1;exact Rs ..;rw[mQ (by rw[iW];omega),mQ aa]
def ti (l:cc)(m n j:Nat):(l.take m++cX n).getD j bp=if j<m then l.getD j bp else bp:=by
 rw[eX];by_cases h:j<Y (l.take m);rw[tw h,List.getElem?_take_of_lt (by rw[de] at h;omega),ai (by rw[de] at h;omega),eX];rw[wv aa];have e:(cX n)[j-Y (l.take m)]?.getD bp=bp:=by by_cases d:j-Y (l.take m)<Y (cX n);rw[c8 d];exact Rs ..;rw[mQ aa];rfl
 rw[e];split;rw[de] at h;rw[eX,mQ aa];rfl;rfl
def jL {l:cc}{j:Nat}(h:av (l.getD j bp)=U):l.getD j bp∈l:=by rw[eX] at h⊢;by_cases d:j<Y l;rw[c8 d];exact B5 _;rw[mQ aa] at h;cases h
def aa1 (st bB:ae)(t t':bt)(l R:cc)(k:Nat)(s:aw):Prop:=
 ∃l' d,qk bB t' l' d/\mT bB (cD l' d++R)/\fb st bB R/\t'.many=max t.many ((k:Int)+1)/\∀j:Nat,b0 bB (l'.getD j bp)=if j=k then s else b0 st (l.getD j bp)
def yn {l q R:cc}{k:Nat}{s:aw}(h:qk st t l q)(hs:mT st (cD l q++R))(hk:k<16)(v:lh st t k s=(bB,t',J)):aa1 st bB t t' l R k s:=by
 unfold lh at v;simp only[h.cv] at v;obtain⟨cg,L⟩:=h.len;have hmn:=h.mn;have n:∀p∈l,p.bE<=st.dm:=λp v=>by
  cases d:av p with
  |true=>rw[kP.1 d];show(0:Int)<=_;have:=hs.tx;omega
  |false=>exact(hs.lv p (by simp only[cD,cG];exact .inl (.inr (dw.2 ⟨v,d⟩)))).2
 split at v;rename_i hc;cases v;refine⟨l,q,h,hs,fb.refl _ _,aa,λj=>?_⟩;split;rename_i z;rw[z];exact hc.1;rfl;rename_i hc;split at v;cases v;rename_i x st1 p f;split at v;cases v;rename_i y fB t2 K;cases v;have u:∀j,(l.set k p).getD j bp=if j=k then p else l.getD j bp:=λj=>by rw[j8,cg];by_cases z:k=j;subst z;rw[ai ⟨rfl,hk⟩,ai rfl];rw[af (by rintro⟨h,_⟩;exact z h),af (λh=>z h.symm)]
 have o:Y (l.set k p)=16:=by rwa[mV]
 have hw:mT st1 ([p].filter nh++(cD l q++R))/\fb st st1 (cD l q++R)/\(aQ p=J/\p.bE<=st.dm/\(av p=U->p.level=0))/\b0 st1 p=s:=by
  split at f;rename_i Q;cases f;have F:av (l.getD k bp)=U->(l.getD k bp)∈l:=jL;have ho:aQ (l.getD k bp)=J/\(l.getD k bp).bE<=st.dm/\(av (l.getD k bp)=U->(l.getD k bp).level=0):=by
   cases d:av (l.getD k bp) with
   |true=>rw[kP.1 d];exact⟨jX,by show(0:Int)<=_;have:=hs.tx;omega,aq⟩
   |false=>exact⟨L _ (F d),n _ (F d),λ_=>h.l0 _ (F d) d⟩
  (have hmt:max t.many ((k:Int)+1)≠t.many:=λh=>hc ⟨Q,h⟩);have W:l.getD k bp=bp:=h.hl k aa;refine⟨?_,fb.refl _ _,ho,Q⟩;rw[W];exact hs;unfold Jc at f;split at f;rename_i hse;cases f;exact⟨hs,fb.refl _ _,⟨jX,by show(0:Int)<=_;have:=hs.tx;omega,by intro h;cases h⟩,by rw[jC lz,hse]⟩;obtain⟨w1,w2,w3,w4,w5,_⟩:=LS hs f;have D:=w1.lv p aq;have hpn:[p].filter nh=[p]:=by simp[nh,D.nh.1]
  rw[hpn];exact⟨w1,w2,⟨D.nh.2,by rw[w5];exact xM _,λ_=>w4⟩,by rw[T8 D,w3]⟩
 obtain⟨Wz,w,hw3,hw4⟩:=hw;have N:st1.dm=st.dm:=w.tx;have T:qk st1 t l q:=h.ext (λr hr=>w.row r (by simp[cD,hr])) (by rw[N];omega);have S:mT st1 (q++([p].filter nh++(l.filter nh++R))):=Wz.bX (by simp only[cD,iD];exact tL _ _ _);have Z:0<=max t.many ((k:Int)+1)/\max t.many ((k:Int)+1)<=16:=by omega
 obtain⟨G,k1,k2,k3,k4⟩:=Xv T S o Z (λr hr=>by rw[N];obtain hr|rfl:=V5 hr;exact⟨L r hr,n r hr,h.l0 r hr⟩;exact hw3) K;have X:(l.set k p).take (max t.many ((k:Int)+1)).toNat++cX (16-(max t.many ((k:Int)+1)).toNat)=l.set k p:=by apply T9 o aa;intro i hi;rw[u,af aa];exact h.hl i aa
 rw[X] at k1;have E:=set_perm (l:=l) (k:=k) aa p;have key:mT (if p=l.getD k bp then fB else free fB (l.getD k bp)) (cD (l.set k p) G++R)/\fb fB (if p=l.getD k bp then fB else free fB (l.getD k bp)) (cD (l.set k p) G++R):=by
  have m:mT fB ([l.getD k bp].filter nh++(cD (l.set k p) G++R)):=k2.bX (by (have e1:(G++([p].filter nh++(l.filter nh++R))).Perm (G++(((l.set k p).filter nh++[l.getD k bp].filter nh)++R)):=by rw[<-iD ([p].filter nh)];exact vI _ (Ck _ E.symm));refine e1.trans ?_;simp only[cD,iD];refine(vI G (tL _ _ _)).trans ?_;exact tL _ _ _);split;exact⟨m.sub (o7 _ _),fb.refl _ _⟩;cases d:av (l.getD k bp) with
  |true=>rw[zA d];exact⟨m.sub (o7 _ _),fb.refl _ _⟩
  |false=>rw[show [l.getD k bp].filter nh=[l.getD k bp] by rw[vN,ai (Xs.2 d)];rfl] at m;exact RX m
 obtain⟨B,g⟩:=key;generalize(if p=l.getD k bp then fB else free fB (l.getD k bp))=st3 at B g⊢;refine⟨l.set k p,G,k1.ext (λr hr=>g.row r (by simp[cD,hr])) (by rw[g.tx];omega),B,?_,k4,λj=>?_⟩;refine(w.mono (λr hr=>dt _ hr)).trans ((k3.mono (Q':=R) (λr hr=>?_)).trans (g.mono (Q':=R) λr hr=>dt _ hr) (λr hr=>hr)) (λr hr=>hr);exact dt _ (dt _ hr);rw[u];have A:∀r,av r=U->r∈l.set k p->gB st3 r=gB fB r:=λr d hr=>g.row r (by simp only[cD,cG];exact .inl (.inr (dw.2 ⟨hr,d⟩)));split;rename_i z;rw[<-hw4,nk (λd=>(A p d ?_)),nk (λd=>k3.row p ?_)];exact im _ (by simp[nh,d]);obtain⟨_,e⟩:=Hi (l:=l) (k:=k) aa p;rw[e];simp;rename_i z;have V:av (l.getD j bp)=U->l.getD j bp∈l.set k p:=λd=>by (have:(l.set k p).getD j bp=l.getD j bp:=by rw[u,af z]);rw[<-this] at d⊢;exact jL d
 rw[nk (λd=>A _ d (V d)),nk (λd=>k3.row _ ?_),nk (λd=>w.row _ ?_)];simp only[cD,cG];exact .inl (.inr (dw.2 ⟨jL d,d⟩));exact dt _ (im _ (dw.2 ⟨jL d,d⟩))
def BO {l q R:cc}{many:Int}(h:qk st t l q)(hs:mT st (cD l q++R))(hm:0<=many/\many<=t.many)(f:sG st t many=(bB,t',J)):
  ∃l' g,qk bB t' l' g/\mT bB (cD l' g++R)/\fb st bB R/\t'.many=many/\∀j:Nat,b0 bB (l'.getD j bp)=if(j:Int)<many then b0 st (l.getD j bp) else []:=by
 unfold sG at f;obtain⟨cg,u⟩:=h.len;have w:=h.mn;split at f;rename_i hc;cases f;refine⟨l,q,h,hs,fb.refl _ _,hc.symm,λj=>?_⟩;split;rfl;rw[h.hl j aa,jC lz];simp only[h.cv] at f;split at f;cases f;rename_i y fB t2 m;cases f;obtain⟨g,x,z,v,A⟩:=Xv h (R:=l.filter nh++R) (by simpa[cD] using hs) cg ⟨hm.1,aa⟩ (λr hr=>by
  refine⟨u r hr,?_,h.l0 r hr⟩;cases d:av r with
  |true=>rw[kP.1 d];show(0:Int)<=_;have:=hs.tx;omega
  |false=>exact(hs.lv r (by simp only[cD,cG];exact .inl (.inr (dw.2 ⟨hr,d⟩)))).2) m
 have n:(l.take many.toNat++cX (16-many.toNat)).filter nh=(l.take many.toNat).filter nh:=by rw[ri,kR,fT]
 have i:mT fB ((l.drop many.toNat).filter nh++(cD (l.take many.toNat++cX (16-many.toNat)) g++R)):=z.bX (by
  have e:l.filter nh=(l.take many.toNat).filter nh++(l.drop many.toNat).filter nh:=by rw[<-ri,vC]
  rw[e];unfold cD;rw[n];simp only[iD];refine(vI g (tL _ _ _)).trans ?_;exact tL _ _ _)
 obtain⟨f1,f2⟩:=pQ i;refine⟨_,g,x.ext (λr hr=>f2.row r (by simp[cD,hr])) (by rw[f2.tx];omega),f1,?_,A,λj=>?_⟩;exact(v.mono (Q':=R) (λr hr=>dt _ hr)).trans (f2.mono (Q':=R) λr hr=>dt _ hr) (λr hr=>hr);rw[ti];by_cases o:j<many.toNat;rw[ai o,ai aa,nk (λd=>f2.row _ ?_),nk (λd=>v.row _ ?_)];exact im _ (dw.2 ⟨jL d,d⟩);simp only[cD,cG];refine .inl (.inr (dw.2 ⟨?_,d⟩));have:(l.take many.toNat++cX (16-many.toNat)).getD j bp=l.getD j bp:=by rw[ti,ai o]
 rw[<-this] at d⊢;exact jL d;rw[af o,af aa,jC lz]
def Da:∀{n:Nat}{l1 l2 a q:cc},pd st n (l1++l2)=C (a,q)->∃d e a2 f,pd st n l1=C (d,e)/\pd st n l2=C (a2,f)/\a=d++a2/\q.Perm (e++f)
 |0,l1,l2,a,q,h=>by cases h;exact⟨l1,[],l2,[],rfl,rfl,rfl,.refl _⟩
 |n+1,l1,l2,a,q,h=>by obtain⟨l',w,g,i,rfl⟩:=gU h;obtain⟨x,y,j,m,rfl⟩:=C6 g;obtain⟨d,e,a2,f,o,u,rfl,v⟩:=Da i;refine⟨d,_,a2,_,sK j o,sK m u,rfl,?_⟩;rw[ri];simp only[iD];refine vI _ ((vI _ v).trans ?_);exact tL _ _ _
def Db (st:ae):∀(n m:Nat),∃c,pd st n (cX m)=C (cX c,[])
 |0,m=>⟨m,rfl⟩
 |n+1,m=>by obtain⟨c,h⟩:=Db st n (4*m);exact⟨c,by have:=sK (wU st (n+1:Nat) m) h;rwa[kR] at this⟩
def Jv:∀(n:Nat)(L:cc){a q:cc},pd st n L=C (a,q)->(∀p∈a,av p=U->p.level=0)->
  ∃(c:Nat)(D:cc),c<=Y L*5^ n/\D.Perm (q++a.filter nh)/\∀f rest out,pG (c+f) st (L++rest) out=pG f st rest (out++D)
 |0,L,a,q,h,h0=>by
  cases h;induction L with
  |nil=>exact⟨0,[],aq,.refl _,λf rest out=>by simp⟩
  |cons p L ih=>
   obtain⟨c,D,u,j,F⟩:=ih (λx i=>h0 x (by simp[i]));cases d:av p with
   |true=>refine⟨c+1,D,by simp at u⊢;omega,by simpa[nh,d] using j,λf rest out=>?_⟩;rw[show c+1+f=(c+f)+1 by omega,jk,pG,ai d,F]
   |false=>refine⟨c+1,p::D,by simp at u⊢;omega,by simpa[nh,d] using j,λf rest out=>?_⟩;have hl:=h0 p aq d;rw[show c+1+f=(c+f)+1 by omega,jk,pG,af (by rw[d];simp),af aa,F];simp
 |n+1,L,a,q,h,h0=>by
  induction L generalizing a q with
  |nil=>
   obtain⟨l',S,u,j,rfl⟩:=gU h;(have Q:l'=[]:=by cases u;rfl);subst Q;have:∀m,pd st m []=C ([],[]):=λm=>by
    induction m with
    |zero=>rfl
    |succ m ih=>rw[pd];simp only[LW,ih];rfl
   rw[this] at j;(cases j);exact⟨0,[],aq,.refl _,λf rest out=>by simp⟩
  |cons p L ih=>
   obtain⟨V,q1,W,q2,u,j,rfl,y⟩:=Da (l1:=[p]) (l2:=L) h;obtain⟨c,D,F,X,Z⟩:=ih _ _ j (λx i=>h0 x (by simp[i]));obtain⟨l',S,h6,v,rfl⟩:=gU u;(have afL:5^ (n+1)=5*5^ n:=by rw[qm,GH]);have ahE:1<=5^ n:=Nat.pow_pos aa;cases d:av p with
   |true=>obtain⟨k,T,w,G,rfl⟩:=fy h6;(have o:T=[]:=by cases G;rfl);subst o;rw[nZ d] at w;(cases w);rw[fT] at v;obtain⟨c',K⟩:=Db st n 4;rw[K] at v;(cases v);refine⟨c+1,D,?_,?_,λf rest out=>?_⟩;rw[fS,mO];omega;refine X.trans ?_;rw[ri,kR,kG];rw[show [p].filter nh=[] by simp[nh,d]] at y;exact Ck _ (by simpa using y.symm);rw[show c+1+f=(c+f)+1 by omega,jk,pG,ai d,Z]
   |false=>obtain⟨k,T,w,G,rfl⟩:=fy h6;(have o:T=[]:=by cases G;rfl);subst o;rw[fT] at v;obtain⟨N,_,⟨i,_⟩|⟨_,g,_⟩⟩:=hY w;rw[d] at i;cases i;obtain⟨z,D2,A,B,E⟩:=Jv n k v (λx i=>h0 x (by simp[i]));refine⟨z+c+1,p::(D2++D),?_,?_,λf rest out=>?_⟩;rw[fS,mO];rw[N] at A;omega;(have e:([p].filter nh)=[p]:=by simp[nh,d]);rw[e] at y;(have:(q++(V++W).filter nh).Perm ((([p]++S)++q2)++(V.filter nh++W.filter nh)):=by rw[ri];exact Ck _ y);refine List.Perm.trans ?_ this.symm;refine(List.Perm.cons p (List.Perm.append B X)).trans ?_;simp only[iD,qp];refine List.Perm.cons p (vI S ?_);exact tL _ _ _;rw[show z+c+1+f=(z+(c+f))+1 by omega,jk,pG,af (by rw[d];simp),ai (by rw[g];omega),g,w];simp only[lI];rw[E,Z];simp
def Jw {l q:cc}(h:qk st t l q):(wL st t).Perm (cD l q):=by
 obtain⟨a,e,d⟩:=h.lv;have hd:=eE t.many;obtain⟨c,D,h3,f,i⟩:=Jv t.depth.toNat [t.bU] e (λp m hh=>h.l0 p (by rw[d];simp[m]) hh);have hc:c<=125:=by refine' zaZ
 unfold wL;have:=i (200-c) [] [];rw[show c+(200-c)=(199-c)+(c+1) by omega] at this;rw[show 200=(199-c)+(c+1) by omega];rw[fT] at this;rw[this];obtain⟨g,j⟩:∃g,200-c=g+1:=⟨199-c,aa⟩;rw[j,pG];simp only[kG,lI];refine f.trans ?_;rw[d];unfold cD;rw[ri,kR,fT]
section
variable {l:cc}
def tx (st:ae)(l:cc)(j:Nat):aw:=b0 st (l.getD j bp)
def wX (h:qk st t l q){j:Nat}(d:t.many<=j):tx st l j=[]:=by unfold tx;rw[h.hl j d,jC lz]
def Jx (h:fb st bB R)(hm:∀p∈cD l q,p∈R)(j:Nat):tx bB l j=tx st l j:=
 nk λd=>h.row _ (hm _ (dt _ (dw.2 ⟨jL d,d⟩)))
def oJ (h:qk st t l q):fU st t=(List.range t.many.toNat).map (tx st l):=by unfold fU;rw[h.cv];have hl:=h.len.1;have hm:=h.mn;apply Gt;intro i;by_cases hi:i<t.many.toNat;rw[mP,List.getElem?_take_of_lt hi,mP,Gu hi,c8 aa];simp only[tC,tx,eX,c8 (show i<Y l by omega),lI];rw[mQ (by simp;omega),mQ (by simp;omega)]
def PE (h:qk st t l q):av t.bU=J\/t.bU.level=t.depth:=by
 obtain⟨a,d,f⟩:=h.lv;have hd:=eE t.many;have m:0<=t.depth:=by rw[h.dp];exact hd.1
 cases e:av t.bU with
 |true=>exact .inl rfl
 |false=>
  right;cases hc:t.depth.toNat with
  |zero=>rw[hc] at d;(cases d);rw[h.l0 t.bU (by rw[f];simp) e];omega
  |succ n=>rw[hc] at d;obtain⟨l',v,g,o,rfl⟩:=gU d;obtain⟨k,w,i,u,rfl⟩:=fy g;obtain⟨_,_,⟨d,_⟩|⟨_,j,_⟩⟩:=hY i;rw[e] at d;cases d;rw[j];omega
def Hj {n:dX}(h:qk st n.aO l q)(d:n.kind=1\/n.kind=2)(hs:0<=n.size/\n.size<=16*eG n.kind)(hm:n.aO.many=cV n.size (eG n.kind))(hl:1<=n.aX/\n.aX<=if n.kind=2 then 1 else 9):cM n=J:=by
 have e:eG n.kind≠0:=by obtain d|d:=d<;>rw[d]<;>decide
 have g:dT n.kind n.size=cV n.size (eG n.kind):=by unfold dT;rw[af];simp[e,fI];omega
 have f:=h.mn;have hr:=PE h;simp only[cM,g,<-hm,ep,ra,Ci,mW,Ch,fI,gv,km];exact⟨⟨⟨⟨aa,aq⟩,by rw[h.dp];simp⟩,h.rt⟩,hl,hr⟩
def rR (h:qk st t l q)(hs:mT st (cD l q++R)):da st t=J:=by
 obtain⟨a,v,o⟩:=h.lv;have hl:du st t=C a:=by unfold du;rw[qF,v];rfl
 have m:=h.mn;unfold da;rw[hl];simp only[ep,gv,fI];refine⟨⟨⟨m,h.dp⟩,h.rt⟩,?_⟩;have key:∀(b:cc)(i:Nat),(∀j,j<Y b->l.getD (i+j) bp=b.getD j bp)->(∀p∈b,p∈l)->ik (iH st t.many) i b=J:=by
  intro b;induction b with
  |nil=>intros;rfl
  |cons p b ih=>
   intro i hi hm;unfold ik;rw[ep];refine⟨?_,ih (i+1) (λj u=>?_) (λx w=>hm x (by simp[w]))⟩;unfold iH;cases d:av p with
   |true=>simp
   |false=>have f:=hm p aq;have e:=hs.lv p (by simp only[cD,cG];exact .inl (.inr (dw.2 ⟨f,d⟩)));(have n:dD st p=C (gB st p):=by unfold dD;rw[af (by simp[d]),ai e.1]);(have g:(i:Int)<t.many:=by by_cases hc:(i:Int)<t.many;exact hc;have:=h.hl i aa;have h0:=hi 0 aq;rw[wu,this] at h0;(have:p=bp:=by simpa using h0.symm);rw[this] at d;cases d);simp[n,h.l0 p f d,e.2,g]
   have:=hi (j+1) (by simp;omega);rw[show i+(j+1)=i+1+j by omega] at this;simpa using this
 refine key a 0 (λj u=>?_) (λp f=>by rw[o];simp[f]);rw[o,kz,eX,tw u,eX]
def PF {t t':bt}{s:aw}(h:qk st t l q)(hs:mT st (cD l q++R))(cg:Y s<=128)(d:kv st t s=(bB,t',J)):
  ∃l' g,qk bB t' l' g/\mT bB (cD l' g++R)/\fb st bB R/\t'.many=(if s=[] then 0 else 1)/\tx bB l' 0=s:=by
 have v:=h.mn;unfold kv at d;by_cases f:s=[];subst f;have hb:dv (Y ([]:aw)+1) []=[]:=rfl;simp only[hb] at d;rw[af aq] at d;simp only[lj] at d;obtain⟨l',g,j,m,n,o,u⟩:=BO h hs (by simp;omega) d;exact⟨l',g,j,m,n,by rw[o];rfl,by unfold tx;rw[u,af aq]⟩;have hb:dv (Y s+1) s=[s]:=by rw[dv,af aa,af f]
 simp only[hb] at d;rw[af aq] at d;simp only[lj] at d;split at d;cases d;rename_i x st1 t1 e;split at e;rename_i fB t2 i;cases e;obtain⟨D,E,j,m,n,o,u⟩:=yn h hs aa i;obtain⟨l',g,w,y,z,A,B⟩:=BO j m (by rw[o];simp;omega) d;refine⟨l',g,w,y,n.trans z (λr hr=>hr),by rw[A,af f];rfl,?_⟩;unfold tx;rw[B,ai aq,u,ai rfl];cases e
def LX {s:aw}(h:qk st t l q)(hm:t.many=(if s=[] then 0 else 1))(ht:tx st l 0=s):nc st t=C s:=by unfold nc;rw[oJ h,hm];by_cases d:s=[];rw[ai d,d];rfl;rw[af d];show il 1 0 [tx st l 0] []=C s;rw[ht];simp[il,d]
def Xw (T:Nat->aw)(size many:Int):Prop:=∀j:Nat,(j:Int)<many->kC (T j)=T j/\(Y (T j):Int)<=eC size j
def Jy (s:aw):Y (s.dropWhile (·=0))<=Y s:=(List.dropWhile_sublist _).length_le
def LY (s:aw):Y (kC s)<=Y s:=by unfold kC;rw[Rw];have:=Jy s.reverse;rwa[Rw] at this
def uB (p:UInt8->Bool):∀s:aw,(s.dropWhile p).dropWhile p=s.dropWhile p
 |[]=>rfl
 |x::s=>by rw[List.dropWhile_cons];split;exact uB p s;rename_i h;rw[List.dropWhile_cons,af h]
def Ua (s:aw):kC (kC s)=kC s:=by unfold kC;rw[List.reverse_reverse,uB]
def Ub {n:dX}(h:qk st n.aO l q)(hs:mT st (cD l q++R))(hn:cM n=J)(d:n.kind=1)(hf:Xw (tx st l) n.size n.aO.many):dE st n=J:=by
 unfold dE;rw[hn,d,rR h hs,oJ h];simp only[decide_true,Aq,wo];have key:∀(m k:Nat),((k+m:Nat):Int)<=n.aO.many->dE.go n k ((List.range' k m).map (tx st l))=J:=by
  intro m;induction m with
  |zero=>intros;rfl
  |succ m ih=>intro k d;rw[vQ,lF,dE.go,ih (k+1) aa];have:=hf k aa;simp[this.1,this.2]
 rw[List.range_eq_range'];exact key _ 0 (by have:=h.mn;omega)
def uC (size:Int)(h:0<=size):cV size 12*12<size+12/\size<=cV size 12*12/\0<=cV size 12:=by unfold cV;omega
def wY (size:Int):∀(L:List aw)(k:Nat)(out:aw),(∀i,i<Y L->(Y (L.getD i []):Int)<=eC size (k+i))->(L≠[]->(((k+Y L:Nat):Int)-1)*12<=size)->
  (Y (kM size k L out):Int)=Y out+(min (((k+Y L:Nat):Int)*12) size-min ((k:Int)*12) size)
 |[],k,out,_,_=>by simp[kM]
 |s::L,k,out,h,e=>by
  have h0:=h 0 aq;rw[As,wu] at h0;have f:=e aq;rw[fS] at f;rw[kM,wY size L (k+1) _ (λi hi=>?_) (λ_=>by omega)];simp only[dB,jt,sk,fS];have d:eC size k=min 12 (size-k*12):=rfl;generalize eC size k=g at *
  omega;have:=h (i+1) (by simp;omega);rw[vM] at this;rwa[show k+1+i=k+(i+1) by omega]
def nq {n:dX}(h:qk st n.aO l q)(h0:0<=n.size)(hm:n.aO.many=cV n.size 12)(hf:Xw (tx st l) n.size n.aO.many):(Y (a6 st n):Int)=n.size:=by have d:=uC n.size h0;rw[<-hm] at d;unfold a6;rw[oJ h];have e:=h.mn;by_cases f:n.aO.many=0;rw[f] at d⊢;simp[kM];omega;rw[wY n.size _ 0 [] (λi hi=>?_) (λ_=>by simp;omega)];simp;omega;simp at hi;have:=(hf i aa).2;rw[eX,mP,Gu aa];simpa using this
def yo {s:aw}:∀(m k:Nat){st bB:ae}{n n':dX}{l q R:cc},qk st n.aO l q->mT st (cD l q++R)->k+m<=16->ke s m k st n=(bB,n',J)->
  ∃l' g,qk bB n'.aO l' g/\mT bB (cD l' g++R)/\fb st bB R/\n'={n with aO:=n'.aO}/\(m=0->n'=n)/\(0<m->n'.aO.many=max n.aO.many ((k+m:Nat):Int))/\∀j:Nat,tx bB l' j=if k<=j/\j<k+m then kC ((s.take (min (Y s) ((j+1)*12))).drop (j*12)) else tx st l j
 |0,k,st,bB,n,n',l,q,R,h,hs,y,e=>by cases e;exact⟨l,q,h,hs,fb.refl _ _,rfl,λ_=>rfl,λh=>by omega,λj=>by rw[af aa]⟩
 |m+1,k,st,bB,n,n',l,q,R,h,hs,y,e=>by rw[ke] at e;split at e;rename_i st1 t1 f;obtain⟨K,L,u,v,w,i,x⟩:=yn h hs aa f;obtain⟨l',g,z,A,B,D,E,F,G⟩:=yo m (k+1) (n:={n with aO:=t1}) u v aa e;refine⟨l',g,z,A,w.trans B (λr hr=>hr),D,λh=>by omega,λ_=>?_,λj=>?_⟩;rcases tG m with hm|hm;rw[E hm];subst hm;exact i;rw[F hm];have:({n with aO:=t1}:dX).aO.many=t1.many:=rfl;rw[this,i];omega;rw[G];by_cases o:k+1<=j/\j<k+1+m;rw[ai o,ai aa];rw[af o];(have:tx st1 K j=if j=k then _ else tx st l j:=x j);rw[this];by_cases d:j=k;rw[ai d,ai aa,d];rw[af d,af aa];cases e
def Uc {s:aw}{j:Nat}(d:j*12<=Y s):(Y ((s.take (min (Y s) ((j+1)*12))).drop (j*12)):Int)<=eC (Y s) j:=by rw[fq,de];unfold eC;omega
structure oW (st:ae)(n:dX)(l q:cc):Prop where
 tr:qk st n.aO l q
 kd:n.kind=1
 sz:0<=n.size/\n.size<=192
 mn:n.aO.many=cV n.size 12
 lk:1<=n.aX/\n.aX<=9
 ft:Xw (tx st l) n.size n.aO.many
def oW.ok {n:dX}(h:oW st n l q):cM n=J:=
 Hj h.tr (.inl h.kd) (by rw[h.kd];exact h.sz) (by rw[h.kd];exact h.mn) (by rw[h.kd];exact h.lk)
def Dc {n n':dX}{s:aw}{a b:Nat}(h:qk st n.aO l q)(hs:mT st (cD l q++R))(E:n.kind=1)(hl:1<=n.aX/\n.aX<=9)(A:a<=b)(hb:b<16)(cg:Y s<=192)(B:b*12<Y s)
  (hm:max n.aO.many ((b:Int)+1)=cV (Y s) 12)(hf:∀j:Nat,(j:Int)<n.aO.many->(a<=j/\j<=b)\/(kC (tx st l j)=tx st l j/\(Y (tx st l j):Int)<=eC (Y s) j))(u:gS st n s a b=(bB,n',J)):
  ∃l' i,oW bB n' l' i/\mT bB (cD l' i++R)/\fb st bB R/\n'.aX=n.aX/\n'.kind=n.kind:=by
 unfold gS at u;obtain⟨l',i,v,w,x,e,F,y,z⟩:=yo (b+1-a) a (n:={n with size:=(Y s:Int)}) h hs aa u;have d:n'.aO.many=max n.aO.many ((b:Int)+1):=by rw[y aa];show max n.aO.many _=_;omega
 refine⟨l',i,⟨v,by rwa[e],by rw[e];show 0<=(Y s:Int)/\(Y s:Int)<=192;omega,?_,by rwa[e],?_⟩,w,x,by rw[e],by rw[e]⟩;have:n'.size=Y s:=by rw[e]
 rw[d,hm,this];have o:n'.size=Y s:=by rw[e]
 rw[o];intro j D;rw[z];by_cases f:a<=j/\j<a+(b+1-a);rw[ai f];refine⟨Ua _,?_⟩;have:=LY ((s.take (min (Y s) ((j+1)*12))).drop (j*12));have:=Uc (s:=s) (j:=j) aa;omega;rw[af f];by_cases m:(j:Int)<n.aO.many;rcases hf j m with hc|hc;omega;exact hc;have g:tx st l j=[]:=wX h aa;rw[g];refine⟨rfl,?_⟩;rw[d] at D;unfold eC;simp;omega
def LZ (all:aw)(bD:Nat)(s:aw):Y (kx all bD s)=max (Y all) (bD+Y s):=by unfold kx;simp only[dB,de,fq,jt,sk];omega
def Jz {n n':dX}{bD:Nat}{s:aw}(h:oW st n l q)(hs:mT st (cD l q++R))(ha:bD+Y s<=192)(e:fR st n bD s=(bB,n',J)):
  ∃l' i,oW bB n' l' i/\mT bB (cD l' i++R)/\fb st bB R/\n'.aX=n.aX/\n'.kind=n.kind:=by unfold fR at e;split at e;cases e;exact⟨l,q,h,hs,fb.refl _ _,rfl,rfl⟩;rename_i g;have w:0<Y s:=wq.2 g;have o:=nq h.tr h.sz.1 h.mn h.ft;have d:=LZ (a6 st n) bD s;have x:=h.sz;have f:=h.mn;have v:=uC n.size h.sz.1;refine Dc h.tr hs h.kd h.lk ?_ ?_ ?_ ?_ ?_ ?_ e;omega;omega;omega;omega;rw[f];unfold cV;rw[d];omega;intro j u;right;have:=h.ft j u;refine⟨this.1,?_⟩;have m:=this.2;unfold eC at m⊢;rw[d];omega
def PG {n n':dX}{size:Nat}(h:oW st n l q)(hs:mT st (cD l q++R))(ha:size<=192)(f:fN st n size=(bB,n',J)):
  ∃l' v,oW bB n' l' v/\mT bB (cD l' v++R)/\fb st bB R/\n'.aX=n.aX/\n'.kind=n.kind:=by
 unfold fN at f;have V:=h.sz;have F:=h.mn;have S:=uC n.size h.sz.1;have T:=uC size aa;simp only at f;split at f;rename_i hle;have g:∀j:Nat,eC n.size j<=eC size j:=λj=>by unfold eC;omega
 split at f;rename_i x;cases f;refine⟨l,q,⟨h.tr,h.kd,by show 0<=(size:Int)/\(size:Int)<=192;omega,x.symm,h.lk,λj d=>?_⟩,hs,fb.refl _ _,rfl,rfl⟩;have:=h.ft j d;exact⟨this.1,Int.le_trans this.2 (g j)⟩;rename_i x;rcases i:lh st n.aO (cV (size:Int) 12-1).toNat [] with⟨st1,t1,ok⟩;rw[i] at f;cases f;have B:n.aO.many<cV size 12:=by (have:cV n.size 12<=cV size 12:=by unfold cV;omega);omega
 (have L:cV size 12<=16:=by unfold cV;omega);obtain⟨l',v,y,o,z,u,A⟩:=yn h.tr hs aa i;(have E:t1.many=cV size 12:=by rw[u];omega);refine⟨l',v,⟨y,h.kd,by show 0<=(size:Int)/\(size:Int)<=192;omega,E,h.lk,λj d=>?_⟩,o,z,rfl,rfl⟩;have d:(j:Int)<t1.many:=d;(have e:tx st1 l' j=if j=(cV size 12-1).toNat then [] else tx st l j:=A j);rw[e];(have h0:(0:Int)<=eC size j:=by unfold eC;omega);split;exact⟨rfl,h0⟩;by_cases D:(j:Int)<n.aO.many;have:=h.ft j D;exact⟨this.1,Int.le_trans this.2 (g j)⟩;rw[wX h.tr aa];exact⟨rfl,h0⟩;rename_i B;have hle:cV size 12<=n.aO.many:=by rw[F];unfold cV;omega
 split at f;cases f;rename_i st1 t1 w;obtain⟨K,q1,y,o,z,u,A⟩:=BO h.tr hs aa w;split at f;rename_i G;cases f;refine⟨K,q1,⟨y,h.kd,by show 0<=(size:Int)/\(size:Int)<=192;omega,u,h.lk,λj d=>?_⟩,o,z,rfl,rfl⟩;have d:(j:Int)<t1.many:=d;rw[u,G] at d;omega;rename_i G;have N:=nq h.tr h.sz.1 h.mn h.ft;have m:Y ((a6 st n).take size)=size:=by rw[de];omega
 obtain⟨l',v,W,X,Z,k4,k5⟩:=Dc (n:={n with aO:=t1,size:=(size:Int)}) y o h.kd h.lk (fG _) aa aa (by rw[m];omega) (by
  show max t1.many _=_;rw[m,u];omega) (λj d=>by
  have d:(j:Int)<t1.many:=d;rw[u] at d;by_cases Q:j=(cV size 12-1).toNat
  .left;omega
  .right
   have e:tx st1 K j=if(j:Int)<cV size 12 then tx st l j else []:=A j
   rw[e,ai d];have:=h.ft j aa;refine⟨this.1,?_⟩;have o:=this.2;rw[m];unfold eC at o⊢;omega) f
 exact⟨l',v,W,X,z.trans Z (λr hr=>hr),k4,k5⟩
end
variable {id:Nat}
section
variable {k:Nat}{l:cc}
structure NE where
 n:dX
 es:List az
 Q:cc
abbrev Gr:=Nat->Option NE
def gq (G:Gr)(k:Nat):cc:=match G k with
 |none=>[]
 |some e=>e.Q
def L1 (G:Gr):cc:=(List.range 16).flatMap (gq G)
def q4 (G:Gr)(id:Nat):cc:=(List.range 16).flatMap λk=>if k=id then [] else gq G k
def ij (G:Gr)(id:Nat)(e:Option NE):Gr:=λk=>if k=id then e else G k
def Hk (f:Nat->cc)(id:Nat):∀n:Nat,((List.range n).flatMap f).Perm ((if id<n then f id else [])++(List.range n).flatMap λk=>if k=id then [] else f k)
 |0=>by simp
 |n+1=>by have ih:=Hk f id n;rw[xN,xH,xH];simp only[mR,vH,fT];by_cases h:n=id;subst h;rw[af aa] at ih;rw[ai aa,ai rfl,fT];exact(Ck _ ih).trans (by rw[kG];exact Cm);rw[af h];by_cases d:id<n;rw[ai d] at ih;rw[ai aa];refine(Ck _ ih).trans ?_;rw[iD];rw[af d] at ih;rw[af aa];exact Ck _ ih
def rS (G:Gr)(h:id<16):(L1 G).Perm (gq G id++q4 G id):=by have:=Hk (gq G) id 16;rwa[ai h] at this
def L3 (G:Gr)(id:Nat)(e:Option NE):q4 (ij G id e) id=q4 G id:=by unfold q4;congr 1;funext k;split;rfl;rename_i h;unfold gq ij;rw[af h]
def Xx (G:Gr)(id:Nat)(e:Option NE):gq (ij G id e) id=match e with
 |none=>[]
 |some e=>e.Q:=by unfold gq ij;rw[ai rfl]
def adY {G:Gr}(d:k<16):∀p∈gq G k,p∈L1 G:=λp e=>kZ.2 ⟨k,B4.2 d,e⟩
def PH {G:Gr}(d:k<16)(h:k≠id):∀p∈gq G k,p∈q4 G id:=λp e=>kZ.2 ⟨k,B4.2 d,by rw[af h];exact e⟩
structure Xy (st:ae)(n:dX)(es:List az)(l q:cc):Prop where
 tr:qk st n.aO l q
 kd:n.kind=2
 eo:bg es=true
 sz:n.size=(aR es).length
 lk:n.aX=1
 mn:n.aO.many=(if aR es=[] then 0 else 1)
 tx0:tx st l 0=aR es
def KE (st:ae)(e:NE):Prop:=∃l q,e.Q=cD l q/\((e.es=[]/\oW st e.n l q)\/Xy st e.n e.es l q)
def Xy.ok {n:dX}{es:List az}(h:Xy st n es l q):cM n=J:=by have hl:=(lZ h.eo).1;refine Hj h.tr (.inr h.kd) ?_ ?_ ?_;rw[h.kd,h.sz,show eG 2=128 from rfl];omega;rw[h.kd,h.mn,h.sz,show eG 2=128 from rfl];unfold cV;by_cases d:aR es=[];rw[ai d,d];rfl;rw[af d];have:=wq.2 d;omega;rw[h.kd,h.lk];simp
def KE.ok {e:NE}(h:KE st e):cM e.n=J:=by obtain⟨l,q,_,⟨_,h⟩|h⟩:=h;exact h.ok;exact h.ok
def KE.ext {e:NE}{R:cc}(h:KE st e)(g:fb st bB R)(hm:∀p∈e.Q,p∈R):KE bB e:=by
 obtain⟨l,q,i,h⟩:=h;rw[i] at hm;have d:∀{t:bt},qk st t l q->qk bB t l q:=λh=>h.ext (λp n=>g.row p (hm p (im _ n))) (by rw[g.tx];omega);have f:∀j,tx bB l j=tx st l j:=λj=>Jx g hm j;refine⟨l,q,i,?_⟩;obtain⟨h0,h⟩|h:=h
 exact .inl ⟨h0,d h.tr,h.kd,h.sz,h.mn,h.lk,λj m=>by rw[f];exact h.ft j m⟩;exact .inr ⟨d h.tr,h.kd,h.eo,h.sz,h.lk,h.mn,by rw[f];exact h.tx0⟩
def At (st:ae)(l:cc)(G:Gr)(k:Nat):Prop:=match G k with
 |none=>tx st l k=[]
 |some e=>tx st l k=dK e.n/\KE st e
def At.some {G:Gr}{e:NE}(h:At st l G k)(d:G k=C e):tx st l k=dK e.n/\KE st e:=by unfold At at h;rwa[d] at h
def At.none {G:Gr}(h:At st l G k)(d:G k=O):tx st l k=[]:=by unfold At at h;rwa[d] at h
def At.ext {l l' R:cc}{G:Gr}(h:At st l G k)(f:fb st bB R)(ht:tx bB l' k=tx st l k)(hm:∀p∈gq G k,p∈R):At bB l' G k:=by
 unfold At at h⊢;unfold gq at hm;cases d:G k with
 |none=>rw[d] at h;simp only at h⊢;rw[ht,h]
 |some e=>rw[d] at h hm;simp only at h hm⊢;exact⟨by rw[ht];exact h.1,h.2.ext f hm⟩
structure FX (st:ae)(t:bt)(G:Gr)(id:Nat)(Q:cc)(l q:cc):Prop where
 tr:qk st t l q
 so:mT st (cD l q++(Q++q4 G id))
 bD:∀k,k≠id->At st l G k
 hi:∀k,16<=k->G k=none
structure qG (st:ae)(t:bt)(G:Gr)(l q:cc):Prop where
 tr:qk st t l q
 so:mT st (cD l q++L1 G)
 bD:∀k,At st l G k
 hi:∀k,16<=k->G k=none
def qG.fx {G:Gr}(h:qG st t G l q)(hid:id<16):FX st t G id (gq G id) l q:=
 ⟨h.tr,h.so.bX (vI _ (rS G hid)),λk _=>h.bD k,h.hi⟩
def PI {G:Gr}{e:Option NE}(h:∀k,16<=k->G k=O)(hid:id<16):∀k,16<=k->ij G id e k=O:=λk d=>by unfold ij;rw[af aa];exact h k d
def FX.step {G:Gr}{Q Q' l q:cc}(h:FX st t G id Q l q)(f:fb st bB (cD l q++q4 G id))(hs:mT bB (Q'++(cD l q++q4 G id))):FX bB t G id Q' l q:=by refine⟨h.tr.ext (λp d=>f.row p (by simp[cD,d])) (by rw[f.tx];omega),hs.bX (tL _ _ _),λk g=>?_,h.hi⟩;by_cases e:k<16;exact(h.bD k g).ext f (Jx f (λp d=>im _ d) k) (λp d=>dt _ (PH e g p d));have hn:=h.hi k aa;have:=(h.bD k g).none hn;unfold At;rw[hn];simp only;rw[Jx f (λp d=>im _ d) k,this]
def Xz {G:Gr}{e:NE}(h:FX st t G id e.Q l q)(hid:id<16)(w:KE st e)(d:kH st t id e.n=(bB,t',J)):∃l' i,qG bB t' (ij G id (C e)) l' i:=by
 unfold kH at d;obtain⟨l',i,u,v,j,y,m⟩:=yn h.tr h.so hid d;refine⟨l',i,u,v.bX ?_,λk=>?_,PI h.hi hid⟩;refine vI _ ?_;have:=rS (ij G id (C e)) hid;rw[L3,Xx] at this;exact this.symm;by_cases f:k=id;subst f;unfold At ij;rw[ai rfl];simp only;refine⟨?_,w.ext j (λp d=>im _ d)⟩;have:tx bB l' k=if k=k then dK e.n else tx st l k:=m k
 rw[this,ai rfl];have o:At st l (ij G id (C e)) k:=by
  have:=h.bD k f;unfold At ij at *
  rwa[af f]
 refine o.ext j ?_ (λp d=>?_);have:tx bB l' k=if k=id then dK e.n else tx st l k:=m k
 rw[this,af f];have x:gq (ij G id (C e)) k=gq G k:=by unfold gq ij;rw[af f]
 rw[x] at d;by_cases g:k<16;exact dt _ (PH g f p d);unfold gq at d;rw[h.hi k aa] at d;cases d
def qG.fU {G:Gr}(h:qG st t G l q)(k:Nat):(fU st t).getD k []=tx st l k:=by rw[oJ h.tr];have e:=h.tr.mn;by_cases d:k<t.many.toNat;rw[eX,mP,Gu d];rfl;rw[eX,mQ (by simp;omega),wX h.tr aa];rfl
def At.get {G:Gr}(h:At st l G k):bY (tx st l k)=(G k).map (·.n):=by
 cases d:G k with
 |none=>rw[h.none d,mH];rfl
 |some e=>rw[(h.some d).1,LO (h.some d).2.ok];rfl
def qG.ju {G:Gr}(h:qG st t G l q)(k:Nat):ju st t k=(G k).map (·.n):=by unfold Go.Pl.ju;have d:=h.tr.mn;by_cases e:(k:Int)<t.many;rw[af (by simp[fI];omega)];unfold Ts;rw[h.tr.cv,px];exact(h.bD k).get;rw[ai (by simp[fI];omega)];have:=(h.bD k).get;rwa[wX h.tr aa,mH] at this
def qG.lt {G:Gr}(h:qG st t G l q){e:NE}(d:G k=C e):(k:Int)<t.many/\k<16:=by
 have j:=h.tr.mn;have i:k<16:=by by_cases f:k<16;exact f;rw[h.hi k aa] at d;cases d
 refine⟨?_,i⟩;by_cases f:(k:Int)<t.many;exact f;have:=((h.bD k).some d).1;rw[wX h.tr aa] at this;have g:=(qE ((h.bD k).some d).2.ok).1;rw[<-this] at g;simp at g
def jY (o:Option NE):Option (List az):=match o with
 |none=>O
 |some e=>if e.n.kind=2 then C e.es else O
def uD (st:ae):bc st aK=O:=by unfold bc;rw[ai];rw[show cM aK=U from by decide];rfl
def KE.bc {e:NE}{R:cc}(h:KE st e)(hs:mT st (e.Q++R)):bc st e.n=if e.n.kind=2 then C e.es else O:=by have d:=h.ok;obtain⟨l,q,f,⟨_,hf⟩|hd⟩:=h;rw[af (by rw[hf.kd];decide)];unfold Go.Pl.bc;rw[ai];rw[hf.kd];simp;rw[ai hd.kd];rw[f] at hs;unfold Go.Pl.bc;rw[af (by rw[d,hd.kd,rR hd.tr hs];simp),LX hd.tr hd.mn hd.tx0];simp only;rw[af (by rw[hd.sz];simp),uz hd.eo]
def qG.bc {G:Gr}(h:qG st t G l q)(k:Nat):bc st ((Go.Pl.ju st t k).getD aK)=jY (G k):=by
 rw[h.ju];cases d:G k with
 |none=>exact uD st
 |some e=>
  have g:=(h.lt d).2;refine((h.bD k).some d).2.bc (R:=q4 G k++cD l q) (h.so.bX ?_);refine(vI _ (rS G g)).trans ?_;have f:gq G k=e.Q:=by unfold gq;rw[d]
  rw[f];refine Cm.trans ?_;rw[iD]
def Dd {G:Gr}(h:qG st t G l q)(hf:um st t=C id):id<16/\G id=O:=by
 unfold um at hf;obtain⟨j,m,d⟩:=nY hf;refine⟨aa,?_⟩;simp only[gv] at d;rw[h.fU] at d;cases i:G id with
 |none=>rfl
 |some e=>have f:=((h.bD id).some i).1;rw[d] at f;have g:=(qE ((h.bD id).some i).2.ok).1;rw[<-f] at g;simp at g
def Hl (d:Int):∀(L:List aw)(k n:Nat),n<=k->(n<=mr d k n L/\mr d k n L<=k+Y L)/\∀i,i<Y L->mr d k n L<=k+i->((k+i:Nat):Int)≠d->L.getD i []=[]
 |[],k,n,h=>by simp[mr];omega
 |s::L,k,n,h=>by
  unfold mr;have ih:=Hl d L (k+1) (if(decide ((k:Int)≠d)&&decide (s≠[]))=J then k+1 else n) (by split<;>omega);obtain⟨⟨f,j⟩,g⟩:=ih;refine⟨⟨?_,by rw[fS];omega⟩,λi hi hle e=>?_⟩;refine jR ?_ f;split<;>omega;cases i with
  |zero=>rw[As];by_cases hs:s=[];exact hs;exfalso;rw[ai (by simp[hs];simpa using e)] at f hle;omega
  |succ i=>rw[vM];exact g i (by simp at hi;omega) (by rwa[show k+1+i=k+(i+1) by omega]) (by rw[show k+1+i=k+(i+1) by omega];exact e)
def JA {G:Gr}{e:NE}(h:qG st t G l q)(x:G id=C e)(d:fJ st t id=(bB,t',J)):∃l' N,qG bB t' (ij G id O) l' N:=by
 obtain⟨Lp,hid⟩:=h.lt x;have hmn:=h.tr.mn;have hn:=((h.bD id).some x).2;unfold fJ at d;have B:(ju st t id).getD aK=e.n:=by rw[h.ju,x];rfl
 simp only[B,px] at d;have m:(wL st e.n.aO).Perm e.Q:=by obtain⟨lx,qx,hq,hh⟩:=hn;rw[hq];obtain⟨_,hf⟩|hd:=hh;exact Jw hf.tr;exact Jw hd.tr
 have o:=h.fx hid;have D:gq G id=e.Q:=by unfold gq;rw[x]
 have K:mT st ((wL st e.n.aO).filter nh++(cD l q++q4 G id)):=by have A:mT st (wL st e.n.aO++(cD l q++q4 G id)):=o.so.bX (by rw[D];refine(tL _ _ _).trans ?_;exact Ck _ m.symm);exact A.sub (KQ V1 (GB _))
 obtain⟨f1,f2⟩:=pQ K;have g:FX (dA (wL st e.n.aO) st) t G id [] l q:=o.step f2 f1;have f:=Hl (id:Int) (fU st t) 0 0 (fG _);have w:Y (fU st t)=t.many.toNat:=by rw[oJ h.tr];simp
 split at d;cases d;rename_i st1 t1 v;obtain⟨y,q1,A,W,X,Z,S⟩:=yn g.tr g.so hid v;have F:t1.many=t.many:=by rw[Z];omega
 have hla:qz st t id<=t.many.toNat:=by have:=f.1.2;rw[w] at this;unfold qz;omega
 obtain⟨l',N,k1,k2,k3,k4,T⟩:=BO A W (by rw[F];omega) d;have L:∀k,k≠id->tx bB l' k=tx st l k:=λk i=>by (have j:tx bB l' k=if(k:Int)<(qz st t id:Nat) then tx st1 y k else []:=T k);(have z:tx st1 y k=if k=id then [] else tx (dA (wL st e.n.aO) st) l k:=S k);have V:tx (dA (wL st e.n.aO) st) l k=tx st l k:=Jx f2 (λp d=>im _ d) k;rw[j,z,af i,V];split;rfl;rename_i Rh;by_cases E:k<t.many.toNat;have:=f.2 k (by rwa[w]) (by show qz st t id<=0+k;omega) aa;rw[h.fU] at this;exact this.symm;rw[wX h.tr aa]
 refine⟨l',N,k1,k2.bX ?_,λk=>?_,PI h.hi hid⟩;refine vI _ ?_;have:=rS (ij G id O) hid;rw[L3,Xx] at this;exact this.symm;by_cases i:k=id;subst i;unfold At ij;rw[ai rfl];simp only;have j:tx bB l' k=if(k:Int)<(qz st t k:Nat) then tx st1 y k else []:=T k
 (have z:tx st1 y k=if k=k then [] else tx (dA (wL st e.n.aO) st) l k:=S k);rw[j,z,ai rfl];split<;>rfl;have hx:fb st bB (q4 G id):=(f2.mono (λp d=>dt _ d)).trans ((X.mono (Q':=q4 G id) (λp d=>dt _ d)).trans (k3.mono (Q':=q4 G id) λp d=>dt _ d) (λp d=>d)) (λp d=>d);have j:At st l (ij G id O) k:=by
  have:=h.bD k;unfold At ij at *
  rwa[af i]
 refine j.ext hx (L k i) (λp d=>?_);(have hg:gq (ij G id O) k=gq G k:=by unfold gq ij;rw[af i]);rw[hg] at d;by_cases u:k<16;exact PH u i p d;unfold gq at d;rw[h.hi k aa] at d;cases d
end
variable {x e:az}{i j:Nat}{G:Gr}
section
variable {l:List az}
def yp:∀s:aw,bP s s=U
 |[]=>rfl
 |a::s=>by unfold bP;rw[af aa,af aa];exact yp s
def fW:∀{a b c:aw},bP a b=J->bP b c=J->bP a c=J
 |[],[],_,h,_=>by cases h
 |[],_::_,[],_,h=>by cases h
 |[],_::_,_::_,_,_=>rfl
 |_::_,[],_,h,_=>by cases h
 |_::_,_::_,[],_,h=>by cases h
 |x::a,y::b,z::c,h,k=>by unfold bP at h k⊢;split at h;split at k;rw[ai aa];split at k;cases k;rw[ai aa];split at h;cases h;split at k;rw[ai aa];split at k;cases k;rw[af aa,af aa];exact fW h k
def mF:∀{a b:aw},bP a b=U->a≠b->bP b a=J
 |[],[],_,h=>absurd rfl h
 |[],_::_,h,_=>by cases h
 |_::_,[],_,_=>rfl
 |x::a,y::b,h,hn=>by unfold bP at h⊢;split at h;cases h;split at h;rename_i f;rw[ai f];rename_i g f;have d:x=y:=tz.1 aa;subst d;rw[af aa,af aa];exact mF h (λe=>hn (by rw[e]))
def RY (l:List az):Prop:=l.Pairwise λa b=>bP a.name b.name=J
def oK:∀l:List az,lV l=J↔RY l
 |[]=>by simp[lV,RY]
 |[a]=>by simp[lV,RY]
 |a::b::l=>by have ih:=oK (b::l);rw[lV,ep,ih];unfold RY;rw[qQ (a:=a)];constructor;rintro⟨d,f⟩;refine⟨λx g=>?_,f⟩;obtain rfl|g:=cA.1 g;exact d;exact fW d ((qQ.1 f).1 x g);rintro⟨d,f⟩;exact⟨d b aq,f⟩
def XA (h:RY l)(f:x∈l):l.find? (λy=>decide (y.name=x.name))=C x:=by
 induction l with
 |nil=>cases f
 |cons a l ih=>
  rw[List.find?_cons];have m:=qQ.1 h;obtain rfl|f:=cA.1 f;simp;have d:=m.1 x f;have g:a.name≠x.name:=λe=>by rw[e,yp] at d;cases d
  simp only[g,decide_false];exact ih m.2 f
def nt:x∈gO l e↔x=e\/x∈l:=by
 induction l with
 |nil=>simp[gO]
 |cons a l ih=>unfold gO;split;simp;simp[ih];constructor<;>(rintro(h|h|h)<;>simp[h])
def L4 (l:List az)(e:az):Y (gO l e)=Y l+1:=by
 induction l with
 |nil=>rfl
 |cons a l ih=>unfold gO;split<;>simp[ih]
def XB (h:RY l)(hn:∀x∈l,x.name≠e.name):RY (gO l e):=by
 induction l with
 |nil=>simp[gO,RY]
 |cons a l ih=>have g:=qQ.1 h;unfold gO;split;rename_i d;refine qQ.2 ⟨λx f=>?_,h⟩;obtain rfl|f:=cA.1 f;exact d;exact fW d (g.1 x f);rename_i d;refine qQ.2 ⟨λx f=>?_,ih g.2 (λx f=>hn x (by simp[f]))⟩;obtain rfl|f:=nt.1 f;exact mF (by simpa using d) (λe=>hn a aq e.symm);exact g.1 x f
def Ud (h:l.find? (λy=>decide (y.name=s))=O):∀x∈l,x.name≠s:=by intro x d;have:=List.find?_eq_none.1 h x d;simpa using this
def BP (h:bg l=J)(hn:∀x∈l,x.name≠e.name)(m:bG e.name=J)(hi:1<=e.id/\e.id<=15)(hl:Y l<12):bg (gO l e)=J:=by obtain⟨f,g,n⟩:=ea h;unfold bg;rw[ep,ep,o5,oK,gv,L4];refine⟨⟨λx d=>?_,XB ((oK l).1 g) hn⟩,aa⟩;obtain rfl|d:=nt.1 d;simp[m,fI,hi];have:=f x d;simp[this.1,fI,this.2]
def JB {l l':List az}(h:bg l=J)(hs:l'.Sublist l):bg l'=J:=by obtain⟨d,f,m⟩:=ea h;have:=hs.length_le;unfold bg;rw[ep,ep,o5,oK,gv];refine⟨⟨λx g=>?_,((oK l).1 f).sublist hs⟩,aa⟩;have:=d x (hs.subset g);simp[this.1,fI,this.2]
def jD (l:List az)(i:Nat):(eB l i).Sublist l:=by
 unfold eB;conv=>rhs;rw[<-vC i l]
 refine KQ (GB _) ?_;rw[<-wx];exact List.drop_sublist _ _
def cE (j:Nat)(l:List az):Nat:=l.countP λx=>decide (x.id.toNat=j)
def JC (j:Nat)(l:List az)(e:az):cE j (gO l e)=cE j l+if e.id.toNat=j then 1 else 0:=by
 unfold cE;induction l with
 |nil=>simp[gO,tF]
 |cons a l ih=>unfold gO;split;simp[tF];rw[tF,ih,tF];omega
def L5 (h:i<Y l):l=l.take i++l.getD i ⟨[],0⟩::l.drop (i+1):=by
 have:l.getD i ⟨[],0⟩=l[i]:=by rw[eX,c8 h];rfl
 rw[this];simp
def JD (j:Nat)(h:i<Y l):cE j (eB l i)+(if(l.getD i ⟨[],0⟩).id.toNat=j then 1 else 0)=cE j l:=by
 conv=>rhs;rw[L5 h]
 unfold cE eB;rw[Ag,Ag,tF];simp;omega
def yq (l:List az)(s:aw):(eH l s).map (λk=>l.getD k ⟨[],0⟩)=l.find? (λy=>decide (y.name=s)):=by
 unfold eH;induction l with
 |nil=>rfl
 |cons a l ih=>rw[GA,List.find?_cons];by_cases h:a.name=s;simp[h];simp only[h,decide_false,Option.map_map];rw[<-ih];cases List.findIdx? (λe=>decide (e.name=s)) l<;>simp
def PJ {k:Nat}(h:eH l s=C k):k<Y l:=by unfold eH at h;rw[Ae] at h;exact h.1
def aY (G:Gr)(k:Nat):List az:=match G k with
 |none=>[]
 |some e=>e.es
def gF (G:Gr)(j:Nat):Nat:=((List.range 16).map λk=>cE j (aY G k)).sum
def VU (e:Option NE):List az:=match e with
 |none=>[]
 |some e=>e.es
def gK (G:Gr)(id:Nat)(e:Option NE)(k:Nat):aY (ij G id e) k=if k=id then VU e else aY G k:=by unfold aY ij VU;by_cases h:k=id;simp only[ai h];simp only[af h]
def JE (f g:Nat->Nat)(id:Nat)(h:∀k,k≠id->f k=g k):∀n:Nat,((List.range n).map f).sum+(if id<n then g id else 0)=((List.range n).map g).sum+if id<n then f id else 0
 |0=>by simp
 |n+1=>by have ih:=JE f g id h n;rw[xN,qR,qR,GK,GK];simp only[lF,KL,xO,List.sum_nil];by_cases hn:n=id;subst hn;rw[af aa,af aa] at ih;rw[ai aa,ai aa];omega;rw[h n hn];by_cases d:id<n;rw[ai d,ai d] at ih;rw[ai aa,ai aa];omega;rw[af d,af d] at ih;rw[af aa,af aa];omega
def mI (G:Gr){id:Nat}(hid:id<16)(e:Option NE)(j:Nat):gF (ij G id e) j+cE j (aY G id)=gF G j+cE j (VU e):=by have:=JE (λk=>cE j (aY (ij G id e) k)) (λk=>cE j (aY G k)) id (λk d=>by show cE j _=cE j _;rw[gK,af d]) 16;rw[ai hid,ai hid] at this;unfold gF;simp only[gK,ai] at this⊢;exact this
def De (f:Nat->Nat){k:Nat}:∀{n:Nat},k<n->f k<=((List.range n).map f).sum
 |0,h=>by omega
 |n+1,h=>by rw[xN,qR,GK];simp only[lF,KL,xO,List.sum_nil];by_cases d:k=n;subst d;omega;have:=De f (k:=k) (n:=n) aa;omega
def RZ (f:Nat->Nat){k j:Nat}(d:k≠j):∀{n:Nat},k<n->j<n->f k+f j<=((List.range n).map f).sum
 |0,h,_=>by omega
 |n+1,h,o=>by rw[xN,qR,GK];simp only[lF,KL,xO,List.sum_nil];by_cases m:k=n;have:=De f (k:=j) (n:=n) aa;subst m;omega;by_cases g:j=n;have:=De f (k:=k) (n:=n) aa;subst g;omega;have:=RZ f d (n:=n) aa aa;omega
def R0 (e:NE):Prop:=(e.n.kind=1/\e.es=[]/\1<=e.n.aX/\e.n.aX<=9)\/(e.n.kind=2/\bg e.es=J/\e.n.aX=1)
structure Gd (G:Gr):Prop where
 wf:∀k e,G k=some e->R0 e
 hi:∀k,16<=k->G k=none
 bU:∃e,G 0=some e/\e.n.kind=2
 ids:∀k,∀x∈aY G k,∃e,G x.id.toNat=some e
 lk:∀j e,j≠0->G j=some e->((gF G j:Nat):Int)=e.n.aX
 ac:∃d:Nat->Nat,∀k,∀x∈aY G k,d k<d x.id.toNat
def KE.wf {e:NE}(h:KE st e):R0 e:=by obtain⟨l,q,_,⟨h0,h⟩|h⟩:=h;exact .inl ⟨h.kd,h0,h.lk⟩;exact .inr ⟨h.kd,h.eo,h.lk⟩
def qG.wf {l q:cc}(h:qG st t G l q):∀k e,G k=C e->R0 e:=λk e d=>((h.bD k).some d).2.wf
def ou (h:∀k e,G k=C e->R0 e)(k:Nat):bg (aY G k)=J:=by
 unfold aY;cases d:G k with
 |none=>rfl
 |some e=>obtain⟨_,h,_⟩|⟨_,h,_⟩:=h k e d;simp only;rw[h];rfl;exact h
def oz (h:∀k e,G k=C e->R0 e){k:Nat}(d:x∈aY G k):1<=x.id/\x.id<=15/\bG x.name=J:=by have:=(ea (ou h k)).1 x d;exact⟨this.2.1,this.2.2,this.1⟩
def BQ (hi:∀k,16<=k->G k=O){k:Nat}(d:x∈aY G k):k<16:=by by_cases h:k<16;exact h;unfold aY at d;rw[hi k aa] at d;cases d
def mJ {k:Nat}{es:List az}(h:jY (G k)=C es):aY G k=es/\∃e,G k=C e/\e.n.kind=2/\e.es=es:=by
 unfold jY at h;unfold aY;cases d:G k with
 |none=>rw[d] at h;cases h
 |some e=>rw[d] at h;simp only at h;split at h;rename_i f;cases h;exact⟨rfl,e,rfl,f,rfl⟩;cases h
def wZ {k:Nat}{e:NE}(h:G k=C e)(d:e.n.kind=2):jY (G k)=C e.es:=by unfold jY;rw[h];simp only;rw[ai d]
def w6 (h:∀k e,G k=C e->R0 e){k:Nat}(d:x∈aY G k):jY (G k)=C (aY G k):=by
 unfold aY at d⊢;cases f:G k with
 |none=>rw[f] at d;cases d
 |some e=>rw[f] at d;obtain⟨_,h,_⟩|⟨g,_,_⟩:=h k e f;simp only at d;rw[h] at d;cases d;unfold jY;simp only;rw[ai g]
def look (G:Gr):List aw->Nat->Option Nat
 |[],k=>C k
 |s::l,k=>match jY (G k) with
  |none=>O
  |some es=>match es.find? (λx=>decide (x.name=s)) with
   |none=>O
   |some x=>look G l x.id.toNat
def nu (G:Gr):∀(l r:List aw)(k:Nat),look G (l++r) k=match look G l k with
  |none=>O
  |some j=>look G r j
 |[],r,k=>rfl
 |s::l,r,k=>by
  rw[jk,look,look];cases jY (G k) with
  |none=>rfl
  |some es=>
   simp only;cases es.find? (λx=>decide (x.name=s)) with
   |none=>rfl
   |some x=>exact nu G l r x.id.toNat
def uE {k j:Nat}(h:look G [s] k=C j):∃x∈aY G k,x.name=s/\x.id.toNat=j/\jY (G k)=C (aY G k)/\(aY G k).find? (λx=>decide (x.name=s))=C x:=by
 rw[look] at h;cases d:jY (G k) with
 |none=>rw[d] at h;cases h
 |some es=>
  rw[d] at h;simp only at h;have f:=(mJ d).1;cases hf:es.find? (λx=>decide (x.name=s)) with
  |none=>rw[hf] at h;cases h
  |some x=>rw[hf] at h;simp only[look] at h;(cases h);rw[f];exact⟨x,Rx hf,by simpa using List.find?_some hf,rfl,rfl,hf⟩
def Hm (h:∀k e,G k=C e->R0 e){k:Nat}(d:x∈aY G k):look G [x.name] k=C x.id.toNat:=by rw[look,w6 h d];simp only;rw[XA ((oK _).1 (ea (ou h k)).2.1) d];rfl
def Hn {l q:cc}(h:qG st t G l q)(dz:Bool)(k:Nat):bc st (Fs.node ⟨st,t,dz⟩ k)=jY (G k):=h.bc k
def w7 {l q:cc}(h:qG st t G l q)(dz:Bool)(names:List aw):∀(k:Nat),Fs.G7 ⟨st,t,dz⟩ names k=match look G names k with
  |none=>-1
  |some j=>(j:Int):=by
 induction names with
 |nil=>intro k;rfl
 |cons s names ih=>
  intro k;have g:=Hn h dz k;unfold Fs.G7 at ih⊢;rw[oF,look];simp only;rw[g];cases f:jY (G k) with
  |none=>rfl
  |some es=>
   simp only;have d:=yq es s;cases ha:eH es s with
   |none=>rw[ha] at d;rw[<-d];rfl
   |some i=>rw[ha] at d;simp only[tC] at d;rw[<-d];simp only;(have hm:es.getD i ⟨[],0⟩∈aY G k:=by rw[(mJ f).1];exact Rx d.symm);have hid:=oz h.wf hm;have:=ih (es.getD i ⟨[],0⟩).id.toNat;rwa[Ar aa] at this
def sL {d:Nat->Nat}(hd:∀k,∀x∈aY G k,d k<d x.id.toNat):∀(l:List aw)(k j:Nat),look G l k=C j->d k+Y l<=d j
 |[],k,j,h=>by cases h;simp
 |s::l,k,j,h=>by
  have f:look G ([s]++l) k=C j:=h;rw[nu] at f;cases g:look G [s] k with
  |none=>rw[g] at f;cases f
  |some m=>rw[g] at f;simp only at f;obtain⟨x,n,_,rfl,_⟩:=uE g;have:=hd k x n;have:=sL hd l _ _ f;rw[fS];omega
def w8 {α:Type}(l:List α):l=[]\/∃a x,l=a++[x]:=by obtain h|⟨a,x,h⟩:=List.eq_nil_or_concat l;exact .inl h;exact .inr ⟨a,x,by rw[h,List.concat_eq_append]⟩
def adZ (h:cE j l<=1){x y:az}(n:x∈l)(o:y∈l)(g:x.id.toNat=j)(m:y.id.toNat=j):x=y:=by
 unfold cE at h;rw[KX] at h;have d:x∈l.filter λx=>decide (x.id.toNat=j):=Ad.2 ⟨n,by simpa using g⟩;have f:y∈l.filter λx=>decide (x.id.toNat=j):=Ad.2 ⟨o,by simpa using m⟩;generalize l.filter (λx=>decide (x.id.toNat=j))=w at h d f;match w,h with
 |[],_=>cases d
 |[a],_=>simp at d f;rw[d,f]
def Ho (h:Gd G):∀(n:Nat)(p p':List aw)(k:Nat)(e:NE),Y p<=n->look G p 0=C k->look G p' 0=C k->G k=C e->e.n.kind=2->p=p'
 |0,p,p',k,e,hn,f,g,E,Z=>by have:p=[]:=jG aa;subst this;cases f;obtain⟨d,hd⟩:=h.ac;have:=sL hd p' 0 0 g;exact(jG aa).symm
 |n+1,p,p',k,e,hn,f,g,E,Z=>by
  obtain⟨d,hd⟩:=h.ac;obtain rfl|⟨a,s,rfl⟩:=w8 p;cases f;have:=sL hd p' 0 0 g;exact(jG aa).symm;rcases w8 p' with rfl|⟨a',s',rfl⟩;cases g;have:=sL hd _ 0 0 f;rw[dB,vJ] at this;omega;rw[nu] at f g;cases B:look G a 0 with
  |none=>rw[B] at f;cases f
  |some m=>
   cases D:look G a' 0 with
   |none=>rw[D] at g;cases g
   |some W=>rw[B] at f;rw[D] at g;simp only at f g;obtain⟨x,A,Q,w,N,_⟩:=uE f;obtain⟨y,T,V,z,_⟩:=uE g;(have F:k≠0:=by have:=oz h.wf A;omega);have hl:=h.lk k e F E;obtain⟨X,_⟩|⟨_,_,X⟩:=h.wf k e E;omega;rw[X] at hl;(have hl:gF G k=1:=by omega);have hm:=BQ h.hi A;have K:=BQ h.hi T;have c1:1<=cE k (aY G m):=tN.2 ⟨x,A,by simpa using w⟩;have c2:1<=cE k (aY G W):=tN.2 ⟨y,T,by simpa using z⟩;(have L:m=W:=by by_cases hc:m=W;exact hc;exfalso;have:=RZ (λi=>cE k (aY G i)) hc hm K;unfold gF at hl;omega);subst L;(have v:cE k (aY G m)<=1:=by have:=De (λi=>cE k (aY G i)) hm;unfold gF at hl;omega);have S:=adZ v A T w z;subst S;obtain⟨em,o,u,_⟩:=(mJ N).2;have:=Ho h n a a' m em (by rw[dB,vJ] at hn;omega) B D o u;rw[this,<-Q,<-V]
end
variable {f:Fs}{bD:Nat}{ar:aw}{dz:Bool}
section
variable {k:Nat}{l:cc}
def FS (st:ae)(t:bt):Prop:=∃G l q,qG st t G l q/\Gd G
def yr {id:Int}{n:dX}(h:(f.put id n).dz=U):f.dz=U:=by unfold Fs.put at h;by_cases hf:f.dz=J;rw[ai hf] at h;rw[h];simpa using hf
def aa2 {n:dX}(h:(f.put id n).dz=U):kH f.st f.t id n=((f.put id n).st,(f.put id n).t,J):=by
 have hf:=yr h;unfold Fs.put at h⊢;rw[af (by rw[hf];simp)] at h⊢;rw[px] at h⊢;rcases d:kH f.st f.t id n with⟨st,t,ok⟩;rw[d] at h;simp only at h⊢;have:ok=J:=by simpa using h
 rw[this]
def w9 {id:Int}{l:List az}(h:(f.bz id l).dz=U):f.dz=U:=by unfold Fs.bz at h;by_cases hf:f.dz=J;rw[ai hf] at h;rw[h];simpa using hf
def Js {e:NE}(h:FX st t G id e.Q l q)(hid:id<16)(d:KE st e)(g:(Fs.put ⟨st,t,U⟩ id e.n).dz=U):∃l' m,qG (Fs.put ⟨st,t,U⟩ id e.n).st (Fs.put ⟨st,t,U⟩ id e.n).t (ij G id (C e)) l' m:=
 Xz h hid d (aa2 g)
def nw (h:qG st t G l q)(dz:Bool)(k:Nat):Fs.node ⟨st,t,dz⟩ k=((G k).map (·.n)).getD aK:=by unfold Fs.node;rw[show(ju st t k)=_ from h.ju k]
def oL {e:NE}{d:List az}(h:qG st t G l q)(y:G bD=C e)(F:e.n.kind=2)(u:bg d=J)(o:(Fs.bz ⟨st,t,U⟩ bD d).dz=U):
  ∃g l' D,qG (Fs.bz ⟨st,t,U⟩ bD d).st (Fs.bz ⟨st,t,U⟩ bD d).t (ij G bD (C g)) l' D/\g.es=d/\g.n.kind=2/\g.n.aX=e.n.aX:=by
 obtain⟨_,hid⟩:=h.lt y;obtain⟨ln,X,W,V⟩:=((h.bD bD).some y).2;obtain⟨_,hf⟩|hd:=V;rw[hf.kd] at F;cases F;have m:Fs.node ⟨st,t,U⟩ bD=e.n:=by rw[nw h,y];rfl
 unfold Fs.bz at o⊢;rw[af aq] at o⊢;simp only[m] at o⊢;rcases hb:kv st e.n.aO (aR d) with⟨st1,t1,ok⟩;rw[hb] at o;simp only at o⊢;have A:ok=J:=by have:=yr o;simpa using this
 subst A;have v:=h.fx hid;have z:gq G bD=e.Q:=by unfold gq;rw[y]
 have cg:=(lZ u).1;obtain⟨B,E,K,L,N,S,T⟩:=PF (R:=cD l q++q4 G bD) hd.tr (v.so.bX (by rw[z,W];exact tL _ _ _)) aa hb;have w:FX st1 t G bD (cD B E) l q:=v.step N L;let g:NE:=⟨{e.n with aO:=t1,size:=(Y (aR d):Int)},d,cD B E⟩;have hn:KE st1 g:=⟨B,E,rfl,.inr ⟨K,hd.kd,u,rfl,hd.lk,S,T⟩⟩;obtain⟨l',D,k⟩:=Js (e:=g) w hid hn o;exact⟨g,l',D,k,rfl,hd.kd,rfl⟩
def XC (h:bQ ar=J):∀s∈aH ar,bG s=J:=by intro s hs;unfold bQ at h;split at h;rename_i h0;rw[h0] at hs;unfold aH at hs;rw[ai rfl] at hs;cases hs;split at h;cases h;rw[ep,o5] at h;exact h.1 s hs
def xa (h:aH ar≠[]):aH ar=(aH ar).dropLast++[Fs.base ar]:=by unfold Fs.base;rw[List.getLastD_eq_getLast?,List.getLast?_eq_some_getLast h,lI,Ru]
def yu (h:qG st t G l q)(hr:¬0<(Fs.bT ⟨st,t,dz⟩ ar).2):
  ∃(bD:Nat)(e:NE),Fs.bT ⟨st,t,dz⟩ ar=((bD:Int),0)/\aH ar≠[]/\look G (aH ar).dropLast 0=C bD/\G bD=C e/\e.n.kind=2:=by
 unfold Fs.bT at hr⊢;simp only at hr⊢;by_cases hn:aH ar=[];rw[ai hn] at hr;exact absurd cx hr;rw[af hn] at hr⊢;have hl:Fs.G7 ⟨st,t,dz⟩ (aH ar).dropLast 0=_:=w7 h dz (aH ar).dropLast 0;rw[hl] at hr⊢;cases d:look G (aH ar).dropLast 0 with
 |none=>rw[d] at hr;exact absurd (show(0:Int)<2 by decide) hr
 |some bD=>
  rw[d] at hr;simp only at hr⊢;rw[af aa] at hr⊢;rw[nw h] at hr⊢;cases g:G bD with
  |none=>rw[g] at hr;exact absurd (show(0:Int)<4 by decide) hr
  |some e=>rw[g] at hr;simp only[tC,lI] at hr⊢;by_cases m:e.n.kind=2;rw[af (by simpa using m)];exact⟨bD,e,rfl,hn,rfl,g,m⟩;rw[ai m] at hr;exact absurd cx hr
def Hp (h:qG st t G l q)(dz:Bool)(ar:aw):Fs.dh ⟨st,t,dz⟩ ar=match look G (aH ar) 0 with
  |none=>-1
  |some j=>(j:Int):=w7 h dz (aH ar) 0
def iX (h:qG st t G l q)(hf:¬Fs.dh ⟨st,t,dz⟩ ar<0):∃k:Nat,Fs.dh ⟨st,t,dz⟩ ar=k/\look G (aH ar) 0=C k:=by
 rw[Hp h] at hf⊢;cases hl:look G (aH ar) 0 with
 |none=>rw[hl] at hf;exact absurd cx hf
 |some k=>exact⟨k,rfl,rfl⟩
def L6 (h:qG st t G l q)(hf:¬0<=Fs.dh ⟨st,t,dz⟩ ar):look G (aH ar) 0=O:=by
 rw[Hp h] at hf;cases hl:look G (aH ar) 0 with
 |none=>rfl
 |some k=>rw[hl] at hf;exact absurd aq hf
def XD {e:NE}(hn:aH ar≠[])(hl:look G (aH ar).dropLast 0=C bD)(g:G bD=C e)(h:e.n.kind=2)(hf:look G (aH ar) 0=O):∀x∈e.es,x.name≠Fs.base ar:=by
 rw[xa hn,nu,hl] at hf;simp only at hf;rw[look,wZ g h] at hf;simp only at hf;cases d:e.es.find? (λx=>decide (x.name=Fs.base ar)) with
 |none=>exact Ud d
 |some x=>rw[d] at hf;cases hf
def JF (h:bQ ar=J)(hn:aH ar≠[]):bG (Fs.base ar)=J:=by apply XC h;rw[xa hn];simp
def rT (h:qG st t G l q)(y:bQ ar=J)(hr:¬0<(Fs.dk ⟨st,t,dz⟩ ar).2):
  ∃(bD:Nat)(e:NE),(Fs.dk ⟨st,t,dz⟩ ar).1=(bD:Int)/\aH ar≠[]/\look G (aH ar).dropLast 0=C bD/\G bD=C e/\e.n.kind=2/\(∀x∈e.es,x.name≠Fs.base ar)/\bG (Fs.base ar)=J:=by unfold Fs.dk at hr⊢;simp only at hr⊢;by_cases d:0<(Fs.bT ⟨st,t,dz⟩ ar).2;rw[ai d] at hr;exact absurd d hr;rw[af d] at hr⊢;obtain⟨bD,e,w,g,o,u,v⟩:=yu h d;by_cases m:0<=Fs.dh ⟨st,t,dz⟩ ar;rw[ai m] at hr;exact absurd cx hr;rw[af m,w];exact⟨bD,e,rfl,g,o,u,v,XD g o u v (L6 h m),JF y g⟩
def mg (h:qG st t G l q)(dz:Bool){e:NE}(d:G k=C e)(g:e.n.kind=2):Fs.aY ⟨st,t,dz⟩ k=e.es:=by unfold Fs.aY;rw[Hn h dz k,wZ d g];rfl
def fP (G:Gr)(id:Nat)(e:Option NE):ij G id e id=e:=by unfold ij;rw[ai rfl]
def gC (G:Gr)(e:Option NE)(h:k≠id):ij G id e k=G k:=by unfold ij;rw[af h]
def dH {e:NE}(h:G k=C e):aY G k=e.es:=by unfold aY;rw[h]
def R5 {kind:Int}(o:kind=1\/kind=2)(h:FS st t)(hp:bQ ar=J)(h0:(Fs.make ⟨st,t,U⟩ ar kind).2=0)(hf:(Fs.make ⟨st,t,U⟩ ar kind).1.dz=U):FS (Fs.make ⟨st,t,U⟩ ar kind).1.st (Fs.make ⟨st,t,U⟩ ar kind).1.t:=by
 obtain⟨G,l,q,N,hG⟩:=h;unfold Fs.make at h0 hf⊢;simp only at h0 hf⊢;by_cases W:0<(Fs.dk ⟨st,t,U⟩ ar).2;rw[ai W] at h0;simp only at h0;omega;rw[af W] at h0 hf⊢;obtain⟨bD,e,e1,e2,e3,e4,e5,e6,e7⟩:=rT N hp W;rw[e1] at h0 hf⊢;cases y:um st t with
 |none=>rw[y] at h0;simp at h0
 |some id=>
  rw[y] at h0 hf;simp only at h0 hf⊢;rw[mg N U e4 e5] at h0 hf⊢;by_cases A:12<=Y e.es;rw[ai A] at h0;simp at h0;rw[af A] at hf⊢;simp only at hf⊢;obtain⟨hid,m⟩:=Dd N y;have rK:bD≠id:=λhc=>by rw[hc,m] at e4;cases e4
  have D:id≠0:=λhc=>by obtain⟨r,hr,_⟩:=hG.bU;rw[hc,hr] at m;cases m
  let en:NE:=⟨⟨kind,1,0,fC⟩,[],[]⟩;have Pe:=w9 hf;(have Z:gq G id=[]:=by unfold gq;rw[m]);have hfx:FX st t G id en.Q l q:=by have:=N.fx hid;rwa[Z] at this
  have hhn:cX 16=cX 16:=rfl;have hni:KE st en:=by refine⟨cX 16,[],by unfold cD;rw[kR];rfl,?_⟩;obtain rfl|rfl:=o;exact .inl ⟨rfl,rQ st,rfl,cx,rfl,cx,λj E=>by have E:(j:Int)<0:=E;omega⟩;exact .inr ⟨rQ st,rfl,rfl,rfl,rfl,rfl,by unfold tx;rw[show(cX 16).getD 0 bp=bp from rfl,jC lz];rfl⟩
  refine' zaF;have B:bg (gO e.es ⟨Fs.base ar,id⟩)=J:=BP GZ e6 e7 (by show 1<=(id:Int)/\(id:Int)<=15;omega) aa;generalize X:(Fs.put ⟨st,t,U⟩ id ⟨kind,1,0,fC⟩)=fs at hf Pe⊢;(have ZZ:qG fs.st fs.t (ij G id (C en)) l1 q1:=by rwa[<-X]);obtain⟨st1,t1,T⟩:=fs;simp only at Pe;subst Pe;obtain⟨v,l2,q2,w,V,g2,g3⟩:=oL ZZ e4' e5 B hf;refine⟨_,l2,q2,w,w.wf,w.hi,?_,?_,?_,?_⟩;obtain⟨r,hr1,Th⟩:=hG.bU;by_cases ha:bD=0;subst ha;exact⟨v,fP _ _ _,g2⟩;rw[gC _ _ (λh=>ha h.symm),gC _ _ (λh=>D h.symm)];exact⟨r,hr1,Th⟩;(have hold:∀k r,G k=C r->∃r',ij (ij G id (C en)) bD (C v) k=C r':=λk r hr=>by by_cases o:k=bD;subst o;exact⟨_,fP _ _ _⟩;rw[gC _ _ o];by_cases n:k=id;subst n;exact⟨_,fP _ _ _⟩;rw[gC _ _ n];exact⟨r,hr⟩);(have L:∃r',ij (ij G id (C en)) bD (C v) id=C r':=by rw[gC _ _ (λh=>rK h.symm)];exact⟨_,fP _ _ _⟩);intro k x g;rw[gK] at g;by_cases o:k=bD;rw[ai o] at g;have g:x∈v.es:=g;rw[V] at g;obtain rfl|g:=nt.1 g;exact L;rw[<-qA] at g;obtain⟨r,hr⟩:=hG.ids bD x g;exact hold _ r hr;rw[af o,gK] at g;by_cases n:k=id;rw[ai n] at g;cases g;rw[af n] at g;obtain⟨r,hr⟩:=hG.ids k x g;exact hold _ r hr;(have u:∀j,gF (ij (ij G id (C en)) bD (C v)) j=gF G j+if id=j then 1 else 0:=λj=>by have S:=mI (ij G id (C en)) (ZZ.lt e4').2 (C v) j;have c2:=mI G hid (C en) j;rw[dH e4'] at S;(have:aY G id=[]:=by unfold aY;rw[m]);rw[this] at c2;have c3:=JC j e.es ⟨Fs.base ar,id⟩;have c4:VU (C v)=gO e.es ⟨Fs.base ar,id⟩:=V;rw[c4,c3] at S;have c5:cE j (VU (C en))=0:=rfl;have c6:cE j []=0:=rfl;rw[c5,c6] at c2;simp only[px] at S;omega);(have hz:gF G id=0:=by unfold gF;(have:∀k,cE id (aY G k)=0:=λk=>by unfold cE;rw[Ac];intro x g;obtain⟨r,hr⟩:=hG.ids k x g;simp only[gv];intro hc;rw[hc,m] at hr;cases hr);rw[show(λk=>cE id (aY G k))=λ_=>0 from funext this];rfl);intro j r E hr;rw[u];by_cases F:j=bD;subst F;rw[fP] at hr;cases hr;rw[af (λh=>rK h.symm),g3];have:=hG.lk j e E e4;omega;rw[gC _ _ F] at hr;by_cases z:j=id;subst z;rw[fP] at hr;cases hr;rw[ai rfl,hz];rfl;rw[gC _ _ z] at hr;rw[af (λh=>z h.symm)];have:=hG.lk j r E hr;omega;obtain⟨d,hd⟩:=hG.ac;have K:∀k,∀x∈aY G k,x.id.toNat≠id:=λk x g hc=>by obtain⟨r,hr⟩:=hG.ids k x g;rw[hc,m] at hr;cases hr
  refine⟨λk=>if k=id then d bD+1 else d k,λk x g=>?_⟩;rw[gK] at g;by_cases o:k=bD;rw[ai o] at g;have g:x∈v.es:=g;rw[V] at g;rw[o];show(if bD=id then d bD+1 else d bD)<(if x.id.toNat=id then d bD+1 else d x.id.toNat);rw[af rK];obtain rfl|g:=nt.1 g;simp;rw[<-qA] at g;rw[af (K bD x g)];exact hd bD x g;rw[af o,gK] at g;by_cases n:k=id;rw[ai n] at g;cases g;rw[af n] at g;simp only[af n,af (K k x g)];exact hd k x g
end
section
variable {k:Nat}
def mh {e:NE}(h:∃r,G k=C r):∃r,ij G id (C e) k=C r:=by by_cases d:k=id;subst d;exact⟨e,fP _ _ _⟩;rw[gC _ _ d];exact h
def ny {e:NE}(h:∃r,G 0=C r/\r.n.kind=2)(g:id=0->e.n.kind=2):∃r,ij G id (C e) 0=C r/\r.n.kind=2:=by by_cases d:0=id;subst d;exact⟨e,fP _ _ _,g rfl⟩;rw[gC _ _ d];exact h
def R6 (h:∀k e,G k=C e->R0 e){e:NE}(m:G k=C e)(o:e.n.kind=1):e.es=[]/\1<=e.n.aX/\e.n.aX<=9:=by obtain⟨_,d,g⟩|⟨d,_⟩:=h k e m;exact⟨d,g⟩;rw[o] at d;cases d
def jE (g:Gd G){names:List aw}(h:look G names 0=C k):∃e,G k=C e:=by
 obtain rfl|⟨a,s,rfl⟩:=w8 names;cases h;obtain⟨e,n,_⟩:=g.bU;exact⟨e,n⟩;rw[nu] at h;cases d:look G a 0 with
 |none=>rw[d] at h;cases h
 |some m=>rw[d] at h;obtain⟨x,o,_,rfl,_⟩:=uE h;exact g.ids m x o
def Gd.same (h:Gd G){e g:NE}(m:G id=C e)(B:∀k r,ij G id (C g) k=C r->R0 r)(y:g.es=e.es)(z:g.n.kind=e.n.kind)(hl:g.n.aX=e.n.aX):Gd (ij G id (C g)):=by
 have hid:id<16:=by by_cases hid:id<16;exact hid;rw[h.hi id aa] at m;cases m
 have w:∀k,aY (ij G id (C g)) k=aY G k:=λk=>by rw[gK];split;rename_i z;rw[z,dH m];exact y;rfl
 refine⟨B,PI h.hi hid,?_,λk x v=>?_,λj r A hr=>?_,?_⟩;obtain⟨r,hr,u⟩:=h.bU;exact ny ⟨r,hr,u⟩ (λhc=>by subst hc;rw[hr] at m;cases m;rwa[z]);rw[w] at v;exact mh (h.ids k x v);have:gF (ij G id (C g)) j=gF G j:=by unfold gF;simp only[w]
 rw[this];by_cases o:j=id;subst o;rw[fP] at hr;cases hr;rw[hl];exact h.lk j e A m;rw[gC _ _ o] at hr;exact h.lk j r A hr;obtain⟨d,hd⟩:=h.ac;exact⟨d,λk x v=>by rw[w] at v;exact hd k x v⟩
def Ue {o:Pl.Op}(h:FS st t)(ha:0<=o.bD/\o.bD<=192)(h0:(Fs.change ⟨st,t,U⟩ o).2=0)(hf:(Fs.change ⟨st,t,U⟩ o).1.dz=U):FS (Fs.change ⟨st,t,U⟩ o).1.st (Fs.change ⟨st,t,U⟩ o).1.t:=by
 obtain⟨G,l,q,m,E⟩:=h;unfold Fs.change at h0 hf⊢;simp only at h0 hf⊢;by_cases D:Fs.dh ⟨st,t,U⟩ o.ar<0;rw[ai D] at h0;cases h0;rw[af D] at h0 hf⊢;obtain⟨id,X,Z⟩:=iX m D;obtain⟨e,g⟩:=jE E Z;rw[X,nw m,g] at h0 hf⊢;simp only[tC,lI] at h0 hf⊢;by_cases A:e.n.kind=1;rw[af (by simpa using A)] at h0 hf⊢;by_cases hm:192<o.bD+(Y o.b0:Int);rw[ai hm] at h0;cases h0;rw[af hm] at hf⊢;obtain⟨_,hid⟩:=m.lt g;obtain⟨ln,V,hq,K⟩:=((m.bD id).some g).2;have d:oW st e.n ln V:=by obtain⟨_,K⟩|hd:=K;exact K;have:=hd.kd;rw[A] at this;cases this
 have v:=m.fx hid;(have F:gq G id=e.Q:=by unfold gq;rw[g]);have z:mT st (cD ln V++(cD l q++q4 G id)):=v.so.bX (by rw[F,hq];exact tL _ _ _);rcases hr:(if o.kind=3 then fR st e.n o.bD.toNat o.b0 else fN st e.n o.bD.toNat) with⟨st1,B,ok⟩;rw[hr] at hf;simp only at hf⊢;have L:ok=J:=by have:=yr hf;simpa using this
 subst L;have y:∃l' T,oW st1 B l' T/\mT st1 (cD l' T++(cD l q++q4 G id))/\fb st st1 (cD l q++q4 G id)/\B.aX=e.n.aX/\B.kind=e.n.kind:=by split at hr;exact Jz d z aa hr;exact PG d z aa hr
 obtain⟨N,S,g1,g2,g3,g4,g5⟩:=y;have w:FX st1 t G id (cD N S) l q:=v.step g3 g2;let W:NE:=⟨B,[],cD N S⟩;obtain⟨l2,q2,u⟩:=Js (e:=W) w hid ⟨N,S,rfl,.inl ⟨rfl,g1⟩⟩ hf;exact⟨_,l2,q2,u,E.same g u.wf (R6 E.wf g A).1.symm g5 g4⟩;rw[ai (by simpa using A)] at h0;cases h0
def aa3 {ar dF:aw}(h:FS st t)(hp:bQ dF=J)(h0:(Fs.link ⟨st,t,U⟩ ar dF).2=0)(hf:(Fs.link ⟨st,t,U⟩ ar dF).1.dz=U):FS (Fs.link ⟨st,t,U⟩ ar dF).1.st (Fs.link ⟨st,t,U⟩ ar dF).1.t:=by
 obtain⟨G,l,q,v,hG⟩:=h;unfold Fs.link at h0 hf⊢;simp only at h0 hf⊢;by_cases Z:Fs.dh ⟨st,t,U⟩ ar<0;rw[ai Z] at h0;cases h0;rw[af Z] at h0 hf⊢;obtain⟨id,e1,e2⟩:=iX v Z;obtain⟨o,g⟩:=jE hG e2;rw[e1,nw v,g] at h0 hf⊢;simp only[tC,lI] at h0 hf⊢;by_cases u:o.n.kind=1;rw[af (by simpa using u)] at h0 hf⊢;by_cases h2:0<(Fs.dk ⟨st,t,U⟩ dF).2;rw[ai h2] at h0;simp only at h0;omega;rw[af h2] at h0 hf⊢;obtain⟨bD,e,W,_,e3,e4,T,e6,e7⟩:=rT v hp h2;rw[W,mg v U e4 T] at h0 hf⊢;by_cases B:9<=o.n.aX\/12<=Y e.es;rw[ai B] at h0;cases h0;rw[af B] at hf⊢;obtain⟨_,hid⟩:=v.lt g;have rK:bD≠id:=λhc=>by rw[hc,g] at e4;cases e4;rw[u] at T;cases T
 (have K:id≠0:=λhc=>by obtain⟨r,hr,S⟩:=hG.bU;rw[hc,hr] at g;cases g;rw[u] at S;cases S);obtain⟨E,hlk⟩:=R6 hG.wf g u;let en:NE:=⟨{o.n with aX:=o.n.aX+1},[],o.Q⟩;have Pe:=w9 hf;(have hgq:gq G id=o.Q:=by unfold gq;rw[g]);have hfx:FX st t G id en.Q l q:=by have:=v.fx hid;rwa[hgq] at this
 have hni:KE st en:=by obtain⟨ln,qn,hq,⟨_,F⟩|hd⟩:=((v.bD id).some g).2;exact⟨ln,qn,hq,.inl ⟨rfl,F.tr,F.kd,F.sz,F.mn,by show 1<=o.n.aX+1/\o.n.aX+1<=9;omega,F.ft⟩⟩;have:=hd.kd;rw[u] at this;cases this
 refine' zaF;have D:bg (gO e.es ⟨Fs.base dF,id⟩)=J:=BP GZ e6 e7 (by show 1<=(id:Int)/\(id:Int)<=15;omega) aa;generalize Te:(Fs.put ⟨st,t,U⟩ id {o.n with aX:=o.n.aX+1})=fs at hf Pe⊢;(have ZZ:qG fs.st fs.t (ij G id (C en)) l1 q1:=by rwa[<-Te]);obtain⟨st1,t1,X⟩:=fs;simp only at Pe;subst Pe;obtain⟨V,l2,q2,w,g1,g2,g3⟩:=oL ZZ e4' T D hf;have y:aY G id=[]:=by rwa[dH g]
 have hE:∀k,aY (ij (ij G id (C en)) bD (C V)) k=if k=bD then gO e.es ⟨Fs.base dF,id⟩ else aY G k:=λk=>by rw[gK];split;exact g1;rw[gK];split;rename_i u;rw[u,y];rfl;rfl
 refine⟨_,l2,q2,w,w.wf,w.hi,?_,?_,?_,?_⟩;exact ny (ny hG.bU (λhc=>absurd hc K)) (λ_=>g2);intro k x m;rw[hE] at m;refine mh (mh ?_);split at m;rcases nt.1 m with rfl|m;exact⟨o,by simpa using g⟩;rw[<-qA] at m;exact hG.ids bD x m;exact hG.ids k x m;intro j r hj hr;have A:=mI (ij G id (C en)) (ZZ.lt e4').2 (C V) j;have c2:=mI G hid (C en) j;have c3:=JC j e.es ⟨Fs.base dF,id⟩;have c4:VU (C V)=gO e.es ⟨Fs.base dF,id⟩:=g1;rw[dH e4',c4,c3] at A;rw[y] at c2;have c5:cE j (VU (C en))=0:=rfl;have c6:cE j []=0:=rfl;rw[c5,c6] at c2;simp only[px] at A;by_cases L:j=bD;subst L;rw[fP] at hr;cases hr;rw[af (λh=>rK h.symm)] at A;rw[g3];have:=hG.lk j e hj e4;omega;rw[gC _ _ L] at hr;by_cases z:j=id;subst z;rw[fP] at hr;cases hr;rw[ai rfl] at A;show _=o.n.aX+1;have:=hG.lk j o hj g;omega;rw[gC _ _ z] at hr;rw[af (λh=>z h.symm)] at A;have:=hG.lk j r hj hr;omega;obtain⟨d,hd⟩:=hG.ac;have N:∀k,∀x∈aY G k,k≠id:=λk x m hc=>by rw[hc,y] at m;cases m
 refine⟨λk=>if k=id then d id+d bD+1 else d k,λk x m=>?_⟩;rw[hE] at m;show(if k=id then _ else _)<(if x.id.toNat=id then _ else _);split at m;rename_i u;rw[u,af rK];obtain rfl|m:=nt.1 m;rw[ai aq];omega;rw[<-qA] at m;have:=hd bD x m;split;omega;exact this;rw[af (N k x m)];have:=hd k x m;split;rename_i hc;rw[hc] at this;omega;exact this;rw[ai (by simpa using u)] at h0;cases h0
def rU {l q:cc}(z:qG st t G l q)(K:Gd G)(hl:look G (aH ar) 0=C id)(hid:id≠0):
  ∃(bD:Nat)(e:NE)(i:Nat),Fs.bT ⟨st,t,U⟩ ar=((bD:Int),0)/\look G (aH ar).dropLast 0=C bD/\G bD=C e/\e.n.kind=2/\eH e.es (Fs.base ar)=C i/\i<Y e.es/\(e.es.getD i ⟨[],0⟩).id.toNat=id/\aH ar≠[]:=by
 have hn:aH ar≠[]:=λh=>by rw[h] at hl;cases hl;exact hid rfl
 have d:=hl;rw[xa hn,nu] at d;cases o:look G (aH ar).dropLast 0 with
 |none=>rw[o] at d;cases d
 |some bD=>
  rw[o] at d;obtain⟨x,L,F,y,v,w⟩:=uE d;obtain⟨E,e,A,B,g⟩:=mJ v;have m:=yq e.es (Fs.base ar);rw[g,w] at m;cases hi:eH (aY G bD) (Fs.base ar) with
  |none=>rw[hi] at m;cases m
  |some i=>rw[hi] at m;simp only[tC] at m;(have D:(aY G bD).getD i ⟨[],0⟩=x:=by injection m);refine⟨bD,e,i,?_,rfl,A,B,by rwa[g],by rw[g];exact PJ hi,by rw[g,D];exact y,hn⟩;unfold Fs.bT;simp only;rw[af hn];have u:Fs.G7 ⟨st,t,U⟩ (aH ar).dropLast 0=_:=w7 z U (aH ar).dropLast 0;rw[u,o];simp only;rw[af aa,nw z,A];simp only[tC,lI];rw[af (by simpa using B)]
def XE (h:FS st t)(h0:(Fs.pH ⟨st,t,U⟩ ar).2=0)(hf:(Fs.pH ⟨st,t,U⟩ ar).1.dz=U):FS (Fs.pH ⟨st,t,U⟩ ar).1.st (Fs.pH ⟨st,t,U⟩ ar).1.t:=by
 obtain⟨G,l,q,N,A⟩:=h;unfold Fs.pH at h0 hf⊢;simp only at h0 hf⊢;by_cases h1:Fs.dh ⟨st,t,U⟩ ar<0;rw[ai h1] at h0;cases h0;rw[af h1] at h0 hf⊢;obtain⟨id,e1,e2⟩:=iX N h1;obtain⟨v,w⟩:=jE A e2;rw[e1,nw N,w] at h0 hf⊢;simp only[tC,lI] at h0 hf⊢;by_cases hb:(id:Int)=0\/(v.n.kind=2/\0<v.n.size);rw[ai hb] at h0;cases h0;rw[af hb] at h0 hf⊢;have D:id≠0:=λhc=>hb (.inl aa);obtain⟨bD,e,i,p1,p2,p3,p4,p5,p6,p7,_⟩:=rU N A e2 D;rw[p1] at h0 hf⊢;simp only at h0 hf⊢;rw[mg N U p3 p4,p5] at h0 hf⊢;simp only[lI] at h0 hf⊢;obtain⟨_,hid⟩:=N.lt w;have m:=dH p3;have GZ:bg e.es=J:=by have:=ou A.wf bD;rwa [m] at this
 have aic:=JB GZ (jD e.es i);have hde:aY G id=[]:=by
  rw[dH w];obtain⟨ln,qn,hq,⟨h0,_⟩|hd⟩:=((N.bD id).some w).2;exact h0;have wm:=hd.sz;have hkd:=hd.kd;have:v.es=[]:=by by_cases hc:v.es=[];exact hc;have h3:=(lZ hd.eo).2 hc;exact absurd (.inr ⟨hkd,aa⟩) hb
  exact this
 have rK:bD≠id:=λhc=>by (have:aY G bD=[]:=by rwa[hc]);rw[m] at this;rw[this] at p6;simp at p6
 have L:(Fs.bz ⟨st,t,U⟩ bD (eB e.es i)).dz=U:=by by_cases hl:0<v.n.aX-1;rw[ai hl] at hf;exact yr hf;rw[af hl] at hf;by_cases hfu:(Fs.bz ⟨st,t,U⟩ bD (eB e.es i)).dz=J;rw[ai hfu] at hf;exact hf;simpa using hfu
 obtain⟨u,l1,q1,E,g1,g2,g3⟩:=oL N p3 p4 aic L;generalize Te:(Fs.bz ⟨st,t,U⟩ bD (eB e.es i))=fs at hf L E⊢;obtain⟨st1,t1,afM⟩:=fs;simp only at L;subst L;have F:ij G bD (C u) id=C v:=by rw[gC _ _ (λh=>rK h.symm)];exact w
 have V:∀j,gF (ij G bD (C u)) j+(if id=j then 1 else 0)=gF G j:=λj=>by have c1:=mI G (N.lt p3).2 (C u) j;have c4:VU (C u)=eB e.es i:=g1;rw[m,c4] at c1;have c2:=JD j p6;rw[p7] at c2;omega
 have S:∀k x,x∈aY (ij G bD (C u)) k->∃r,G x.id.toNat=C r:=λk x g=>by rw[gK] at g;split at g;have g:x∈u.es:=g;rw[g1] at g;have:=(jD e.es i).subset g;rw[<-m] at this;exact A.ids bD x this;exact A.ids k x g
 obtain⟨d,hd⟩:=A.ac;have hac:∀k x,x∈aY (ij G bD (C u)) k->d k<d x.id.toNat:=λk x g=>by rw[gK] at g;split at g;rename_i T;have g:x∈u.es:=g;rw[g1] at g;have:=(jD e.es i).subset g;rw[<-m] at this;rw[T];exact hd bD x this;exact hd k x g
 have hlk:=A.lk id v D w;have hci:=V id;rw[ai rfl] at hci;have hE:∀(o:Option NE),VU o=[]->∀k,aY (ij (ij G bD (C u)) id o) k=aY (ij G bD (C u)) k:=λo ho k=>by rw[gK];split;rename_i T;rw[ho,T,gK,af (λh=>rK h.symm),hde];rfl
 by_cases hl:0<v.n.aX-1;rw[ai hl] at hf⊢;have hk1:v.n.kind=1:=by obtain⟨T,_⟩|⟨_,_,T⟩:=A.wf id v w;exact T;omega
 let en:NE:=⟨{v.n with aX:=v.n.aX-1},[],v.Q⟩;(have hgq:gq (ij G bD (C u)) id=v.Q:=by unfold gq;rw[F]);have hfx:FX st1 t1 (ij G bD (C u)) id en.Q l1 q1:=by have:=E.fx hid;rwa[hgq] at this
 have hni:KE st1 en:=by obtain⟨ln,qn,hq,⟨_,Z⟩|hd⟩:=((E.bD id).some F).2;have:=Z.lk;exact⟨ln,qn,hq,.inl ⟨rfl,Z.tr,Z.kd,Z.sz,Z.mn,by show 1<=v.n.aX-1/\v.n.aX-1<=9;omega,Z.ft⟩⟩;have:=hd.kd;rw[hk1] at this;cases this
 obtain⟨l2,q2,z⟩:=Js (e:=en) hfx hid hni hf;have y:=hE (C en) rfl;refine⟨_,l2,q2,z,z.wf,z.hi,ny (ny A.bU (λ_=>g2)) (λhc=>absurd hc D),λk x g=>?_,λj r hj hr=>?_,d,λk x g=>by rw[y] at g;exact hac k x g⟩;rw[y] at g;exact mh (mh (S k x g));have X:gF (ij (ij G bD (C u)) id (C en)) j=gF (ij G bD (C u)) j:=by unfold gF;simp only[y]
 have W:=V j;rw[X];by_cases B:j=id;subst B;rw[fP] at hr;cases hr;show _=v.n.aX-1;omega;rw[gC _ _ B] at hr;rw[af (λh=>B h.symm)] at W;by_cases K:j=bD;subst K;rw[fP] at hr;cases hr;rw[g3];have:=A.lk j e hj p3;omega;rw[gC _ _ K] at hr;have:=A.lk j r hj hr;omega;rw[af hl] at hf⊢;rw[af aq] at hf⊢;rcases Z0:fJ st1 t1 id with⟨fB,t2,ok⟩;rw[Z0] at hf;simp only at hf⊢;(have x8:ok=J:=by simpa using hf);subst x8;obtain⟨l2,q2,z⟩:=JA E F Z0;have y:=hE O rfl;(have afN:1<=v.n.aX:=by obtain⟨_,_,T,_⟩|⟨_,_,T⟩:=A.wf id v w<;>omega);(have hz:gF (ij G bD (C u)) id=0:=by omega);refine⟨_,l2,q2,z,z.wf,z.hi,?_,λk x g=>?_,λj r hj hr=>?_,d,λk x g=>by rw[y] at g;exact hac k x g⟩;rw[gC _ _ (λh=>D h.symm)];exact ny A.bU (λ_=>g2);rw[y] at g;have GX:x.id.toNat≠id:=λhc=>by have aid:k<16:=BQ E.hi g;have c1:1<=cE id (aY (ij G bD (C u)) k):=tN.2 ⟨x,g,by simpa using hc⟩;have:=De (λi=>cE id (aY (ij G bD (C u)) i)) aid;unfold gF at hz;omega
 rw[gC _ _ GX];exact mh (S k x g);have X:gF (ij (ij G bD (C u)) id O) j=gF (ij G bD (C u)) j:=by unfold gF;simp only[y]
 have W:=V j;rw[X];by_cases B:j=id;subst B;rw[fP] at hr;cases hr;rw[gC _ _ B] at hr;rw[af (λh=>B h.symm)] at W;by_cases K:j=bD;subst K;rw[fP] at hr;cases hr;rw[g3];have:=A.lk j e hj p3;omega;rw[gC _ _ K] at hr;have:=A.lk j r hj hr;omega
end
def PK {s top r:aw}(hs:bQ s=J)(ht:bQ top=J){rest:List aw}(h:aH s=aH top++rest):under s top=J:=by unfold under;rw[hs,ht,h];simp
def JG {l a r:List aw}(hl:l≠[])(h:l.dropLast=a++r):∃rest,l=a++rest:=by refine⟨r++[l.getLast hl],?_⟩;rw[<-iD,<-h,Ru]
def aa4 {ar dF:aw}(h:FS st t)(hpp:bQ ar=J)(hp:bQ dF=J)(h0:(Fs.move ⟨st,t,U⟩ ar dF).2=0)(hf:(Fs.move ⟨st,t,U⟩ ar dF).1.dz=U):FS (Fs.move ⟨st,t,U⟩ ar dF).1.st (Fs.move ⟨st,t,U⟩ ar dF).1.t:=by
 obtain⟨G,l,q,z,v⟩:=h;unfold Fs.move at h0 hf⊢;simp only at h0 hf⊢;by_cases h1:Fs.dh ⟨st,t,U⟩ ar<0;rw[ai h1] at h0;cases h0;rw[af h1] at h0 hf⊢;obtain⟨id,e1,e2⟩:=iX z h1;obtain⟨ei,hei⟩:=jE v e2;rw[e1] at h0 hf⊢;by_cases hz:(id:Int)=0;rw[ai hz] at h0;cases h0;rw[af hz] at h0 hf⊢;by_cases FN:0<=Fs.dh ⟨st,t,U⟩ dF;rw[ai FN] at h0;cases h0;rw[af FN] at h0 hf⊢;by_cases hun:under dF ar=J;rw[ai hun] at h0;cases h0;rw[af hun] at h0 hf⊢;by_cases OM:0<(Fs.bT ⟨st,t,U⟩ dF).2;rw[ai OM] at h0;simp only at h0;omega;rw[af OM] at h0 hf⊢;have aie:id≠0:=by omega
 obtain⟨bD,e,a1,a2,a3,F,a5⟩:=yu z OM;obtain⟨fr,S,i,p1,p2,p3,p4,p5,p6,p7,p8⟩:=rU z v e2 aie;have T:=XD a2 a3 F a5 (L6 z FN);have V:=JF hp a2;rw[a1,p1] at h0 hf⊢;simp only at h0 hf⊢;rw[mg z U p3 p4,p5,mg z U F a5] at h0 hf⊢;simp only[lI] at h0 hf⊢;obtain⟨_,hid⟩:=z.lt hei;have w:=dH p3;have m:=dH F;have W:bg S.es=J:=by have:=ou v.wf fr;rwa [w] at this
 have aif:bg e.es=J:=by have:=ou v.wf bD;rwa [m] at this
 have D:=JB W (jD S.es i);have cg:Y (eB S.es i)+1=Y S.es:=by unfold eB;rw[dB,de,fq];omega
 have ajU:=(ea W).2.2;have X:1<=(id:Int)/\(id:Int)<=15:=by omega
 have mU:∀r,look G r id≠C bD:=by
  intro r hr;have h1:look G (aH ar++r) 0=C bD:=by rwa[nu,e2]
  have h2:=Ho v _ _ _ bD e (fG _) a3 h1 F a5;obtain⟨rest,h3⟩:=JG a2 h2;exact hun (PK (r:=dF) hp hpp h3)
 obtain⟨d,hd⟩:=v.ac;by_cases E:¬(bD:Int)=(fr:Int)/\12<=Y e.es;rw[ai E] at h0;cases h0;rw[af E] at h0 hf⊢;by_cases n:(bD:Int)=(fr:Int)
 ·
  rw[ai n] at hf⊢;have n:bD=fr:=by omega
  subst n;rw[F] at p3;cases p3
  have A:bg (gO (eB e.es i) ⟨Fs.base dF,id⟩)=J:=BP D (λx g=>T x ((jD e.es i).subset g)) V X aa;obtain⟨e',l1,q1,o,g1,g2,g3⟩:=oL z F a5 A hf;have u:∀k x,x∈aY (ij G bD (C e')) k->(k=bD/\x=⟨Fs.base dF,id⟩)\/x∈aY G k:=λk x g=>by rw[gK] at g;split at g;rename_i K;have g:x∈e'.es:=g;rw[g1] at g;obtain rfl|g:=nt.1 g;exact .inl ⟨K,rfl⟩;right;rw[K,m];exact(jD e.es i).subset g;exact .inr g
  have hdi:d bD<d id:=by (have:e.es.getD i ⟨[],0⟩∈aY G bD:=by rw[m,eX,c8 p6];exact B5 _);have:=hd bD _ this;rwa[p7] at this
  refine⟨_,l1,q1,o,o.wf,o.hi,ny v.bU (λ_=>g2),λk x g=>?_,λj r hj hr=>?_,d,λk x g=>?_⟩
  .rcases u k x g with⟨_,rfl⟩|g
   .exact mh ⟨ei,by simpa using hei⟩
   .exact mh (v.ids k x g)
  .have c1:=mI G (z.lt F).2 (C e') j;have c4:VU (C e')=gO (eB e.es i) ⟨Fs.base dF,id⟩:=g1;have c2:=JD j p6;rw[m,c4,JC] at c1;rw[p7] at c2;simp only[px] at c1;by_cases B:j=bD
   .subst B;rw[fP] at hr;cases hr
    rw[g3];have:=v.lk j e hj F;omega
   .rw[gC _ _ B] at hr;have:=v.lk j r hj hr;omega
  .rcases u k x g with⟨rfl,rfl⟩|g
   .simpa using hdi
   .exact hd k x g
 ·
  rw[af n] at hf⊢;have GX:bD≠fr:=λh=>n (by rw[h])
  simp only at hf⊢;have Q:=w9 hf;obtain⟨y,l1,q1,o,g1,g2,g3⟩:=oL z p3 p4 D Q;generalize Te:(Fs.bz ⟨st,t,U⟩ fr (eB S.es i))=fs at hf Q o⊢;obtain⟨st1,t1,afM⟩:=fs;simp only at Q;subst Q;have L:ij G fr (C y) bD=C e:=by rwa[gC _ _ GX]
  rw[mg o U L a5] at hf⊢;have A:bg (gO e.es ⟨Fs.base dF,id⟩)=J:=BP aif T V X aa;obtain⟨N,l2,q2,Z,k1,k2,k3⟩:=oL o L a5 A hf;have u:∀k x,x∈aY (ij (ij G fr (C y)) bD (C N)) k->(k=bD/\x=⟨Fs.base dF,id⟩)\/x∈aY G k:=λk x g=>by rw[gK] at g;split at g;rename_i K;have g:x∈N.es:=g;rw[k1] at g;obtain rfl|g:=nt.1 g;exact .inl ⟨K,rfl⟩;right;rw[K,m];exact g;rw[gK] at g;split at g;rename_i K;have g:x∈y.es:=g;rw[g1] at g;right;rw[K,w];exact(jD S.es i).subset g;exact .inr g
  refine⟨_,l2,q2,Z,Z.wf,Z.hi,ny (ny v.bU (λ_=>g2)) (λ_=>k2),λk x g=>?_,λj r hj hr=>?_,?_⟩
  .rcases u k x g with⟨_,rfl⟩|g
   .exact mh (mh ⟨ei,by simpa using hei⟩)
   .exact mh (mh (v.ids k x g))
  .have c1:=mI G (z.lt p3).2 (C y) j;have c2:=mI (ij G fr (C y)) (o.lt L).2 (C N) j;have c3:=JD j p6;have c4:VU (C y)=eB S.es i:=g1;have c5:VU (C N)=gO e.es ⟨Fs.base dF,id⟩:=k1;rw[w,c4] at c1;rw[dH L,c5,JC] at c2;rw[p7] at c3;simp only[px] at c2;by_cases B:j=bD
   .subst B;rw[fP] at hr;cases hr
    rw[k3];have:=v.lk j e hj F;omega
   .rw[gC _ _ B] at hr;by_cases hjf:j=fr
    .subst hjf;rw[fP] at hr;cases hr
     rw[g3];have:=v.lk j S hj p3;omega
    .rw[gC _ _ hjf] at hr;have:=v.lk j r hj hr;omega
  .classical
   refine⟨λk=>if(∃r,look G r id=C k) then d k+d bD+1 else d k,λk x g=>?_⟩;show(if _ then _ else _)<(if _ then _ else _);obtain⟨rfl,rfl⟩|g:=u k x g
   .rw[af (λ⟨r,hr⟩=>mU r hr),ai ⟨[],by simp[look]⟩];rw[show((id:Int)).toNat=id from px id];omega
   .have Lp:=hd k x g;by_cases K:∃r,look G r id=C k
    .obtain⟨r,hr⟩:=K;rw[ai ⟨r,hr⟩,ai ⟨r++[x.name],by rw[nu,hr];exact Hm v.wf g⟩];omega
    .rw[af K];by_cases hx2:∃r,look G r id=C x.id.toNat
     .rw[ai hx2];exact vF Lp (jR (Cl _ _) (Cl _ _))
     .rw[af hx2];exact Lp
def zB {o:Pl.Op}(h:wM o=J):bQ o.ar=J/\(o.kind=6\/o.kind=7->bQ o.dF=J)/\0<=o.bD/\o.bD<=192:=by
 unfold wM at h;simp only at h;split at h;cases h;rename_i d;split at h;cases h;simp only[km,ra,ep,gv,fI,not_or,xK] at d h;obtain⟨⟨⟨u,g⟩,m⟩,v⟩:=d;refine⟨g,λn=>?_,?_⟩;cases hc:bQ o.dF with
 |true=>rfl
 |false=>exact absurd ⟨n,hc⟩ m
 rcases h with h|⟨_,h⟩;omega;exact h
def R7 {o:Pl.Op}(h:FS st t)(A:wM o=J):FS (iR st t o).1 (iR st t o).2.1:=by
 obtain⟨m,d,ha⟩:=zB A;unfold iR;simp only;have n:∀r:Fs×Int,(r.2=0->r.1.dz=U->FS r.1.st r.1.t)->FS (if(if r.2=0/\r.1.dz=J then 7 else r.2)≠0 then(st,t,(if r.2=0/\r.1.dz=J then 7 else r.2)) else(r.1.st,r.1.t,(if r.2=0/\r.1.dz=J then 7 else r.2))).1 (if(if r.2=0/\r.1.dz=J then 7 else r.2)≠0 then(st,t,(if r.2=0/\r.1.dz=J then 7 else r.2)) else(r.1.st,r.1.t,(if r.2=0/\r.1.dz=J then(7:Int) else r.2))).2.1:=by intro r hr;by_cases hc:r.2=0/\r.1.dz=J;rw[ai hc,ai cx];exact h;rw[af hc];by_cases g:r.2=0;rw[af (by simpa using g)];exact hr g (by simpa using λh=>hc ⟨g,h⟩);rw[ai g];exact h
 apply n;intro h0 hf;by_cases w:o.kind=1;rw[ai w] at h0 hf⊢;exact R5 (.inl rfl) h m h0 hf;rw[af w] at h0 hf⊢;by_cases y:o.kind=2;rw[ai y] at h0 hf⊢;exact R5 (.inr rfl) h m h0 hf;rw[af y] at h0 hf⊢;by_cases z:o.kind=5;rw[ai z] at h0 hf⊢;exact XE h h0 hf;rw[af z] at h0 hf⊢;by_cases u:o.kind=6;rw[ai u] at h0 hf⊢;exact aa3 h (d (.inl u)) h0 hf;rw[af u] at h0 hf⊢;by_cases v:o.kind=7;rw[ai v] at h0 hf⊢;exact aa4 h m (d (.inr v)) h0 hf;rw[af v] at h0 hf⊢;exact Ue h ha h0 hf
def BR (h:FS st t):FS (next st) t:=by
 obtain⟨G,l,q,w,K⟩:=h;obtain⟨D,E,F⟩:=aa0 w.so;have n:∀{p:fm},p∈cD l q++L1 G->gB (next st) p=gB st p:=λu=>F _ u;have g:∀{l' z:cc},(∀p∈cD l' z,p∈cD l q++L1 G)->∀j,tx (next st) l' j=tx st l' j:=λhm j=>nk λd=>n (hm _ (dt _ (dw.2 ⟨jL d,d⟩)));have v:∀{t':bt}{l' z:cc},(∀p∈cD l' z,p∈cD l q++L1 G)->qk st t' l' z->qk (next st) t' l' z:=λhm h=>h.ext (λp u=>n (hm p (im _ u))) (by rw[E];omega);have o:∀p∈cD l q,p∈cD l q++L1 G:=λp u=>im _ u;refine⟨G,l,q,⟨v o w.tr,D,λk=>?_,w.hi⟩,K⟩;have m:=w.bD k;unfold At at m⊢;cases A:G k with
 |none=>rw[A] at m;simp only at m⊢;rw[g o,m]
 |some e=>
  rw[A] at m;simp only at m⊢;refine⟨by rw[g o];exact m.1,?_⟩;have y:=(w.lt A).2;have hm:∀p∈e.Q,p∈cD l q++L1 G:=λp u=>dt _ (adY y p (by unfold gq;rwa[A]));obtain⟨ln,N,B,d⟩:=m.2;rw[B] at hm;refine⟨ln,N,B,?_⟩;obtain⟨h0,d⟩|d:=d
  exact .inl ⟨h0,v hm d.tr,d.kd,d.sz,d.mn,d.lk,λj L=>by rw[g hm];exact d.ft j L⟩;exact .inr ⟨v hm d.tr,d.kd,d.eo,d.sz,d.lk,d.mn,by rw[g hm];exact d.tx0⟩
def L7 (same:Bool):mT (b7 same) []:=by refine⟨rfl,rfl,rfl,rfl,xM 1,aq,λi hi=>?_,by simp[b7]⟩;show((y7 i ([]++[]):Nat):Int)<=(replicate 64 (0:Int)).getD i 0;rw[eX,List.getElem?_replicate];split<;>simp[y7]
def vZ (same:Bool):(kH (b7 same) fC 0 ⟨2,1,0,fC⟩).2.2=J:=by cases same<;>decide+kernel
def L8 (same:Bool):FS (nf same).1 (nf same).2:=by
 let g:Gr:=λ_=>O;let en:NE:=⟨⟨2,1,0,fC⟩,[],[]⟩;have o:q4 g 0=[]:=by unfold q4;rw[List.flatMap_eq_nil_iff];intro k _;split<;>rfl
 have n:FX (b7 same) fC g 0 en.Q (cX 16) []:=by refine⟨rQ _,?_,λk z=>?_,λk z=>rfl⟩;rw[o];unfold cD;rw[kR];exact L7 same;show tx _ _ k=[];unfold tx;rw[(rQ (b7 same)).hl k (by show(0:Int)<=_;omega),jC lz]
 have u:KE (b7 same) en:=⟨cX 16,[],by unfold cD;rw[kR];rfl,.inr ⟨rQ _,rfl,rfl,rfl,rfl,rfl,by unfold tx;rw[show(cX 16).getD 0 bp=bp from rfl,jC lz];rfl⟩⟩;have v:=vZ same;unfold nf;simp only;rcases hr:kH (b7 same) fC 0 ⟨2,1,0,fC⟩ with⟨st,t,ok⟩;rw[hr] at v;simp only at v;subst v;obtain⟨l',A,m⟩:=Xz (e:=en) n aa u hr;have w:∀k,aY (ij g 0 (C en)) k=[]:=λk=>by rw[gK];split<;>rfl
 refine⟨_,l',A,m,m.wf,m.hi,⟨en,fP _ _ _,rfl⟩,λk x d=>?_,λj r y hr=>?_,λ_=>0,λk x d=>?_⟩;rw[w] at d;cases d;rw[gC _ _ y] at hr;cases hr;rw[w] at d;cases d
def L9:∀o∈first,wM o=J:=by decide+kernel
variable {n m:Nat}
section
variable {k:Nat}{e:NE}
def Ma {d:Nat->Nat}{a b:Nat}(h:d a<d b):∀n:Nat,((List.range n).countP λj=>decide (d j<d a))<=((List.range n).countP λj=>decide (d j<d b))/\(a<n->((List.range n).countP λj=>decide (d j<d a))<((List.range n).countP λj=>decide (d j<d b)))
 |0=>by simp
 |n+1=>by have ih:=Ma h n;rw[xN,Ag,Ag];simp only[tF,List.countP_nil,kz,gv];constructor;have:=ih.1;split<;>split<;>omega;intro ha;by_cases hn:a=n;subst hn;have:=ih.1;rw[af aa,ai h];omega;have:=ih.2 aa;split<;>split<;>omega
def rV (h:Gd G):∃d:Nat->Nat,(∀k,∀x∈aY G k,d k<d x.id.toNat)/\∀k,d k<=16:=by obtain⟨d,hd⟩:=h.ac;refine⟨λk=>(List.range 16).countP λj=>decide (d j<d k),λk x g=>?_,λk=>?_⟩;exact(Ma (hd k x g) 16).2 (BQ h.hi g);have:=Ce (p:=λj=>decide (d j<d k)) (l:=List.range 16);simpa using this
def wl (G:Gr):Nat->cB->List cB
 |0,x=>[x]
 |f+1,x=>x::(aY G x.id.toNat).flatMap λe=>wl G f ⟨bb x.ar e.name,e.id⟩
def cF (j:Nat)(l:List cB):Nat:=l.countP λx=>decide (x.id.toNat=j)
def nn (G:Gr):Nat->Nat->Nat->Nat
 |0,k,j=>if k=j then 1 else 0
 |f+1,k,j=>(if k=j then 1 else 0)+((aY G k).map λe=>nn G f e.id.toNat j).sum
def Df (G:Gr)(j:Nat):∀(f:Nat)(x:cB),cF j (wl G f x)=nn G f x.id.toNat j
 |0,x=>by simp[cF,wl,nn,tF]
 |f+1,x=>by rw[wl,nn];unfold cF;rw[tF,List.countP_flatMap,Cb];have:∀e:az,List.countP (λx=>decide (x.id.toNat=j)) (wl G f ⟨bb x.ar e.name,e.id⟩)=nn G f e.id.toNat j:=λe=>Df G j f ⟨bb x.ar e.name,e.id⟩;simp only[Function.comp_def,this,gv]
def sm (n:Nat)(f:Nat->Nat):Nat:=((List.range n).map f).sum
def qH (n:Nat)(f:Nat->Nat):sm (n+1) f=sm n f+f n:=by unfold sm;rw[xN,qR,GK];simp
def JH (n:Nat)(f g:Nat->Nat):sm n (λa=>f a+g a)=sm n f+sm n g:=by
 induction n with
 |zero=>rfl
 |succ n ih=>rw[qH,qH,qH,ih];omega
def nz {f g:Nat->Nat}(h:∀a,a<n->f a=g a):sm n f=sm n g:=by
 induction n with
 |zero=>rfl
 |succ n ih=>rw[qH,qH,ih (λa ha=>h a aa),h n aa]
def sM (n:Nat):sm n (λ_=>0)=0:=by
 induction n with
 |zero=>rfl
 |succ n ih=>rw[qH,ih]
def JI (M:Nat->Nat):∀{n:Nat},k<n->sm n (λa=>(if k=a then 1 else 0)*M a)=M k
 |0,h=>by omega
 |n+1,h=>by rw[qH];by_cases d:k=n;subst d;rw[ai rfl,nz (g:=λ_=>0) (λa ha=>by rw[af aa];simp),sM];omega;rw[af d,JI M aa];omega
def JJ {α:Type}(n:Nat)(F:α->Nat->Nat)(M:Nat->Nat):∀l:List α,sm n (λa=>(l.map λe=>F e a).sum*M a)=(l.map λe=>sm n λa=>F e a*M a).sum
 |[]=>by simp[sM]
 |x::l=>by simp only[lF,xO,mO];rw[JH,JJ n F M l]
def yw {α:Type}(l:List α)(f g:α->Nat):(l.map λe=>f e+g e).sum=(l.map f).sum+(l.map g).sum:=by
 induction l with
 |nil=>rfl
 |cons x l ih=>simp only[lF,xO,ih];omega
def XF (j:Nat)(l:List az):(l.map λe=>if e.id.toNat=j then 1 else 0).sum=cE j l:=by
 unfold cE;induction l with
 |nil=>rfl
 |cons x l ih=>rw[lF,xO,ih,tF];simp;omega
def R8 (h:Gd G){d:Nat->Nat}(hd:∀k,∀x∈aY G k,d k<d x.id.toNat)(g:∀k,d k<=16)(j:Nat):∀(f k:Nat),17<=f+d k->k<16->nn G f k j=(if k=j then 1 else 0)+sm 16 λa=>nn G f k a*cE j (aY G a)
 |0,k,hf,_=>by have:=g k;omega
 |f+1,k,hf,y=>by
  have o:∀a,nn G (f+1) k a=(if k=a then 1 else 0)+((aY G k).map λe=>nn G f e.id.toNat a).sum:=λa=>rfl;rw[o j];simp only[o,mO];have w:=JJ 16 (λ(e:az) a=>nn G f e.id.toNat a) (λa=>cE j (aY G a)) (aY G k);rw[JH,JI (λa=>cE j (aY G a)) y,w];have v:((aY G k).map λe=>nn G f e.id.toNat j)=(aY G k).map λe=>(if e.id.toNat=j then 1 else 0)+sm 16 λa=>nn G f e.id.toNat a*cE j (aY G a):=by apply qo;intro e u;have hid:=oz h.wf u;have:=hd k e u;exact R8 h hd g j f e.id.toNat aa aa
  rw[v,yw,XF]
def XG {α:Type}(l:List α):(l.map λ_=>0).sum=0:=by
 induction l with
 |nil=>rfl
 |cons x l ih=>rw[lF,xO,ih]
def PL (h:Gd G){j:Nat}(g:G j=O):∀(f k:Nat),(∃e,G k=C e)->nn G f k j=0
 |0,k,⟨e,d⟩=>by unfold nn;rw[af];rintro rfl;rw[g] at d;cases d
 |f+1,k,⟨e,d⟩=>by
  unfold nn;rw[af (by rintro rfl;rw[g] at d;cases d)];have:((aY G k).map λe=>nn G f e.id.toNat j)=(aY G k).map λ_=>0:=by apply qo;intro x o;exact PL h g f _ (h.ids k x o)
  rw[this,XG]
def rW (G:Gr)(j:Nat):gF G j=sm 16 λa=>cE j (aY G a):=rfl
def rX (h:Gd G){f:Nat}(hf:17<=f):∀j e,G j=C e->((nn G f 0 j:Nat):Int)=e.n.aX:=by
 obtain⟨d,hd,N⟩:=rV h;have u:=λj=>R8 h hd N j f 0 aa aa;have y:∀(m j:Nat)(e:NE),d j<=m->G j=C e->e.n.kind=2->nn G f 0 j=1:=by
  intro m;induction m with
  |zero=>intro j e hm v Q;(have K:∀a,cE j (aY G a)=0:=λa=>by unfold cE;rw[Ac];intro x z;simp only[gv];intro hc;have:=hd a x z;rw[hc] at this;omega);rw[u,nz (g:=λ_=>0) (λa _=>by rw[K];simp),sM];by_cases w:0=j;rw[ai w];have:=h.lk j e (λhc=>w hc.symm) v;(have E:gF G j=0:=by rw[rW,nz (g:=λ_=>0) (λa _=>K a),sM]);rw[E] at this;obtain⟨o,_⟩|⟨_,_,hl⟩:=h.wf j e v;rw[Q] at o;cases o;omega
  |succ m ih=>intro j e hm v Q;(have key:sm 16 (λa=>nn G f 0 a*cE j (aY G a))=gF G j:=by rw[rW];apply nz;intro a ha;obtain E|V:=tG (cE j (aY G a));rw[E];simp;obtain⟨x,z,D⟩:=tN.1 V;have T:=hd a x z;(have D:x.id.toNat=j:=by simpa using D);rw[D] at T;obtain⟨_,L,A,B,_⟩:=mJ (w6 h.wf z);rw[ih a L aa A B,Nat.one_mul]);rw[u,key];by_cases w:0=j;subst w;(have E:gF G 0=0:=by rw[rW];(have K:∀a,cE 0 (aY G a)=0:=λa=>by unfold cE;rw[Ac];intro x z;have:=oz h.wf z;simp only[gv];omega);rw[nz (g:=λ_=>0) (λa _=>K a),sM]);rw[E];rfl;have:=h.lk j e (λhc=>w hc.symm) v;obtain⟨o,_⟩|⟨_,_,hl⟩:=h.wf j e v;rw[Q] at o;cases o;rw[af w];omega
 intro j e v;obtain⟨o,_,_⟩|⟨S,_,hl⟩:=h.wf j e v;have w:j≠0:=λhc=>by subst hc;obtain⟨r,hr,F⟩:=h.bU;rw[hr] at v;cases v;rw[o] at F;cases F
 have key:sm 16 (λa=>nn G f 0 a*cE j (aY G a))=gF G j:=by rw[rW];apply nz;intro a ha;obtain E|V:=tG (cE j (aY G a));rw[E];simp;obtain⟨x,z,_⟩:=tN.1 V;obtain⟨_,L,A,B,_⟩:=mJ (w6 h.wf z);rw[y (d a) a L (fG _) A B,Nat.one_mul]
 rw[<-h.lk j e w v,u,af (λhc=>w hc.symm),kz,key];rw[y (d j) j e (fG _) v S,hl];rfl
def XH:∀l:List cB,(∀x∈l,x.id.toNat<16)->Y l=sm 16 λj=>cF j l
 |[],_=>(sM 16).symm
 |x::l,h=>by
  have ih:=XH l (λy d=>h y (by simp[d]));have:∀j,cF j (x::l)=cF j l+(if x.id.toNat=j then 1 else 0)*1:=λj=>by simp[cF,tF]
  rw[fS,ih,nz (λj _=>this j),JH,JI (λ_=>1) (h x aq)]
def o1 (m:Nat)(p:aw):Prop:=∃names:List aw,(∀s∈names,bG s=J)/\Y names<=m/\p=pathOf names
def Hq (names:List aw)(h:∀s∈names,bG s=J):Y (names.map λs=>47::s).flatten<=5*Y names:=by
 induction names with
 |nil=>simp
 |cons s l ih=>have:=(gJ (h s aq)).2;have:=ih (λx d=>h x (by simp[d]));rw[lF,GI,dB];simp only[fS];omega
def o1.len {p:aw}(h:o1 m p):1<=Y p/\Y p<=5*m+1:=by
 obtain⟨names,d,g,rfl⟩:=h;unfold pathOf;split;simp;rename_i hn;have:=Hq names d;refine⟨?_,aa⟩;cases names with
 |nil=>exact absurd rfl hn
 |cons s l=>simp
def o1.add {p s:aw}(h:o1 m p)(hs:bG s=J):o1 (m+1) (bb p s):=by
 obtain⟨names,g,o,rfl⟩:=h;refine⟨names++[s],λx d=>?_,by simp;omega,?_⟩;rcases cG.1 d with d|d;exact g x d;have:x=s:=by simpa using d
 rw[this];exact hs;unfold bb pathOf;rw[af (show names++[s]≠[] by simp)];cases names with
 |nil=>simp
 |cons a l=>rw[af (show a::l≠[] by simp)];rw[af];simp;intro hc;have:=congrArg List.length hc;have ha:=(gJ (g a aq)).2;rw[lF,GI,dB] at this;simp at this;omega
def Hr (h:Gd G):∀(f m:Nat)(x:cB),0<=x.id->(∃e,G x.id.toNat=C e)->o1 m x.ar->∀y∈wl G f x,(0<=y.id/\∃e,G y.id.toNat=C e)/\o1 (m+f) y.ar
 |0,m,x,h0,u,o,y,d=>by
  have:y=x:=by simpa[wl] using d
  subst this;exact⟨⟨h0,u⟩,o⟩
 |f+1,m,x,h0,u,o,y,d=>by rw[wl] at d;obtain rfl|d:=cA.1 d;obtain⟨n,v,z,w⟩:=o;exact⟨⟨h0,u⟩,n,v,aa,w⟩;obtain⟨e,g,d⟩:=kZ.1 d;have hid:=oz h.wf g;have:=Hr h f (m+1) ⟨bb x.ar e.name,e.id⟩ (by show 0<=e.id;omega) (h.ids _ e g) (o.add hid.2.2) y d;rwa[show m+(f+1)=m+1+f by omega]
def Gd.lt (h:Gd G)(d:G k=C e):k<16:=by by_cases g:k<16;exact g;rw[h.hi k aa] at d;cases d
def Dg (h:Gd G){f:Nat}(hf:17<=f)(p:aw)(u:o1 0 p):Y (wl G f ⟨p,0⟩)<=144:=by
 obtain⟨r,hr,v⟩:=h.bU;have d:=Hr h f 0 ⟨p,0⟩ (xM 0) ⟨r,hr⟩ u;rw[XH _ (λx w=>by obtain⟨⟨_,e,o⟩,_⟩:=d x w;exact h.lt o)];have hle:∀j,cF j (wl G f ⟨p,0⟩)<=9:=λj=>by
  rw[Df];show nn G f 0 j<=9;cases g:G j with
  |none=>rw[PL h g f 0 ⟨r,hr⟩];omega
  |some e=>have:=rX h hf j e g;obtain⟨_,_,_,hl⟩|⟨_,_,hl⟩:=h.wf j e g<;>omega
 have:∀n,sm n (λj=>cF j (wl G f ⟨p,0⟩))<=9*n:=λn=>by
  induction n with
  |zero=>exact fG _
  |succ n ih=>rw[qH];have:=hle n;omega
 exact this 16
def Dh (h:Gd G){d:Nat->Nat}(hd:∀k,∀x∈aY G k,d k<d x.id.toNat)(w:∀k,d k<=16){kind:Nat->Int}{E:Nat->Option (List az)}(hn:∀k e,G k=C e->k<n)(L:∀k e,G k=C e->kind k=e.n.kind)(K:∀k,E k=jY (G k)):
  ∀(f:Nat)(x:cB)(out:List cB),17<=f+d x.id.toNat->0<=x.id->(∃e,G x.id.toNat=C e)->Y out+Y (wl G f x)<=144->iq n kind E f x out=(out++wl G f x,J)
 |0,x,out,hf,_,_,_=>by have:=w x.id.toNat;omega
 |f+1,x,out,hf,h0,⟨e,g⟩,hl=>by
  rw[iq,wl];rw[wl,fS] at hl;have S:=hn _ e g;have v:=L _ e g;rw[af];rcases h.wf _ e g with⟨B,F,_⟩|⟨u,_,_⟩;rw[ai (by rw[v,B])];rw[dH g,F];rfl;rw[af (by rw[v,u];decide),K,wZ g u,dH g];rw[dH g] at hl;simp only;(have A:∀y∈e.es,y∈aY G x.id.toNat:=λy D=>by rwa[dH g]);have key:∀(l:List az)(o:List cB),(∀y∈l,y∈aY G x.id.toNat)->Y o+Y (l.flatMap λe=>wl G f ⟨bb x.ar e.name,e.id⟩)<=144->
    l.foldl (λr e=>if r.2=J then iq n kind E f ⟨bb x.ar e.name,e.id⟩ r.1 else r) (o,J)=(o++l.flatMap λe=>wl G f ⟨bb x.ar e.name,e.id⟩,J):=by
   intro l;induction l with
   |nil=>intro o _ _;simp
   |cons y l ih=>
    intro o hm cg;rw[mR,dB] at cg;rw[xE];simp only[iO];have D:=hm y aq;have hid:=oz h.wf D;have N:=hd _ y D;rw[Dh h hd w hn L K f ⟨bb x.ar y.name,y.id⟩ o (by show 17<=f+d y.id.toNat;omega) (by show 0<=y.id;omega) (h.ids _ y D) aa];rw[ih _ (λz T=>hm z (by simp[T])) (by rw[dB];omega),mR,iD]
  rw[key e.es (out++[x]) A (by rw[dB,vJ];omega)];simp;rw[v];have Q:¬e.n.kind=0:=by obtain⟨B,_⟩|⟨u,_⟩:=h.wf _ e g<;>omega
  simp only[km,gv,ra,fI,rh,mW,dB,vJ];omega
def qG.bj {st:ae}{l q:cc}(h:qG st t G l q):Y (Go.Pl.bj st t)=t.many.toNat/\∀k,(Go.Pl.bj st t).getD k aK=((G k).map (·.n)).getD aK:=by
 have hl:Y (Go.Pl.bj st t)=t.many.toNat:=by unfold Go.Pl.bj;rw[fH,oJ h.tr];simp
 refine⟨hl,λk=>?_⟩;have g:=h.tr.mn;have rK:=(h.bD k).get;by_cases d:k<t.many.toNat;unfold Go.Pl.bj;rw[eX,mP,oJ h.tr,mP,Gu d];simp only[tC,lI];rw[rK];rw[eX,mQ aa];rw[wX h.tr aa,mH] at rK;rw[<-rK]
def qG.JK {st:ae}{l q:cc}(h:qG st t G l q)(d:G k=C e):∃R,mT st (e.Q++R):=by
 have o:=(h.lt d).2;refine⟨q4 G k++cD l q,h.so.bX ?_⟩;refine(vI _ (rS G o)).trans ?_;have g:gq G k=e.Q:=by unfold gq;rw[d]
 rw[g];refine Cm.trans ?_;rw[iD]
def qG.Uf {st:ae}{l q:cc}(h:qG st t G l q)(o:G k=C e):da st e.n.aO=J:=by obtain⟨R,g⟩:=h.JK o;obtain⟨ln,v,u,d⟩:=((h.bD k).some o).2;rw[u] at g;obtain⟨_,d⟩|d:=d;exact rR d.tr g;exact rR d.tr g
def qG.table {st:ae}{l q:cc}(h:qG st t G l q):dL st t=J:=by
 unfold dL;rw[rR h.tr h.so,wo,o5,oJ h.tr];intro s hs;obtain⟨k,g,rfl⟩:=qj.1 hs;have rK:=(h.bD k).get;cases d:G k with
 |none=>rw[(h.bD k).none d];rfl
 |some e=>rw[d] at rK;rw[rK];simp only[tC];rw[h.Uf d];simp
def qG.file {st:ae}{l q:cc}(h:qG st t G l q)(o:G k=C e)(u:e.n.kind=1):dE st e.n=J/\Y (a6 st e.n)<=192:=by obtain⟨R,g⟩:=h.JK o;obtain⟨ln,z,v,d⟩:=((h.bD k).some o).2;rw[v] at g;obtain⟨_,d⟩|d:=d;refine⟨Ub d.tr g d.ok u d.ft,?_⟩;have w:=nq d.tr d.sz.1 d.mn d.ft;have y:=d.sz;omega;have:=d.kd;rw[u] at this;cases this
structure afO (f:Flat):Prop where
 n0:f.names≠[]
 t0:f.aB≠[]
 nl:f.names.length<=144
 tl:f.aB.length<=16
 nm:∀x∈f.names,o1 146 x.ar/\0<=x.id/\x.id<=15
 th:∀x∈f.aB,0<=x.id/\x.id<=15/\x.b0.length<=192
def xb {st:ae}{out:List cB}:∀(L:List dX)(k:Nat),(∀i,i<Y L->((L.getD i aK).kind≠0->gT out (k+i)=(L.getD i aK).aX)/\((L.getD i aK).kind=1->dE st (L.getD i aK)=J))->ja st out k L=J
 |[],k,_=>rfl
 |n::L,k,h=>by rw[ja,xb L (k+1) (λi hi=>by have:=h (i+1) (by simp;omega);rw[vM] at this;rwa[show k+1+i=k+(i+1) by omega])];have:=h 0 aq;rw[As,wu] at this;simp only[KR,ra,Ci,rh,mW,Ch];constructor;by_cases d:n.kind=0;left;simpa using d;right;rw[this.1 d];simp;by_cases d:n.kind=1;right;exact this.2 d;left;exact d
def Hs {st:ae}:∀(L:List dX)(k:Nat),(∀i,i<Y L->(L.getD i aK).kind=1->Y (a6 st (L.getD i aK))<=192)->k+Y L<=16->Y (cz st k L)<=Y L/\∀x∈cz st k L,0<=x.id/\x.id<=15/\Y x.b0<=192
 |[],k,_,_=>by simp[cz]
 |n::L,k,h,hl=>by rw[fS] at hl;obtain⟨u,g⟩:=Hs L (k+1) (λi hi=>by have:=h (i+1) (by simp;omega);rwa [vM] at this) aa;have h0:=h 0 aq;rw[As] at h0;rw[cz];refine⟨?_,λx d=>?_⟩;rw[dB,fS];split;simp;omega;split<;>simp<;>omega;rcases cG.1 d with d|d;split at d;(have:x=⟨k,J,[]⟩:=by simpa using d);subst this;simp;omega;split at d;rename_i o;(have:x=⟨k,U,a6 st n⟩:=by simpa using d);subst this;have:=h0 o;simp;omega;cases d;exact g x d
def afP (G:Gr)(f:Nat)(x:cB):wl G f x≠[]:=by cases f<;>simp[wl]
def aa5 {st:ae}(h:FS st t):∃f,pI st t=C f/\afO f:=by
 obtain⟨G,l,q,u,A⟩:=h;obtain⟨d,hd,K⟩:=rV A;obtain⟨w,v⟩:=u.bj;obtain⟨r,hr,F⟩:=A.bU;have Z:=u.tr.mn;have hr0:=u.lt hr;have E:o1 0 [47]:=⟨[],aq,aq,rfl⟩;have cg:=Dg A (f:=146) aa [47] E;have g:∀k e,G k=C e->(bj st t).getD k aK=e.n:=λk e B=>by rw[v,B];rfl
 have o:walk st (bj st t) 146 ⟨[47],0⟩ []=([]++wl G 146 ⟨[47],0⟩,J):=by apply Dh A hd K;intro k e B;have:=u.lt B;omega;intro k e B;rw[g k e B];intro k;have:=u.bc k;rw[u.ju] at this;rwa[v];show 17<=146+_;omega;decide;exact⟨r,hr⟩;simpa using cg
 rw[kG] at o;have y:=Hr A 146 0 ⟨[47],0⟩ cx ⟨r,hr⟩ E;have Q:ja st (wl G 146 ⟨[47],0⟩) 0 (bj st t)=J:=by
  apply xb;intro i hi;rw[kz];cases z:G i with
  |none=>(have:(bj st t).getD i aK=aK:=by rw[v,z];rfl);rw[this];exact⟨λh=>absurd rfl h,λh=>by cases h⟩
  |some e=>rw[g i e z];refine⟨λ_=>?_,λD=>(u.file z D).1⟩;rw[<-rX A (f:=146) aa i e z];have:=Df G i 146 ⟨[47],0⟩;rw[show(⟨[47],0⟩:cB).id.toNat=0 from rfl] at this;rw[<-this];unfold gT cF;rw[KX];congr 2;apply Rt;intro x V;have:=(y x V).1.1;rw[tT];omega
 have S:¬(bj st t=[]\/((bj st t).headD aK).kind≠2):=by
  have h0:=g 0 r hr;rintro(hc|hc);rw[hc] at w;simp at w;omega;have:(bj st t).headD aK=r.n:=by rw[<-h0];cases bj st t<;>rfl
  rw[this] at hc;exact hc F
 have N:fO st t=C (wl G 146 ⟨[47],0⟩):=by unfold fO;rw[af (by rw[u.table];simp)];simp only;rw[af S,o];simp only;rw[ai Q]
 refine⟨⟨wl G 146 ⟨[47],0⟩,cz st 0 (bj st t)⟩,by unfold pI;rw[N],?_⟩;obtain⟨ht1,T⟩:=Hs (st:=st) (bj st t) 0 (λi hi D=>by
  cases z:G i with
  |none=>(have:(bj st t).getD i aK=aK:=by rw[v,z];rfl);rw[this] at D;cases D
  |some e=>rw[g i e z] at D⊢;exact(u.file z D).2) aa
 refine⟨afP _ _ _,?_,cg,by show(cz st 0 (bj st t)).length<=16;omega,λx V=>?_,T⟩;show cz st 0 (bj st t)≠[];have h0:=g 0 r hr;cases hn:bj st t with
 |nil=>rw[hn] at w;simp at w;omega
 |cons n L=>rw[hn,As] at h0;rw[cz,h0,ai F];simp
 obtain⟨⟨X,e,B⟩,W⟩:=y x V;have:=A.lt B;rw[kz] at W;exact⟨W,X,aa⟩
end
section
variable {l:cc}
def Di:∀(f:Nat)(st:ae)(l out o:cc),pG f st l out=C o->Y o<=Y out+f
 |0,_,_,_,_,h=>by cases h
 |f+1,st,[],out,o,h=>by cases h;omega
 |f+1,st,p::l,out,o,h=>by rw[pG] at h;split at h;have:=Di f _ _ _ _ h;omega;have:=Di f _ _ _ _ h;rw[dB] at this;simp only[fS,jm] at this;omega
def Ug (h:qk st t l q):∃o,pG 200 st [t.bU] []=C o/\Y o<=200/\o.Perm (cD l q):=by
 have d:=Jw h;obtain⟨a,u,v⟩:=h.lv;have hd:=eE t.many;obtain⟨c,D,h3,z,w⟩:=Jv t.depth.toNat [t.bU] u (λp d hh=>h.l0 p (by rw[v];simp[d]) hh);have hc:c<=125:=by refine' zaZ
 have:=w (200-c) [] [];rw[show c+(200-c)=(199-c)+(c+1) by omega,fT] at this;obtain⟨g,y⟩:∃g,200-c=g+1:=⟨199-c,aa⟩;rw[y,pG] at this;rw[show(199-c)+(c+1)=200 by omega] at this;refine⟨_,this,?_,?_⟩;have:=Di _ _ _ _ _ this;simpa using this;unfold wL at d;rwa[this] at d
def qG.all {G:Gr}(h:qG st t G l q){k:Nat}{e:NE}(g:G k=C e):∃o,pG 200 st [((Go.Pl.ju st t k).getD aK).aO.bU] []=C o/\Y o<=1000/\∀p∈o,aQ p=J:=by
 obtain⟨R,y⟩:=h.JK g;obtain⟨ln,B,A,d⟩:=((h.bD k).some g).2;have u:qk st e.n.aO ln B:=by obtain⟨_,d⟩|d:=d;exact d.tr;exact d.tr
 obtain⟨o,v,D,w⟩:=Ug u;refine⟨o,?_,aa,λp z=>?_⟩;rw[h.ju k,g];exact v;have hm:p∈e.Q++R:=im _ (by rw[A];exact w.mem_iff.1 z);have:=(y.lv p hm).1;unfold fits at this;simp only[ep] at this;exact this.1.1.1
end
end Go.Pg
namespace Go.Ev
open Go
variable {P:Program}{f:FuncId}
def LR.ground {A:Nat->Prop}{ρ:iw}{l l':aV}(h:LR A ρ l l')(a:∀x∈l,∀ρ,bZ ρ x=x):l'=l:=by rw[<-h.self];exact(qo λx b=>a x b ρ).trans (Cf _)
def yx {h:wD}(Z:∀args s v s',h args s=C (v,s')->s'=s/\(∀ρ,bZ ρ v=v)/\(∀x∈args,∀ρ,bZ ρ x=x)/\∀w,js P f ⟨args⟩ w λv' w'=>v'=v/\Fr w w' λ_=>False):nT P f h:=by intro args s v s' e;obtain⟨rfl,hv,ha,hc⟩:=Z args s v s' e;refine⟨ay.refl _,λX A ρ w a b d hl=>?_⟩;have:=hl.ground ha;subst this;refine(hc w).mono λv' w' ⟨c,hf⟩=>?_;subst c;exact⟨ρ,VR.ground hv,Good.Pd b.st b.dr rfl rfl hf⟩
def run_pure {call:gw}(k:dW P call){args:aV}{n:Nat}{v:Value}{j:St}(hn:16<=n)(hc:call f args ⟨.nil,n,0,0⟩=C (v,j))(hv:∀ρ,bZ ρ v=v)(ha:∀x∈args,∀ρ,bZ ρ x=x)(w:World):js P f ⟨args⟩ w λv' w'=>v'=v/\Fr w w' λ_=>False:=by obtain⟨e,l⟩:=k _ _ _ _ _ hc;have a:∀b,(⟨.nil,n,0,0⟩:St).heap.get b=O:=λb=>rfl;have:=l (λb=>In j.cC b) (λi=>i<n) (λi=>(i,0,0)) w args ⟨λi hi=>hi,λb _=>a b,λb hb=>hb,⟨λb o _ h=>(by have c:=(a b).symm.trans h;cases c),λb b' o o' _ _ h=>(by have c:=(a b).symm.trans h;cases c)⟩⟩ (λg e=>⟨vF e hn,rfl⟩) (λer _=>(qo λx m=>ha x m er).trans (Cf _));refine this.mono λv' w' ⟨er,c,d⟩=>⟨?_,d.gm.os,d.gm.tape,d.gm.output,d.gm.size,λr hr _=>d.gm.block r hr ?_⟩;rw[<-c.self];exact hv _;rintro⟨b,o,_,_,h,_⟩;rw[a] at h;cases h
end Go.Ev
namespace Go.Proofs
open Go Go.Ev
noncomputable def T.mk {α:Type}(d:Nat):(Nat->Option α)->T α:=Nat.rec (λ_=>.nil) (λ_ ih g=>.node (g 0) (ih λn=>g (2*n+1)) (ih λn=>g (2*n+2))) d
def T.JL {α:Type}(x:α):∀(d n:Nat)(g:Nat->Option α),(T.mk d g).get n=C x->g n=C x
 |0,_,_,h=>by cases h
 |d+1,n,g,h=>by rw[show T.mk (d+1) g= .node (g 0) (T.mk d λn=>g (2*n+1)) (T.mk d λn=>g (2*n+2)) from rfl,T.oC] at h;split at h;subst n;exact h;split at h;have:=T.JL x d _ _ h;rwa [show 2*(n/ 2)+1=n by omega] at this;have:=T.JL x d _ _ h;rwa [show 2*(n/ 2-1)+2=n by omega] at this
abbrev n_d {α:Type}(x:α)(l r:T α):T α:=.node (C x) l r
abbrev n_l {α:Type}:T α:=.nil
open Tryz
noncomputable def fnT:T Func:=T.mk 9 λn=>bif ble 3 n then prog.funcs[n]? else O
noncomputable def tyT:T TypeInfo:=T.mk 9 λn=>prog.types[n]?
noncomputable def aZ:hJ:=⟨fnT,tyT,110,[(31,[0,0,0,0,0]),(48,[1,0]),(50,[0,2,1])],[]⟩
noncomputable def aW:fb:=⟨170,290,267,99999,5,[(88,WT 89),(91,Ph 92),(151,CO),(108,Jd),(270,Pj),(99,WU 9),(257,WV 5),(146,Je 5 1)]⟩
end Go.Proofs
namespace Go.Proofs
open Go Go.Ev Go.Lg
instance:ie aZ 3 1:=⟨by kernel_rfl⟩
instance:j7 aZ 3:=jn bV
instance:yg aZ 3 .i64:=⟨by kernel_rfl⟩
instance:ie aZ 4 1:=⟨by kernel_rfl⟩
instance:j7 aZ 4:=jn bV
instance:WY aZ 4:=⟨by kernel_rfl⟩
instance:ie aZ 5 1:=⟨by kernel_rfl⟩
instance:j7 aZ 5:=jn bV
instance:yg aZ 5 .u8:=⟨by kernel_rfl⟩
instance:ie aZ 9 1:=⟨by kernel_rfl⟩
instance:j7 aZ 9:=jn bV
instance:yf aZ 9:=⟨by kernel_rfl⟩
instance:ie aZ 22 1:=⟨by kernel_rfl⟩
instance:j7 aZ 22:=jn bV
instance XI:oV aZ 22 5 1 [.int .u8 0]:=nW bV
instance:ky aZ 22 5 1:=mf XI
instance:ie aZ 23 1:=⟨by kernel_rfl⟩
instance:j7 aZ 23:=jn bV
instance XJ:oV aZ 23 9 1 [.string ⟨⟨[]⟩⟩]:=nW bV
instance:ky aZ 23 9 1:=mf XJ
instance:ie aZ 24 1:=⟨by kernel_rfl⟩
instance:j7 aZ 24:=jn bV
instance:pL aZ 24 [.slice O 0 0]:=jy bV
instance XK:oV aZ 24 3 1 [.int .i64 0]:=nW bV
instance:ky aZ 24 3 1:=mf XK
instance:ie aZ 26 2:=⟨by kernel_rfl⟩
instance:vL aZ 26 2:=qX bV
instance:pL aZ 26 [.slice O 0 0,.slice O 0 0]:=jy bV
instance:lK aZ 26 [(0,1),(1,1)] [.slice O 0 0,.slice O 0 0]:=jz bV
instance:iA aZ 26 0 0:=di bV
instance:iA aZ 26 1 1:=di bV
instance:ie aZ 27 1:=⟨by kernel_rfl⟩
instance:j7 aZ 27:=jn bV
instance XL:oV aZ 27 31 5 [.int .i64 0,.int .i64 0,.int .i64 0,.int .i64 0,.int .i64 0]:=nW bV
instance:ky aZ 27 31 5:=mf XL
instance:ie aZ 29 8:=⟨by kernel_rfl⟩
instance:vL aZ 29 8:=qX bV
instance:pL aZ 29 [.slice O 0 0,.slice O 0 0,.slice O 0 0,.int .i64 0,.slice O 0 0,.int .i64 0,.slice O 0 0,.bool U]:=jy bV
instance:lK aZ 29 [(0,1),(1,2),(3,1),(4,1),(5,1),(6,1),(7,1)] [.slice O 0 0,.slice O 0 0,.slice O 0 0,.int .i64 0,.slice O 0 0,.int .i64 0,.slice O 0 0,.bool U]:=jz bV
instance:iA aZ 29 0 0:=di bV
instance:iA aZ 29 1 1:=di bV
instance:iA aZ 29 2 3:=di bV
instance:iA aZ 29 3 4:=di bV
instance:iA aZ 29 4 5:=di bV
instance:iA aZ 29 5 6:=di bV
instance:iA aZ 29 6 7:=di bV
instance:ie aZ 31 5:=⟨by kernel_rfl⟩
instance:vL aZ 31 5:=qX bV
instance:pL aZ 31 [.int .i64 0,.int .i64 0,.int .i64 0,.int .i64 0,.int .i64 0]:=jy bV
instance:lK aZ 31 [(0,1),(1,1),(2,1),(3,1),(4,1)] [.int .i64 0,.int .i64 0,.int .i64 0,.int .i64 0,.int .i64 0]:=jz bV
instance:iA aZ 31 0 0:=di bV
instance:iA aZ 31 1 1:=di bV
instance:iA aZ 31 2 2:=di bV
instance:iA aZ 31 3 3:=di bV
instance:iA aZ 31 4 4:=di bV
instance:ie aZ 33 7:=⟨by kernel_rfl⟩
instance:vL aZ 33 7:=qX bV
instance:pL aZ 33 [.int .i64 0,.int .i64 0,.int .i64 0,.int .i64 0,.int .i64 0,.int .i64 0,.int .i64 0]:=jy bV
instance:lK aZ 33 [(0,5),(5,1),(6,1)] [.int .i64 0,.int .i64 0,.int .i64 0,.int .i64 0,.int .i64 0,.int .i64 0,.int .i64 0]:=jz bV
instance:iA aZ 33 0 0:=di bV
instance:iA aZ 33 1 5:=di bV
instance:iA aZ 33 2 6:=di bV
instance:ie aZ 36 1:=⟨by kernel_rfl⟩
instance:j7 aZ 36:=jn bV
instance:pL aZ 36 [.slice O 0 0]:=jy bV
instance acJ:oV aZ 36 48 2 [.string ⟨⟨[]⟩⟩,.int .i64 0]:=nW bV
instance:ky aZ 36 48 2:=mf acJ
instance:ie aZ 37 1:=⟨by kernel_rfl⟩
instance:j7 aZ 37:=jn bV
instance acK:oV aZ 37 50 3 [.int .i64 0,.bool U,.string ⟨⟨[]⟩⟩]:=nW bV
instance:ky aZ 37 50 3:=mf acK
instance:ie aZ 39 2:=⟨by kernel_rfl⟩
instance:vL aZ 39 2:=qX bV
instance:pL aZ 39 [.slice O 0 0,.slice O 0 0]:=jy bV
instance:lK aZ 39 [(0,1),(1,1)] [.slice O 0 0,.slice O 0 0]:=jz bV
instance:iA aZ 39 0 0:=di bV
instance:iA aZ 39 1 1:=di bV
instance:ie aZ 48 2:=⟨by kernel_rfl⟩
instance:vL aZ 48 2:=qX bV
instance:pL aZ 48 [.string ⟨⟨[]⟩⟩,.int .i64 0]:=jy bV
instance:lK aZ 48 [(0,1),(1,1)] [.string ⟨⟨[]⟩⟩,.int .i64 0]:=jz bV
instance:iA aZ 48 0 0:=di bV
instance:iA aZ 48 1 1:=di bV
instance:ie aZ 50 3:=⟨by kernel_rfl⟩
instance:vL aZ 50 3:=qX bV
instance:pL aZ 50 [.int .i64 0,.bool U,.string ⟨⟨[]⟩⟩]:=jy bV
instance:lK aZ 50 [(0,1),(1,1),(2,1)] [.int .i64 0,.bool U,.string ⟨⟨[]⟩⟩]:=jz bV
instance:iA aZ 50 0 0:=di bV
instance:iA aZ 50 1 1:=di bV
instance:iA aZ 50 2 2:=di bV
instance:ie aZ 67 10:=⟨by kernel_rfl⟩
instance:vL aZ 67 10:=qX bV
instance:pL aZ 67 [.int .i64 0,.int .i64 0,.int .i64 0,.int .i64 0,.int .i64 0,.int .i64 0,.int .i64 0,.int .i64 0,.int .i64 0,.int .i64 0]:=jy bV
instance:lK aZ 67 [(0,1),(1,1),(2,1),(3,7)] [.int .i64 0,.int .i64 0,.int .i64 0,.int .i64 0,.int .i64 0,.int .i64 0,.int .i64 0,.int .i64 0,.int .i64 0,.int .i64 0]:=jz bV
instance:iA aZ 67 0 0:=di bV
instance:iA aZ 67 1 1:=di bV
instance:iA aZ 67 2 2:=di bV
instance:iA aZ 67 3 3:=di bV
instance:ie aZ 68 1:=⟨by kernel_rfl⟩
instance:j7 aZ 68:=jn bV
instance:j7 aZ 69:=jn bV
instance:j7 aZ 70:=jn bV
instance XM:oV aZ 70 68 1 [.pointer O]:=nW bV
instance:ky aZ 70 68 1:=mf XM
instance:j7 aZ 71:=jn bV
instance:iA aZ 73 0 0:=di bV
instance:iA aZ 73 2 8:=di bV
instance:iA aZ 73 3 9:=di bV
instance:lK aZ 84 [(0,1),(1,1)] [.slice O 0 0,.int .i64 0]:=jz bV
instance:iA aZ 84 0 0:=di bV
instance:iA aZ 84 1 1:=di bV
instance acL:oV aZ 90 67 10 [.int .i64 0,.int .i64 0,.int .i64 0,.int .i64 0,.int .i64 0,.int .i64 0,.int .i64 0,.int .i64 0,.int .i64 0,.int .i64 0]:=nW bV
instance:ky aZ 90 67 10:=mf acL
instance acM:oV aZ 98 100 2 [.string ⟨⟨[]⟩⟩,.int .i64 0]:=nW bV
instance:ky aZ 98 100 2:=mf acM
instance:ie aZ 100 2:=⟨by kernel_rfl⟩
instance:vL aZ 100 2:=qX bV
instance:pL aZ 100 [.string ⟨⟨[]⟩⟩,.int .i64 0]:=jy bV
instance:lK aZ 100 [(0,1),(1,1)] [.string ⟨⟨[]⟩⟩,.int .i64 0]:=jz bV
instance:iA aZ 100 0 0:=di bV
instance:iA aZ 100 1 1:=di bV
instance:ie aZ 108 1:=⟨by kernel_rfl⟩
instance:j7 aZ 108:=jn bV
instance:ie aZ 110 2:=⟨by kernel_rfl⟩
instance:pL aZ 110 [.pointer O,.slice O 0 0]:=jy bV
instance:iA aZ 110 0 0:=di bV
instance:iA aZ 110 1 1:=di bV
instance XN:oV aZ 129 134 5 [.int .i64 0,.string ⟨⟨[]⟩⟩,.string ⟨⟨[]⟩⟩,.int .i64 0,.string ⟨⟨[]⟩⟩]:=nW bV
instance:ky aZ 129 134 5:=mf XN
instance:ie aZ 134 5:=⟨by kernel_rfl⟩
instance:vL aZ 134 5:=qX bV
instance:pL aZ 134 [.int .i64 0,.string ⟨⟨[]⟩⟩,.string ⟨⟨[]⟩⟩,.int .i64 0,.string ⟨⟨[]⟩⟩]:=jy bV
instance:lK aZ 134 [(0,1),(1,1),(2,1),(3,1),(4,1)] [.int .i64 0,.string ⟨⟨[]⟩⟩,.string ⟨⟨[]⟩⟩,.int .i64 0,.string ⟨⟨[]⟩⟩]:=jz bV
instance:iA aZ 134 0 0:=di bV
instance:iA aZ 134 1 1:=di bV
instance:iA aZ 134 2 2:=di bV
instance:iA aZ 134 3 3:=di bV
instance:iA aZ 134 4 4:=di bV
instance:yg aZ 176 .u64:=⟨by kernel_rfl⟩
instance:lK aZ 181 [(0,8),(8,7),(15,1)] [.slice O 0 0,.slice O 0 0,.slice O 0 0,.int .i64 0,.slice O 0 0,.int .i64 0,.slice O 0 0,.bool U,.int .i64 0,.int .i64 0,.int .i64 0,.int .i64 0,.int .i64 0,.int .i64 0,.int .i64 0,.bool U]:=jz bV
instance:iA aZ 181 0 0:=di bV
instance:iA aZ 181 1 8:=di bV
instance:iA aZ 181 2 15:=di bV
instance:j7 aZ 240:=jn bV
instance XO:oV aZ 241 240 1 [.pointer O]:=nW bV
instance:ky aZ 241 240 1:=mf XO
instance:Pw aZ 68:=⟨67,by kernel_rfl⟩
instance:RW aZ 75 (iv 0):=⟨3,3,.i64,by kernel_rfl,by kernel_rfl,by kernel_rfl⟩
instance:He aZ 76 (iv 0):=⟨9,3,by kernel_rfl,by kernel_rfl,by kernel_rfl⟩
instance:He aZ 77 (.bool U):=⟨9,4,by kernel_rfl,by kernel_rfl,by kernel_rfl⟩
instance:Pw aZ 78:=⟨50,by kernel_rfl⟩
instance:Pw aZ 108:=⟨110,by kernel_rfl⟩
instance:TEq aZ 31 [0,0,0,0,0]:=⟨cx⟩
instance:TEq aZ 48 [1,0]:=⟨cx⟩
instance:TEq aZ 50 [0,2,1]:=⟨cx⟩
end Go.Proofs
namespace Go.Pl
open Go Go.Ev Go.Lg Go.Proofs
def nA (p:fm):aV:=[iv p.row,iv p.bE,iv p.size,iv p.sum,iv p.level]
def eN (t:bt):aV:=[iv t.bU.row,iv t.bU.bE,iv t.bU.size,iv t.bU.sum,iv t.bU.level,iv t.depth,iv t.many]
def jg (n:dX):aV:=[iv n.kind,iv n.aX,iv n.size,iv n.aO.bU.row,iv n.aO.bU.bE,iv n.aO.bU.size,iv n.aO.bU.sum,iv n.aO.bU.level,iv n.aO.depth,iv n.aO.many]
def Dj (e:az):aV:=[sv e.name,iv e.id]
def xc (e:cB):aV:=[sv e.ar,iv e.id]
def JM (e:eF):aV:=[iv e.id,M e.ej,sv e.b0]
def PM (o:Op):aV:=[iv o.kind,sv o.ar,sv o.dF,iv o.bD,sv o.b0]
def pv (p:fm):Value:=.agg ⟨nA p⟩
def tv (t:bt):Value:=.agg ⟨eN t⟩
def nv (n:dX):Value:=.agg ⟨jg n⟩
def ov (o:Op):Value:=.agg ⟨PM o⟩
instance:au aw 1:=⟨λs=>[sv s],[],λ_=>rfl,λs v h=>by simp at h;subst h;rfl,aa⟩
instance:au Int 1:=⟨λs=>[iv s],0,λ_=>rfl,λs v h=>by simp at h;subst h;rfl,aa⟩
instance:au UInt8 1:=⟨λs=>[bv s],0,λ_=>rfl,λs v h=>by simp at h;subst h;rfl,aa⟩
instance:au fm 5:=⟨nA,bp,λ_=>rfl,λs v h=>by simp[nA] at h;obtain rfl|rfl|rfl|rfl|rfl:=h<;>rfl,aa⟩
instance:au az 2:=⟨Dj,⟨[],0⟩,λ_=>rfl,λs v h=>by simp[Dj] at h;obtain rfl|rfl:=h<;>rfl,aa⟩
instance:au cB 2:=⟨xc,⟨[],0⟩,λ_=>rfl,λs v h=>by simp[xc] at h;obtain rfl|rfl:=h<;>rfl,aa⟩
instance:au eF 3:=⟨JM,⟨0,U,[]⟩,λ_=>rfl,λs v h=>by simp[JM] at h;obtain rfl|rfl|rfl:=h<;>rfl,aa⟩
instance:au dX 10:=⟨jg,aK,λ_=>rfl,λs v h=>by simp[jg] at h;obtain rfl|rfl|rfl|rfl|rfl|rfl|rfl|rfl|rfl|rfl:=h<;>rfl,aa⟩
instance:au Op 5:=⟨PM,⟨0,[],[],0,[]⟩,λ_=>rfl,λs v h=>by simp[PM] at h;obtain rfl|rfl|rfl|rfl|rfl:=h<;>rfl,aa⟩
instance:TT aZ 23 9 1 aw inferInstance:=⟨_,XJ,[],rfl⟩
instance:TT aZ 24 3 1 Int inferInstance:=⟨_,XK,(0:Int),rfl⟩
instance:TT aZ 22 5 1 UInt8 inferInstance:=⟨_,XI,(0:UInt8),rfl⟩
instance:TT aZ 27 31 5 fm inferInstance:=⟨_,XL,bp,rfl⟩
instance:TT aZ 36 48 2 cB inferInstance:=⟨_,acJ,(⟨[],0⟩:cB),rfl⟩
instance:TT aZ 37 50 3 eF inferInstance:=⟨_,acK,(⟨0,U,[]⟩:eF),rfl⟩
instance:TT aZ 129 134 5 Op inferInstance:=⟨_,XN,(⟨0,[],[],0,[]⟩:Op),rfl⟩
instance:TT aZ 90 67 10 dX inferInstance:=⟨_,acL,aK,rfl⟩
instance:TT aZ 98 100 2 az inferInstance:=⟨_,acM,(⟨[],0⟩:az),rfl⟩
instance:TD aZ 23 1 aw inferInstance []:=⟨_,_,XJ,rfl⟩
instance:TD aZ 24 1 Int inferInstance 0:=⟨_,_,XK,rfl⟩
instance:TD aZ 22 1 UInt8 inferInstance 0:=⟨_,_,XI,rfl⟩
instance:TD aZ 27 5 fm inferInstance bp:=⟨_,_,XL,rfl⟩
@[simp] def ahg:(au.ad (α:=aw) (sz:=1))=[]:=rfl
@[simp] def ahh:(au.ad (α:=Int) (sz:=1))=0:=rfl
@[simp] def aih:(au.ad (α:=UInt8) (sz:=1))=0:=rfl
@[simp] def ahi:(au.ad (α:=fm) (sz:=5))=bp:=rfl
@[simp] def aeT:(au.ad (α:=az) (sz:=2))=⟨[],0⟩:=rfl
@[simp] def aeU:(au.ad (α:=cB) (sz:=2))=⟨[],0⟩:=rfl
@[simp] def aeV:(au.ad (α:=eF) (sz:=3))=⟨0,U,[]⟩:=rfl
@[simp] def afQ:(au.ad (α:=dX) (sz:=10))=aK:=rfl
@[simp] def aii:(au.ad (α:=Op) (sz:=5))=⟨0,[],[],0,[]⟩:=rfl
abbrev bM:=@jA aZ aW
abbrev Ht:=@eJ aZ aW
variable {P:Prop}
structure Hid (P:Prop):Prop where
 out:P
def W.afR {E:hJ}{X:fb}{Γ:ng}{l:Kn}{L:List It}{Q:CR}{id:Nat}{aE:List Oper}(h:∀nx,(∀y∈L,∀i∈y.bC,i<nx)->Γ.s0.next<=nx->Hid (L.flatMap It.bC).Nodup->WD E X Γ aE aE 0 [] nx l L (Q .normal)):W E X Γ (.region id ⟨aE⟩ J) l L Q:=λe s d c=>W.draw (λnx a b=>h nx a b ⟨c.nd⟩) e s d c
def Mb {A:List Nat}{n n' mask:Nat}{seen:List Sn}{P:Prop}{k:Nat}{a:Fp}(h:kO n mask (λi=>i∈A\/i∈([]:List It).flatMap It.bC\/(n<=i/\i<n')) (λi=>i∈([]:List It).flatMap It.bC\/(n<=i/\i<n')) seen/\P):
  kO n mask (λi=>i∈A\/i∈([]:List It).flatMap It.bC\/(n<=i/\i<n')) (λi=>i∈([]:List It).flatMap It.bC\/(n<=i/\i<n')) (⟨k,a,Z⟩::seen)/\P:=
 ⟨⟨.inr ⟨λ_ _ h=>h.elim,λb hb _ c=>by simp at c;omega⟩,h.1⟩,h.2⟩
def Dk (h:P:=by first|(exfalso;omega;done)|contradiction|(exfalso;simp_all;done)|fail):P:=h
def z_2 (h:P:=by first|(exfalso;omega;done)|contradiction|(exfalso;simp_all;done)|(exfalso;simp_all;omega)|fail):P:=h
def z_3 (h:P:=by first|(exfalso;omega;done)|fail):P:=h
def PN (h:P:=by first|(exfalso;omega;done)|contradiction|fail):P:=h
def bN (h:P:=by first|(first|exact Ev.tmp rfl|exact Ev.const|exact Ev.func);done|fail):P:=h
def aj (h:P:=by first|(repeat(first|exact iu.nil|(apply iu.cons;exact bN)));done|fail):P:=h
def nI (h:P:=by first|(repeat(first|exact EvE.nil|(apply EvE.cons;exact bN;exact rfl)));done|fail):P:=h
def kD (h:P:=by first|(repeat(first|exact ed|apply dI));done|fail):P:=h
def Bn (h:P:=by first|(repeat(first|exact Bm.here|apply Bm.there));done|fail):P:=h
def FO (h:P:=by first|(repeat(first|exact CT.here|apply CT.there));done|fail):P:=h
def bd (h:P:=by first|(repeat(first|exact Le.nil _|refine Le.cons (by exact rfl) ?_));done|fail):P:=h
def ak (h:P:=by first|(repeat(first|exact cb.nil _|refine cb.cons (by(repeat(first|exact Bm.here|apply Bm.there))) ?_));done|fail):P:=h
def ax (h:P:=by first|(first|exact ga.rd aT|exact ga.aU (by(repeat(first|exact ed|apply dI)))|exact ga.ah9 aT (by(repeat(first|exact ed|apply dI)))|exact ga.box (by(repeat(first|exact ed|apply dI))) rfl (by first|rfl|(rw[bn];done)|simp));done|fail):P:=h
def dO (h:P:=by first|(exact cJ.mk ax ax ax);done|fail):P:=h
def cK (h:P:=by first|(repeat(first|exact l3.nil|(apply l3.cons;exact Bn)));done|fail):P:=h
def mv (h:P:=by first|(first|omega|(simp only[dB,fS,jm];omega)|(simp;done)|(simp;omega)|(simp at *;omega));done|fail):P:=h
def bH (h:P:=by first|(repeat(first|exact AE.nil|(apply AE.tmp;exact rfl)|(apply AE.cell;(focus infer_instance);exact rfl;(focus(repeat(first|exact ed|apply dI)));exact rfl)|(apply AE.acF;(focus infer_instance);exact rfl;(focus(repeat(first|exact ed|apply dI)));exact rfl)));done|fail):P:=h
def Dl (h:P:=by first|(exact R9.mk ax ax);done|fail):P:=h
def tj (h:P:=by first|(exact Mc.mk ax (cJ.mk ax ax ax));done|fail):P:=h
def acN (h:P:=by first|(exact aa6.mk (cJ.mk ax ax ax) ax ax);done|fail):P:=h
def bK (h:P:=by first|(first|exact .inl rfl|exact .inr rfl);done|fail):P:=h
def qac (h:P:=by first|(intro b_ _ h1_ Bo;(try dsimp only[iI,iJ] at h1_ Bo);first|exact h1_.elim|exact Bo.elim|omega|(simp only[k6,vH,s9,k7,ah,gI] at h1_ Bo;omega)|((first|have XP:=Rd.lt aT _ Bo|have XP:=qI.lt aT _ Bo);dsimp only at XP;(try simp only[k6,vH,s9,k7,ah,gI] at h1_);omega)|((first|have XP:=Rd.lt aT _ h1_|have XP:=qI.lt aT _ h1_);dsimp only at XP;(try simp only[k6,vH,s9,k7,ah,gI] at Bo);omega)|(have tD:=mU.out;(try dsimp only[kE,db,List.append,List.cons_append,List.nil_append] at tD);(try simp only[mR,vH,It.bC,jV,qp,jk,kG,fT,tM,vD,cA,cG,not_or,k6,k7,tS,ta,tQ,tA] at tD);first|(simp only[k6,vH,s9,k7,ah,gI] at h1_ Bo;omega)|(subst h1_;first|(exact absurd Bo (by simp only[tD,tS]))|(simp_all;done))|(subst Bo;first|(exact absurd h1_ (by simp only[tD,tS]))|(simp_all;done))|(simp_all;done))|(rcases Bo with Bo|Bo<;>first|((first|have XP:=Rd.lt aT _ Bo|have XP:=qI.lt aT _ Bo);dsimp only at XP;(try simp only[k6,mR,vH,fT,qp,It.bC,s9,k7,ah,gI,cA] at h1_);omega)|((try simp only[k6,mR,vH,fT,qp,It.bC,s9,k7,ah,gI,cA] at h1_ Bo);omega)|(have tD:=mU.out;(try dsimp only[kE,db,jI,q5,List.append,List.cons_append,List.nil_append] at tD);(try simp only[mR,vH,It.bC,jV,qp,jk,kG,fT,tM,vD,cA,cG,not_or,k6,k7,tS,ta,tQ,tA] at tD);(try simp only[k6,mR,vH,fT,qp,It.bC,s9,k7,ah,gI,cA] at h1_ Bo);first|omega|(subst h1_;simp_all;done)|(subst Bo;simp_all;done)))|(rcases h1_ with h1_|h1_<;>first|((first|have XP:=Rd.lt aT _ h1_|have XP:=qI.lt aT _ h1_);dsimp only at XP;(try simp only[k6,mR,vH,fT,qp,It.bC,s9,k7,ah,gI,cA] at Bo);omega)|((try simp only[k6,mR,vH,fT,qp,It.bC,s9,k7,ah,gI,cA] at h1_ Bo);omega)|(have tD:=mU.out;(try dsimp only[kE,db,jI,q5,List.append,List.cons_append,List.nil_append] at tD);(try simp only[mR,vH,It.bC,jV,qp,jk,kG,fT,tM,vD,cA,cG,not_or,k6,k7,tS,ta,tQ,tA] at tD);(try simp only[k6,mR,vH,fT,qp,It.bC,s9,k7,ah,gI,cA] at h1_ Bo);first|omega|(subst h1_;simp_all;done)|(subst Bo;simp_all;done))));done|fail):P:=h
def aC (h:P:=by first|refine⟨by(first|exact .inl rfl|exact .inr rfl),_,[],bH,cb.nil _,?_,rfl⟩;all_goals obtain h:=_;exact h|fail):P:=h
def eu (h:P:=by first|apply CY;exact bK;exact bH;exact ak;all_goals obtain h:=_;exact h|fail):P:=h
def acO (h:P:=by first|apply aib;exact bK;exact bH;(focus(first|assumption|exact Sub.all));(focus(first|assumption|exact Part.refl));exact ak;all_goals obtain h:=_;exact h|fail):P:=h
def kT (h:P:=by first|apply ah6;exact bK;exact bH;exact ak;all_goals obtain h:=_;exact h|fail):P:=h
def acP (h:P:=by first|apply oM;exact bK;exact bH;exact ak;all_goals obtain h:=_;exact h|fail):P:=h
def fg (h:P:=by first|apply FP;exact bK;exact bH;exact ak;all_goals obtain h:=_;exact h|fail):P:=h
def acQ (h:P:=by first|apply aij;exact bK;exact bH;exact ak;all_goals obtain h:=_;exact h|fail):P:=h
def XQ (h:P:=by first|apply afS;exact bK;exact bH;exact ak;all_goals obtain h:=_;exact h|fail):P:=h
def acR (h:P:=by first|apply aik;exact bK;exact bH;exact ak;all_goals obtain h:=_;exact h|fail):P:=h
def ad0 (h:P:=by first|apply FP (v':=SA.mk v.r v.rc v.f v.fc v.l v.lc v.g v.gc yy yz);exact bK;exact bH;exact ak;all_goals obtain h:=_;exact h|fail):P:=h
def ad1 (h:P:=by first|apply FP (v':=SA.mk v.r v.rc v.f v.fc v.l v.lc yy yz v.d v.dc);exact bK;exact bH;exact ak;all_goals obtain h:=_;exact h|fail):P:=h
def gL (h:P:=by first|(first|((with_reducible apply gb);exact nI;exact rfl;exact rfl;intro bl _)|((with_reducible apply gb (α:=fm) (xs:=[⟨_,_,_,_,_⟩]));exact nI;exact rfl;exact rfl;intro bl _)|((with_reducible apply gb (α:=az) (xs:=[⟨_,_⟩]));exact nI;exact rfl;exact rfl;intro bl _)|((with_reducible apply gb (α:=cB) (xs:=[⟨_,_⟩]));exact nI;exact rfl;exact rfl;intro bl _)|((with_reducible apply gb (α:=eF) (xs:=[⟨_,_,_⟩]));exact nI;exact rfl;exact rfl;intro bl _)|((with_reducible apply gb (α:=Op) (xs:=[⟨_,_,_,_,_⟩]));exact nI;exact rfl;exact rfl;intro bl _)|((with_reducible apply PO);exact bN;exact bN;exact Bn;exact ax;assumption;(focus(omega;done));intro _ _ yy yz _ _ _)|((with_reducible apply wR);exact bN;exact bN;exact Bn;exact ax;exact mv;intro _ _ yy yz _ _ _)|((with_reducible apply Xe);exact bN;exact bN;exact kD;exact mv;intro _ Md Me Mf PQ)|((with_reducible apply Xf);exact bN;exact bN;exact kD;exact mv;intro _ Md Me Mf PQ)|((with_reducible apply Xg);exact bN;exact bN;exact bN;exact kD;exact mv;intro _ Md Me Mf PQ)|((with_reducible apply Xh);exact bN;exact bN;assumption;assumption;exact kD;exact mv;exact mv;intro _ Md Me Mf PQ)|((with_reducible apply Xi);exact bN;exact bN;assumption;assumption;exact mv;intro _ Md Me Mf)|((with_reducible apply Xj);exact bN;exact bN;assumption;assumption;exact mv;intro _ Md Me Mf));all_goals obtain h:=_;exact h|fail):P:=h
def AG (h:P:=by first|(repeat1' (first|(with_reducible first|refine W.seq ?_|refine W.block ?_|refine W.region ?_|refine aJ ?_|refine eZ ?_|refine WS.nil ?_|refine WD.nil ?_|refine ws ?_|refine ws0 ?_|refine wd ?_|refine wd0 ?_|refine W.skip ?_|refine W.exit ?_|refine W.ret ?_|refine Pn ?_|refine TE ?_|refine Po ?_|refine AF ?_|refine aeW rfl ?_|refine gG ?_|refine TJ ?_|refine Pq ?_|refine afT rfl ?_|refine aaK ?_|refine TG ?_|refine TF ?_|refine LC ?_|refine Pp ?_|refine LB ?_|refine Mb ?_|refine Jm (by decide+kernel) ?_)|((with_reducible refine W.afR ?_);intro nx hold hn_ mU;(try dsimp only at hn_);(try dsimp only[kE,db,List.append,List.cons_append,List.nil_append] at hold);(try simp only[cA,forall_eq_or_imp,k6,false_imp_iff,implies_true,tA,It.bC,gI,forall_eq,jV] at hold))|(intro e_;subst e_)|((with_reducible refine yh ?_ ?_ ?_);exact qac;exact qac)|((with_reducible apply ah2);exact rfl;exact rfl;(focus((first|exact rfl|assumption);done)))|((with_reducible apply ah3);exact rfl;exact rfl;(focus((first|exact rfl|assumption);done)))|((with_reducible apply ah4);exact rfl;exact rfl;(focus((first|exact rfl|assumption);done)))|((with_reducible apply ah5);exact rfl;exact rfl;(focus((first|exact rfl|assumption);done)))|((with_reducible apply ah7);exact rfl;exact rfl)|((with_reducible apply ah8);exact rfl;exact rfl)|((with_reducible apply aaA);exact bN;intro _)|((with_reducible apply Tx);exact bN;intro _)|((with_reducible apply BF);exact bN;exact kD;exact rfl;intro _)|((with_reducible apply uu);exact bN;exact kD;exact rfl;intro _)|((with_reducible apply Uh);exact bN;assumption;exact rfl;intro _)|((with_reducible apply Ui);exact bN;assumption;exact rfl;intro _)|((with_reducible apply Mg);exact bN;intro _)|((with_reducible apply Jk);exact bN;intro _)|((with_reducible apply W7);exact bN;exact bN;exact rfl;exact rfl;exact FO;exact rfl;intro _)|((with_reducible apply Sa);exact bN;exact bN;intro _)|((with_reducible apply Sb);exact bN;exact bN;intro _)|((with_reducible apply Sb (p:=bp));exact bN;exact bN;intro _)|((with_reducible apply Sa (p:=bp));exact bN;exact bN;intro _)|((with_reducible apply Dm);exact bN;exact FO;exact bN;exact mv;intro _)|((with_reducible apply Dm (q:=bp));exact bN;exact FO;exact bN;exact mv;intro _)|((with_reducible apply Uj);exact bN;exact bN;exact FO;exact rfl;exact mv;intro _)|((with_reducible apply aaF);exact bN;intro _)|((with_reducible apply aaG);exact bN;intro _)|((with_reducible apply adL);exact bN;exact bN;intro _)|((with_reducible apply adM);exact bN;exact bN;intro _)|((with_reducible apply adN);exact bN;exact bN;intro _)|((with_reducible apply adO);exact bN;exact bN;intro _)|((with_reducible apply adP);exact bN;exact bN;intro _)|((with_reducible apply adQ);exact bN;exact bN;intro _)|((with_reducible apply aaC);exact bN;exact bN;intro _)|((with_reducible apply aaD);exact bN;exact bN;intro _)|((with_reducible apply ahj);exact bN;exact bN;intro _)|((with_reducible apply aaE);exact bN;exact bN;intro _)|((with_reducible apply aaL);exact bN;exact bN;intro _)|((with_reducible apply aaM);exact bN;exact bN;intro _)|((with_reducible apply adG);exact bN;intro _)|((with_reducible apply Pk);exact bN;exact rfl;intro _)|((with_reducible apply WZ);exact bN;(focus((first|exact rfl|assumption);done));exact bN;intro _)|((with_reducible apply W0);exact bN;(focus((first|exact rfl|assumption);done));exact bN;intro _)|((with_reducible apply CS);exact bN;exact bN;(focus((constructor<;>omega);done));intro _)|((with_reducible apply adH);exact bN;exact bN;(focus((constructor<;>omega);done));intro _)|((with_reducible apply adI);exact bN;exact bN;(focus((constructor<;>omega);done));intro _)|((with_reducible apply aaB);exact bN;exact bN;exact mv;intro _)|((with_reducible apply adJ);exact bN;exact bN;(focus((first|decide|omega);done));(focus((constructor<;>omega);done));intro _)|((with_reducible apply adK);exact bN;exact bN;(focus((first|decide|omega);done));intro _)|((with_reducible apply aaH);exact bN;intro bx _)|((with_reducible apply ahk);exact bN;exact rfl;intro bx _)|((with_reducible apply W4);intro ba _)|((with_reducible apply Hc);exact bN;exact bN;exact mv;intro _)|((with_reducible apply Hd);exact bN;exact bN;exact mv;intro _)|((with_reducible apply vh);exact bN;(focus((first|exact .inl ⟨rfl,rfl⟩|exact .inr ⟨_,_,rfl,.tmp rfl⟩|exact .inr ⟨_,_,rfl,.const⟩);done));(focus((first|exact .inl ⟨rfl,rfl⟩|exact .inr ⟨_,_,rfl,.tmp rfl⟩|exact .inr ⟨_,_,rfl,.const⟩);done));exact mv;exact mv;intro _)|((with_reducible apply Lx);exact bN;exact bN;exact mv;intro _)|((with_reducible apply qY);exact bN;(focus((first|exact(rfl:_=((0:Nat):Int))|exact(rfl:_=((1:Nat):Int))|exact(rfl:_=((2:Nat):Int))|exact(rfl:_=((3:Nat):Int))|exact(rfl:_=((4:Nat):Int))|exact(rfl:_=((5:Nat):Int))|exact(rfl:_=((6:Nat):Int))|exact(rfl:_=((7:Nat):Int)));done));exact ax;exact mv;intro _)|((with_reducible apply pb);exact bN;exact bN;exact ax;exact mv;intro _)|((with_reducible apply FL);exact bN;exact bN;exact ax;exact mv;intro _)|((with_reducible apply TL);exact bN;exact bN;exact mv;intro _)|((with_reducible apply Pr);exact bN;exact bN;exact mv;intro _)|((with_reducible apply Ps);exact bN;exact bN;exact mv;intro _)|((with_reducible apply Pt);exact bN;exact bN;exact bN;exact mv;intro _)|((with_reducible apply FJ);exact bN;exact ax;exact mv;intro _)|((with_reducible apply Ly);exact bN;exact ax;exact mv;exact rfl;intro _)|((with_reducible apply Ty);exact bN;exact ax;exact mv;intro _)|((with_reducible apply ahl);exact bN;exact bN;(focus((constructor<;>omega);done));intro _)|((with_reducible apply aaN);exact bN;exact bN;(focus((constructor<;>omega);done));intro _)|((with_reducible apply Xc);exact bN;(focus((constructor<;>omega);done));intro _)|((with_reducible apply BH);exact bN;(focus((first|exact wrap_u8 _|exact pM (by constructor<;>omega)|exact zu (by constructor<;>omega));done));intro _)|((with_reducible apply adU);(focus(exact λ_=>rfl;done));exact bN;exact ax;intro _)|((with_reducible apply Xb);(focus(exact λ_=>rfl;done));exact bN;exact mv;intro _ _)|((with_reducible apply aaO);exact bN;exact bN;exact mv;intro bm _ _)|((with_reducible apply adS);exact bN;exact bN;intro _)|((with_reducible apply adT);exact bN;exact bN;intro _)|((with_reducible apply TK);(focus((repeat(first|exact W5.nil|(apply W5.cons;exact bN)));done));exact rfl;intro _)|((with_reducible apply T0);exact bN;exact rfl;intro _)|((with_reducible apply Xr);exact bN;exact bN;(focus(omega;done));(focus(omega;done));intro _)|((with_reducible apply aa7);exact bN;exact bN;(focus(omega;done));(focus(omega;done));intro _)|((with_reducible apply T1);exact bN;exact kD;(focus((first|decide|(simp;done)|omega);done));(focus((first|decide|(simp;done)|omega);done));intro _)|((with_reducible apply aaP);exact bN;exact bN;intro _)|((fail_if_success have:=ns_);((with_reducible apply W.afH);exact bN;(focus(first|exact rfl|assumption))))|((fail_if_success have:=ns_);((with_reducible apply W.afI);exact bN;(focus(first|exact rfl|assumption))))|((fail_if_success have:=ns_);(((with_reducible apply wsg);exact rfl;exact rfl)<;>(intro hg;(try(have sN:=hg;simp only[gv,mW,ra,Ch,km,ep,Ci,GC,B8,vO,tK,xK,fI,Int.not_lt,Int.not_le,rj] at sN)))))|((fail_if_success have:=ns_);(((with_reducible apply wdg);exact rfl;exact rfl)<;>(intro hg;(try(have sN:=hg;simp only[gv,mW,ra,Ch,km,ep,Ci,GC,B8,vO,tK,xK,fI,Int.not_lt,Int.not_le,rj] at sN)))))|((fail_if_success have:=ns_);(((with_reducible apply W.cond);exact bN)<;>(intro hc;(try(have ki:=hc;simp only[gv,mW,ra,Ch,km,ep,Ci,GC,B8,vO,tK,xK,fI,Int.not_lt,Int.not_le,rj] at ki)))))|fail));all_goals obtain h:=_;exact h|fail):P:=h
def v7 (h:P:=by first|(have ns_:=True.intro;refine' AG;all_goals clear ns_);all_goals obtain h:=_;exact h|fail):P:=h
def KF (h:P:=by first|apply ag;exact aj;exact λs=>aa8 s _ _ _;intros;all_goals obtain h:=_;exact h|fail):P:=h
def zc3 (h:P:=by first|apply ag;exact aj;exact λs=>XR s _;intros;all_goals obtain h:=_;exact h|fail):P:=h
def PS (h:P:=by first|apply ag;exact aj;(first|exact λs=>Mh s _|exact λs=>Mh s ⟨_,_,_,_,_⟩);intros;all_goals obtain h:=_;exact h|fail):P:=h
def Fq (h:P:=by first|apply ag;exact aj;(first|exact λs=>xe s _|exact λs=>xe s ⟨_,_,_,_,_⟩);intros;all_goals obtain h:=_;exact h|fail):P:=h
def aa9 (h:P:=by first|apply ag;exact aj;exact λs=>Uk s _ aa;intros;all_goals obtain h:=_;exact h|fail):P:=h
def XS (h:P:=by first|apply lp;exact aj;(first|exact λs=>uF s _ 46 aa|exact λs=>uF s _ 44 aa|exact λs=>uF s _ 47 aa|exact λs=>uF s _ 59 aa|exact λs=>uF s _ 61 aa);intro _ _ vo vp _ _;all_goals obtain h:=_;exact h|fail):P:=h
def afU (h:P:=by first|apply ag;exact aj;(first|exact λs=>Hu s _|exact λs=>Hu s ⟨_,_,_,_,_⟩);intros;all_goals obtain h:=_;exact h|fail):P:=h
def afV (h:P:=by first|apply ag;exact aj;exact λs=>Ul s _ aa;intros;all_goals obtain h:=_;exact h|fail):P:=h
def afW (h:P:=by first|apply dG;exact aj;exact λs hr=>JN s _ _ _ aa aT hr;exact ax;intros;all_goals obtain h:=_;exact h|fail):P:=h
def afX (h:P:=by first|apply dG;exact aj;exact λs hr=>Um s _ _ _ aa aT hr;exact ax;intros;all_goals obtain h:=_;exact h|fail):P:=h
def Un (h:P:=by first|apply TO;exact aj;exact λs=>Mi s _ aa aa aT;intro _ _ Dn Dq Mj AH Mk acS acT _ _;all_goals obtain h:=_;exact h|fail):P:=h
def ad2 (h:P:=by first|apply ag;exact aj;exact λs=>Uo s _ aa;intros;all_goals obtain h:=_;exact h|fail):P:=h
def zC (h:P:=by first|apply Jr;(exact Ev.tmp rfl);exact aj;(dsimp only[List.map,List.nil_append,List.append_nil,List.cons_append]);all_goals obtain h:=_;exact h|fail):P:=h
def afY (h:P:=by first|apply dG;exact aj;exact λs hr=>ad3 s _ _ _ aT aa _ hr;exact ax;intros;all_goals obtain h:=_;exact h|fail):P:=h
def ad4 (h:P:=by first|apply ag;exact aj;(first|exact λs=>Ds s _ _ aa|exact λs=>Ds s ⟨_,_,_,_,_⟩ _ aa);intros;all_goals obtain h:=_;exact h|fail):P:=h
def ad5 (h:P:=by first|apply lp;exact aj;exact λs=>PT s _ aa;intro _ _ aeX aeY _ _;all_goals obtain h:=_;exact h|fail):P:=h
def zD (h:P:=by first|apply eV;exact aj;(first|exact λs hr=>Hv s _ _ aT _ aT hr|exact λs hr=>Hv s _ _ aT ⟨_,_,_,_,_⟩ aT hr);exact dO;intros;all_goals obtain h:=_;exact h|fail):P:=h
def aba (h:P:=by first|apply kU;exact aj;(first|exact λs hr=>Dt s _ _ aT _ _ hr|exact λs hr=>Dt s _ _ aT ⟨_,_,_,_,_⟩ _ hr);exact dO;intro _ _ Hw Hx _ _;all_goals obtain h:=_;exact h|fail):P:=h
def afZ (h:P:=by first|apply kU;exact aj;(first|exact λs hr=>uG s _ _ aT _ aT hr|exact λs hr=>uG s _ _ aT ⟨⟨_,_,_,_,_⟩,_,_⟩ aT hr);exact dO;intro _ _ ad6 ad7 _ _;all_goals obtain h:=_;exact h|fail):P:=h
def Du (h:P:=by first|apply n3;exact aj;(first|exact λs hr=>Hy s _ _ aT _ aT hr|exact λs hr=>Hy s _ _ aT ⟨⟨_,_,_,_,_⟩,_,_⟩ aT hr);exact dO;intro _ _ Ml Mm _ _;all_goals obtain h:=_;exact h|fail):P:=h
def XT (h:P:=by first|apply ag;exact aj;exact λs=>PU s _;intros;all_goals obtain h:=_;exact h|fail):P:=h
def PV (h:P:=by first|apply ag;exact aj;(first|exact λs=>Hz s _|exact λs=>Hz s ⟨_,_,_,⟨⟨_,_,_,_,_⟩,_,_⟩⟩);intros;all_goals obtain h:=_;exact h|fail):P:=h
def af0 (h:P:=by first|apply ag;exact aj;(first|exact λs=>Dv s _|exact λs=>Dv s ⟨_,_,_,⟨⟨_,_,_,_,_⟩,_,_⟩⟩);intros;all_goals obtain h:=_;exact h|fail):P:=h
def ad8 (h:P:=by first|apply n3;exact aj;(first|exact λs hr=>Dw s _ _ aT _ aT hr|exact λs hr=>Dw s _ _ aT ⟨⟨_,_,_,_,_⟩,_,_⟩ aT hr);exact dO;intro _ _ gV gW _ _;all_goals obtain h:=_;exact h|fail):P:=h
def ail (h:P:=by first|apply Pz;exact bN;exact ax;exact mv;intro _;all_goals obtain h:=_;exact h|fail):P:=h
def aim (h:P:=by first|apply ag;exact aj;exact λs=>XU s _ aa;intros;all_goals obtain h:=_;exact h|fail):P:=h
def Bp (h:P:=by first|apply Hf;exact bN;exact bN;intro _;all_goals obtain h:=_;exact h|fail):P:=h
def ain (h:P:=by first|apply Py;exact bN;exact bN;exact ax;exact mv;intro _;all_goals obtain h:=_;exact h|fail):P:=h
def uH (h:P:=by first|apply ag;exact aj;exact λs=>vq s _ _ _;intros;all_goals obtain h:=_;exact h|fail):P:=h
def aio (h:P:=by first|apply TZ;exact bN;exact bN;exact kD;exact mv;intro _;all_goals obtain h:=_;exact h|fail):P:=h
def ad9 (h:P:=by first|apply dG;exact aj;(intro s hr;exact hct s hr);exact ax;intros;all_goals obtain h:=_;exact h|fail):P:=h
def aea (h:P:=by first|apply zE;exact aj;(intro s hr hv;exact PW s hr hv);(exact hd);(exact hv);intros;all_goals obtain h:=_;exact h|fail):P:=h
def aip (h:P:=by first|apply ag;exact aj;(exact hcp);intros;all_goals obtain h:=_;exact h|fail):P:=h
def abb (h:P:=by first|apply lp;exact aj;(exact Sc);intro _ _ ajV ajW _ _;all_goals obtain h:=_;exact h|fail):P:=h
def aiq (h:P:=by first|apply zF;exact aj;exact kD;(intro s hr hv;exact hpo s _ _ hr hv);intros;all_goals obtain h:=_;exact h|fail):P:=h
def air (h:P:=by first|apply aaT;exact bN;exact bN;intro _;all_goals obtain h:=_;exact h|fail):P:=h
def ais (h:P:=by first|apply XV;exact bN;exact bN;intro _;all_goals obtain h:=_;exact h|fail):P:=h
def Dx (h:P:=by first|apply LL;exact aj;exact aj;intro _;all_goals obtain h:=_;exact h|fail):P:=h
def Dy (h:P:=by first|apply eV;exact aj;(first|exact λs hr=>Sd s _ _ aT _ hr|exact λs hr=>Sd s _ _ aT ⟨⟨_,_,_,_,_⟩,_,_⟩ hr);exact dO;intros;all_goals obtain h:=_;exact h|fail):P:=h
def acU (h:P:=by first|apply ag;exact aj;exact λs=>PX s _ _ aa aa;intros;all_goals obtain h:=_;exact h|fail):P:=h
def Dz (h:P:=by first|apply ag;exact aj;exact λs=>Mn s _ aa;intros;all_goals obtain h:=_;exact h|fail):P:=h
def acV (h:P:=by first|(with_reducible apply gb (α:=cB) (xs:=[⟨_,_⟩]));exact nI;exact rfl;exact rfl;intro bl _;all_goals obtain h:=_;exact h|fail):P:=h
def af1 (h:P:=by first|(with_reducible apply gb (α:=eF) (xs:=[_]));exact nI;exact rfl;exact rfl;intro bl _;all_goals obtain h:=_;exact h|fail):P:=h
def Se (h:P:=by first|(with_reducible apply gb (α:=eF) (xs:=[⟨_,_,_⟩]));exact nI;exact rfl;exact rfl;intro bl _;all_goals obtain h:=_;exact h|fail):P:=h
def Sf (h:P:=by first|apply eV;exact aj;exact λs hr=>acW s hr;exact dO;intros;all_goals obtain h:=_;exact h|fail):P:=h
def XW (h:P:=by first|apply ag;exact aj;exact λs=>hpc s;intros;all_goals obtain h:=_;exact h|fail):P:=h
def acX (h:P:=by first|apply eV;exact aj;exact λs hr=>hfc s _ _ hr;exact dO;intros;all_goals obtain h:=_;exact h|fail):P:=h
def acY (h:P:=by first|apply fz;exact aj;exact λs=>Up s _ _ aT _ aa;exact cK;intro _ _ XY _ _ af2;all_goals obtain h:=_;exact h|fail):P:=h
def XZ (h:P:=by first|apply dG;exact aj;exact λs hr=>Uq s _ _ _ aa hr;exact ax;intros;all_goals obtain h:=_;exact h|fail):P:=h
def acZ (h:P:=by first|apply dG;exact aj;exact λs hr=>Ur s _ _ _ aa hr;exact ax;intros;all_goals obtain h:=_;exact h|fail):P:=h
def af3 (h:P:=by first|apply fz;exact aj;exact λs=>xf s _ _ aT _ aa _;exact cK;intro _ _ aeZ _ _ zG;all_goals obtain h:=_;exact h|fail):P:=h
def X0 (h:P:=by first|apply Us;exact aj;exact λs hr hm=>hfn s _ _ hr hm;exact cK;exact ax;intro _ _ af4 _ _ DB;all_goals obtain h:=_;exact h|fail):P:=h
def Mo (h:P:=by first|apply fz;exact aj;(first|exact λs=>HA s _ _ aT _ aT|exact λs=>HA s _ _ aT ⟨_,_,_,_,_⟩ aT);exact cK;intro _ _ X1 _ _ af5;all_goals obtain h:=_;exact h|fail):P:=h
def DC (h:P:=by first|apply Ut;exact aj;exact λs hr hm hv=>hlc _ s _ _ hr hm hv;exact cK;exact kD;intro _ _ DD _ _ uI;all_goals obtain h:=_;exact h|fail):P:=h
def Sg (h:P:=by first|apply fz;exact aj;exact λs=>hwc s;exact cK;intro _ _ aeb _ _ DE;all_goals obtain h:=_;exact h|fail):P:=h
def DF (h:P:=by first|apply fz;exact aj;exact λs=>abc _ s;exact cK;intro _ _ yA _ _ Mp;all_goals obtain h:=_;exact h|fail):P:=h
def ac0 (h:P:=by first|apply fz;exact aj;(first|exact λs=>DG s _ _ aT _ aT _ aa|exact λs=>DG s _ _ aT ⟨⟨_,_,_,_,_⟩,_,_⟩ aT _ aa);exact cK;intro _ _ ahm _ _ ahn;all_goals obtain h:=_;exact h|fail):P:=h
def ac1 (h:P:=by first|apply eV;exact aj;(first|exact λs hr=>zH s _ _ aT _ aT _ aa hr|exact λs hr=>zH s _ _ aT ⟨⟨_,_,_,_,_⟩,_,_⟩ aT _ aa hr);exact dO;intros;all_goals obtain h:=_;exact h|fail):P:=h
def ac2 (h:P:=by first|apply fz;exact aj;(first|exact λs=>rY s _ _ aT _ aT _ aa _|exact λs=>rY s _ _ aT ⟨⟨_,_,_,_,_⟩,_,_⟩ aT _ aa _|exact λs=>rY s _ _ aT _ aT _ aa ⟨_,_,_,⟨⟨_,_,_,_,_⟩,_,_⟩⟩);exact cK;intro _ _ af6 _ _ af7;all_goals obtain h:=_;exact h|fail):P:=h
def X2 (h:P:=by first|apply vr;exact aj;exact tj;exact λs hr=>sO s _ _ _ aT aT _ aa hr;intros;all_goals obtain h:=_;exact h|fail):P:=h
def af8 (h:P:=by first|apply kU;exact aj;exact λs hr=>af9 s hr;exact dO;intro _ _ Z1 Z2 _ _;all_goals obtain h:=_;exact h|fail):P:=h
def aga (h:P:=by first|apply dG;exact aj;exact λs hr=>DH s _ _ _ _ (by first|omega|(simp;done)) hr;exact ax;intros;all_goals obtain h:=_;exact h|fail):P:=h
def ac3 (h:P:=by first|apply ag;exact aj;exact λs=>HB s _ (by rw[de];omega);intros;all_goals obtain h:=_;exact h|fail):P:=h
def HC (h:P:=by first|apply pq;exact aj;(intro v s;exact wQ _ s);exact cK;intro _ _ pe _ _;all_goals obtain h:=_;exact h|fail):P:=h
def ac4 (h:P:=by first|apply HD;exact aj;(intro s hr hn hm;exact ait _ _ s hr hn hm);exact cK;exact dO;exact ax;intro _ _ jZ j3 _ _;all_goals obtain h:=_;exact h|fail):P:=h
def Mq (h:P:=by first|apply eV;exact aj;(first|exact λs hr=>Mr s _ _ aT _ hr|exact λs hr=>Mr s _ _ aT ⟨⟨_,_,_,_,_⟩,_,_⟩ hr);exact dO;intros;all_goals obtain h:=_;exact h|fail):P:=h
def Sh (h:P:=by first|apply n3;exact aj;exact λs hr=>hns s hr;exact dO;intro _ _ jM jN _ _;all_goals obtain h:=_;exact h|fail):P:=h
def ac5 (h:P:=by first|apply HD;exact aj;(intro s hr hn hm;exact hwk _ _ _ _ s hr hn hm);exact cK;exact dO;exact ax;intro _ _ jZ j3 _ _;all_goals obtain h:=_;exact h|fail):P:=h
def yB (h:P:=by first|apply eV;exact aj;(first|exact λs hr=>DI s _ _ aT _ aT hr|exact λs hr=>DI s _ _ aT ⟨_,_,_,⟨⟨_,_,_,_,_⟩,_,_⟩⟩ aT hr);exact dO;intros;all_goals obtain h:=_;exact h|fail):P:=h
def tk (h:P:=by first|apply n9;exact aj;(intro s hr;exact hfd s hr);exact tj;intros;all_goals obtain h:=_;exact h|fail):P:=h
def yC (h:P:=by first|apply n9;exact aj;(intro s hr;exact IW s hr);exact tj;intros;all_goals obtain h:=_;exact h|fail):P:=h
def X3 (h:P:=by first|apply n9;exact aj;(intro s hr;exact OM s hr);exact tj;intros;all_goals obtain h:=_;exact h|fail):P:=h
def AI (h:P:=by first|apply AJ;exact aj;(intro s hr;exact hen s hr);exact tj;intro _ _ zI zJ _ _;all_goals obtain h:=_;exact h|fail):P:=h
def DJ (h:P:=by first|apply ag;exact aj;exact λs=>PY s _ aa aT aT;intros;all_goals obtain h:=_;exact h|fail):P:=h
def Ms (h:P:=by first|apply dG;exact aj;exact λs hr=>agb _ _ s hr;exact ax;intros;all_goals obtain h:=_;exact h|fail):P:=h
def Mt (h:P:=by first|apply Uu;exact aj;exact kD;exact λs hr hv=>agc _ _ s hr hv;intro _ _ aec aed _ _;all_goals obtain h:=_;exact h|fail):P:=h
def Mu (h:P:=by first|apply HE;exact aj;(intro v s hr hm;exact PZ _ _ _ s hr hm);exact cK;exact ax;intro _ _ uJ _ _;all_goals obtain h:=_;exact h|fail):P:=h
def Mv (h:P:=by first|apply ag;exact aj;exact λs=>VV s;intros;all_goals obtain h:=_;exact h|fail):P:=h
def X4 (h:P:=by first|apply fz;exact aj;exact λs=>hcc _ s;exact cK;intro _ _ Mw _ _ X5;all_goals obtain h:=_;exact h|fail):P:=h
def X6 (h:P:=by first|apply qY;exact bN;exact bN;assumption;exact mv;intro _;all_goals obtain h:=_;exact h|fail):P:=h
def X7 (h:P:=by first|apply X8;exact bN;assumption;exact mv;intro _;all_goals obtain h:=_;exact h|fail):P:=h
def tn (h:P:=by first|apply kV;exact aj;exact cK;assumption;(intro s hr hm;exact JO s _ _ _ _ _ _ aT aa aa hr hm);intro _ _ ek aiu aho abd _ _;obtain⟨oa,rfl,aiv⟩:=abd;all_goals obtain h:=_;exact h|fail):P:=h
def agd (h:P:=by first|apply kV;exact aj;exact cK;assumption;(intro s hr hm;exact abe s _ _ _ _ _ aT aa hr hm);intro _ _ aiw aix ahp abf _ _;obtain⟨aiy,rfl,aiz⟩:=abf;all_goals obtain h:=_;exact h|fail):P:=h
def age (h:P:=by first|apply kV;exact aj;exact cK;assumption;(intro s hr hm;exact BS s _ _ _ _ _ _ aT aa aa hr hm);intro _ _ aiA aiB ahq abg _ _;obtain⟨aiC,rfl,aiD⟩:=abg;all_goals obtain h:=_;exact h|fail):P:=h
def pS (h:P:=by first|apply HF;exact aj;exact λs hr=>Uv s _ _ aT hr;exact acN;intro _ _ gM _ _;all_goals obtain h:=_;exact h|fail):P:=h
def DK (h:P:=by first|apply n9;exact aj;(intro s hr;exact Z3 s hr);exact tj;intros;all_goals obtain h:=_;exact h|fail):P:=h
def X9 (h:P:=by first|apply eV;exact aj;exact λs hr=>Mx s hr;exact dO;intros;all_goals obtain h:=_;exact h|fail):P:=h
def Si (h:P:=by first|apply Pv;exact aj;exact λs hr=>Td _ _ s hr;exact ax;intro _ _ ae0 ae1 _ _;all_goals obtain h:=_;exact h|fail):P:=h
def AK (h:P:=by first|apply n9;exact aj;(intro s hr;(first|exact hfd s hr|exact VS s hr));exact tj;intros;all_goals obtain h:=_;exact h|fail):P:=h
def My (h:P:=by first|apply ag;exact aj;exact λs=>hun s;intros;all_goals obtain h:=_;exact h|fail):P:=h
def Sj (h:P:=by first|apply n9;exact aj;(intro s hr;(first|exact OM s hr|exact agf s hr));exact tj;intros;all_goals obtain h:=_;exact h|fail):P:=h
def Ya (h:P:=by first|apply AJ;exact aj;(intro s hr;(first|exact hen s hr|exact hef s hr));exact tj;intro _ _ zI zJ _ _;all_goals obtain h:=_;exact h|fail):P:=h
def ac6 (h:P:=by first|apply HE;exact aj;(intro v s hr hm;(first|exact PZ _ _ _ s hr hm|exact Wz _ _ _ s hr hm|exact hw2 _ _ _ s hr hm));exact cK;exact ax;intro _ _ uJ _ _;all_goals obtain h:=_;exact h|fail):P:=h
def agh (h:P:=by first|apply pq;exact aj;(intro v s;exact BD _ _ s);exact cK;intro _ _ FQ _ _;all_goals obtain h:=_;exact h|fail):P:=h
def Yb (h:P:=by first|apply pq;exact aj;(intro v s;exact BD _ _ s);exact cK;intro _ _ FR _ _;all_goals obtain h:=_;exact h|fail):P:=h
def Yc (h:P:=by first|apply pq;exact aj;(intro v s;exact BD _ _ s);exact cK;intro _ _ FT _ _;all_goals obtain h:=_;exact h|fail):P:=h
def Yd (h:P:=by first|apply pq;exact aj;(intro v s;exact BD _ _ s);exact cK;intro _ _ FU _ _;all_goals obtain h:=_;exact h|fail):P:=h
def Ye (h:P:=by first|apply pq;exact aj;(intro v s;exact BD _ _ s);exact cK;intro _ _ Bq _ _;all_goals obtain h:=_;exact h|fail):P:=h
def agi (h:P:=by first|apply Uw;exact aj;(intro s hr;exact hth s _ hr);(exact abh.mk ax ax ax);intros;all_goals obtain h:=_;exact h|fail):P:=h
def agj (h:P:=by first|apply TS;exact bN;exact bN;exact kD;intro _;all_goals obtain h:=_;exact h|fail):P:=h
def agk (h:P:=by first|apply ag;exact aj;exact λs=>DL s _ aa aT;intros;all_goals obtain h:=_;exact h|fail):P:=h
def agl (h:P:=by first|apply TR;exact bN;exact bN;exact kD;intro _;all_goals obtain h:=_;exact h|fail):P:=h
def agm (h:P:=by first|apply Xm;exact bN;exact bN;exact bN;exact FO;intro _;all_goals obtain h:=_;exact h|fail):P:=h
def HG (h:P:=by first|apply TQ;exact bN;exact bN;exact kD;intro _;all_goals obtain h:=_;exact h|fail):P:=h
def Sk (h:P:=by first|apply Xl;exact bN;exact bN;exact bN;exact FO;intro _;all_goals obtain h:=_;exact h|fail):P:=h
def agn (h:P:=by first|apply Xn;exact bN;exact bN;exact bN;exact FO;intro _;all_goals obtain h:=_;exact h|fail):P:=h
def eR (h:P:=by first|(repeat' first|refine' AG|refine' gL|fail);all_goals obtain h:=_;exact h|fail):P:=h
def zb2 (h:P:=by first|(repeat' first|refine' AG|refine' KF|refine' gL|fail);all_goals obtain h:=_;exact h|fail):P:=h
def ago (h:P:=by first|(repeat' first|refine' AG|(apply ag;exact aj;exact λs=>abi s _ _ _;intros)|refine' gL|fail);all_goals obtain h:=_;exact h|fail):P:=h
def Br (h:P:=by first|(repeat' first|refine' AG|refine' Fq|refine' gL|fail);all_goals obtain h:=_;exact h|fail):P:=h
def Yf (h:P:=by first|(repeat' first|refine' AG|refine' ad8|refine' gL|fail);all_goals obtain h:=_;exact h|fail):P:=h
def abj (h:P:=by first|(repeat' first|refine' AG|(apply dG;exact aj;(intro s hr;exact hix s hr);exact ax;intros)|refine' gL|fail);all_goals obtain h:=_;exact h|fail):P:=h
def Yg (h:P:=by first|(repeat' first|refine' AG|refine' aip|refine' abb|refine' aiq|refine' gL|fail);all_goals obtain h:=_;exact h|fail):P:=h
def ac7 (h:P:=by first|(repeat' first|refine' AG|refine' Sf|refine' acX|refine' XW|refine' gL|fail);all_goals obtain h:=_;exact h|fail):P:=h
def ac8 (h:P:=by first|(repeat' first|refine' AG|(apply Yh;exact aj;exact λs=>hg s;exact cK;intros)|refine' gL|fail);all_goals obtain h:=_;exact h|fail):P:=h
def agp (h:P:=by first|(repeat' first|refine' AG|refine' XZ|refine' acZ|refine' Fq|refine' ad4|refine' af3|refine' gL|fail);all_goals obtain h:=_;exact h|fail):P:=h
def Yi (h:P:=by first|(repeat' first|refine' AG|refine' Du|refine' zD|refine' DC|refine' gL|fail);all_goals obtain h:=_;exact h|fail):P:=h
def ac9 (h:P:=by first|(repeat' first|refine' AG|(apply lp;exact aj;exact λs=>hR s;intro _ _ ada adb _ _)|refine' gL|fail);all_goals obtain h:=_;exact h|fail):P:=h
def Yj (h:P:=by first|(repeat' first|refine' AG|refine' ac1|refine' af8|refine' aga|refine' gL|fail);all_goals obtain h:=_;exact h|fail):P:=h
def Sl (h:P:=by first|(repeat' first|refine' AG|refine' tk|refine' yC|refine' gL|fail);all_goals obtain h:=_;exact h|fail):P:=h
def Mz (h:P:=by first|(repeat' first|refine' AG|refine' pS|refine' agh|refine' gL|fail);all_goals obtain h:=_;exact h|fail):P:=h
def agq (h:P:=by first|(repeat' first|refine' AG|refine' agi|refine' air|refine' ain|refine' aim|refine' agj|refine' agk|refine' agl|refine' agm|refine' HG|refine' Sk|refine' ail|refine' agn|refine' Bp|refine' gL|fail);all_goals obtain h:=_;exact h|fail):P:=h
def qgb (h:P:=by first|(first|refine' gL|refine PN);all_goals obtain h:=_;exact h|fail):P:=h
def qgy (h:P:=by first|(first|refine' gL|refine PN|(refine' aC;all_goals rfl));all_goals obtain h:=_;exact h|fail):P:=h
def qgx (h:P:=by first|(first|refine' gL|(refine' aC;all_goals rfl));all_goals obtain h:=_;exact h|fail):P:=h
def qgs (h:P:=by first|(first|refine' gL|exact z_3);all_goals obtain h:=_;exact h|fail):P:=h
def eI (h:P:=by first|(repeat1' (first|refine' AG|refine' gL|fail));all_goals obtain h:=_;exact h|fail):P:=h
def cY (h:P:=by first|(repeat1' (first|refine' AG|refine' qgb|fail));all_goals obtain h:=_;exact h|fail):P:=h
def nJ (h:P:=by first|(repeat1' (first|refine' AG|refine' qgy|fail));all_goals obtain h:=_;exact h|fail):P:=h
def Ux (h:P:=by first|(repeat1' (first|refine' AG|refine' qgx|fail));all_goals obtain h:=_;exact h|fail):P:=h
def zK (h:P:=by first|(repeat1' (first|refine' AG|refine' qgs|fail));all_goals obtain h:=_;exact h|fail):P:=h
def iK (h:P:=by first|(repeat' first|refine' AG|refine' qgb|fail);all_goals obtain h:=_;exact h|fail):P:=h
def qcy (h:P:=by first|(repeat' first|refine' AG|refine' qgy|fail);all_goals obtain h:=_;exact h|fail):P:=h
def qcx (h:P:=by first|(repeat' first|refine' AG|refine' qgx|fail);all_goals obtain h:=_;exact h|fail):P:=h
def OP (h:P:=by first|(repeat' first|refine' AG|refine' qgs|fail);all_goals obtain h:=_;exact h|fail):P:=h
def cP (h:P:=by first|refine W.le ?_ aT aT;all_goals obtain h:=_;exact h|fail):P:=h
def gh (h:P:=by first|refine aJ ?_;refine W.le ?_ aT aT;all_goals obtain h:=_;exact h|fail):P:=h
variable {f i:Nat}
def abk {a b:UInt8}:(a.toNat:Int)=b.toNat↔a=b:=by rw[Int.ofNat_inj,tz]
def P1 (c:UInt8)(p q:aw)(h:c∉p):cut c (p++c::q)=p::cut c q:=by
 induction p with
 |nil=>simp[cut]
 |cons x p ih=>simp at h;rw[jk,cut,af (λe=>h.1 e.symm),ih h.2]
def uw (c:UInt8)(p:aw)(h:c∉p):cut c p=[p]:=by
 induction p with
 |nil=>simp[cut]
 |cons x p ih=>simp at h;rw[cut,af (λe=>h.1 e.symm),ih h.2]
def Uy (z:aw)(h1:f<=i)(h2:i<Y z):(z.drop f).take (i+1-f)=(z.drop f).take (i-f)++[z.getD i 0]:=by
 have:i+1-f=(i-f)+1:=by omega
 rw[this,vS];congr 1;rw[Cg,show f+(i-f)=i by omega,eX,c8 h2];rfl
def abl (z:aw)(h1:f<=i)(h2:i<Y z):z.drop f=(z.drop f).take (i-f)++z.getD i 0::z.drop (i+1):=by
 conv=>lhs;rw[<-vC (i-f) (z.drop f)]
 congr 1;rw[wx,show f+(i-f)=i by omega,xF h2,eX,c8 h2];rfl
def uF (s:St)(z:aw)(c:UInt8)(u:Y z<=100000):Ht 197 [sv z,bv c] s [] [] λv L=>∃a k,v= H a (Y (cut c z)) k/\L=[.aU v 9 1 (ab (cut c z))]:=by
 refine a8 f197 ?_;(repeat(first|refine' v7|refine' gL|fail));refine W.loop (λk l L=>∃(i fr:Nat)(a:aP)(b:Nat)(done:List aw),Le [(0,sv z),(1,bv c),(5,H a (Y done) b),(6,iv fr),(7,iv i)] l/\cb [.aU (H a (Y done) b) 9 1 (ab done)] L/\
  k=Y z-i/\fr<=i/\i<=Y z/\Y done<=i/\cut c z=done++cut c (z.drop fr)/\c∉(z.drop fr).take (i-fr)) (Y z) ⟨0,0,_,_,[],bd,ak,aa,aa,aa,mv,aq,aq⟩ ?_
 rintro k l L ⟨i,fr,a,b,done,hl,t,rfl,j,o,r,d,g⟩;refine' cP;(repeat(first|refine' v7|refine' gL|fail));refine W.cond bN ?_ ?_<;>intro h<;>simp only[gv,mW,tK,xK,GC,B8,vO] at h;(repeat(first|refine' v7|refine' gL|fail));refine W.cond bN ?_ ?_<;>intro hc<;>simp only[gv,mW,tK,xK,GC,B8,vO] at hc<;>rw[abk] at hc;(repeat(first|refine' v7|refine' gL|fail));refine⟨_,?_,i+1,i+1,_,_,done++[(z.drop fr).take (i-fr)],bd,ak,rfl,aa,aa,by simp;omega,?_,aq⟩;omega;have m:=P1 c _ (z.drop (i+1)) g;rw[<-hc,<-abl z j aa,hc] at m;rw[d,m];simp;(repeat(first|refine' v7|refine' gL|fail));refine⟨_,?_,i+1,fr,_,_,done,bd,ak,rfl,aa,aa,aa,d,?_⟩;omega;rw[Uy z j aa];simp[g];exact λe=>hc e.symm;(repeat(first|refine' v7|refine' gL|fail));have hi:i=Y z:=by omega
 subst hi;have n:cut c z=done++[z.drop fr]:=by rw[d,uw];rwa [za aq] at g
 rw[n];refine⟨bK,_,[.aU _ 9 1 _],.tmp rfl .nil,ak,_,_,rfl,rfl⟩
def uK (a b c d e a' b' c' g h:Int):gi [iv a,iv b,iv c,iv d,iv e] [iv a',iv b',iv c',iv g,iv h]=C (decide (a=a'/\b=b'/\c=c'/\d=g/\e=h)):=by simp only[lg,uc,lJ,bF,kl,dC];congr 1;rw[o6];simp
def aa8 (s:St)(n a b:Int):bM 38 [iv n,iv a,iv b] s [] (M (fI n a b)):=by refine a8 f38 ?_;(refine' eR)<;>(refine' aC)<;>(first|(simp_all [fj,fI];done)|(simp_all [fj,fI];omega))
def XR (s:St)(n:Int):bM 93 [iv n] s [] (M (zq n)):=by refine a8 f93 ?_;(refine' zb2)<;>(refine' aC)<;>simp_all [fj,zq]
def P2 (s:St)(z:aw):bM 190 [sv z] s [] (M (Jb z)):=by refine a8 f190 ?_;(refine' zb2)<;>(refine' aC)<;>(simp only[fj,Jb,fI];congr 1;rw[o6];simp;omega)
def xe (s:St)(p:fm):bM 40 [pv p] s [] (M (av p)):=by refine a8 f40 ?_;refine' eR;apply Jo;exact Ev.tmp rfl;exact Ev.tmp rfl;rfl;exact uK _ _ _ _ _ _ _ _ _ _;intro _;refine' eR;refine' aC;simp only[fj,av,bp];congr 1;obtain⟨a,b,c,d,e⟩:=p;simp
def Mh (s:St)(p:fm):bM 39 [pv p] s [] (M (aQ p)):=by refine a8 f39 ?_;(repeat' first|(apply ag;exact aj;exact λs=>xe s ⟨_,_,_,_,_⟩;intros)|refine' zc3|refine' KF|refine' eI|fail)<;>(refine' aC)<;>simp_all [fj,aQ]
def PU (s:St)(n:Int):bM 132 [iv n] s [] (iv (bR n)):=by refine a8 f132 ?_;(refine' eR)<;>(refine' aC)<;>simp_all [fj,bR]<;>omega
def P3 (s:St)(n:Int):bM 250 [iv n] s [] (iv (eG n)):=by refine a8 f250 ?_;(refine' eR)<;>(refine' aC)<;>simp_all [fj,eG]<;>omega
def PX (s:St)(n:Int)(k:Nat)(hn:0<=n/\n<=10000)(a:k<=10000):bM 98 [iv n,iv (k:Nat)] s [] (iv (eC n k)):=by refine a8 f98 ?_;(refine' eR)<;>(refine' aC)<;>simp_all [fj,eC]<;>omega
variable {k:Nat}
def yD (s:St)(n e:Int)(hn:0<=n/\n<=1000000)(d:0<e/\e<=1000000):bM 248 [iv n,iv e] s [] (iv (cV n e)):=by have a:(n+e-1).tdiv e=(n+e-1)/ e:=KS aa;have b:0<=(n+e-1)/ e:=Int.ediv_nonneg aa aa;have c:(n+e-1)/ e<=n+e-1:=Int.ediv_le_self _ aa;refine a8 f248 ?_;(repeat(first|refine' v7|refine' gL|fail));refine' aC;simp[fj,cV,a]
def FV (s:St)(k n:Int):bM 198 [iv k,iv n] s [] (iv (dT k n)):=by
 have a:eG k=0\/eG k=12\/eG k=128:=by unfold eG;split<;>(try split)<;>simp
 refine a8 f198 ?_;(repeat' first|(apply ag;exact aj;exact λs=>P3 s _;intros)|refine' KF|(apply ag;exact aj;exact λs=>yD s _ _ aa aa;intros)|refine' eI|fail)<;>(refine' aC)<;>simp_all [fj,dT,fI]<;>omega
def P4 (c:UInt8):Bool:=decide (97<=c.toNat)&&decide (c.toNat<=122)
def DM (p:UInt8->Bool)(z:aw)(h:i<Y z):(z.take (i+1)).all p=((z.take i).all p&&p (z.getD i 0)):=by rw[vS,c8 h,GD,eX,c8 h];simp
def aee (p:UInt8->Bool)(z:aw)(h:i<Y z)(a:p (z.getD i 0)=U):z.all p=U:=by rw[KT];exact⟨z.getD i 0,by rw[eX,c8 h];simp,by simpa using a⟩
def Ul (s:St)(z:aw)(j:Y z<=100000):bM 188 [sv z] s [] (M (bG z)):=by
 refine a8 f188 ?_;(repeat(first|refine' v7|refine' gL|fail));refine W.loop (λk l L=>∃(i:Nat),Le [(0,sv z),(3,iv i)] l/\cb [] L/\k=Y z-i/\i<=Y z/\(z.take i).all P4=J) (Y z) ⟨0,bd,ak,aa,aa,aq⟩ ?_;rintro k l L ⟨i,hl,g,rfl,e,a⟩;refine' cP;(repeat(first|refine' v7|refine' gL|fail));refine W.cond bN ?_ ?_<;>intro h<;>simp only[gv,mW,tK,xK,GC,B8,vO] at h
 ·(refine' eR);rotate_left 1;refine⟨_,?_,i+1,bd,ak,rfl,aa,?_⟩;omega;rw[DM _ _ aa,a];simp only[P4];simp_all;omega;all_goals
   refine' aC;(have:P4 (z.getD i 0)=U:=by simp only[P4];simp_all;omega);have:=aee P4 z aa this;unfold P4 at this;simp[fj,bG];intro b;rw[KT] at this;obtain⟨x,d,c⟩:=this;exact absurd (b x d) (by simpa using c)
 (repeat(first|refine' v7|refine' KF|refine' gL|fail));refine' aC;have hi:i=Y z:=by omega
 subst hi;rw[lG] at a;unfold P4 at a;simp only[fj,bG,a,fI];congr 1;rw[o6];simp;omega
def abm (z:aw)(e:k<=9)(hl:k<=Y z)(ha:(z.take k).all gR=J)(hs:k=9\/k=Y z\/gR (z.getD k 0)=U):lU z=z.take k:=by
 unfold lU;rw[o5] at ha;have b:z.take 9=z.take k++(z.take 9).drop k:=by
  conv=>lhs;rw[<-vC k (z.take 9)]
  rw[KN,tH e]
 rw[b,List.takeWhile_append_of_pos (λa h=>ha a h)];have c:((z.take 9).drop k).takeWhile gR=[]:=by obtain rfl|rfl|hs:=hs;rw[xC (by simp;omega)];rfl;rw[xC (by simp;omega)];rfl;rcases jc k (Y z) with h|h;rcases jc k 9 with d|d;rw[xF (by simp;omega),List.takeWhile_cons_of_neg];rw[eX,c8 h] at hs;simpa using hs;rw[xC (by simp;omega)];simp;rw[xC (by simp;omega)];simp
 rw[c,fT]
def DN (z:aw)(h:k<Y z):numOf (z.take (k+1))=10*numOf (z.take k)+((z.getD k 0).toNat-48):=by unfold numOf;rw[vS,List.foldl_append,c8 h,eX,c8 h];rfl
def MA (s:St)(z:aw)(x:Y z<=100000):bM 196 [sv z] s [] (.tuple ⟨[iv (kA z).1,iv (kA z).2]⟩):=by
 refine a8 f196 ?_;(repeat(first|refine' v7|refine' gL|fail));refine W.bu (λk l L=>∃(i n:Nat),Le [(0,sv z),(4,iv n),(5,iv i)] l/\cb [] L/\k=9-i/\i<=Y z/\i<=9/\(z.take i).all gR=J/\n=numOf (z.take i)/\n<10^ i)
  (λl L=>Le [(0,sv z),(4,iv (numOf (lU z))),(5,iv (Y (lU z)))] l/\cb [] L) 9 ⟨0,0,bd,ak,aa,aa,aa,aq,by simp[numOf],aq⟩ ?_ ?_
 .rintro k l L ⟨i,n,hl,m,rfl,r,d,e,g,t⟩;refine' cP;have u:n<1000000000:=vF t (Rr aa d);have v:=(z.getD i 0).toNat_lt;refine' eR;(have hd:gR (z.getD i 0)=J:=by simp only[gR,ep,gv];omega);refine⟨_,?_,i+1,10*n+((z.getD i 0).toNat-48),?_,ak,rfl,aa,aa,?_,?_,?_⟩;omega;(have:(((10*n+((z.getD i 0).toNat-48):Nat):Int))=10*(n:Int)+((z.getD i 0).toNat-48:Int):=by omega);rw[this];exact bd;rw[DM _ _ aa,e,hd];rfl;rw[DN _ aa,g];rw[qm];omega;all_goals
   have hs:i=9\/i=Y z\/gR (z.getD i 0)=U:=by simp only[gR,rh,mW,gv] at *;omega
   have o:=abm z d r e hs;(have c:Y (lU z)=i:=by rw[o,de];omega);rw[c,o,<-g];exact⟨bd,ak⟩
 rintro l L ⟨hl,m⟩;refine aJ ?_;refine W.le ?_ hl m;have w:Y (lU z)<=Y z:=by unfold lU;exact jR (List.takeWhile_sublist _).length_le (by simp;omega)
 have j:∀n,1<n->n<=Y z->z.headD 0=z.getD 0 0:=λn _ _=>by cases z<;>rfl
 (refine' eR)<;>(refine' aC)<;>simp only[fj,kA];rw[ai ⟨aa,by rw[j (Y (lU z)) aa aa];rw[<-tz];show _=48;omega⟩];rfl;rw[af];rintro⟨b,a⟩;rw[j _ b aa] at a;rw[a] at ki;exact ki rfl;rw[af];omega
def Sm (z:aw):Y (lU z)<=Y z/\Y (lU z)<=9:=by unfold lU;have h:=(List.takeWhile_sublist gR (l:=z.take 9)).length_le;rw[de] at h;omega
def abn (z:aw):(kA z).2<=9/\((kA z).2<=Y z):=by have:=Sm z;unfold kA;dsimp only;split<;>dsimp only<;>omega
def agr (z:aw):Value:=.tuple ⟨[iv (pa z),M (aA z).isSome]⟩
def zL (s:St)(z:aw)(a:Y z<=100000):bM 137 [sv z] s [] (agr z):=by refine a8 f137 ?_;(repeat' first|(apply ag;exact aj;exact λs=>MA s _ aa;intros)|refine' eI|fail)<;>(refine' aC)<;>simp only[fj,agr,pa,aA]<;>first|(rw[ai aa];rfl)|(rw[af aa];rfl)
def DO (z:aw){i:Nat}(h:i<Y z)(a b:Nat):G6 (z.drop i) a b=G6 (z.drop (i+1)) ((a+(z.getD i 0).toNat+1)% 9973) ((b+(a+(z.getD i 0).toNat+1)% 9973)% 9973):=by rw[xF h,eX,c8 h];rfl
def MB (s:St)(z:aw)(r:Y z<=100000):bM 191 [sv z] s [] (iv (sumOf z:Nat)):=by
 refine a8 f191 ?_;(repeat(first|refine' v7|refine' gL|fail));refine W.bu (λk l L=>∃(i a b:Nat),Le [(0,sv z),(3,iv a),(4,iv b),(5,iv i)] l/\cb [] L/\k=Y z-i/\i<=Y z/\a<9973/\b<9973/\G6 (z.drop i) a b=sumOf z)
  (λl L=>∃(a b:Nat),Le [(3,iv a),(4,iv b)] l/\cb [] L/\a<9973/\b<9973/\a*9973+b=sumOf z) (Y z) ⟨0,1,0,bd,ak,aa,aa,aa,aa,by simp[sumOf]⟩ ?_ ?_
 rintro k l L ⟨i,a,b,hl,g,rfl,j,d,c,e⟩;refine' cP;have n:=(z.getD i 0).toNat_lt;have o:((a:Int)+(z.getD i 0).toNat+1).tmod 9973=(((a+(z.getD i 0).toNat+1)% 9973:Nat):Int):=rfl;have m:((a+(z.getD i 0).toNat+1)% 9973)<9973:=xG _ aa;refine' eR;refine⟨_,?_,i+1,(a+(z.getD i 0).toNat+1)% 9973,(b+(a+(z.getD i 0).toNat+1)% 9973)% 9973,bd,ak,rfl,aa,m,xG _ aa,?_⟩;omega;exact(DO z aa a b).symm.trans e;have hi:i=Y z:=by omega
 subst hi;refine⟨a,b,bd,ak,d,c,?_⟩;rw[<-e,re];rfl;rintro l L ⟨a,b,hl,g,j,d,c⟩;refine aJ ?_;refine W.le ?_ hl g;refine' eR;refine' aC;rw[<-c];rfl
def gu (n:Nat):∀k,n<10^ (k+1)->Y (fu n)<=k+1:=by
 induction n using Nat.strongRecOn with
 |ind n ih=>
  intro k a;unfold fu;split;simp;cases k with
  |zero=>simp at a;omega
  |succ k=>have:=ih (n/ 10) aa k (by rw[qm] at a;omega);simp;omega
def Sp (n:Nat)(h:n<10000000000):Y (fu n)<=10:=gu n 9 h
def Yk (s:St)(n:Nat)(hn:n<10000000000):bM 141 [iv (n:Int)] s [] (sv (fu n)):=by
 induction n using Nat.strongRecOn generalizing s with
 |ind n ih=>have b:((n:Int).tdiv 10)=((n/ 10:Nat):Int):=rfl;have a:((n:Int).tmod 10)=((n% 10:Nat):Int):=rfl;have hd:=Sp (n/ 10) aa;refine a8 f141 ?_;(repeat' first|(apply ag;exact aj;exact λs=>ih (n/ 10) aa s aa;intros)|refine' eI|fail);(refine' aC);rw[fu,dif_pos aa,show((48:Int)+n).toNat=48+n by omega];rfl;(refine' aC);(conv=>rhs;rw[fu,dif_neg aa]);simp only[fj];(have:((48:Int)+((n:Int).tmod 10)).toNat=48+n% 10:=by rw[a];omega);rw[this];all_goals omega
def Uk (s:St)(n:Int)(hn:0<=n/\n<10000000000):bM 141 [iv n] s [] (sv (dec n)):=by obtain⟨m,rfl⟩:=tI hn.1;exact Yk s m aa
def kq (n:Int)(h:0<=n/\n<10000000000):Y (dec n)<=10:=by obtain⟨m,rfl⟩:=tI h.1;exact Sp m aa
def Ds (s:St)(p:fm)(z:aw)(a:Y z<=100000):bM 129 [pv p,sv z] s [] (M (fits p z)):=by refine a8 f129 ?_;(repeat' first|refine' PS|refine' Fq|(apply ag;exact aj;exact λs=>MB s _ aa;intros)|refine' eI|fail)<;>(refine' aC)<;>simp_all [fj,fits]
def yE {p:fm}(h:aQ p=J):(0<=p.row/\p.row<=63)/\(0<=p.bE/\p.bE<=900)/\(0<=p.size/\p.size<=128)/\(0<=p.sum/\p.sum<=99460728)/\(0<=p.level/\p.level<=2):=by simp only[aQ,av,zq,fI,km,ep,gv,bp] at h;obtain h|h:=h;have h:=vR h;subst h;simp;omega
def Hu (s:St)(p:fm):bM 142 [pv p] s [] (sv (b9 p)):=by
 by_cases a:aQ p=J
 .have hb:=yE a;have b:=kq p.row aa;have c:=kq p.bE aa;have d:=kq p.size aa;have e:=kq p.sum aa;have g:=kq p.level aa;refine a8 f142 ?_;repeat' first|refine' PS|refine' Fq|refine' aa9|refine' eI|fail
  all_goals first|((refine' aC);simp_all [fj,b9];done)|(exfalso;simp_all;done)
 refine a8 f142 ?_;repeat' first|refine' PS|refine' Fq|refine' eI|fail
 all_goals first|((refine' aC);simp_all [fj,b9];done)|(exfalso;simp_all;done)
variable {s:aw}
def tf {b:Bool}(h:b=J)(k:b=U):False:=by rw[h] at k;cases k
def yF (o:Option fm):Value:=.tuple ⟨[pv (o.getD bp),M o.isSome]⟩
def uL (s:St)(a b c:Int)(z:aw)(d:Y z<=100000):bM 125 [iv a,iv b,iv c,sv z] s [] (yF (rG a b c z)):=by refine a8 f125 ?_;(repeat' first|(apply ag;exact aj;exact λs=>P2 s _;intros)|(apply ag;exact aj;exact λs=>MB s _ aa;intros)|refine' PS|refine' eI|fail)<;>(refine' aC)<;>simp_all [fj,rG,yF]<;>rfl
def sP (c:UInt8)(z:aw):∀w∈cut c z,Y w<=Y z:=by
 induction z with
 |nil=>simp[cut]
 |cons x z ih=>intro w a;unfold cut at a;split at a;rcases cA.1 a with rfl|a;simp;have:=ih w a;simp;omega;split at a;simp at a;subst a;simp;rename_i h;rw[h] at ih;obtain rfl|a:=cA.1 a;have:=ih _ ed;simp;omega;have:=ih w (dI _ a);simp;omega
def pT (c:UInt8)(z:aw):Y (cut c z)<=Y z+1:=by
 induction z with
 |nil=>simp[cut]
 |cons x z ih=>unfold cut;split;simp;omega;split;simp;rename_i h;rw[h] at ih;simp at ih⊢;omega
def a7 {α:Type}{l:List α}(h:i<Y l)(d:α):l.getD i d∈l:=by rw[eX,c8 h];simp
def Bs (s:aw):Option Int:=(aA s).map λn=>(n:Int)
def Uz (h:(aA s).isSome=U):Bs s=O:=by unfold Bs;cases hn:aA s<;>simp_all
def UA (h:(aA s).isSome=J):Bs s=C (pa s):=by unfold Bs pa;cases hn:aA s<;>simp_all
def UB (z:aw):cy z=if z=[45] then C bp else if(cut 46 z).length≠5 then O else match(cut 46 z).mapM Bs with
  |none=>O
  |some q=>
   let p:fm:=⟨q.getD 0 0,q.getD 1 0,q.getD 2 0,q.getD 3 0,q.getD 4 0⟩
   if !aQ p||av p then O else C p:=by unfold cy;split;rfl;split;rename_i a b c d e h;rw[h];simp only[fS,jm,Bs,tR,List.mapM_nil];cases aA a<;>cases aA b<;>cases aA c<;>cases aA d<;>cases aA e<;>rfl;rename_i h;rw[ai];intro g;rcases j:cut 46 z with _|⟨a,_|⟨b,_|⟨c,_|⟨d,_|⟨e,_|⟨f,l⟩⟩⟩⟩⟩⟩<;>rw[j] at g<;>simp at g;exact h a b c d e j
def oc {α β:Type}(f:α->Option β)(l:List α)(d:α)(h:i<Y l):(l.take (i+1)).mapM f=match(l.take i).mapM f with
  |none=>O
  |some q=>match f (l.getD i d) with
   |none=>O
   |some x=>C (q++[x]):=by rw[vS,c8 h,List.mapM_append,eX,c8 h];simp only[Option.toList,tR,List.mapM_nil,Option.getD];cases (l.take i).mapM f<;>cases f l[i]<;>rfl
def mapM_none {α β:Type}(f:α->Option β)(l:List α)(d:α)(h:i<Y l)(hf:f (l.getD i d)=O):l.mapM f=O:=by
 conv=>lhs;rw[<-vC (i+1) l]
 rw[List.mapM_append,oc f l d h,hf];cases (l.take i).mapM f<;>rfl
def l5 {α β:Type}(f:α->Option β):∀(l:List α)(q:List β),l.mapM f=C q->Y q=Y l
 |[],q,h=>by simp at h;subst h;rfl
 |x::l,q,h=>by
  rw[tR] at h;cases a:f x with
  |none=>rw[a] at h;cases h
  |some y=>
   rw[a] at h;cases hl:l.mapM f with
   |none=>rw[hl] at h;cases h
   |some r=>rw[hl] at h;(cases h);simp[l5 f l r hl]
def HH (s:St)(z:aw)(r:Y z<=100000):bM 138 [sv z] s [] (yF (cy z)):=by
 have hm:=pT 46 z;have g:∀i,i<Y (cut 46 z)->Y ((cut 46 z).getD i [])<=100000:=λi hi=>jR (sP 46 z _ (a7 hi _)) r;rw[UB];refine a8 f138 ?_;repeat' first|refine' XS|refine' PS|refine' Fq|refine' eI|fail
 (refine' aC);simp[ki,fj,yF];rfl;(refine' aC);rw[af aT,ai aa];rfl;generalize t:cut 46 z=w at *
 have o:Y w=5:=by omega
 refine W.bu (λk l L=>∃(i:Nat)(q:List Int)(a:aP)(c:Nat),Le [(2,bk ba),(4,H vo (Y w) vp),(5,H a (Y q) c),(6,iv i)] l/\cb [.box ba (nA bp) 31 U,.aU (H vo (Y w) vp) 9 1 (ab w),.aU (H a (Y q) c) 3 1 (ab q)] L/\k=5-i/\i<=5/\(w.take i).mapM Bs=C q)
  (λl L=>∃(q:List Int)(a:aP)(c:Nat),Le [(2,bk ba),(5,H a (Y q) c)] l/\cb [.box ba (nA bp) 31 U,.aU (H a (Y q) c) 3 1 (ab q)] L/\w.mapM Bs=C q) 5 ⟨0,[],_,_,bd,ak,aa,aa,aq⟩ ?_ ?_
 .rintro k l L ⟨i,q,a,c,hl,m,rfl,e,d⟩;refine' cP;have j:=l5 _ _ _ d;rw[de] at j;have n:i<Y w->Y (w.getD i au.ad)<=100000:=g i;(repeat' first|(apply ag;exact aj;exact λs=>zL s _ aa;intros)|refine' eI|fail);(refine' aC);have hn:Bs (w.getD i [])=O:=Uz ki;rw[af aT,af aa,mapM_none Bs w [] aa hn];rfl;have hs:=oc Bs w [] (show i<Y w by omega);have hn:Bs (w.getD i [])=C (pa (w.getD i [])):=UA ki;rw[d,hn] at hs;exact⟨_,aa,i+1,q++[pa (w.getD i [])],_,_,bd,ak,rfl,aa,hs⟩;have hi:i=5:=by omega
  subst hi;rw[za aa] at d;exact⟨q,_,_,bd,ak,d⟩
 rintro l L ⟨q,a,c,hl,m,e⟩;refine' gh;have j:=l5 _ _ _ e;repeat' first|refine' PS|refine' Fq|refine' eI|fail
 all_goals
  refine' aC
  rw[af aT,af aa,e];first
                                 |exact Eq.trans (b:=yF O) rfl (congrArg yF (ai (GF.2 (.inl hg))).symm)
                                 |exact Eq.trans (b:=yF O) rfl (congrArg yF (ai (GF.2 (.inr hc))).symm)
                                 |exact Eq.trans (b:=yF (C _)) rfl (congrArg yF (af (λh=>(GF.1 h).elim (λh=>tf h hg) (λh=>tf h hc))).symm)
def abo (o:Option aw):Value:=.tuple ⟨[sv (o.getD []),M o.isSome]⟩
def je (p:fm):Y (b9 p)<=54:=by unfold b9;split;simp;split;simp;rename_i h _;have hb:=yE (by simpa using h);have a:=kq p.row aa;have b:=kq p.bE aa;have c:=kq p.size aa;have d:=kq p.sum aa;have e:=kq p.level aa;simp;omega
def DP (c:UInt8):∀(l:List aw)(w:aw),l≠[]->gp c (l++[w])=gp c l++c::w
 |[],_,h=>absurd rfl h
 |[a],w,_=>by simp[gp]
 |a::b::l,w,_=>by have:=DP c (b::l) w aq;simp only[jk] at this⊢;simp[gp,this]
def dS {α:Type}(l:List α)(d:α)(h:i<Y l):l.take (i+1)=l.take i++[l.getD i d]:=by rw[vS,c8 h,eX,c8 h];rfl
def HI (c:UInt8)(m:Nat):∀(l:List aw),(∀w∈l,Y w<=m)->Y (gp c l)<=Y l*(m+1)
 |[],_=>by simp[gp]
 |[a],h=>by have:=h a aq;simp[gp];omega
 |a::b::l,h=>by have g:=h a aq;have d:=HI c m (b::l) λw e=>h w (dI _ e);simp only[gp,dB,fS] at d⊢;rw[mO (Y l+1) 1];omega
def Ur (s:St)(a:aP)(c:Nat)(p:cc)(D:Y p<=100000)(hr:bJ s a (Y p) 5 (ab p)):bM 195 [H a (Y p) c] s (ah a) (abo (fM p)):=by
 have hd:=Rd.of hr (A:=ah a) λb hb=>hb;refine a8 f195 ?_;refine' eR;(refine' aC);unfold fM;rw[ai aa];rfl;have z:Y p=4:=by omega
 refine W.bu (λk l L=>∃(i:Nat),Le [(0,H a (Y p) c),(4,sv (gp 44 ((p.take i).map b9))),(5,M !((p.take i).all av)),(6,iv i)] l/\cb [] L/\k=4-i/\i<=4/\(p.take i).any (λp=>!aQ p)=U)
  (λl L=>Le [(4,sv (gp 44 (p.map b9))),(5,M !(p.all av))] l/\cb [] L/\p.any (λp=>!aQ p)=U) 4 ⟨0,bd,ak,aa,aa,aq⟩ ?_ ?_
 .rintro k l L ⟨i,hl,v,rfl,t,r⟩;refine' cP;have B:Y (gp 44 ((p.take i).map b9))<=1000:=by refine jR (HI 44 54 _ λw y=>?_) ?_;obtain⟨q,_,rfl⟩:=qj.1 y;exact je q;rw[fH,de];omega
  have x:=je (p.getD i au.ad);have e:i<4->p.take (i+1)=p.take i++[p.getD i bp]:=λh=>dS p bp aa;have j:i<4->0<i->gp 44 ((p.take (i+1)).map b9)=(gp 44 ((p.take i).map b9)++[44])++b9 (p.getD i bp):=λh g=>by rw[e h,qR,lF,KL,DP _ _ _ (λh0=>by have:=congrArg List.length h0;rw[fH,de,jm] at this;omega),iD];rfl
  have m:i=0->gp 44 ((p.take (i+1)).map b9)=gp 44 ((p.take i).map b9)++b9 (p.getD i bp):=λh=>by subst h;rw[e aa];rfl
  have n:i<4->(p.take i).all av=J->(!(p.take (i+1)).all av)= !av (p.getD i bp):=λh g=>by rw[e h,GD,g];simp
  have o:i<4->(p.take i).all av=U->(!(p.take (i+1)).all av)=J:=λh g=>by rw[e h,GD,g];simp
  have u:i<4->aQ (p.getD i bp)=J->(p.take (i+1)).any (λp=>!aQ p)=U:=λh g=>by rw[e h,List.any_append,r];simpa using g
  repeat' first|refine' PS|refine' Fq|refine' afU|refine' eI|fail
  (refine' aC);unfold fM;rw[af aa,ai];rfl;rw[Cj];exact⟨p.getD i bp,a7 aa bp,hc⟩;rotate_right 1;(have hi:i=4:=by omega);subst hi;have ht:p.take 4=p:=za aa;rw[ht] at r⊢;exact⟨bd,ak,r⟩;all_goals
   have d:i<4:=by omega
   refine⟨_,aa,i+1,?_,ak,rfl,aa,u d aT⟩;first
                                                  |(rw[j d aa,n d aT];exact bd;done)
                                                  |(rw[m aa,n d aT];exact bd;done)
                                                  |(rw[j d aa,o d aT];exact bd;done)
                                                  |(rw[m aa,o d aT];exact bd;done)
 rintro l L ⟨hl,v,t⟩;refine' gh;refine' eR;all_goals
  refine' aC;unfold fM;rw[af aa,af (by rw[t];simp)];first|(rw[ai (by simpa using hc)];rfl)|(rw[af (by simpa using hc)];rfl)
def P5 {z:aw}(c:UInt8)(h:i<Y (cut c z)):Y ((cut c z).getD i [])<=Y z:=sP c z _ (a7 h _)
def Yl {α:Type}(p:α->Bool)(q:List α)(x:α):(q++[x]).all p=(q.all p&&p x):=by simp
def MC {α:Type}{o:Option α}{d:α}(h:o.isSome=J):o=C (o.getD d):=by cases o<;>simp_all
def UC (s:St)(z:aw)(n:Y z<=100000):et aZ aW 249 [sv z] s [] 31 ((eY z).getD []) (eY z).isSome:=by
 have hm:=pT 44 z;have e:∀i,i<Y (cut 44 z)->Y ((cut 44 z).getD i au.ad)<=100000:=λi hi=>jR (P5 44 hi) n;unfold eY;refine a8 f249 ?_;repeat' first|refine' XS|refine' eI|fail
 generalize o:cut 44 z=w at *
 refine W.bu (λk l L=>∃(i:Nat)(q:cc)(a:aP)(c:Nat),Le [(4,H vo (Y w) vp),(5,H a (Y q) c),(6,M !(q.all av)),(7,iv i)] l/\cb [.aU (H vo (Y w) vp) 9 1 (ab w),.aU (H a (Y q) c) 31 5 (ab q)] L/\k=Y w-i/\i<=Y w/\(w.take i).mapM cy=C q)
  (λl L=>∃(q:cc)(a:aP)(c:Nat),Le [(5,H a (Y q) c),(6,M !(q.all av))] l/\cb [.aU (H a (Y q) c) 31 5 (ab q)] L/\w.mapM cy=C q) (Y w) ⟨0,[],_,_,bd,ak,aa,aa,aq⟩ ?_ ?_
 .rintro k l L ⟨i,q,a,c,hl,j,rfl,d,b⟩;refine' cP;have g:=l5 _ _ _ b;rw[de] at g;have m:=e i;(repeat' first|(apply ag;exact aj;exact λs=>HH s _ aa;intros)|refine' Fq|refine' eI|fail);(have hn:cy (w.getD i [])=O:=by have:=ki;exact Option.isSome_eq_false_iff.1 this|> Option.isNone_iff_eq_none.1);rw[mapM_none cy w [] aa hn];(refine' eu)<;>rfl;rotate_right 1;(have hi:i=Y w:=by omega);subst hi;rw[lG] at b;exact⟨q,_,_,bd,ak,b⟩;all_goals
   have hs:=oc cy w [] (show i<Y w by omega);have hn:cy (w.getD i [])=C ((cy (w.getD i [])).getD bp):=MC aT;rw[b,hn] at hs;refine⟨_,aa,i+1,q++[(cy (w.getD i [])).getD bp],_,_,?_,ak,rfl,aa,hs⟩;rw[Yl];first|(rw[show q.all av=J from by simpa using sN];exact bd;done)|(rw[show q.all av=U from by simpa using sN];exact bd;done)
 rintro l L ⟨q,a,c,hl,j,d⟩;refine' gh;have g:=l5 _ _ _ d;rw[d];refine' eR;all_goals
  (refine' eu)<;>dsimp only<;>first
    |(rw[ai (.inl aa)];rfl)
    |(rw[ai (.inr (by simpa using ki))];rfl)
    |(rw[af (λh=>h.elim (λh=>h aa) (λh=>tf h (by simpa using ki)))];rfl)
def DQ:∀(l:List aw)(x:aw)(out:aw),jJ (l++[x]) out=match jJ l out with
  |none=>O
  |some o=>if 2048<Y x then O else if 2048<Y (o++(fu (Y x)++58::x)) then O else C (o++(fu (Y x)++58::x))
 |[],x,out=>by simp[jJ]
 |y::l,x,out=>by simp only[jk,jJ];split;rfl;split;rfl;exact DQ l x _
def DR:∀(l m:List aw)(out:aw),jJ l out=O->jJ (l++m) out=O
 |[],m,out,h=>by simp[jJ] at h
 |y::l,m,out,h=>by simp only[jk,jJ] at h⊢;split;rfl;rename_i a;rw[af a] at h;split;rfl;rename_i b;rw[af b] at h;exact DR l m _ h
def Ym (l:List aw)(out:aw)(h:i<Y l)(hn:jJ (l.take (i+1)) out=O):jJ l out=O:=by rw[<-vC (i+1) l];exact DR _ _ _ hn
def HJ:∀(l:List aw)(out:aw)(o:aw),Y out<=2048->jJ l out=C o->Y o<=2048
 |[],out,o,h,k=>by simp[jJ] at k;subst k;exact h
 |y::l,out,o,h,k=>by simp only[jJ] at k;split at k;cases k;split at k;cases k;rename_i a;exact HJ l _ o aa k
def yG (s:St)(a:aP)(c:Nat)(p:List aw)(z:Y p<=100000)(hr:bJ s a (Y p) 1 (ab p)):bM 140 [H a (Y p) c] s (ah a) (abo (iy p)):=by
 have hd:=Rd.of hr (A:=ah a) λb hb=>hb;refine a8 f140 ?_;(repeat(first|refine' v7|refine' gL|fail));refine W.bu (λk l L=>∃(i:Nat)(o:aw),Le [(0,H a (Y p) c),(4,sv o),(5,iv i)] l/\cb [] L/\k=Y p-i/\i<=Y p/\(i=0\/Y p<=60)/\jJ (p.take i) []=C o)
  (λl L=>∃(o:aw),Le [(0,H a (Y p) c),(4,sv o)] l/\cb [] L/\((Y p<=60/\jJ p []=C o)\/(60<Y p/\o=[]))) (Y p) ⟨0,[],bd,ak,aa,aa,.inl rfl,by simp[jJ]⟩ ?_ ?_
 .rintro k l L ⟨i,o,hl,x,rfl,g,r,d⟩;refine' cP;have y:=HJ _ _ _ aq d;have B:Y (p.getD i au.ad)<10000000000->Y (dec (Y (p.getD i au.ad):Int))<=10:=λh=>kq _ aa;have e:=λh:i<Y p=>DQ (p.take i) (p.getD i au.ad) [];have j:=λh:i<Y p=>dS p au.ad h;rw[d] at e;have hf:Y p<=60->i<Y p->jJ (p.take (i+1)) []=O->iy p=O:=λh u n=>by unfold iy;rw[af aa];exact Ym p [] u n
  have m:∀w:aw,o++dec (Y w:Int)++[58]++w=o++(fu (Y w)++58::w):=λw=>by simp[dec]
  repeat' first|refine' aa9|refine' eI|fail
  (refine' aC);rw[hf aa aa (by rw[j aa,e aa];exact ai (by have:=ki;omega))];rfl;(refine' aC);rw[hf aa aa (by rw[j aa,e aa];refine(af aa).trans (ai ?_);have:=ki;rw[m] at this;exact Int.ofNat_lt.1 this)];rfl;have t:=ki;rw[m] at t;refine⟨_,aa,i+1,o++(fu (Y (p.getD i au.ad))++58::p.getD i au.ad),?_,ak,rfl,aa,.inr aa,?_⟩;have:=m (p.getD i au.ad);rw[<-this];exact bd;rw[j aa,e aa];refine(af aa).trans (af ?_);intro v;have:Y (o++(fu (Y (p.getD i au.ad))++58::p.getD i au.ad))<=2048:=Int.ofNat_le.1 t;omega;all_goals
   obtain h|h:=jc 60 (Y p)
   .have:i=0:=by omega
    subst this;simp[jJ] at d;exact⟨o,bd,ak,.inr ⟨h,d⟩⟩
   .have hi:i=Y p:=by omega
    subst hi;rw[lG] at d;exact⟨o,bd,ak,.inl ⟨aa,d⟩⟩
 rintro l L ⟨o,hl,x,g⟩;refine' gh;refine' eR;refine' aC;unfold iy;obtain⟨g,r⟩|⟨g,rfl⟩:=g;rw[af aa,r];simp[fj,abo];omega;rw[ai g];simp[fj,abo];omega
def HK (z:aw)(c:UInt8):kC (z++[c])=if c=0 then kC z else z++[c]:=by unfold kC;rw[List.reverse_append,List.reverse_singleton,qp,List.dropWhile_cons];split;rename_i h;rw[ai (by simpa using h)];rename_i h;rw[af (by simpa using h)];simp
def HL (z:aw)(h:0<Y z):z=z.take (Y z-1)++[z.getD (Y z-1) 0]:=by have:=dS z 0 (i:=Y z-1) aa;rwa[show Y z-1+1=Y z by omega,lG] at this
def HB (s:St)(z:aw)(g:Y z<=100000):bM 155 [sv z] s [] (sv (kC z)):=by
 refine a8 f155 ?_;(repeat(first|refine' v7|refine' gL|fail));refine W.bu (λk l L=>∃(w:aw),Le [(0,sv w)] l/\cb [] L/\k=Y w/\Y w<=Y z/\kC w=kC z)
  (λl L=>Le [(0,sv (kC z))] l/\cb [] L) (Y z) ⟨z,bd,ak,rfl,aa,rfl⟩ ?_ ?_
 rintro k l L ⟨w,hl,c,rfl,d,a⟩;refine' cP;have hb:∀x:UInt8,(x.toNat:Int)=0↔x=0:=λx=>by constructor;intro h;rw[<-tz];show x.toNat=0;omega;rintro rfl;rfl
 have e:0<Y w->kC w=if w.getD (Y w-1) 0=0 then kC (w.take (Y w-1)) else w:=λh=>by (conv=>lhs;rw[HL w h]);rw[HK,<-HL w h]
 have hi:0<Y w->((Y w:Int)-1)=((Y w-1:Nat):Int):=λh=>by omega
 have b:0<Y w->((Y w:Int)-1).toNat=Y w-1:=λh=>by omega
 refine' eR;(have h0:0<Y w:=by omega);rw[b h0,hb] at ki;have e:=e h0;rw[ai ki] at e;refine⟨_,?_,w.take (Y w-1),by rw[<-b h0];exact bd,ak,rfl,by rw[de];omega,by rwa[<-e]⟩;rw[de];omega;(have h0:0<Y w:=by omega);rw[b h0,hb] at ki;have e:=e h0;rw[af ki] at e;exact⟨by rw[<-a,e];exact bd,ak⟩;have h0:w=[]:=jG aa;subst h0;exact⟨by rw[<-a];exact bd,ak⟩;rintro l L ⟨hl,c⟩;refine aJ ?_;refine W.le ?_ hl c;refine' eR;refine' aC;rfl
def Mn (s:St)(n:Int)(hn:n<=100000):bM 97 [iv n] s [] (sv (jt n)):=by refine a8 f97 ?_;(repeat(first|refine' v7|refine' gL|fail));refine' aC;simp only[fj,jt];rw[show(max 0 n).toNat=n.toNat by omega]
def JP (l:List az)(d:az){i:Nat}(h:i<Y l):aR (l.take (i+1))=aR (l.take i)++((l.getD i d).name++61::(dec (l.getD i d).id++[59])):=by rw[dS l d h];simp[aR]
def Um (s:St)(a:aP)(c:Nat)(p:List az)(o:Y p<=3000)(hn:∀e∈p,Y e.name<=3000/\0<=e.id/\e.id<=1000000000)(hr:bJ s a (Y p) 2 (ab p)):bM 238 [H a (Y p) c] s (ah a) (sv (aR p)):=by
 have hd:=Rd.of hr (A:=ah a) λb hb=>hb;refine a8 f238 ?_;(repeat(first|refine' v7|refine' gL|fail));refine W.bu (λk l L=>∃(i:Nat),Le [(0,H a (Y p) c),(3,sv (aR (p.take i))),(4,iv i)] l/\cb [] L/\k=Y p-i/\i<=Y p/\Y (aR (p.take i))<=i*3012)
  (λl L=>Le [(3,sv (aR p))] l/\cb [] L) (Y p) ⟨0,bd,ak,aa,aa,by simp[aR]⟩ ?_ ?_
 rintro k l L ⟨i,hl,j,rfl,m,n⟩;refine' cP;have hb:=λh:i<Y p=>hn _ (a7 h au.ad);have g:=λh:i<Y p=>kq (p.getD i au.ad).id (by have:=hb h;omega);have e:=λh:i<Y p=>JP p au.ad h;by_cases hi:i<Y p
 .have hb:=hb hi;have g:=g hi;have e:=e hi;(repeat' first|refine' aa9|refine' eI|fail);refine⟨_,?_,i+1,?_,ak,rfl,aa,?_⟩;omega;rw[e,show ∀a b c d:aw,a++(b++61::(c++d))=a++b++[61]++c++d from λa b c d=>by simp];exact bd;rw[e];simp only[dB,fS,jm] at *;omega;all_goals omega
 (refine' eR);omega;have hi:i=Y p:=by omega
 subst hi;rw[lG];exact⟨bd,ak⟩;rintro l L ⟨hl,j⟩;refine aJ ?_;refine W.le ?_ hl j;refine' eR;refine' aC;rfl
variable {z:aw}
def getD_at {α:Type}{l:List α}{i:Nat}(d:α)(h:i<Y l):l.getD i d=l[i]:=by simp[eX,c8 h]
def qJ:∀p q:aw,Op.bytesLess p q=bP p q
 |[],[]=>rfl
 |[],_::_=>rfl
 |_::_,[]=>rfl
 |a::p,b::q=>by
  show(decide (a<b)||(a== b&&Op.bytesLess p q))=if a.toNat<b.toNat then J else if b.toNat<a.toNat then U else bP p q
  rw[qJ p q];by_cases h:a=b;subst h;(have:¬(a<a):=by rw[pn];omega);simp[this];have j:a.toNat≠b.toNat:=λe=>h (tz.1 e);(have d:(a== b)=U:=by simpa using h);by_cases c:a.toNat<b.toNat;(have:a<b:=by rw[pn];exact c);simp[c,this];have:¬a<b:=by rw[pn];exact c
  (have g:b.toNat<a.toNat:=by omega);simp[d,c,g,this]
def Yn (l:List az)(name:aw):Int:=((eH l name).map Int.ofNat).getD (-1)
def aef {p:List az}{i:Nat}(hi:i<Y p)(h:∀j,j<i->(p.getD j au.ad).name≠z)(a:(p.getD i au.ad).name=z):Yn p z=i:=by
 have:eH p z=C i:=by unfold eH;rw[Ae];refine⟨hi,by rw[getD_at _ hi] at a;simpa using a,λj b=>?_⟩;have:=h j b;rw[getD_at _ aa] at this;simpa using this
 unfold Yn;rw[this];rfl
def abp {p:List az}(h:∀j,j<Y p->(p.getD j au.ad).name≠z):Yn p z= -1:=by
 have:eH p z=O:=by unfold eH;rw[V4];intro x b;obtain⟨j,a,rfl⟩:=si b;have:=h j a;rw[getD_at _ a] at this;simpa using this
 unfold Yn;rw[this];rfl
def DH (s:St)(a:aP)(c:Nat)(p:List az)(z:aw)(n:Y p<=3000)(hr:bJ s a (Y p) 2 (ab p)):bM 182 [H a (Y p) c,sv z] s (ah a) (iv (Yn p z)):=by
 have hd:=Rd.of hr (A:=ah a) λb hb=>hb;refine a8 f182 ?_;(repeat(first|refine' v7|refine' gL|fail));refine W.bu (λk l L=>∃(i:Nat),Le [(0,H a (Y p) c),(1,sv z),(5,iv i)] l/\cb [] L/\k=Y p-i/\i<=Y p/\∀j,j<i->(p.getD j au.ad).name≠z)
  (λl L=>(∀j,j<Y p->(p.getD j au.ad).name≠z)) (Y p) ⟨0,bd,ak,aa,aa,λj e=>by omega⟩ ?_ ?_
 rintro k l L ⟨i,hl,m,rfl,g,d⟩;refine' cP;refine' eR;(refine' aC);rw[aef aa d ki];rfl;refine⟨_,?_,i+1,bd,ak,rfl,aa,λj e=>?_⟩;omega;rcases jc j i with h|h;exact d j h;(have:j=i:=by omega);subst this;exact ki;intro j e;exact d j aa;rintro l L h;refine aJ ?_;refine' eR;refine' aC;rw[abp h];rfl
def DS (s:St)(a:aP)(c:Nat)(p:List az)(i:Nat)(d:Y p<=3000)(hi:i<Y p)(hr:bJ s a (Y p) 2 (ab p))(hv:tg s a (Y p) c 100 2):eD aZ aW 181 [H a (Y p) c,iv i] s (ah a) 100 (eB p i):=by have hd:=Rd.of hr (A:=ah a) λb hb=>hb;refine a8 f181 ?_;refine' eR;refine' kT;show eB p i=[]++p.take i++p.drop (i+1);simp[eB]
def MD:∀(l:List az)(x:az),lV (l++[x])=(lV l&&match l.getLast? with|none=>J|some y=>bP y.name x.name)
 |[],x=>by simp[lV]
 |[a],x=>by simp[lV]
 |a::b::l,x=>by
  have ih:=MD (b::l) x;show(bP a.name b.name&&lV ((b::l)++[x]))=_;rw[ih];have:(a::b::l).getLast?=(b::l).getLast?:=by simp
  rw[this];show _=((bP a.name b.name&&lV (b::l))&&_);rw[Bool.and_assoc]
def Yo {p:List az}(h:lV p=J):∀k,lV (p.take k)=J:=by
 intro k;induction p generalizing k with
 |nil=>simp[lV]
 |cons a p ih=>
  cases k with
  |zero=>rfl
  |succ k=>
   cases p with
   |nil=>simp[lV]
   |cons b p=>
    have c:(bP a.name b.name&&lV (b::p))=J:=h;simp only[ep] at c;cases k with
    |zero=>rfl
    |succ k=>show(bP a.name b.name&&lV ((b::p).take (k+1)))=J;rw[c.1,ih c.2];rfl
def ME {p:List az}(d:az){i:Nat}(hi:i<Y p):lV (p.take (i+1))=(lV (p.take i)&&(decide (i=0)||bP (p.getD (i-1) d).name (p.getD i d).name)):=by
 rw[dS p d hi,MD];congr 1;cases i with
 |zero=>rfl
 |succ i=>rw[dS p d aa];simp
def pU (e:az):Bool:=bG e.name&&fI e.id 1 15
def Sq {p:List az}(d:az){i:Nat}(hi:i<Y p):(p.take (i+1)).all pU=((p.take i).all pU&&pU (p.getD i d)):=by rw[dS p d hi,GD];simp
def BU {p:List az}(d:az){i:Nat}(hi:i<Y p)(h:pU (p.getD i d)=U):bg p=U:=by
 have:p.all pU=U:=by rw[KT];exact⟨_,a7 hi d,by rw[h];simp⟩
 show(p.all pU&&lV p&&decide (Y p<=12))=U;rw[this];rfl
def MF {p:List az}{i:Nat}(h:lV (p.take i)=U):bg p=U:=by
 have:lV p=U:=by
  cases a:lV p with
  |false=>rfl
  |true=>rw[Yo a i] at h;cases h
 show(p.all pU&&lV p&&decide (Y p<=12))=U;rw[this];simp
def JN (s:St)(a:aP)(c:Nat)(p:List az)(t:Y p<=3000)(hn:∀e∈p,Y e.name<=3000)(hr:bJ s a (Y p) 2 (ab p)):bM 266 [H a (Y p) c] s (ah a) (M (bg p)):=by
 have hd:=Rd.of hr (A:=ah a) λb hb=>hb;refine a8 f266 ?_;(repeat(first|refine' v7|refine' gL|fail));refine W.bu (λk l L=>∃(i:Nat),Le [(0,H a (Y p) c),(3,iv i)] l/\cb [] L/\k=Y p-i/\i<=Y p/\(p.take i).all pU=J/\lV (p.take i)=J)
  (λl L=>Le [(0,H a (Y p) c)] l/\cb [] L/\p.all pU=J/\lV p=J) (Y p) ⟨0,bd,ak,aa,aa,rfl,rfl⟩ ?_ ?_
 rintro k l L ⟨i,hl,r,rfl,o,d,j⟩;refine' cP;have hb:=λh:i<Y p=>hn _ (a7 h au.ad);have m:=λh:i<Y p=>Sq au.ad h;have g:=λh:i<Y p=>ME au.ad h;by_cases hi:i<Y p
 .have hb:=hb hi;have m:=m hi;have g:=g hi;(repeat' first|refine' afV|refine' KF|refine' eI|fail);(have n:((i:Int)-1).toNat=i-1:=by omega);rw[qJ,n] at ki;refine' aC;rw[MF (i:=i+1) (p:=p) (by rw[g,j,ki];simp;omega)];rfl;(have n:((i:Int)-1).toNat=i-1:=by omega);rw[qJ,n] at ki;refine⟨_,?_,i+1,bd,ak,rfl,aa,?_,?_⟩;omega;rw[m,d];unfold pU;simp_all;rw[g,j,ki];simp;refine⟨_,?_,i+1,bd,ak,rfl,aa,?_,?_⟩;omega;rw[m,d];unfold pU;simp_all;rw[g,j];simp;omega;(refine' aC);rw[BU au.ad hi (by unfold pU;simp_all)];rfl;(refine' aC);rw[BU au.ad hi (by unfold pU;simp_all)];rfl;all_goals(exfalso;omega)
 (refine' eR);omega;have hi:i=Y p:=by omega
 subst hi;rw[lG] at d j;exact⟨bd,ak,d,j⟩;rintro l L ⟨hl,r,o,d⟩;refine aJ ?_;refine W.le ?_ hl r;refine' eR;refine' aC;show Value.bool (decide _)=Value.bool (p.all pU&&lV p&&decide _);rw[o,d];simp;omega
def ev (e:az):Value:=.agg ⟨Dj e⟩
def vt (s:St)(a:aP)(c:Nat)(p:List az)(e:az)(w:Y p<=3000)(hr:bJ s a (Y p) 2 (ab p)):eD aZ aW 176 [H a (Y p) c,ev e] s (ah a) 100 (gO p e):=by
 have hd:=Rd.of hr (A:=ah a) λb hb=>hb;refine a8 f176 ?_;(repeat(first|refine' v7|refine' gL|fail));refine W.bu (λk l L=>∃(i:Nat)(d:Bool)(q:List az)(a':aP)(c':Nat),Le [(0,H a (Y p) c),(3,bk bx),(5,H a' (Y q) c'),(6,M d),(7,iv i)] l/\cb [.aU (H a' (Y q) c') 100 2 (ab q),.box bx (Dj e) 100 U] L/\k=Y p-i/\i<=Y p/\Y q<=i+1/\(d=J->q++p.drop i=gO p e)/\(d=U->q=p.take i/\gO p e=p.take i++gO (p.drop i) e))
  (λl L=>∃(d:Bool)(q:List az)(a':aP)(c':Nat),Le [(3,bk bx),(5,H a' (Y q) c'),(6,M d)] l/\cb [.aU (H a' (Y q) c') 100 2 (ab q),.box bx (Dj e) 100 U] L/\Y q<=3001/\gO p e=if d=J then q else q++[e]) (Y p) ⟨0,U,[],_,_,bd,ak,aa,aa,aq,aq,aq⟩ ?_ ?_
 rintro k l L ⟨i,d,q,a',c',hl,u,rfl,v,n,t,o⟩;refine' cP;have m:i<Y p->p.drop i=p.getD i au.ad::p.drop (i+1):=λh=>by rw[getD_at _ h];exact xF h
 have r:i<Y p->p.take (i+1)=p.take i++[p.getD i au.ad]:=λh=>dS p _ h;refine' eR;(have h0:i<Y p:=by omega);obtain⟨g,j⟩:=o sN;rw[qJ] at hc;refine⟨_,?_,i+1,J,_,_,_,bd,ak,rfl,aa,?_,λ_=>?_,λh=>by cases h⟩;omega;have:=List.length_take_le i p;rw[<-g] at this;simp only[dB,fS,jm];omega;rw[j,g,m h0,gO,ai hc];simp;(have h0:i<Y p:=by omega);obtain⟨g,j⟩:=o sN;rw[qJ] at hc;refine⟨_,?_,i+1,d,_,_,_,bd,ak,rfl,aa,?_,λh=>?_,λ_=>?_⟩;omega;simp only[dB,fS,jm];omega;rw[sN] at h;cases h;refine⟨by rw[r h0,<-g],?_⟩;rw[j,m h0,gO,af (by rw[hc];simp),r h0];simp;(have h0:i<Y p:=by omega);refine⟨_,?_,i+1,d,_,_,_,bd,ak,rfl,aa,?_,λh=>?_,λh=>?_⟩;omega;simp only[dB,fS,jm];omega;rw[<-t h,m h0];simp;rw[sN] at h;cases h;have h0:i=Y p:=by omega
 subst h0;refine⟨d,_,_,_,bd,ak,aa,?_⟩;cases d with
 |true=>have:=t rfl;rw[ai rfl,<-this];simp
 |false=>obtain⟨g,j⟩:=o rfl;rw[af aq,j,<-g];simp[gO]
 rintro l L ⟨d,q,a',c',hl,u,v,n⟩;refine aJ ?_;refine W.le ?_ hl u;refine' eR;(refine' kT);rw[n,af (by simp_all)];(refine' kT);rw[n,ai (by simp_all)]
def P6 (s:aw):mc s=if(cut 61 s).length≠2 then O else C ⟨(cut 61 s).getD 0 [],pa ((cut 61 s).getD 1 [])⟩:=by unfold mc;obtain _|⟨a,_|⟨b,_|⟨c,l⟩⟩⟩:=cut 61 s<;>simp
def aeg {l:List az}(h:bg l=J):∀e∈l,Y e.name<=4/\1<=e.id/\e.id<=15:=by intro e b;have a:(l.all pU&&lV l&&decide (Y l<=12))=J:=h;simp only[ep,o5] at a;have:=a.1.1 e b;unfold pU bG fI at this;simp only[ep,gv] at this;exact⟨this.1.2,this.2.1,this.2.2⟩
def FW (s:St)(z:aw)(N:Y z<=2500):et aZ aW 226 [sv z] s [] 100 ((df z).getD []) (df z).isSome:=by
 have hm:=pT 59 z;have v:∀i,i<Y (cut 59 z)->Y ((cut 59 z).getD i au.ad)<=2500:=λi hi=>jR (sP 59 z _ (a7 hi _)) N;unfold df;refine a8 f226 ?_;repeat' first|refine' XS|refine' eI|fail
 generalize Q:cut 59 z=w at *
 refine W.bu (λk l L=>∃(i:Nat)(q:List az)(a:aP)(c:Nat),Le [(0,sv z),(4,H a (Y q) c),(5,H vo (Y w) vp),(6,iv i)] l/\cb [.aU (H vo (Y w) vp) 9 1 (ab w),.aU (H a (Y q) c) 100 2 (ab q)] L/\k=Y w-i/\i<=Y w.dropLast/\(w.dropLast.take i).mapM mc=C q/\∀e∈q,Y e.name<=2500)
  (λl L=>∃(q:List az)(a:aP)(c:Nat),Le [(0,sv z),(4,H a (Y q) c)] l/\cb [.aU (H a (Y q) c) 100 2 (ab q)] L/\w.dropLast.mapM mc=C q/\∀e∈q,Y e.name<=2500) (Y w) ⟨0,[],_,_,bd,ak,aa,aa,aq,aq⟩ ?_ ?_
 .rintro k l L ⟨i,q,a,c,hl,F,rfl,r,g,x⟩;refine' cP;have A:=l5 _ _ _ g;rw[de,tH r] at A;have t:Y w.dropLast=Y w-1:=List.length_dropLast;have u:=v i;have m:i<Y w.dropLast->w.dropLast.getD i []=w.getD i []:=λh=>by rw[getD_at _ h,getD_at _ aa,List.getElem_dropLast]
  have b:=P6 (w.getD i au.ad);have K:=pT 61 (w.getD i au.ad);have n:∀j,j<Y (cut 61 (w.getD i au.ad))->Y ((cut 61 (w.getD i au.ad)).getD j au.ad)<=Y (w.getD i au.ad):=λj G=>sP 61 _ _ (a7 G _);have o:=n 0;have y:=n 1;(repeat' first|refine' XS|(apply ag;exact aj;exact λs=>zL s _ aa;intros)|refine' eI|fail);(have hn:mc (w.dropLast.getD i [])=O:=by rw[m aa];refine b.trans (ai ?_);omega);rw[mapM_none mc w.dropLast [] aa hn];(refine' eu)<;>rfl;have hs:=oc mc w.dropLast [] (show i<Y w.dropLast by omega);(have hn:mc (w.dropLast.getD i [])=C ⟨(cut 61 (w.getD i au.ad)).getD 0 [],pa ((cut 61 (w.getD i au.ad)).getD 1 [])⟩:=by rw[m aa];refine b.trans (af ?_);omega);rw[g,hn] at hs;refine⟨_,?_,i+1,q++[⟨(cut 61 (w.getD i au.ad)).getD 0 [],pa ((cut 61 (w.getD i au.ad)).getD 1 [])⟩],_,_,bd,ak,rfl,aa,hs,λe b=>?_⟩;omega;rcases cG.1 b with b|b;exact x e b;rw[gI.1 b];have:=o aa;have E:=u aa;exact jR this E
  have hi:i=Y w.dropLast:=by omega
  subst hi;rw[lG] at g;exact⟨q,_,_,bd,ak,g,x⟩
 rintro l L ⟨q,a,c,hl,F,r,g⟩;refine' gh;have A:=l5 _ _ _ r;have t:Y w.dropLast=Y w-1:=List.length_dropLast;have B:∀e∈q,Y e.name<=3000:=λe b=>by have:=g e b;omega
 rw[r];by_cases d:bg q=J
 .have D:∀e∈q,Y e.name<=3000/\0<=e.id/\e.id<=1000000000:=λe b=>by have:=aeg d e b;omega
  repeat' first|refine' afW|refine' afX|refine' eI|fail
  simp only[d,ki];(refine' eu)<;>simp[ki];simp only[d,ki];(refine' eu)<;>simp[ki];all_goals(exfalso;simp_all;done)
 (repeat' first|refine' afW|refine' eI|fail);all_goals first|(exfalso;simp_all;done)|skip
 simp only[d];(refine' eu)<;>simp[d]
end Go.Pl
