/- Lemmas of the proof. No conditions. -/
import Derived.Test.YtajgfdfbnhchcaaGreatDoorProg
import Derived.Test.YtajgfdfbnhchcaaGreatDoorBb1
set_option maxRecDepth 100000
set_option maxHeartbeats 4000000
set_option linter.unusedVariables false
set_option linter.unusedSimpArgs false
open Go.Proofs.Tryz
namespace Go
variable{P:Prop}
theorem zaN (h:P:=by
 obtain⟨l1,q1,yB⟩:=Fh (e:=en) OA hid Vl Ly;have e4':gQ G id (some en) at_=some e:=by rw[fP _ _ nJ];exact e4
 have jJ:=dV e4;have tE:bD e.es=true:=by have:=pV hG.wf at_;rwa [jJ] at this
 all_goals(rcases _ with h;exact h)):P:=h
theorem za4 (h:P:=by
 have:t.depth.toNat=0\/t.depth.toNat=1\/t.depth.toNat=2:=by rw[h.dp];omega
 rcases this with hh|hh|hh<;>rw[hh] at h3<;>simp at h3<;>omega
 all_goals(rcases _ with h;exact h)):P:=h
theorem zbg (h:P:=by
 obtain⟨R,hR⟩:=h.Kj he;obtain⟨ln,qn,hq,hh⟩:=((h.at_ k).some he).2;rw[hq] at hR;rcases hh with⟨_,hh⟩|hh
 all_goals(rcases _ with h;exact h)):P:=h
end Go
namespace Go.Pg
open Go.Pl
variable {l:List az}
section
variable {n:Nat}
theorem zx (h:n<10):gW n=[UInt8.ofNat (48+n)]:=by rw[gW,dif_pos h]
theorem CI (h:¬n<10):gW n=gW (n/ 10)++[UInt8.ofNat (48+n% 10)]:=by rw[gW,dif_neg h]
theorem Yd (h:n<10):(UInt8.ofNat (48+n)).toNat=48+n:=by rw[UInt8.toNat_ofNat_of_lt' (by show _<256;omega)]
theorem vo (n:Nat):1<=(gW n).length:=by rw[gW];split<;>simp
theorem Mv (n:Nat):∀c∈gW n,kU c=true:=by
 induction n using Nat.strongRecOn with
 |_ n ih=>
  intro c hc;by_cases h:n<10
  .rw[zx h] at hc;simp only[ix] at hc;subst hc;simp only[kU,Yd h,bO,bQ];omega
  .rw[CI h] at hc;rcases eZ.1 hc with hc|hc
   .exact ih (n/ 10) ag c hc
   .simp only[ix] at hc;subst hc;simp only[kU,Yd (SE n ag),bO,bQ];omega
theorem gv (n:Nat):∀k,1<=k->n<10^ k->(gW n).length<=k:=by
 induction n using Nat.strongRecOn with
 |_ n ih=>
  intro k hk hn;by_cases h:n<10
  .rw[zx h];exact hk
  .rw[CI h,bL];obtain⟨k,rfl⟩:∃j,k=j+1:=⟨k-1,ag⟩;have h1:1<=k:=by
    rcases k with _|k
    .simp at hn;omega
    .omega
   have:=ih (n/ 10) ag k h1 (by rw[Vy] at hn;omega);simp only[cY,lW];omega
theorem TX (s:az)(c:UInt8):numOf (s++[c])=10*numOf s+(c.toNat-48):=by unfold numOf;rw[List.foldl_append];rfl
theorem PG (n:Nat):numOf (gW n)=n:=by
 induction n using Nat.strongRecOn with
 |_ n ih=>
  by_cases h:n<10
  .rw[zx h];show 10*0+((UInt8.ofNat (48+n)).toNat-48)=n;rw[Yd h];omega
  .rw[CI h,TX,ih (n/ 10) ag,Yd (SE n ag)];omega
theorem TY (n:Nat):(gW n).headD 0=48->n=0:=by
 induction n using Nat.strongRecOn with
 |_ n ih=>
  intro h;by_cases hn:n<10
  .rw[zx hn] at h;have:(UInt8.ofNat (48+n)).toNat=(48:UInt8).toNat:=by rw[show UInt8.ofNat (48+n)=48 from h]
   rw[Yd hn] at this;have h2:(48:UInt8).toNat=48:=rfl;omega
  .rw[CI hn] at h;have h1:(gW (n/ 10)++[UInt8.ofNat (48+n% 10)]).headD 0=(gW (n/ 10)).headD 0:=by
    have:=vo (n/ 10);cases hh:gW (n/ 10) with
    |nil=>rw[hh] at this;simp at this
    |cons a l=>rfl
   rw[h1] at h;have:=ih (n/ 10) ag h;omega
theorem xe {p:UInt8->Bool}:∀(a b:az),(∀c∈a,p c=true)->(b.head?.all λc=>!p c)=true->(a++b).takeWhile p=a
 |[],[],_,_=>rfl
 |[],c::b,_,h=>by
  have:p c=false:=by simpa using h
  simp[this]
 |x::a,b,h,h2=>by
  rw[yv,List.takeWhile_cons,h x ay];simp only[if_true];rw[xe a b (λc hc=>h c (by simp[hc])) h2]
theorem TZ (hn:n<1000000000)(b:az)(hb:(b.head?.all λc=>!kU c)=true):tI (gW n++b)=gW n:=by
 have h9:(gW n).length<=9:=gv n 9 ag ag;unfold tI;rw[Bk,qW h9];apply xe
 .exact Mv n
 .cases b with
  |nil=>simp
  |cons c b=>
   cases h:9-(gW n).length with
   |zero=>simp
   |succ k=>simpa using hb
theorem HQ (hn:n<1000000000)(b:az)(hb:(b.head?.all λc=>!kU c)=true):kV (gW n++b)=(n,(gW n).length):=by
 unfold kV;simp only[TZ hn b hb];rw[if_neg,PG];rintro⟨h1,h2⟩;have h3:(gW n++b).headD 0=(gW n).headD 0:=by
  have:=vo n;cases hh:gW n with
  |nil=>rw[hh] at this;simp at this
  |cons a l=>rfl
 rw[h3] at h2;have:=TY n h2;subst this;rw[zx ag] at h1;simp at h1
theorem Mw (hn:n<1000000000):iR (gW n)=some n:=by unfold iR;have h:=HQ hn [] rfl;rw[gg] at h;simp only[h];rw[if_neg];have:=vo n;omega
theorem nj {n:Int}(h:0<=n):dec n=gW n.toNat:=by obtain⟨k,rfl⟩:=wT h;rfl
theorem oo {n:Int}(h0:0<=n)(h:n<1000000000):iR (dec n)=some n.toNat:=by rw[nj h0,Mw ag]
theorem sN {n:Int}(h0:0<=n)(h:n<1000000000):qZ (dec n)=n:=by unfold qZ;rw[oo h0 h];simp;omega
theorem abm {n:Int}(h0:0<=n)(h:n<1000000000):(dec n).length<=9:=by rw[nj h0];exact gv _ 9 ag ag
theorem CJ {n:Int}(h0:0<=n):∀c∈dec n,kU c=true:=by rw[nj h0];exact Mv _
theorem vm (c:UInt8):∀s:az,(∀x∈s,x≠c)->cut c s=[s]
 |[],_=>rfl
 |x::s,h=>by
  rw[cut,if_neg (h x ay),vm c s (λy hy=>h y (by simp[hy]))]
theorem CK (c:UInt8):∀(s b:az),(∀x∈s,x≠c)->cut c (s++c::b)=s::cut c b
 |[],b,_=>by rw[pn,cut,if_pos rfl]
 |x::s,b,h=>by
  rw[yv,cut,if_neg (h x ay),CK c s b (λy hy=>h y (by simp[hy]))]
theorem Er (c:UInt8):∀l:List az,l≠[]->(∀s∈l,∀x∈s,x≠c)->cut c (iL c l)=l
 |[],h,_=>absurd rfl h
 |[s],_,h=>vm c s (h s ay)
 |s::t::l,_,h=>by
  rw[iL,CK c s _ (h s ay),Er c (t::l) ay (λu hu=>h u (by simp[hu]))];simp
theorem eP (s:az)(l:List az):fieldsOf (s::l)=gW s.length++58::s++fieldsOf l:=by simp[fieldsOf]
theorem Mx:∀(l:List az)(out:az),(out++fieldsOf l).length<=2048->kW l out=some (out++fieldsOf l)
 |[],out,_=>by simp[kW,fieldsOf]
 |s::l,out,h=>by
  rw[eP] at h;simp only[bL,cY] at h;rw[kW,if_neg ag];dsimp only;rw[if_neg (by simp only[bL,cY];omega),Mx l _ (by simp only[bL,cY];omega),eP];simp
theorem zy (h:l.length<=60)(hl:(fieldsOf l).length<=2048):jo l=some (fieldsOf l):=by unfold jo;rw[if_neg ag,Mx l [] (by simpa using hl)];simp
theorem My:∀(l:List az)(f:Nat)(out:List az),l.length<f->(fieldsOf l).length<=2048->sG f (fieldsOf l) out=some (out++l)
 |[],f,out,h,_=>by
  obtain⟨f,rfl⟩:∃g,f=g+1:=⟨f-1,ag⟩;simp[sG,fieldsOf]
 |s::l,f,out,h,hl=>by
  obtain⟨f,rfl⟩:∃g,f=g+1:=⟨f-1,ag⟩;have jM:=hl;rw[eP] at hl;simp only[bL,cY] at hl;have fY:fieldsOf (s::l)≠[]:=by rw[eP];simp
  obtain⟨c,z,hz⟩:∃c z,fieldsOf (s::l)=c::z:=by
   cases hh:fieldsOf (s::l) with
   |nil=>exact absurd hh fY
   |cons c z=>exact⟨c,z,rfl⟩
  have hn:kV (fieldsOf (s::l))=(s.length,(gW s.length).length):=by
   rw[eP,ku];exact HQ ag _ (by simp[kU])
  rw[hz,sG]
  .rw[<-hz,hn];have hp:=vo s.length;have cX:(fieldsOf (s::l)).length=(gW s.length).length+1+s.length+(fieldsOf l).length:=by rw[eP];simp only[bL,cY];omega
   have e1:(fieldsOf (s::l)).getD (gW s.length).length 0=58:=by
    rw[eP,ku,aZ,Ao (cG _),B9];rfl
   have e2:(fieldsOf (s::l)).drop ((gW s.length).length+1)=s++fieldsOf l:=by
    rw[eP,ku,<-mu,List.drop_left];rfl
   have e3:(fieldsOf (s::l)).drop ((gW s.length).length+1+s.length)=fieldsOf l:=by
    rw[<-mu,e2,List.drop_left]
   dsimp only;(have Ce:l.length<f:=by rw[cY] at h;omega);rw[if_neg (by rw[e1,cX];rintro(h|h|h|h)<;>first|omega|exact h rfl),e3,e2,List.take_left,My l f _ Ce ag];simp
  .simp
theorem BO:∀l:List az,2*l.length<=(fieldsOf l).length
 |[]=>by simp[fieldsOf]
 |s::l=>by
  have:=BO l;have:=vo s.length;rw[eP];simp only[bL,cY];omega
theorem Gn (h:l.length<=60)(hl:(fieldsOf l).length<=2048):fa (fieldsOf l)=some l:=by unfold fa;rw[if_neg ag,My l _ [] (by have:=BO l;omega) hl];simp only[pn];rw[zy h hl];simp
end
variable {s:az}{c:UInt8}
section
variable {l:dg}
theorem PH (h:∀x∈s,kU x=true)(hc:kU c=false):∀x∈s,x≠c:=by rintro x hx rfl;rw[h x hx] at hc;cases hc
theorem vZ {p:jF}(h:aI p=false):bC p=true↔(8<=p.row/\p.row<=63)/\(1<=p.dt/\p.dt<=900)/\(1<=p.size/\p.size<=128)/\(0<=p.sum/\p.sum<=99460728)/\0<=p.level/\p.level<=2:=by simp[bC,h,Te,fV,and_assoc]
theorem qI {p:jF}:aI p=true↔p=bA:=by simp[aI]
theorem lI:aI bA=true:=by simp[aI]
theorem AX {p:jF}(h:aI p=false)(ho:bC p=true):eM p=iL 46 [dec p.row,dec p.dt,dec p.size,dec p.sum,dec p.level]:=by simp[eM,h,ho,iL]
theorem vp:eM bA=[45]:=by decide
theorem JM {p:jF}(ho:bC p=true):∀x∈eM p,kU x=true\/x=46\/x=45:=by
 cases h:aI p with
 |true=>rw[qI.1 h,vp];simp
 |false=>
  have hk:=(vZ h).1 ho;rw[AX h ho];intro x hx;simp only[iL,eZ,bT] at hx;have hd:=λ{n:Int} (h0:0<=n) (hx:x∈dec n)=>CJ h0 x hx
  rcases hx with hx|hx|hx|hx|hx|hx|hx|hx|hx
  .exact .inl (hd ag hx)
  .exact .inr (.inl hx)
  .exact .inl (hd ag hx)
  .exact .inr (.inl hx)
  .exact .inl (hd ag hx)
  .exact .inr (.inl hx)
  .exact .inl (hd ag hx)
  .exact .inr (.inl hx)
  .exact .inl (hd ag hx)
theorem jT {p:jF}:(eM p).length<=24:=by
 cases ho:bC p with
 |false=>simp[eM,ho]
 |true=>
 cases h:aI p with
 |true=>rw[qI.1 h,vp];simp
 |false=>
  have hk:=(vZ h).1 ho;rw[AX h ho];have h1:(dec p.row).length<=2:=by rw[nj ag];exact gv _ 2 ag ag
  have h2:(dec p.dt).length<=3:=by rw[nj ag];exact gv _ 3 ag ag
  have h3:(dec p.size).length<=3:=by rw[nj ag];exact gv _ 3 ag ag
  have h4:(dec p.sum).length<=9:=by rw[nj ag];exact gv _ 9 ag ag
  have h5:(dec p.level).length<=1:=by rw[nj ag];exact gv _ 1 ag ag
  simp only[iL,bL,cY];omega
theorem Es {p:jF}(ho:bC p=true):jq (eM p)=some p:=by
 cases h:aI p with
 |true=>rw[qI.1 h,vp];rfl
 |false=>
  have hk:=(vZ h).1 ho;have hc:cut 46 (eM p)=[dec p.row,dec p.dt,dec p.size,dec p.sum,dec p.level]:=by
   rw[AX h ho];apply Er _ _ ay;intro s hs;simp only[bT,jg,jD] at hs;rcases hs with rfl|rfl|rfl|rfl|rfl<;>exact PH (CJ ag) bJ
  have fY:eM p≠[45]:=by
   intro he;have:=ep List.length hc;rw[he] at this;simp[cut] at this
  unfold jq;rw[if_neg fY,hc];simp only[oo (show 0<=p.row by omega) ag,oo (show 0<=p.dt by omega) ag,oo (show 0<=p.size by omega) ag,oo (show 0<=p.sum by omega) ag,oo (show 0<=p.level by omega) ag];have e:(⟨(p.row.toNat:Int),(p.dt.toNat:Int),(p.size.toNat:Int),(p.sum.toNat:Int),(p.level.toNat:Int)⟩:jF)=p:=by
   obtain⟨a,b,c,d,e⟩:=p;simp only at hk;simp;omega
  rw[e];simp[ho,h]
theorem T0 {p:jF}(h:jq s=some p):bC p=true:=by
 unfold jq at h;split at h
 .cases h;decide
 .split at h
  .split at h
   .simp only at h;split at h
    .cases h
    .rename_i hh;cases h
     simp at hh;exact hh.1
   .cases h
  .cases h
theorem mapM_some {α β:Type}(f:α->Option β):∀{l:List α}{r:List β},l.mapM f=some r->r.length=l.length/\∀y∈r,∃x∈l,f x=some y
 |[],r,h=>by simp at h;subst h;simp
 |x::l,r,h=>by
  rw[FV] at h;cases hx:f x with
  |none=>rw[hx] at h;simp at h
  |some y=>
   cases hl:l.mapM f with
   |none=>rw[hx,hl] at h;simp at h
   |some r'=>
    rw[hx,hl] at h;simp at h;subst h;obtain⟨h1,h2⟩:=mapM_some f hl;refine⟨by simp[h1],λz hz=>?_⟩;rcases bT.1 hz with rfl|hz
    .exact⟨x,ay,hx⟩
    .obtain⟨w,hw,SS⟩:=h2 z hz;exact⟨w,by simp[hw],SS⟩
theorem Et {α β:Type}(f:α->Option β)(g:β->α):∀l:List β,(∀x∈l,f (g x)=some x)->(l.map g).mapM f=some l
 |[],_=>rfl
 |x::l,h=>by
  rw[wO,FV,h x ay,Et f g l (λy hy=>h y (by simp[hy]))];rfl
theorem PI (h4:l.length=4)(ho:∀p∈l,bC p=true)(hh:l.all aI=false):ky (iL 44 (l.map eM))=some l:=by
 unfold ky;rw[Er _ _ (by intro h;rw[List.map_eq_nil_iff] at h;subst h;simp at h4)]
 .rw[Et jq eM l (λp hp=>Es (ho p hp))];simp[h4,hh]
 .intro s hs x hx;obtain⟨p,hp,rfl⟩:=jK.1 hs;rcases JM (ho p hp) x hx with h|rfl|rfl
  .rintro rfl;exact absurd h bJ
  .decide
  .decide
theorem BP (h:ky s=some l):l.length=4/\(∀p∈l,bC p=true)/\l.all aI=false:=by
 unfold ky at h;split at h
 .cases h
 .rename_i r hr;split at h
  .cases h
  .rename_i hh;cases h
   refine⟨ag,λp hp=>?_,by simpa using λh=>hh (.inr h)⟩;obtain⟨x,_,hx⟩:=(mapM_some jq hr).2 p hp;exact T0 hx
theorem Mz (h:kx l=some s):l.length=4/\(∀p∈l,bC p=true)/\l.all aI=false/\s=iL 44 (l.map eM):=by
 unfold kx at h;split at h
 .cases h
 .split at h
  .cases h
  .split at h
   .cases h
   .rename_i h1 h2 h3;cases h
    refine⟨ag,λp hp=>?_,by simpa using h3,rfl⟩;simp only[GM,not_exists,not_and] at h2;have:=h2 p hp;simpa using this
theorem T1 (h4:l.length=4)(ho:∀p∈l,bC p=true)(hh:l.all aI=false):kx l=some (iL 44 (l.map eM)):=by unfold kx;rw[if_neg ag,if_neg,if_neg (by simp[hh])];simp only[GM,not_exists,not_and];intro p hp;simp[ho p hp]
theorem abn (h4:l.length=4):(iL 44 (l.map eM)).length<=128/\1<=(iL 44 (l.map eM)).length:=by
 match l,h4 with
 |[a,b,c,d],_=>
  have:=jT (p:=a);have:=jT (p:=b);have:=jT (p:=c);have:=jT (p:=d);simp only[wO,C2,iL,bL,cY];omega
theorem T2 (k:Int):0<=fy k/\fy k<=128:=by
 unfold fy;split
 .omega
 .split<;>omega
theorem lh {n:iM}(h:eD n=true):(n.kind=1\/n.kind=2)/\(0<=n.size/\n.size<=2048)/\n.aX.many=fA n.kind n.size/\(0<=n.aX.many/\n.aX.many<=16)/\n.aX.depth=cQ n.aX.many/\bC n.aX.cI=true/\(1<=n.bK/\n.bK<=9)/\(n.kind=2->n.bK=1):=by
 simp only[eD,bO,qi,C1,mg,C0,fV,bQ] at h;obtain⟨⟨⟨⟨h1,h2⟩,h3⟩,h4⟩,h5,h6⟩:=h;have hk:n.kind=1\/n.kind=2:=by
  by_cases k1:n.kind=1
  .exact .inl k1
  .by_cases k2:n.kind=2
   .exact .inr k2
   .exfalso;apply h1;simp[fA,fy,k1,k2]
 have hs:0<=n.size/\n.size<=16*fy n.kind:=by
  unfold fA at h1;split at h1
  .exact absurd ag h1
  .rename_i hh;simp[fV] at hh;omega
 have he:=T2 n.kind;have hm:n.aX.many=fA n.kind n.size:=by omega
 have hp:fA n.kind n.size<=16:=by
  unfold fA dx;split
  .omega
  .rcases hk with hk|hk
   .rw[hk] at hs⊢;simp[fy] at hs⊢;omega
   .rw[hk] at hs⊢;simp[fy] at hs⊢;omega
 refine⟨hk,⟨hs.1,ag⟩,hm,ag,by rw[hm];omega,h4,?_,?_⟩
 .split at h5<;>omega
 .intro hk;rw[if_pos hk] at h5;omega
theorem fD (m:Int):0<=cQ m/\cQ m<=2:=by
 unfold cQ;split
 .omega
 .split<;>omega
theorem qJ:∀l:List az,(∀s∈l,s.length<=24)->(fieldsOf l).length<=l.length*34
 |[],_=>by simp[fieldsOf]
 |s::l,h=>by
  have:=qJ l (λx hx=>h x (by simp[hx]));have h1:=h s ay;have:(gW s.length).length<=9:=gv _ 9 ag ag;rw[eP];simp only[bL,cY];omega
theorem zA {n:iM}(h:eD n=true):∀s∈j5 n,s.length<=24:=by
 obtain⟨hk,hs,_,hm,hd,hr,hl,_⟩:=lh h;have:=fD n.aX.many;intro s hs;simp only[j5,bT,jg,jD] at hs;have hh:=λ{n:Int} (h0:0<=n) (h:n<1000000000)=>gK (abm h0 h) (show 9<=24 by omega)
 rcases hs with rfl|rfl|rfl|rfl|rfl|rfl|rfl
 .exact hh ag ag
 .exact hh ag ag
 .exact hh ag ag
 .exact jT
 .exact hh ag ag
 .exact hh ag ag
 .simp
theorem Eu {n:iM}(h:eD n=true):gj n=fieldsOf (j5 n):=by unfold gj;rw[h,zy (by simp[j5]) (by have:=qJ _ (zA h);simp[j5] at this⊢;omega)];rfl
theorem rF {n:iM}(h:eD n=true):1<=(gj n).length/\(gj n).length<=128:=by
 rw[Eu h];obtain⟨hk,hs,_,hm,hd,hr,hl,_⟩:=lh h;have hd':=fD n.aX.many;have h1:(dec n.kind).length<=1:=by rw[nj ag];exact gv _ 1 ag ag
 have h2:(dec n.bK).length<=1:=by rw[nj ag];exact gv _ 1 ag ag
 have h3:(dec n.size).length<=4:=by rw[nj ag];exact gv _ 4 ag ag
 have h4:(dec n.aX.depth).length<=1:=by rw[nj ag];exact gv _ 1 ag ag
 have h5:(dec n.aX.many).length<=2:=by rw[nj ag];exact gv _ 2 ag ag
 have h6:=jT (p:=n.aX.cI);have Rf:∀k:Nat,k<=24->(gW k).length<=2:=λk hk=>gv _ 2 ag ag
 simp only[j5,eP,bL,cY];have:=Rf (dec n.kind).length ag;have:=Rf (dec n.bK).length ag;have:=Rf (dec n.size).length ag;have:=Rf (dec n.aX.depth).length ag;have:=Rf (dec n.aX.many).length ag;have:=Rf (eM n.aX.cI).length ag;have:=Rf 3 ag;have:(fieldsOf []).length=0:=rfl;simp only[lW];simp only[mU,Nat.reduceAdd];omega
theorem MA {n:iM}(h:eD n=true):eR (gj n)=some n:=by
 have hg:fa (gj n)=some (j5 n):=by
  rw[Eu h];exact Gn (by simp[j5]) (by have:=qJ _ (zA h);simp[j5] at this⊢;omega)
 obtain⟨hk,hs,_,hm,hd,hr,hl,_⟩:=lh h;have hd':=fD n.aX.many;unfold eR;rw[hg];simp only[j5];rw[sN (show 0<=n.kind by omega) ag,sN (show 0<=n.bK by omega) ag,sN (show 0<=n.size by omega) ag,sN (show 0<=n.aX.depth by omega) ag,sN (show 0<=n.aX.many by omega) ag,Es hr];simp[h]
theorem xY {n:iM}(h:eR s=some n):eD n=true/\gj n=s:=by
 unfold eR at h;split at h
 .simp only at h;split at h
  .cases h
  .rename_i hh;cases h
   simpa using hh
 .cases h
theorem vq:eR []=none:=by
 cases h:eR [] with
 |none=>rfl
 |some n=>
  obtain⟨h1,h2⟩:=xY h;have:=(rF h1).1;rw[h2] at this;simp at this
theorem rG (h:aU s=true):(∀c∈s,97<=c.toNat/\c.toNat<=122)/\1<=s.length/\s.length<=4:=by simp only[aU,bO,bQ,gA] at h;exact⟨λc hc=>h.1.1 c hc,h.1.2,h.2⟩
theorem RH (h:aU s=true)(hc:c.toNat<97):∀x∈s,x≠c:=by rintro x hx rfl;have:=(rG h).1 x hx;omega
theorem vr (e:bf)(l:List bf):bn (e::l)=(e.name++61::dec e.id)++59::bn l:=by simp[bn]
theorem adl:∀l:List bf,(∀e∈l,aU e.name=true/\0<=e.id)->(cut 59 (bn l)).dropLast=l.map λe=>e.name++61::dec e.id
 |[],_=>rfl
 |e::l,h=>by
  have he:=h e ay;rw[vr,CK]
  .have fY:cut 59 (bn l)≠[]:=by
    cases hh:bn l with
    |nil=>simp[cut]
    |cons x z=>
     rw[cut];split
     .simp
     .split<;>simp
   rw[List.dropLast_cons_of_ne_nil fY,adl l (λx hx=>h x (by simp[hx]))];rfl
  .intro x hx;rcases eZ.1 hx with hx|hx
   .exact RH he.1 bJ x hx
   .rcases bT.1 hx with rfl|hx
    .decide
    .exact PH (CJ he.2) bJ x hx
theorem MB {e:bf}(h:aU e.name=true)(h0:0<=e.id)(h1:e.id<1000000000):ma (e.name++61::dec e.id)=some e:=by unfold ma;rw[CK _ _ _ (RH h bJ),vm _ _ (PH (CJ h0) bJ)];simp only[sN h0 h1]
theorem iq {l:List bf}(h:bD l=true):(∀e∈l,aU e.name=true/\1<=e.id/\e.id<=15)/\mP l=true/\l.length<=12:=by simp only[bD,bO,bQ,gA,fV] at h;exact⟨λe he=>h.1.1 e he,h.1.2,h.2⟩
theorem Ew {l:List bf}(h:bD l=true):iS (bn l)=some l:=by obtain⟨h1,_,_⟩:=iq h;unfold iS;rw[adl l (λe he=>⟨(h1 e he).1,by have:=h1 e he;omega⟩)];rw[Et ma _ l (λe he=>by have:=h1 e he;exact MB this.1 ag ag)];simp[h]
theorem l6 {l:List bf}(h:bD l=true):(bn l).length<=96/\(l≠[]->1<=(bn l).length):=by
 obtain⟨h1,_,h3⟩:=iq h;have:∀l:List bf,(∀e∈l,aU e.name=true/\1<=e.id/\e.id<=15)->(bn l).length<=l.length*8/\(l≠[]->1<=(bn l).length):=by
  intro l;induction l with
  |nil=>simp[bn]
  |cons e l ih=>
   intro h;have he:=h e ay;have h4:=(rG he.1).2;(have h5:(dec e.id).length<=2:=by rw[nj ag];exact gv _ 2 ag ag);have:=(ih (λx hx=>h x (by simp[hx]))).1;rw[vr];simp only[bL,cY];refine⟨ag,λ_=>by omega⟩
 have:=this l h1;exact⟨ag,this.2⟩
end
variable {a b st da:au}{Q':dg}{p:jF}{level:Int}
def nh (p:jF):Bool:=!aI p
def ae3 (i:Nat)(p:jF):Bool:=decide (p.row.toNat=i)
def Ak (i:Nat)(Q:dg):Nat:=Q.countP (ae3 i)
theorem abo (i:Nat):Ak i []=0:=rfl
theorem iV (i:Nat)(p q:dg):Ak i (p++q)=Ak i p+Ak i q:=by simp[Ak]
theorem o8 (i:Nat)(p:jF)(q:dg):Ak i (p::q)=Ak i q+if p.row.toNat=i then 1 else 0:=by simp[Ak,iH,ae3]
theorem MC {i:Nat}{p q:dg}(h:p.Perm q):Ak i p=Ak i q:=h.countP_eq _
theorem Ey {i:Nat}{Q:dg}(h:Ak i Q=0):∀p∈Q,p.row.toNat≠i:=by intro p hp he;have:=(uM.1 h) p hp;simp[ae3,he] at this
def Live (st:au)(p:jF):Prop:=fits p (gy st p)=true/\p.dt<=st.fJ
structure mS (st:au)(Q:dg):Prop where
 lr:st.ez.length=64
 lf:st.bc.length=64
 ll:st.dw.length=64
 kp:st.oV=0
 tx:1<=st.fJ
 lv:∀p∈Q,Live st p
 ct:∀i:Nat,i<64->((Ak i (Q++st.cP):Nat):Int)<=st.bc.getD i 0
 gn:∀p∈st.cP,8<=p.row.toNat/\p.row.toNat<64
structure fR (st da:au)(Q:dg):Prop where
 tx:da.fJ=st.fJ
 row:∀p∈Q,gy da p=gy st p
theorem fR.refl (st:au)(Q:dg):fR st st Q:=⟨rfl,λ_ _=>rfl⟩
theorem fR.trans {a b c:au}{Q Q':dg}(h:fR a b Q)(k:fR b c Q')(hs:∀p∈Q,p∈Q'):fR a c Q:=⟨k.tx.trans h.tx,λp hp=>(k.row p (hs p hp)).trans (h.row p hp)⟩
theorem fR.mono {Q Q':dg}(h:fR a b Q)(hs:∀p∈Q',p∈Q):fR a b Q':=⟨h.tx,λp hp=>h.row p (hs p hp)⟩
theorem Live.nh (h:Live st p):aI p=false/\bC p=true:=by have:=h.1;simp[fits] at this;exact⟨this.1.1.2,this.1.1.1⟩
theorem Live.We (h:Live st p):8<=p.row.toNat/\p.row.toNat<64/\1<=p.dt:=by have:=(vZ h.nh.1).1 h.nh.2;omega
theorem Live.ext {Q:dg}(h:Live st p)(hr:gy da p=gy st p)(ht:st.fJ<=da.fJ):Live da p:=⟨by rw[hr];exact h.1,by have:=h.2;omega⟩
theorem mS.cZ {Q Q':dg}(h:mS st Q)(hp:Q.Perm Q'):mS st Q':=
 ⟨h.lr,h.lf,h.ll,h.kp,h.tx,λp hq=>h.lv p (hp.mem_iff.2 hq),λi hi=>by rw[MC (hp.symm.append_right _)];exact h.ct i hi,h.gn⟩
theorem mS.less {Q Q':dg}(h:mS st Q)(hm:∀p∈Q',p∈Q)(hc:∀i,Ak i Q'<=Ak i Q):mS st Q':=
 ⟨h.lr,h.lf,h.ll,h.kp,h.tx,λp hq=>h.lv p (hm p hq),λi hi=>by
   have:=h.ct i hi;rw[iV] at this⊢;have:=hc i;omega,h.gn⟩
theorem mS.sub {Q Q':dg}(h:mS st Q)(hs:Q'.Sublist Q):mS st Q':=h.less (λp hp=>hs.subset hp) (λi=>hs.countP_le)
theorem lj {p:Nat->Bool}:∀{n i k:Nat},nO p n i=some k->i<=k/\k<i+n/\p k=true
 |0,i,k,h=>by cases h
 |n+1,i,k,h=>by
  unfold nO at h;split at h
  .rename_i hp;cases h;exact⟨ag,ag,hp⟩
  .obtain⟨h1,h2,h3⟩:=lj h;exact⟨ag,ag,h3⟩
theorem j9 {α:Type}(l:List α)(i j:Nat)(x d:α):(l.set i x).getD j d=if i=j/\j<l.length then x else l.getD j d:=by
 rw[aZ,aZ,List.getElem?_set];by_cases h:i=j
 .subst h;by_cases h2:i<l.length
  .simp[h2]
  .simp[h2]
 .simp[h]
theorem Ez {i dt level:Int}(h:sH i dt level s=some p):p=⟨i,dt,s.length,sumOf s,level⟩/\1<=s.length/\s.length<=128/\bC p=true:=by
 unfold sH at h;simp only at h;split at h
 .cases h
 .split at h
  .cases h
  .rename_i h1 h2;cases h
   simp[Ju] at h1;exact⟨rfl,nL.2 h1.1,h1.2,by simpa using h2⟩
theorem JN {i:Nat}(h:oH st s level=some i):8<=i/\i<64/\(st.ez.getD i []=s\/st.bc.getD i 0=0):=by
 unfold oH at h;split at h
 .rename_i k hk;cases h
  split at hk
  .obtain⟨h1,h2,h3⟩:=lj hk;simp only[y5,bO,bQ] at h3;exact⟨h1,ag,.inl h3.1.1⟩
  .cases hk
 .obtain⟨h1,h2,h3⟩:=lj h;exact⟨h1,ag,.inr (by simpa using h3)⟩
theorem MD {Q:dg}(h:mS st Q)(hw:bk st s level=some (da,p)):
  mS da (p::Q)/\fR st da Q/\gy da p=s/\p.level=level/\p.dt=st.fJ/\da.cP=st.cP:=by
 unfold bk at hw;split at hw
 .cases hw
 .rename_i i hi;obtain⟨i1,i2,i3⟩:=JN hi;split at hw
  .cases hw
  .rename_i q hq;obtain⟨q1,q2,q3,q4⟩:=Ez hq;cases hw
   have ze:p.row.toNat=i:=by rw[q1];simp
   have hnh:aI p=false:=by
    rw[q1];simp[aI,bA];omega
   have Vs:∀q:jF,q∈Q->gy {st with ez:=st.ez.set i s,bc:=st.bc.set i (st.bc.getD i 0+1),dw:=st.dw.set i st.fJ} q=gy st q:=by
    intro r hr;unfold gy;rw[j9];split
    .rename_i hc;rcases i3 with i3|i3
     .rw[<-hc.1,i3]
     .have h1:=h.ct i i2;rw[i3,iV] at h1;have h2:=Ey (i:=i) (Q:=Q) ag r hr;exact absurd hc.1.symm h2
    .rfl
   have hme:gy {st with ez:=st.ez.set i s,bc:=st.bc.set i (st.bc.getD i 0+1),dw:=st.dw.set i st.fJ} p=s:=by
    unfold gy;rw[j9,ze,if_pos ⟨rfl,by rw[h.lr];exact i2⟩]
   refine⟨⟨by simp[h.lr],by simp[h.lf],by simp[h.ll],h.kp,h.tx,?_,?_,h.gn⟩,⟨rfl,Vs⟩,hme,by rw[q1],by rw[q1],rfl⟩
   .intro r hr;rcases bT.1 hr with rfl|hr
    .refine⟨?_,?_⟩
     .rw[hme];simp[fits,q4,hnh];constructor<;>rw[q1]
     .rw[q1];exact yH _
    .exact(h.lv r hr).ext (Q:=Q) (Vs r hr) (yH _)
   .intro j hj;have:=h.ct j hj;rw[yv,o8,j9,ze];by_cases nD:i=j
    .subst nD;rw[if_pos rfl,if_pos ⟨rfl,by rw[h.lf];exact i2⟩];show((Ak i (Q++st.cP)+1:Nat):Int)<=_;omega
    .rw[if_neg nD,if_neg (by rintro⟨h,_⟩;exact nD h)];show((Ak j (Q++st.cP)+0:Nat):Int)<=_;omega
theorem abp {Q:dg}(h:mS st (p::Q)):mS (drop st p.row) Q/\fR st (drop st p.row) Q:=by
 have hp:=(h.lv p ay).We;have Hz:=h.ct p.row.toNat hp.2.1;rw[yv,o8,if_pos rfl] at Hz;have Vs:∀q∈Q,gy (drop st p.row) q=gy st q:=by
  intro q hq;unfold drop gy;dsimp only;split
  .rename_i h0;rw[j9];split
   .rename_i hc;exfalso;rw[iV] at Hz;exact Ey (i:=p.row.toNat) (Q:=Q) ag q hq hc.1.symm
   .rfl
  .rfl
 refine⟨⟨?_,?_,?_,h.kp,h.tx,λq hq=>(h.lv q (by simp[hq])).ext (Q:=Q) (Vs q hq) (yH _),?_,h.gn⟩,⟨rfl,Vs⟩⟩
 .unfold drop;dsimp only;split<;>simp[h.lr]
 .unfold drop;simp[h.lf]
 .unfold drop;dsimp only;split<;>simp[h.ll]
 .intro i hi;have h1:=h.ct i hi;rw[yv,o8] at h1;show((Ak i (Q++st.cP):Nat):Int)<=(st.bc.set p.row.toNat (st.bc.getD p.row.toNat 0-1)).getD i 0;rw[j9];by_cases hc:p.row.toNat=i
  .subst hc;rw[if_pos ⟨rfl,by rw[h.lf];exact hp.2.1⟩];omega
  .rw[if_neg (by rintro⟨h,_⟩;exact hc h)];rw[if_neg hc] at h1;omega
theorem RI {Q:dg}(h:mS st (p::Q)):mS (free st p) Q/\fR st (free st p) Q:=by
 have hl:=h.lv p ay;have hr:=hl.We;unfold free;rw[if_neg (by rw[hl.nh.1];simp),if_neg (by rw[h.kp];omega)];split
 .refine⟨⟨h.lr,h.lf,h.ll,h.kp,h.tx,λq hq=>h.lv q (by simp[hq]),λi hi=>?_,λq hq=>?_⟩,⟨rfl,λ_ _=>rfl⟩⟩
  .have:=h.ct i hi;rw[yv,o8,iV] at this;rw[iV,iV,o8,abo];show((_:Nat):Int)<=st.bc.getD i 0;omega
  .rcases eZ.1 hq with hq|hq
   .exact h.gn q hq
   .have:q=p:=by simpa using hq
    subst this;exact⟨hr.1,hr.2.1⟩
 .exact abp h
theorem AY (h:aI p=true):free st p=st:=by unfold free;rw[if_pos h]
theorem qK:∀{L:dg}{st:au}{Q:dg},mS st (L.filter nh++Q)->mS (dI L st) Q/\fR st (dI L st) Q
 |[],st,Q,h=>⟨h,fR.refl _ _⟩
 |p::L,st,Q,h=>by
  cases hp:aI p with
  |true=>
   rw[sj,if_neg (by simp[nh,hp])] at h;have:=qK h;show mS (dI L (free st p)) Q/\_;rw[show dI (p::L) st=dI L (free st p) from rfl,AY hp];exact this
  |false=>
   rw[sj,if_pos (by simp[nh,hp])] at h;obtain⟨h1,h2⟩:=RI h;obtain⟨h3,h4⟩:=qK h1;exact⟨h3,(h2.mono (λq hq=>by simp[hq])).trans h4 (λq hq=>hq)⟩
theorem abq {Q:dg}(h:mS st Q):mS (next st) Q/\(next st).fJ=st.fJ+1/\∀p∈Q,gy (next st) p=gy st p:=by
 have key:∀(g:dg)(s:au),s.ez.length=64->s.bc.length=64->s.dw.length=64->s.oV=0->s.fJ=st.fJ->(∀p∈Q,gy s p=gy st p)->(∀p∈g,p.row.toNat<64)->(∀i:Nat,i<64->((Ak i (Q++g):Nat):Int)<=s.bc.getD i 0)->
   let s':=g.foldl (λst p=>drop st p.row) s
   s'.ez.length=64/\s'.bc.length=64/\s'.dw.length=64/\s'.oV=0/\s'.fJ=st.fJ/\(∀p∈Q,gy s' p=gy st p)/\(∀i:Nat,i<64->((Ak i Q:Nat):Int)<=s'.bc.getD i 0):=by
  intro g;induction g with
  |nil=>intro s h1 h2 h3 h4 h5 h6 h7 h8;simp only[gg] at h8;exact⟨h1,h2,h3,h4,h5,h6,h8⟩
  |cons p g ih=>
   intro s h1 h2 h3 h4 h5 h6 h7 h8;have hp:=h7 p ay;have Hz:=h8 p.row.toNat hp;rw[iV,o8,if_pos rfl] at Hz;apply ih (drop s p.row)
   .unfold drop;dsimp only;split<;>simp[h1]
   .unfold drop;simp[h2]
   .unfold drop;dsimp only;split<;>simp[h3]
   .exact h4
   .exact h5
   .intro q hq;rw[<-h6 q hq];unfold drop gy;dsimp only;split
    .rw[j9];split
     .rename_i hc;exfalso;exact Ey (i:=p.row.toNat) (Q:=Q) ag q hq hc.1.symm
     .rfl
    .rfl
   .exact λq hq=>h7 q (by simp[hq])
   .intro i hi;have h1:=h8 i hi;rw[iV,o8] at h1;show((Ak i (Q++g):Nat):Int)<=(s.bc.set p.row.toNat (s.bc.getD p.row.toNat 0-1)).getD i 0;rw[j9,iV];by_cases hc:p.row.toNat=i
    .subst hc;rw[if_pos ⟨rfl,by rw[h2];exact hp⟩];omega
    .rw[if_neg (by rintro⟨h,_⟩;exact hc h)];rw[if_neg hc] at h1;omega
 obtain⟨h1,h2,h3,h4,h5,h6,h7⟩:=key st.cP st h.lr h.lf h.ll h.kp rfl (λ_ _=>rfl) (λp hp=>(h.gn p hp).2) h.ct;have ht:(next st).fJ=st.fJ+1:=rfl;refine⟨⟨h1,h2,h3,h4,by rw[ht];have:=h.tx;omega,λp hp=>(h.lv p hp).ext (Q:=Q) (h6 p hp) (by rw[ht];omega),λi hi=>?_,by simp[next]⟩,rfl,h6⟩;show((Ak i (Q++[]):Nat):Int)<=_;rw[gg];exact h7 i hi
variable {k r q:dg}{t:cB}
section
variable {n:Int}{l a:dg}
theorem lp (n:Nat):(dh n).filter nh=[]:=by rw[List.filter_eq_nil_iff];intro p hp;rw[List.eq_of_mem_replicate hp];decide
theorem mI {n:Nat}(h:p∈dh n):p=bA:=List.eq_of_mem_replicate h
theorem jv (n:Nat):(dh n).length=n:=qX
theorem jU:bC bA=true:=by decide
theorem Ye:nh p=true↔aI p=false:=by simp[nh]
theorem dD:p∈l.filter nh↔p∈l/\aI p=false:=by rw[pD,Ye]
theorem iW {st:au}{level:Int}(h:below st p level=some k):
  k.length=4/\(∀q∈k,bC q=true)/\((aI p=true/\k=dh 4)\/(aI p=false/\p.level=level/\p.dt<=st.fJ/\fits p (gy st p)=true/\ky (gy st p)=some k/\∀q∈k,q.dt<=p.dt)):=by
 unfold below at h;split at h
 .rename_i hp;cases h
  exact⟨jv 4,λq hq=>by rw[mI hq];exact jU,.inl ⟨hp,rfl⟩⟩
 .rename_i hp;split at h
  .cases h
  .rename_i hh;split at h
   .cases h
   .rename_i s hs;split at h
    .cases h
    .rename_i l hl;split at h
     .cases h
     .rename_i hb;cases h
      have h1:=BP hl;unfold j4 at hs;rw[if_neg hp] at hs;split at hs
      .rename_i hf;cases hs
       refine⟨h1.1,h1.2.1,.inr ⟨by simpa using hp,?_,?_,hf,hl,?_⟩⟩
       .simp at hh;omega
       .simp at hh;omega
       .simpa using hb
      .cases hs
theorem ME {st:au}{level:Int}(h:aI p=false)(hl:p.level=level)(hb:p.dt<=st.fJ)(hf:fits p (gy st p)=true)(hg:ky (gy st p)=some k)(hk:∀q∈k,q.dt<=p.dt):below st p level=some k:=by
 have ho:bC p=true:=by simp[fits] at hf;exact hf.1.1.1
 unfold below;rw[if_neg (by simp[h]),if_neg (by simp[ho,hl];omega)];have:j4 st p=some (gy st p):=by unfold j4;rw[if_neg (by simp[h]),if_pos hf]
 rw[this];simp only;rw[hg];simp only;rw[if_neg];simpa using hk
theorem oq {st:au}{level:Int}(h:aI p=true):below st p level=some (dh 4):=by unfold below;rw[if_pos h]
theorem sO {st da:au}{level:Int}(h:below st p level=some k)(hr:aI p=false->gy da p=gy st p)(ht:st.fJ<=da.fJ):below da p level=some k:=by
 obtain⟨_,_,⟨h1,rfl⟩|⟨h1,h2,h3,h4,h5,h6⟩⟩:=iW h
 .exact oq h1
 .exact ME h1 h2 ag (by rw[hr h1];exact h4) (by rw[hr h1];exact h5) h6
theorem MF (st:au)(n:Int):down st n []=some []:=rfl
theorem qb {st:au}(h:below st p n=some k)(h2:down st n l=some r):down st n (p::l)=some (k++r):=by
 unfold down at h2⊢;rw[FV,h];cases hm:l.mapM λp=>below st p n with
 |none=>rw[hm] at h2;cases h2
 |some w=>rw[hm] at h2;cases h2;rfl
theorem gw {st:au}(h:down st n (p::l)=some r):∃k r',below st p n=some k/\down st n l=some r'/\r=k++r':=by
 unfold down at h⊢;rw[FV] at h;cases hb:below st p n with
 |none=>rw[hb] at h;cases h
 |some k=>
  cases hm:l.mapM λp=>below st p n with
  |none=>rw[hb,hm] at h;cases h
  |some w=>rw[hb,hm] at h;cases h;exact⟨k,_,rfl,rfl,rfl⟩
theorem EA {st:au}:∀{l l2 r r2:dg},down st n l=some r->down st n l2=some r2->down st n (l++l2)=some (r++r2)
 |[],l2,r,r2,h,h2=>by cases h;exact h2
 |p::l,l2,r,r2,h,h2=>by
  obtain⟨k,r',h3,h4,rfl⟩:=gw h;rw[yv,ku];exact qb h3 (EA h4 h2)
theorem EB {st:au}:∀{l l2 r:dg},down st n (l++l2)=some r->∃r1 r2,down st n l=some r1/\down st n l2=some r2/\r=r1++r2
 |[],l2,r,h=>⟨[],r,rfl,h,rfl⟩
 |p::l,l2,r,h=>by
  obtain⟨k,r',h3,h4,rfl⟩:=gw h;obtain⟨r1,r2,h5,h6,rfl⟩:=EB h4;exact⟨k++r1,r2,qb h3 h5,h6,ay⟩
theorem xZ (st:au)(n:Int):∀m:Nat,down st n (dh m)=some (dh (4*m))
 |0=>rfl
 |m+1=>by
  have:=qb (oq (st:=st) (level:=n) lI) (xZ st n m);rw[show dh (m+1)=bA::dh m from rfl,this]
  congr 1
theorem zB {st:au}:∀{l r:dg},down st n l=some r->r.length=4*l.length/\∀q∈r,bC q=true
 |[],r,h=>by cases h;simp
 |p::l,r,h=>by
  obtain⟨k,r',h3,h4,rfl⟩:=gw h;obtain⟨h5,h6⟩:=zB h4;obtain⟨h7,h8,_⟩:=iW h3;refine⟨by simp[h5,h7];omega,λq hq=>?_⟩;rcases eZ.1 hq with hq|hq
  .exact h8 q hq
  .exact h6 q hq
theorem EC {st da:au}:∀{l r:dg},down st n l=some r->(∀p∈l.filter nh,gy da p=gy st p)->st.fJ<=da.fJ->down da n l=some r
 |[],r,h,_,_=>h
 |p::l,r,h,hr,ht=>by
  obtain⟨k,r',h3,h4,rfl⟩:=gw h;refine qb (sO h3 (λhp=>hr p (dD.2 ⟨ay,hp⟩)) ht) (EC h4 (λq hq=>hr q ?_) ht);rw[dD] at hq⊢;exact⟨by simp[hq.1],hq.2⟩
theorem zC {st:au}:∀{l r:dg},down st n l=some r->∀p∈l,(below st p n).isSome=true
 |[],r,h=>by simp
 |p::l,r,h=>by
  obtain⟨k,r',h3,h4,rfl⟩:=gw h;intro q hq;rcases bT.1 hq with rfl|hq
  .rw[h3];rfl
  .exact zC h4 q hq
def pT (st:au):Nat->dg->Option (dg×dg)
 |0,l=>some (l,[])
 |n+1,l=>match down st (n+1:Nat) l with
  |none=>none
  |some l'=>match pT st n l' with
   |none=>none
   |some (a,q)=>some (a,l.filter nh++q)
theorem rH (st:au):∀(n:Nat)(l:dg),gX.go st n l=(pT st n l).map (·.1)
 |0,l=>rfl
 |n+1,l=>by
  rw[gX.go,pT];cases down st (n+1:Nat) l with
  |none=>rfl
  |some l'=>
   simp only;rw[rH st n l'];cases pT st n l' with
   |none=>rfl
   |some r=>rfl
theorem gI {st:au}{n:Nat}(h:pT st (n+1) l=some (a,q)):∃l' q',down st (n+1:Nat) l=some l'/\pT st n l'=some (a,q')/\q=l.filter nh++q':=by
 rw[pT] at h;cases hd:down st (n+1:Nat) l with
 |none=>rw[hd] at h;cases h
 |some l'=>
  rw[hd] at h;simp only at h;cases hl:pT st n l' with
  |none=>rw[hl] at h;cases h
  |some r=>
   rw[hl] at h;(cases h);exact⟨l',r.2,rfl,hl,rfl⟩
theorem tU {st:au}{n:Nat}{l l' a q':dg}(h:down st (n+1:Nat) l=some l')(h2:pT st n l'=some (a,q')):pT st (n+1) l=some (a,l.filter nh++q'):=by rw[pT,h];simp only;rw[h2]
theorem ED {st da:au}:∀{n:Nat}{l a q:dg},pT st n l=some (a,q)->(∀p∈q,gy da p=gy st p)->st.fJ<=da.fJ->pT da n l=some (a,q)
 |0,l,a,q,h,_,_=>h
 |n+1,l,a,q,h,hr,ht=>by
  obtain⟨l',q',h1,h2,rfl⟩:=gI h;exact tU (EC h1 (λp hp=>hr p (cT _ hp)) ht) (ED h2 (λp hp=>hr p (dE _ hp)) ht)
theorem EE {st:au}:∀{n:Nat}{l a q:dg},pT st n l=some (a,q)->a.length=4^ n*l.length/\((∀p∈l,bC p=true)->∀p∈a,bC p=true)
 |0,l,a,q,h=>by cases h;simp
 |n+1,l,a,q,h=>by
  obtain⟨l',q',h1,h2,rfl⟩:=gI h;obtain⟨h3,h4⟩:=EE h2;obtain⟨h5,h6⟩:=zB h1;refine⟨by rw[h3,h5,Vy,Nat.mul_assoc],λ_=>h4 h6⟩
structure ra (st:au)(t:cB)(l q:dg):Prop where
 mn:0<=t.many/\t.many<=16
 dp:t.depth=cQ t.many
 rt:bC t.cI=true
 lv:∃a,pT st t.depth.toNat [t.cI]=some (a,q)/\l=a++dh (16-a.length)
 hl:∀i:Nat,t.many<=i->l.getD i bA=bA
 l0:∀p∈l,aI p=false->p.level=0
def cM (l q:dg):dg:=q++l.filter nh
theorem ra.len {st:au}(h:ra st t l q):l.length=16/\∀p∈l,bC p=true:=by
 obtain⟨a,h1,rfl⟩:=h.lv;obtain⟨h2,h3⟩:=EE h1;have hd:=fD t.many;have:t.depth.toNat=0\/t.depth.toNat=1\/t.depth.toNat=2:=by rw[h.dp];omega
 refine⟨?_,λp hp=>?_⟩
 .rw[bL,jv,h2];rcases this with h|h|h<;>rw[h]<;>simp
 .rcases eZ.1 hp with hp|hp
  .exact h3 (by simpa using h.rt) p hp
  .rw[mI hp];exact jU
theorem ra.ext {st da:au}(h:ra st t l q)(hr:∀p∈q,gy da p=gy st p)(ht:st.fJ<=da.fJ):ra da t l q:=by obtain⟨a,h1,h2⟩:=h.lv;exact⟨h.mn,h.dp,h.rt,⟨a,ED h1 hr ht,h2⟩,h.hl,h.l0⟩
theorem ra.wide {st:au}(h:ra st t l q):wide st t=l:=by obtain⟨a,h1,h2⟩:=h.lv;unfold Go.Pl.wide gX;rw[rH,h1,h2];rfl
theorem sP (st:au):ra st fh (dh 16) []:=⟨bJ,bJ,bJ,⟨[bA],rfl,rfl⟩,λi _=>by
 rw[aZ];by_cases hi:i<16
 .rw[bd (by rw[jv];exact hi)];exact QO ..
 .rw[sh (by rw[jv];omega)];rfl,λp hp h=>by rw[mI hp] at h;cases h⟩
theorem ra.fL {st:au}(h:ra st t l q):fL st t=q:=by
 obtain⟨a,h1,h2⟩:=h.lv;have hd:=fD t.many;have pk:0<=t.depth:=by rw[h.dp];exact hd.1
 have hc:t.depth.toNat=0\/t.depth.toNat=1\/t.depth.toNat=2:=by rw[h.dp];omega
 unfold Go.Pl.fL;rcases hc with hc|hc|hc<;>rw[hc] at h1
 .cases h1;rw[if_pos (.inl ag)]
 .obtain⟨l',q',h3,h4,rfl⟩:=gI h1;cases h4
  cases hr:aI t.cI with
  |true=>rw[if_pos (.inr rfl)];simp[nh,hr]
  |false=>rw[if_neg (by simp;omega),if_neg ag];simp[nh,hr]
 .obtain⟨l',q',h3,h4,rfl⟩:=gI h1;obtain⟨l2,q2,h5,h6,rfl⟩:=gI h4;cases h6
  obtain⟨k,r',h7,h8,rfl⟩:=gw h3;have hr':r'=[]:=by cases h8;rfl
  subst hr';simp only[gg] at *
  have OM:below st t.cI 2=some k:=h7;cases hr:aI t.cI with
  |true=>
   rw[if_pos (.inr rfl)];rw[oq hr] at OM;(cases OM);rw[lp];simp[nh,hr]
  |false=>
   rw[if_neg (by simp;omega),if_pos ag,OM];simp[nh,hr];rfl
theorem ae4 {st da:au}{Q l:dg}{level:Int}{old p:jF}(h:mS st Q)(h4:l.length=4)(hl:∀p∈l,bC p=true/\p.dt<=st.fJ)(ho:aI old=false->old∈Q/\(below st old level).isSome=true)(hf:O5 st l level old=some (da,p)):
  ∃new jV,[p].filter nh=new++jV/\mS da (new++Q)/\fR st da Q/\below da p level=some l/\bC p=true/\p.dt<=st.fJ/\(jV=[]\/(jV=[p]/\p=old))/\da.cP=st.cP:=by
 unfold O5 at hf;split at hf
 .rename_i ha;cases hf
  have hlh:l=dh 4:=by
   rw[<-h4];exact List.eq_replicate_iff.2 ⟨rfl,λp hp=>qI.1 (gA.1 ha p hp)⟩
  exact⟨[],[],rfl,h,fR.refl _ _,by rw[hlh];exact oq lI,jU,by show(0:Int)<=_;have:=h.tx;omega,.inl rfl,rfl⟩
 .rename_i ha;have ha:l.all aI=false:=by simpa using ha
  have hp:=T1 h4 (λp hp=>(hl p hp).1) ha;have hg:=PI h4 (λp hp=>(hl p hp).1) ha;rw[hp] at hf;simp only[qj] at hf;split at hf
  .rename_i hc;cases hf
   simp only[bO,qi,bQ] at hc;obtain⟨⟨vN,qY⟩,Ja⟩:=hc;obtain⟨ho1,OY⟩:=ho vN;obtain⟨k,hk⟩:=jh.1 OY;have FP:k=l:=by
    obtain⟨_,_,⟨h1,_⟩|⟨_,_,_,_,h5,_⟩⟩:=iW hk
    .rw[vN] at h1;cases h1
    .rw[Ja,hg] at h5;cases h5;rfl
   subst FP;exact⟨[],[old],by simp[nh,vN],h,fR.refl _ _,hk,(h.lv old ho1).nh.2,(h.lv old ho1).2,.inr ⟨rfl,rfl⟩,rfl⟩
  .obtain⟨h1,h2,h3,h5,h6,h7⟩:=MD h hf;have JO:=h1.lv p ay;refine⟨[p],[],by simp[nh,JO.nh.1],h1,h2,?_,JO.nh.2,by rw[h6];exact yH _,.inl rfl,h7⟩;exact ME JO.nh.1 h5 JO.2 JO.1 (by rw[h3];exact hg) (λq hq=>by rw[h6];exact(hl q hq).2)
theorem v7 {level:Int}:∀(k:Nat){L was:dg}{st da:au}{Q stays x4 out abr:dg},L.length=4*k->k<=was.length->mS st Q->(∀p∈L,bC p=true/\p.dt<=st.fJ)->(∀w∈was,aI w=false->w∈Q/\(below st w level).isSome=true)->kz level L was st stays out=(da,some (x4,abr))->
  ∃o new jV,abr=out++o/\o.length=k/\(o.filter nh).Perm (new++jV)/\mS da (new++Q)/\fR st da Q/\down da level o=some L/\(∀p∈o,bC p=true/\p.dt<=st.fJ)/\jV.Sublist (was.filter nh)/\(∀r∈jV,r∈x4)/\(∀r∈stays,r∈x4)
 |0,L,was,st,da,Q,stays,x4,out,abr,hL,hw,h,hp,ho,hg=>by
  have:L=[]:=mO ag;subst this;rw[kz] at hg
  .cases hg
   exact⟨[],[],[],ay,rfl,.refl _,h,fR.refl _ _,rfl,ay,List.nil_sublist _,ay,λr hr=>hr⟩
  .intros;contradiction
 |k+1,L,was,st,da,Q,stays,x4,out,abr,hL,hw,h,hp,ho,hg=>by
  match L,hL with
  |a::b::c::d::L,hL=>
  match was,hw with
  |w::was,hw=>
  rw[kz] at hg;simp only[List.headD_cons,List.tail_cons] at hg;split at hg
  .cases hg
  .rename_i st1 p hf;have hp4:∀x∈[a,b,c,d],bC x=true/\x.dt<=st.fJ:=λx hx=>hp x (by simp at hx⊢;rcases hx with rfl|rfl|rfl|rfl<;>simp)
   obtain⟨n1,r1,f1,f2,f3,f4,f5,f6,f7,_⟩:=ae4 h rfl hp4 (ho w ay) hf;have ht1:st1.fJ=st.fJ:=f3.tx;obtain⟨o,new,jV,g1,g2,g3,g4,g5,g6,g7,g8,g9,g10⟩:=v7 k (by simp at hL;omega) (by simp at hw;omega) f2 (λx hx=>by rw[ht1];exact hp x (by simp[hx])) (λx hx hh=>by
    obtain⟨h1,h2⟩:=ho x (by simp[hx]) hh;obtain⟨y,hy⟩:=jh.1 h2;exact⟨by simp[h1],by rw[sO hy (λ_=>f3.row x h1) ag];rfl⟩) hg
   have aiS:(∀r∈stays,r∈x4)/\(p=w->p∈x4):=by
    refine⟨λr hr=>g10 r ?_,λhpw=>g10 p ?_⟩
    .by_cases hpw:p=w<;>simp[hpw,hr]
    .simp[hpw]
   refine⟨p::o,new++n1,r1++jV,by rw[g1];simp,by simp[g2],?_,by rw[ku];exact g4,f3.trans g5 (λx hx=>by simp[hx]),?_,?_,?_,?_,?_⟩
   .have:(p::o).filter nh=[p].filter nh++o.filter nh:=by rw[<-qk];rfl
    rw[this,f1];refine(pE _ g3).trans ?_;simp only[ku];refine(oP _ _ _).trans ?_;refine(oP _ _ _).trans ?_;refine(pE _ (oP _ _ _)).trans ?_;exact oP _ _ _
   .refine qb (sO f4 (λhh=>g5.row p ?_) (by rw[g5.tx];omega)) g6;have:p∈[p].filter nh:=by simp[nh,hh]
    rw[f1] at this;rcases eZ.1 this with hm|hm
    .exact cT _ hm
    .rcases f7 with f7|⟨f7,f8⟩
     .rw[f7] at hm;cases hm
     .subst f8;exact dE _ (ho p ay hh).1
   .intro x hx;rcases bT.1 hx with rfl|hx
    .exact⟨f5,f6⟩
    .rw[<-ht1];exact g7 x hx
   .rcases f7 with f7|⟨f7,f8⟩
    .rw[f7,pn];exact g8.trans (List.Sublist.filter _ (List.sublist_cons_self _ _))
    .subst f8;have Gp:nh p=true:=by
      rw[f7] at f1;(have:p∈[p].filter nh:=by rw[f1];simp);exact(pD.1 this).2
     rw[f7,sj,if_pos Gp];exact g8.cons_cons _
   .intro r hr;rcases eZ.1 hr with hr|hr
    .rcases f7 with f7|⟨f7,f8⟩
     .rw[f7] at hr;cases hr
     .rw[f7] at hr;have:r=p:=by simpa using hr
      subst this;exact aiS.2 f8
    .exact g9 r hr
   .exact aiS.1
end
variable {R:dg}
section
variable {l:dg}{many:Int}
theorem x5 (l:dg):∃k,(fj l).length=4*k/\4*k<l.length+4/\l.length<=4*k:=by unfold fj;rw[bL,jv];refine⟨(l.length+3)/ 4,?_,?_,?_⟩<;>omega
theorem x6 {p:jF}(h:p∈fj l):p∈l\/p=bA:=by
 rcases eZ.1 h with h|h
 .exact .inl h
 .exact .inr (mI h)
theorem T3 (l:dg):(fj l).filter nh=l.filter nh:=by unfold fj;rw[qk,lp,gg]
theorem Yf (h:ra st t l q)(depth:Int)(hd:depth=1\/depth=2):
  ∃w1 w2:dg,(depth=1->jb st t depth 1=w1/\w2=[]/\1<=w1.length)/\(depth=2->jb st t depth 1=w1/\jb st t depth 2=w2/\4<=w1.length/\1<=w2.length)/\
   (∀w∈w1,aI w=false->(below st w 1).isSome=true)/\(∀w∈w2,aI w=false->(below st w 2).isSome=true)/\(w2.filter nh++w1.filter nh).Sublist q:=by
 obtain⟨a,h1,h2⟩:=h.lv;have hdd:=fD t.many;have hh:∀w∈dh 4,aI w=false->False:=λw hw h=>by rw[mI hw] at h;cases h
 by_cases fY:t.depth=depth
 .rcases hd with hd|hd
  .have hc:t.depth.toNat=1:=by rw[fY,hd];rfl
   rw[hc] at h1;obtain⟨l',q',h3,h4,rfl⟩:=gI h1;(cases h4);refine⟨[t.cI],[],λ_=>⟨?_,rfl,ay⟩,λh=>by omega,λw hw _=>zC h3 w hw,ay,ay⟩;unfold jb;rw[if_neg ag,if_pos ag]
  .have hc:t.depth.toNat=2:=by rw[fY,hd];rfl
   rw[hc] at h1;obtain⟨l',q',h3,h4,rfl⟩:=gI h1;obtain⟨l2,q2,h5,h6,rfl⟩:=gI h4;(cases h6);obtain⟨k,r',h7,h8,rfl⟩:=gw h3;have hr':r'=[]:=by cases h8;rfl
   subst hr';simp only[gg] at *
   have OM:below st t.cI 2=some k:=h7;have hk:=(iW OM).1;refine⟨k,[t.cI],λh=>by omega,λ_=>⟨?_,?_,ag,ay⟩,λw hw _=>zC h5 w hw,λw hw _=>by simp at hw;subst hw;rw[OM];rfl,GG _⟩
   .unfold jb;rw[if_neg ag,if_neg ag,hd,OM];rfl
   .unfold jb;rw[if_neg ag,if_pos ag]
 .rcases hd with hd|hd
  .refine⟨dh 4,[],λ_=>⟨?_,rfl,bJ⟩,λh=>by omega,λw hw hx=>(hh w hw hx).elim,ay,by rw[lp];simp⟩;unfold jb;rw[if_pos fY]
  .refine⟨dh 4,dh 4,λh=>by omega,λ_=>⟨?_,?_,bJ,bJ⟩,λw hw hx=>(hh w hw hx).elim,λw hw hx=>(hh w hw hx).elim,by rw[lp];simp⟩
   .unfold jb;rw[if_pos fY]
   .unfold jb;rw[if_pos fY]
theorem T4 (h:ra st t l q)(hr:∀p∈q,gy da p=gy st p)(ht:st.fJ<=da.fJ)(hd:t.depth=2->(t.cI∈q\/aI t.cI=true))(depth level:Int)(hdp:depth=2):jb da t depth level=jb st t depth level:=by
 unfold jb;split
 .rfl
 .split
  .rfl
  .rename_i fY _;obtain⟨a,h1,h2⟩:=h.lv;have hc:t.depth.toNat=2:=by omega
   rw[hc] at h1;obtain⟨l',q',h3,h4,rfl⟩:=gI h1;obtain⟨k,r',h7,h8,rfl⟩:=gw h3;have OM:below st t.cI 2=some k:=h7;rw[hdp,OM,sO OM (λhh=>hr _ ?_) ht];rcases hd ag with hd|hd
   .exact hd
   .rw[hh] at hd;cases hd
theorem Yg (h:ra st t l q)(hd:t.depth=2):t.cI∈q\/aI t.cI=true:=by
 obtain⟨a,h1,h2⟩:=h.lv;have hc:t.depth.toNat=2:=by omega
 rw[hc] at h1;obtain⟨l',q',h3,h4,rfl⟩:=gI h1;cases hr:aI t.cI with
 |true=>exact .inr rfl
 |false=>left;apply cT;simp[nh,hr]
theorem T5 {st st1:au}{l q R lt l1 stays:dg}(h:ra st t l q)(hs:mS st (q++R))(hm:0<=many/\many<=16)(dG:lt.length=many.toNat)(hp:∀p∈lt,bC p=true/\p.dt<=st.fJ)
  (hl:iB t (cQ many) (cQ many).toNat 1 lt st []=(st1,some (stays,l1))):
  ∃a new jV q',mS st1 (new++(q++R))/\fR st st1 (q++R)/\pT st1 (cQ many).toNat [l1.headD bA]=some (a,q')/\a++dh (16-a.length)=lt++dh (16-many.toNat)/\q'.Perm (new++jV)/\jV.Sublist q/\(∀r∈jV,r∈stays)/\bC (l1.headD bA)=true:=by
 by_cases h1:many<=1
 .have hd:cQ many=0:=by unfold cQ;rw[if_pos h1]
  rw[hd] at hl⊢;cases hl
  refine⟨[lt.headD bA],[],[],[],hs,fR.refl _ _,rfl,?_,.refl _,List.nil_sublist _,ay,?_⟩
  .match lt,dG with
   |[],dG=>rw[show many.toNat=0 from dG.symm];rfl
   |[x],dG=>rw[show many.toNat=1 from dG.symm];rfl
   |x::y::z,dG=>simp at dG;omega
  .cases lt with
   |nil=>exact jU
   |cons x z=>exact(hp x ay).1
 .by_cases h4:many<=4
  .have hd:cQ many=1:=by unfold cQ;rw[if_neg h1,if_pos h4]
   rw[hd] at hl⊢;obtain⟨w1,w2,hw,_,FQ,_,jn⟩:=Yf h 1 (.inl rfl);obtain⟨Oq,rfl,hw3⟩:=hw rfl;simp only[List.filter_nil,pn] at jn;have jM:iB t 1 (0+1) 1 lt st []=(st1,some (stays,l1)):=hl;rw[iB,Oq] at jM;obtain⟨k,v8,y4,hk3⟩:=x5 lt;(have hk:k=1:=by omega);subst hk;split at jM
   .cases jM
   .rename_i stx ae5 lx hg;rw[iB] at jM;cases jM
    have aaz:∀w∈w1,aI w=false->w∈q++R/\(below st w 1).isSome=true:=λw hw hh=>⟨cT _ (jn.subset (dD.2 ⟨hw,hh⟩)),FQ w hw hh⟩
    obtain⟨o,new,jV,g1,g2,g3,g4,g5,g6,g7,g8,g9,g10⟩:=v7 1 v8 hw3 hs (λp pY=>by
     rcases x6 pY with pY|rfl
     .exact hp p pY
     .exact⟨jU,by show(0:Int)<=_;have:=hs.tx;omega⟩) aaz hg
    match o,g2 with
    |[p],_=>
    rw[g1];refine⟨fj lt,new,jV,[p].filter nh++[],g4,g5,tU g6 rfl,?_,by rw[gg];exact g3,g8.trans jn,g9,(g7 p ay).1⟩;rw[v8];unfold fj;rw[ku]
    congr 1
    simp only[dh,VE]
    congr 1
    (have:(fj lt).length=lt.length+(4-lt.length% 4)% 4:=by unfold fj;rw[bL,jv]);omega
  .have hd:cQ many=2:=by unfold cQ;rw[if_neg h1,if_neg h4]
   rw[hd] at hl⊢;obtain⟨w1,w2,_,hw,FQ,Vo,jn⟩:=Yf h 2 (.inr rfl);obtain⟨Oq,SS,hw3,hw4⟩:=hw rfl;have jM:iB t 2 (0+1+1) 1 lt st []=(st1,some (stays,l1)):=hl;rw[iB,Oq] at jM;obtain⟨k,v8,y4,hk3⟩:=x5 lt;split at jM
   .cases jM
   .rename_i stx ae5 lx hg;have Yh:∀w∈w1,aI w=false->w∈q:=λw hw hh=>jn.subset (dE _ (dD.2 ⟨hw,hh⟩))
    have hq2:∀w∈w2,aI w=false->w∈q:=λw hw hh=>jn.subset (cT _ (dD.2 ⟨hw,hh⟩))
    obtain⟨o,new,jV,g1,g2,g3,g4,g5,g6,g7,g8,g9,g10⟩:=v7 k v8 ag hs (λp pY=>by
     rcases x6 pY with pY|rfl
     .exact hp p pY
     .exact⟨jU,by show(0:Int)<=_;have:=hs.tx;omega⟩) (λw hw hh=>⟨cT _ (Yh w hw hh),FQ w hw hh⟩) hg
    rw[pn] at g1;subst g1;(have aiT:∀p∈q,gy stx p=gy st p:=λp hp=>g5.row p (cT _ hp));rw[iB,show(1:Int)+1=2 from rfl,T4 h aiT (by rw[g5.tx];omega) (Yg h) 2 2 rfl,SS] at jM;obtain⟨k2,hk4,hk5,hk6⟩:=x5 lx;(have hk:k2=1:=by omega);subst hk;split at jM
    .cases jM
    .rename_i sty alS ly Cw;rw[iB] at jM;cases jM
     obtain⟨o2,ad4,abt,e1,e2,e3,e4,e5,e6,e7,e8,e9,e10⟩:=v7 1 hk4 hw4 g4 (λp pY=>by
      rw[g5.tx];rcases x6 pY with pY|rfl
      .exact g7 p pY
      .exact⟨jU,by show(0:Int)<=_;have:=hs.tx;omega⟩) (λw hw hh=>by
       refine⟨dE _ (cT _ (hq2 w hw hh)),?_⟩;obtain⟨y,hy⟩:=jh.1 (Vo w hw hh);rw[sO hy (λ_=>aiT w (hq2 w hw hh)) (by rw[g5.tx];omega)];rfl) Cw
     match o2,e2 with
     |[p],_=>
     rw[e1];have hx6:down st1 1 (fj lx)=some (fj lt++dh (4*((4-lx.length% 4)% 4))):=by
      unfold fj;refine EA (EC g6 (λr hr=>e5.row r ?_) (by rw[e5.tx];omega)) (xZ _ _ _);rw[g3.mem_iff] at hr;rcases eZ.1 hr with hr|hr
      .exact cT _ hr
      .exact dE _ (cT _ (jn.subset (dE _ (g8.subset hr))))
     refine⟨_,ad4++new,abt++jV,[p].filter nh++((fj lx).filter nh++[]),?_,g5.trans e5 (λx hx=>dE _ hx),tU e6 (tU hx6 rfl),?_,?_,?_,?_,(e7 p ay).1⟩
     .rw[ku];exact e4
     .have hlx:(fj lt).length=lt.length+(4-lt.length% 4)% 4:=by unfold fj;rw[bL,jv]
      rw[bL,jv,v8];unfold fj;rw[ku,ku]
      congr 1
      simp only[dh,VE]
      congr 1
      omega
     .rw[gg,T3];refine(List.Perm.append e3 g3).trans ?_;simp only[ku];refine pE _ ?_;exact oP _ _ _
     .exact(KR e8 g8).trans jn
     .intro r hr;rcases eZ.1 hr with hr|hr
      .exact e9 r hr
      .exact e10 r (g9 r hr)
theorem PJ (i:Nat)(f:jF->Bool)(q:dg):Ak i (q.filter f)+Ak i (q.filter λp=>!f p)=Ak i q:=by
 induction q with
 |nil=>rfl
 |cons p q ih=>
  rw[sj,sj];cases hf:f p<;>simp[o8]<;>omega
theorem PK {a b:dg}{f:jF->Bool}(h:a.Sublist b)(hf:∀x∈a,f x=true):a.Sublist (b.filter f):=by have:=h.filter f;rw[C3.2 hf] at this;exact this
theorem Yi {t t':cB}{l q R lv:dg}(h:ra st t l q)(hs:mS st (q++R))(cX:lv.length=16)(hm:0<=many/\many<=16)(hp:∀p∈lv,bC p=true/\p.dt<=st.fJ/\(aI p=false->p.level=0))(hl:ij st t lv many=(da,some t')):
  ∃q',ra da t' (lv.take many.toNat++dh (16-many.toNat)) q'/\mS da (q'++R)/\fR st da R/\t'.many=many:=by
 unfold ij at hl;simp only at hl;split at hl
 .cases hl
 .rename_i st1 stays l1 JO;cases hl
  obtain⟨a,new,jV,q',k1,k2,k3,k4,k5,k6,k7,k8⟩:=T5 h hs hm (by rw[cW,cX];omega) (λp pY=>⟨(hp p (KP pY)).1,(hp p (KP pY)).2.1⟩) JO;rw[h.fL];have hf:mS st1 ((q.filter λp=>!(stays.contains p)).filter nh++(q'++R)):=by
   have h1:mS st1 ((q.filter λp=>!(stays.contains p))++(q'++R)):=by
    refine k1.less (λp pY=>?_) (λi=>?_)
    .simp only[eZ,pD] at pY⊢;rcases pY with⟨pY,_⟩|pY|pY
     .exact .inr (.inl pY)
     .rcases eZ.1 (k5.mem_iff.1 pY) with pY|pY
      .exact .inl pY
      .exact .inr (.inl (k6.subset pY))
     .exact .inr (.inr pY)
    .have e1:=MC (i:=i) k5;have e2:Ak i jV<=Ak i (q.filter λp=>stays.contains p):=(PK k6 (λx hx=>by simpa using k7 x hx)).countP_le;have e3:=PJ i (λp=>stays.contains p) q;simp only[iV] at e1⊢;omega
   exact h1.sub (KR Bm (GG _))
  obtain⟨f1,f2⟩:=qK hf;refine⟨q',⟨hm,rfl,k8,⟨a,ED k3 (λp pY=>f2.row p (cT _ pY)) (by rw[f2.tx];omega),k4.symm⟩,λi hi=>?_,λp pY hh=>?_⟩,f1,?_,rfl⟩
  .have hi:many<=(i:Int):=hi;rw[aZ,Ao (by rw[cW,cX];omega)];by_cases hb:i-(lv.take many.toNat).length<(dh (16-many.toNat)).length
   .rw[bd hb];exact QO ..
   .rw[sh ag];rfl
  .rcases eZ.1 pY with pY|pY
   .exact(hp p (KP pY)).2.2 hh
   .rw[mI pY] at hh;cases hh
  .exact(k2.mono (λp pY=>dE _ pY)).trans f2 (λp pY=>dE _ pY)
end
variable {t':cB}
theorem lJ (h:aI p=true):bq st p=[]:=by unfold bq j4;rw[if_pos h];rfl
theorem T6 (h:Live st p):bq st p=gy st p:=by unfold bq j4;rw[if_neg (by rw[h.nh.1];simp),if_pos h.1];rfl
theorem nk (hr:aI p=false->gy da p=gy st p):bq da p=bq st p:=by
 cases h:aI p with
 |true=>rw[lJ h,lJ h]
 |false=>
  unfold bq j4;rw[hr h]
theorem HR {l:dg}{k:Nat}(h:k<l.length)(p:jF):l=l.take k++l.getD k bA::l.drop (k+1)/\l.set k p=l.take k++p::l.drop (k+1):=by
 have:l.getD k bA=l[k]:=by rw[aZ,bd h];rfl
 refine⟨?_,?_⟩
 .rw[this];simp
 .rw[List.set_eq_take_append_cons_drop,if_pos h]
theorem set_perm {l:dg}{k:Nat}(h:k<l.length)(p:jF):((l.set k p).filter nh++[l.getD k bA].filter nh).Perm ([p].filter nh++l.filter nh):=by
 obtain⟨h1,h2⟩:=HR h p;rw[h2]
 conv=>rhs;rw[h1]
 generalize l.take k=a;generalize l.drop (k+1)=b;generalize l.getD k bA=x;have e:∀y:jF,(a++y::b).filter nh=a.filter nh++([y].filter nh++b.filter nh):=λy=>by
  show(a++([y]++b)).filter nh=_;rw[qk,qk]
 rw[e,e];generalize a.filter nh=a;generalize b.filter nh=b;generalize [x].filter nh=x;generalize [p].filter nh=p;have h1:(a++(p++b)++x).Perm (p++(a++(b++x))):=by
  simp only[ku];exact oP _ _ _
 have h2:(p++(a++(b++x))).Perm (p++(a++(x++b))):=pE _ (pE _ List.perm_append_comm);exact h1.trans h2
theorem T7 {l:dg}{many:Nat}(Jd:l.length=16)(hm:many<=16)(h:∀i:Nat,many<=i->l.getD i bA=bA):l.take many++dh (16-many)=l:=by
 apply VA;intro i;by_cases hi:i<many
 .rw[wE (by rw[cW];omega),VF hi]
 .rw[Ao (by rw[cW];omega),cW,Jd,As hm];by_cases h2:i<16
  .have:=h i ag;rw[aZ,bd ag] at this;rw[bd (by rw[jv];omega),bd ag];simp only[qj] at this;rw[this]
   congr 1
   exact QO ..
  .rw[sh (by rw[jv];omega),sh ag]
theorem uw (l:dg)(m n j:Nat):(l.take m++dh n).getD j bA=if j<m then l.getD j bA else bA:=by
 rw[aZ];by_cases h:j<(l.take m).length
 .rw[wE h,VF (by rw[cW] at h;omega),if_pos (by rw[cW] at h;omega),aZ]
 .rw[Ao ag];have hh:(dh n)[j-(l.take m).length]?.getD bA=bA:=by
   by_cases h2:j-(l.take m).length<(dh n).length
   .rw[bd h2];exact QO ..
   .rw[sh ag];rfl
  rw[hh];split
  .rw[cW] at h;rw[aZ,sh ag];rfl
  .rfl
theorem jI {l:dg}{j:Nat}(h:aI (l.getD j bA)=false):l.getD j bA∈l:=by
 rw[aZ] at h⊢;by_cases hj:j<l.length
 .rw[bd hj];exact rj _
 .rw[sh ag] at h;cases h
def abu (st da:au)(t t':cB)(l R:dg)(k:Nat)(s:az):Prop:=
 ∃l' q',ra da t' l' q'/\mS da (cM l' q'++R)/\fR st da R/\t'.many=max t.many ((k:Int)+1)/\∀j:Nat,bq da (l'.getD j bA)=if j=k then s else bq st (l.getD j bA)
theorem zD {l q R:dg}{k:Nat}{s:az}(h:ra st t l q)(hs:mS st (cM l q++R))(hk:k<16)(hp:nH st t k s=(da,t',true)):abu st da t t' l R k s:=by
 unfold nH at hp;simp only[h.wide] at hp;obtain⟨cX,hlo⟩:=h.len;have yx:=h.mn;have Yj:∀p∈l,p.dt<=st.fJ:=λp hp=>by
  cases hh:aI p with
  |true=>rw[qI.1 hh];show(0:Int)<=_;have:=hs.tx;omega
  |false=>exact(hs.lv p (by simp only[cM,eZ];exact .inl (.inr (dD.2 ⟨hp,hh⟩)))).2
 split at hp
 .rename_i hc;cases hp
  refine⟨l,q,h,hs,fR.refl _ _,ag,λj=>?_⟩;split
  .rename_i hj;rw[hj];exact hc.1
  .rfl
 .rename_i hc;split at hp
  .cases hp
  .rename_i x st1 p dM;split at hp
   .cases hp
   .rename_i y eN t2 pz;cases hp
    have T8:∀j,(l.set k p).getD j bA=if j=k then p else l.getD j bA:=λj=>by
     rw[j9,cX];by_cases hj:k=j
     .subst hj;rw[if_pos ⟨rfl,hk⟩,if_pos rfl]
     .rw[if_neg (by rintro⟨h,_⟩;exact hj h),if_neg (λh=>hj h.symm)]
    have Yk:(l.set k p).length=16:=by rw[gN];exact cX
    have hw:mS st1 ([p].filter nh++(cM l q++R))/\fR st st1 (cM l q++R)/\(bC p=true/\p.dt<=st.fJ/\(aI p=false->p.level=0))/\bq st1 p=s:=by
     split at dM
     .rename_i hws;cases dM
      have rS:aI (l.getD k bA)=false->(l.getD k bA)∈l:=jI;have ho:bC (l.getD k bA)=true/\(l.getD k bA).dt<=st.fJ/\(aI (l.getD k bA)=false->(l.getD k bA).level=0):=by
       cases hh:aI (l.getD k bA) with
       |true=>rw[qI.1 hh];exact⟨jU,by show(0:Int)<=_;have:=hs.tx;omega,ay⟩
       |false=>exact⟨hlo _ (rS hh),Yj _ (rS hh),λ_=>h.l0 _ (rS hh) hh⟩
      (have hmt:max t.many ((k:Int)+1)≠t.many:=λh=>hc ⟨hws,h⟩);have hkh:l.getD k bA=bA:=h.hl k ag;refine⟨?_,fR.refl _ _,ho,hws⟩;rw[hkh];exact hs
     .unfold Jv at dM;split at dM
      .rename_i RJ;cases dM
       exact⟨hs,fR.refl _ _,⟨jU,by show(0:Int)<=_;have:=hs.tx;omega,by intro h;cases h⟩,by rw[lJ lI,RJ]⟩
      .obtain⟨w1,w2,w3,w4,w5,_⟩:=MD hs dM;have JO:=w1.lv p ay;have Gp:[p].filter nh=[p]:=by simp[nh,JO.nh.1]
       rw[Gp];exact⟨w1,w2,⟨JO.nh.2,by rw[w5];exact yH _,λ_=>w4⟩,by rw[T6 JO,w3]⟩
    obtain⟨Oq,SS,hw3,hw4⟩:=hw;have yy:st1.fJ=st.fJ:=SS.tx;have hT1:ra st1 t l q:=h.ext (λr hr=>SS.row r (by simp[cM,hr])) (by rw[yy];omega);have hS1:mS st1 (q++([p].filter nh++(l.filter nh++R))):=Oq.cZ (by
     simp only[cM,ku];exact oP _ _ _)
    have hmx:0<=max t.many ((k:Int)+1)/\max t.many ((k:Int)+1)<=16:=by omega
    obtain⟨q',k1,k2,k3,k4⟩:=Yi hT1 hS1 Yk hmx (λr hr=>by
     rw[yy];rcases GN hr with hr|rfl
     .exact⟨hlo r hr,Yj r hr,h.l0 r hr⟩
     .exact hw3) pz
    have jM:(l.set k p).take (max t.many ((k:Int)+1)).toNat++dh (16-(max t.many ((k:Int)+1)).toNat)=l.set k p:=by
     apply T7 Yk ag;intro i hi;rw[T8,if_neg ag];exact h.hl i ag
    rw[jM] at k1;have aiU:=set_perm (l:=l) (k:=k) ag p;have key:mS (if p=l.getD k bA then eN else free eN (l.getD k bA)) (cM (l.set k p) q'++R)/\fR eN (if p=l.getD k bA then eN else free eN (l.getD k bA)) (cM (l.set k p) q'++R):=by
     have T9:mS eN ([l.getD k bA].filter nh++(cM (l.set k p) q'++R)):=k2.cZ (by
      have e1:(q'++([p].filter nh++(l.filter nh++R))).Perm (q'++(((l.set k p).filter nh++[l.getD k bA].filter nh)++R)):=by
       rw[<-ku ([p].filter nh)];exact pE _ (C4 _ aiU.symm)
      refine e1.trans ?_;simp only[cM,ku];refine(pE q' (oP _ _ _)).trans ?_;exact oP _ _ _)
     split
     .exact⟨T9.sub (nK _ _),fR.refl _ _⟩
     .cases hh:aI (l.getD k bA) with
      |true=>
       rw[AY hh];exact⟨T9.sub (nK _ _),fR.refl _ _⟩
      |false=>
       rw[show [l.getD k bA].filter nh=[l.getD k bA] by rw[sj,if_pos (Ye.2 hh)];rfl] at T9;exact RI T9
    obtain⟨aiV,Yl⟩:=key;generalize(if p=l.getD k bA then eN else free eN (l.getD k bA))=st3 at aiV Yl⊢;refine⟨l.set k p,q',k1.ext (λr hr=>Yl.row r (by simp[cM,hr])) (by rw[Yl.tx];omega),aiV,?_,k4,λj=>?_⟩
    .refine(SS.mono (λr hr=>dE _ hr)).trans ((k3.mono (Q':=R) (λr hr=>?_)).trans (Yl.mono (Q':=R) λr hr=>dE _ hr) (λr hr=>hr)) (λr hr=>hr);exact dE _ (dE _ hr)
    .rw[T8];have x7:∀r,aI r=false->r∈l.set k p->gy st3 r=gy eN r:=λr hh hr=>Yl.row r (by
      simp only[cM,eZ];exact .inl (.inr (dD.2 ⟨hr,hh⟩)))
     split
     .rename_i hj;rw[<-hw4,nk (λhh=>(x7 p hh ?_)),nk (λhh=>k3.row p ?_)]
      .exact cT _ (by simp[nh,hh])
      .obtain⟨_,e⟩:=HR (l:=l) (k:=k) ag p;rw[e];simp
     .rename_i hj;have u3:aI (l.getD j bA)=false->l.getD j bA∈l.set k p:=λhh=>by
       (have:(l.set k p).getD j bA=l.getD j bA:=by rw[T8,if_neg hj]);rw[<-this] at hh⊢;exact jI hh
      rw[nk (λhh=>x7 _ hh (u3 hh)),nk (λhh=>k3.row _ ?_),nk (λhh=>SS.row _ ?_)]
      .simp only[cM,eZ];exact .inl (.inr (dD.2 ⟨jI hh,hh⟩))
      .exact dE _ (cT _ (dD.2 ⟨jI hh,hh⟩))
theorem CL {l q R:dg}{many:Int}(h:ra st t l q)(hs:mS st (cM l q++R))(hm:0<=many/\many<=t.many)(hp:tJ st t many=(da,t',true)):
  ∃l' q',ra da t' l' q'/\mS da (cM l' q'++R)/\fR st da R/\t'.many=many/\∀j:Nat,bq da (l'.getD j bA)=if(j:Int)<many then bq st (l.getD j bA) else []:=by
 unfold tJ at hp;obtain⟨cX,hlo⟩:=h.len;have yx:=h.mn;split at hp
 .rename_i hc;cases hp
  refine⟨l,q,h,hs,fR.refl _ _,hc.symm,λj=>?_⟩;split
  .rfl
  .rw[h.hl j ag,lJ lI]
 .simp only[h.wide] at hp;split at hp
  .cases hp
  .rename_i y eN t2 pz;cases hp
   obtain⟨q',k1,k2,k3,k4⟩:=Yi h (R:=l.filter nh++R) (by simpa[cM] using hs) cX ⟨hm.1,ag⟩ (λr hr=>by
    refine⟨hlo r hr,?_,h.l0 r hr⟩;cases hh:aI r with
    |true=>rw[qI.1 hh];show(0:Int)<=_;have:=hs.tx;omega
    |false=>exact(hs.lv r (by simp only[cM,eZ];exact .inl (.inr (dD.2 ⟨hr,hh⟩)))).2) pz
   have Cg:(l.take many.toNat++dh (16-many.toNat)).filter nh=(l.take many.toNat).filter nh:=by rw[qk,lp,gg]
   have T9:mS eN ((l.drop many.toNat).filter nh++(cM (l.take many.toNat++dh (16-many.toNat)) q'++R)):=k2.cZ (by
    have e:l.filter nh=(l.take many.toNat).filter nh++(l.drop many.toNat).filter nh:=by rw[<-qk,yD]
    rw[e];unfold cM;rw[Cg];simp only[ku];refine(pE q' (oP _ _ _)).trans ?_;exact oP _ _ _)
   obtain⟨f1,f2⟩:=qK T9;refine⟨_,q',k1.ext (λr hr=>f2.row r (by simp[cM,hr])) (by rw[f2.tx];omega),f1,?_,k4,λj=>?_⟩
   .exact(k3.mono (Q':=R) (λr hr=>dE _ hr)).trans (f2.mono (Q':=R) λr hr=>dE _ hr) (λr hr=>hr)
   .rw[uw];by_cases hj:j<many.toNat
    .rw[if_pos hj,if_pos ag,nk (λhh=>f2.row _ ?_),nk (λhh=>k3.row _ ?_)]
     .exact cT _ (dD.2 ⟨jI hh,hh⟩)
     .simp only[cM,eZ];refine .inl (.inr (dD.2 ⟨?_,hh⟩));have:(l.take many.toNat++dh (16-many.toNat)).getD j bA=l.getD j bA:=by rw[uw,if_pos hj]
      rw[<-this] at hh⊢;exact jI hh
    .rw[if_neg hj,if_neg ag,lJ lI]
theorem EF:∀{n:Nat}{l1 l2 a q:dg},pT st n (l1++l2)=some (a,q)->∃a1 q1 a2 q2,pT st n l1=some (a1,q1)/\pT st n l2=some (a2,q2)/\a=a1++a2/\q.Perm (q1++q2)
 |0,l1,l2,a,q,h=>by cases h;exact⟨l1,[],l2,[],rfl,rfl,rfl,.refl _⟩
 |n+1,l1,l2,a,q,h=>by
  obtain⟨l',q',h1,h2,rfl⟩:=gI h;obtain⟨r1,r2,h3,h4,rfl⟩:=EB h1;obtain⟨a1,q1,a2,q2,h5,h6,rfl,h7⟩:=EF h2;refine⟨a1,_,a2,_,tU h3 h5,tU h4 h6,rfl,?_⟩;rw[qk];simp only[ku];refine pE _ ((pE _ h7).trans ?_);exact oP _ _ _
theorem EG (st:au):∀(n m:Nat),∃c,pT st n (dh m)=some (dh c,[])
 |0,m=>⟨m,rfl⟩
 |n+1,m=>by
  obtain⟨c,h⟩:=EG st n (4*m);exact⟨c,by have:=tU (xZ st (n+1:Nat) m) h;rw[lp] at this;exact this⟩
theorem JP:∀(n:Nat)(L:dg){a q:dg},pT st n L=some (a,q)->(∀p∈a,aI p=false->p.level=0)->
  ∃(c:Nat)(D:dg),c<=L.length*5^ n/\D.Perm (q++a.filter nh)/\∀f aS out,qw (c+f) st (L++aS) out=qw f st aS (out++D)
 |0,L,a,q,h,h0=>by
  cases h
  induction L with
  |nil=>exact⟨0,[],ay,.refl _,λf aS out=>by simp⟩
  |cons p L ih=>
   obtain⟨c,D,h1,h2,h3⟩:=ih (λx hx=>h0 x (by simp[hx]));cases hp:aI p with
   |true=>
    refine⟨c+1,D,by simp at h1⊢;omega,by simpa[nh,hp] using h2,λf aS out=>?_⟩;rw[show c+1+f=(c+f)+1 by omega,yv,qw,if_pos hp,h3]
   |false=>
    refine⟨c+1,p::D,by simp at h1⊢;omega,by simpa[nh,hp] using h2,λf aS out=>?_⟩;have hl:=h0 p ay hp;rw[show c+1+f=(c+f)+1 by omega,yv,qw,if_neg (by rw[hp];simp),if_neg ag,h3];simp
 |n+1,L,a,q,h,h0=>by
  induction L generalizing a q with
  |nil=>
   obtain⟨l',q',h1,h2,rfl⟩:=gI h;have jM:l'=[]:=by cases h1;rfl
   subst jM;have:∀m,pT st m []=some ([],[]):=λm=>by
    induction m with
    |zero=>rfl
    |succ m ih=>rw[pT];simp only[MF,ih];rfl
   rw[this] at h2;(cases h2);exact⟨0,[],ay,.refl _,λf aS out=>by simp⟩
  |cons p L ih=>
   obtain⟨a1,q1,a2,q2,h1,h2,rfl,hq⟩:=EF (l1:=[p]) (l2:=L) h;obtain⟨c,D,h3,h4,h5⟩:=ih _ _ h2 (λx hx=>h0 x (by simp[hx]));obtain⟨l',q',h6,h7,rfl⟩:=gI h1;have aiW:5^ (n+1)=5*5^ n:=by rw[Vy,GO]
   have an7:1<=5^ n:=Nat.pow_pos ag;cases hp:aI p with
   |true=>
    obtain⟨k,r',h8,h9,rfl⟩:=gw h6;(have hr':r'=[]:=by cases h9;rfl);subst hr';rw[oq hp] at h8;(cases h8);rw[gg] at h7;obtain⟨c',ux⟩:=EG st n 4;rw[ux] at h7;(cases h7);refine⟨c+1,D,?_,?_,λf aS out=>?_⟩
    .rw[cY,mM];omega
    .refine h4.trans ?_;rw[qk,lp,pn];rw[show [p].filter nh=[] by simp[nh,hp]] at hq;exact C4 _ (by simpa using hq.symm)
    .rw[show c+1+f=(c+f)+1 by omega,yv,qw,if_pos hp,h5]
   |false=>
    obtain⟨k,r',h8,h9,rfl⟩:=gw h6;(have hr':r'=[]:=by cases h9;rfl);subst hr';rw[gg] at h7;obtain⟨hk4,_,⟨hx,_⟩|⟨_,ae6,_⟩⟩:=iW h8
    .rw[hp] at hx;cases hx
    obtain⟨c2,D2,FM,Z8,AD⟩:=JP n k h7 (λx hx=>h0 x (by simp[hx]));refine⟨c2+c+1,p::(D2++D),?_,?_,λf aS out=>?_⟩
    .rw[cY,mM];rw[hk4] at FM;omega
    .have e:([p].filter nh)=[p]:=by simp[nh,hp]
     rw[e] at hq;have:(q++(a1++a2).filter nh).Perm ((([p]++q')++q2)++(a1.filter nh++a2.filter nh)):=by
      rw[qk];exact C4 _ hq
     refine List.Perm.trans ?_ this.symm;refine(List.Perm.cons p (List.Perm.append Z8 h4)).trans ?_;simp only[ku,uh];refine List.Perm.cons p (pE q' ?_);exact oP _ _ _
    .rw[show c2+c+1+f=(c2+(c+f))+1 by omega,yv,qw,if_neg (by rw[hp];simp),if_pos (by rw[ae6];omega),ae6,h8];simp only[qj];rw[AD,h5];simp
theorem JQ {l q:dg}(h:ra st t l q):(xI st t).Perm (cM l q):=by
 obtain⟨a,h1,h2⟩:=h.lv;have hd:=fD t.many;obtain⟨c,D,h3,h4,h5⟩:=JP t.depth.toNat [t.cI] h1 (λp hp hh=>h.l0 p (by rw[h2];simp[hp]) hh);have hc:c<=125:=by
  refine' za4
 unfold xI;have:=h5 (200-c) [] [];rw[show c+(200-c)=(199-c)+(c+1) by omega] at this;rw[show 200=(199-c)+(c+1) by omega];rw[gg] at this;rw[this];obtain⟨g,hg⟩:∃g,200-c=g+1:=⟨199-c,ag⟩;rw[hg,qw];simp only[pn,qj];refine h4.trans ?_;rw[h2];unfold cM;rw[qk,lp,gg]
section
variable {l:dg}
def tx (st:au)(l:dg)(j:Nat):az:=bq st (l.getD j bA)
theorem ye (h:ra st t l q){j:Nat}(hj:t.many<=j):tx st l j=[]:=by unfold tx;rw[h.hl j hj,lJ lI]
theorem J6 (h:fR st da R)(hm:∀p∈cM l q,p∈R)(j:Nat):tx da l j=tx st l j:=
 nk λhh=>h.row _ (hm _ (dE _ (dD.2 ⟨jI hh,hh⟩)))
theorem pb (h:ra st t l q):iy st t=(List.range t.many.toNat).map (tx st l):=by
 unfold iy;rw[h.wide];have hl:=h.len.1;have hm:=h.mn;apply VA;intro i;by_cases hi:i<t.many.toNat
 .rw[Ar,VF hi,Ar,SD hi,bd ag];simp only[wG,tx,aZ,bd (show i<l.length by omega),qj]
 .rw[sh (by simp;omega),sh (by simp;omega)]
theorem Qd (h:ra st t l q):aI t.cI=true\/t.cI.level=t.depth:=by
 obtain⟨a,h1,h2⟩:=h.lv;have hd:=fD t.many;have pk:0<=t.depth:=by rw[h.dp];exact hd.1
 cases hh:aI t.cI with
 |true=>exact .inl rfl
 |false=>
  right
  cases hc:t.depth.toNat with
  |zero=>
   rw[hc] at h1;(cases h1);rw[h.l0 t.cI (by rw[h2];simp) hh];omega
  |succ n=>
   rw[hc] at h1;obtain⟨l',q',h3,h4,rfl⟩:=gI h1;obtain⟨k,r',h7,h8,rfl⟩:=gw h3;obtain⟨_,_,⟨h1,_⟩|⟨_,h9,_⟩⟩:=iW h7
   .rw[hh] at h1;cases h1
   .rw[h9];omega
theorem Ik {n:iM}(h:ra st n.aX l q)(hk:n.kind=1\/n.kind=2)(hs:0<=n.size/\n.size<=16*fy n.kind)(hm:n.aX.many=dx n.size (fy n.kind))(hl:1<=n.bK/\n.bK<=if n.kind=2 then 1 else 9):eD n=true:=by
 have he:fy n.kind≠0:=by rcases hk with hk|hk<;>rw[hk]<;>decide
 have hp:fA n.kind n.size=dx n.size (fy n.kind):=by
  unfold fA;rw[if_neg];simp[he,fV];omega
 have yx:=h.mn;have hr:=Qd h;simp only[eD,hp,<-hm,bO,qi,C1,mg,C0,fV,bQ,mf];exact⟨⟨⟨⟨ag,ay⟩,by rw[h.dp];simp⟩,h.rt⟩,hl,hr⟩
theorem sT (h:ra st t l q)(hs:mS st (cM l q++R)):fw st t=true:=by
 obtain⟨a,h1,h2⟩:=h.lv;have hl:gX st t=some a:=by unfold gX;rw[rH,h1];rfl
 have yx:=h.mn;unfold fw;rw[hl];simp only[bO,bQ,fV];refine⟨⟨⟨yx,h.dp⟩,h.rt⟩,?_⟩;have key:∀(b:dg)(i:Nat),(∀j,j<b.length->l.getD (i+j) bA=b.getD j bA)->(∀p∈b,p∈l)->kG (kX st t.many) i b=true:=by
  intro b;induction b with
  |nil=>intros;rfl
  |cons p b ih=>
   intro i hi hm;unfold kG;rw[bO];refine⟨?_,ih (i+1) (λj hj=>?_) (λx hx=>hm x (by simp[hx]))⟩
   .unfold kX;cases hh:aI p with
    |true=>simp
    |false=>
     have hp:=hm p ay;have JO:=hs.lv p (by simp only[cM,eZ];exact .inl (.inr (dD.2 ⟨hp,hh⟩)));have hrd:j4 st p=some (gy st p):=by unfold j4;rw[if_neg (by simp[hh]),if_pos JO.1]
     have dG:(i:Int)<t.many:=by
      by_cases hc:(i:Int)<t.many
      .exact hc
      .have:=h.hl i ag;have h0:=hi 0 ay;rw[xq,this] at h0;have:p=bA:=by simpa using h0.symm
       rw[this] at hh;cases hh
     simp[hrd,h.l0 p hp hh,JO.2,dG]
   .have:=hi (j+1) (by simp;omega);rw[show i+(j+1)=i+1+j by omega] at this;simpa using this
 refine key a 0 (λj hj=>?_) (λp hp=>by rw[h2];simp[hp]);rw[h2,mU,aZ,wE hj,aZ]
theorem Qe {t t':cB}{s:az}(h:ra st t l q)(hs:mS st (cM l q++R))(cX:s.length<=128)(hp:kH st t s=(da,t',true)):
  ∃l' q',ra da t' l' q'/\mS da (cM l' q'++R)/\fR st da R/\t'.many=(if s=[] then 0 else 1)/\tx da l' 0=s:=by
 have yx:=h.mn;unfold kH at hp;by_cases RJ:s=[]
 .subst RJ;have hb:dB (([]:az).length+1) []=[]:=rfl;simp only[hb] at hp;rw[if_neg ay] at hp;simp only[lE] at hp;obtain⟨l',q',h1,h2,h3,h4,h5⟩:=CL h hs (by simp;omega) hp;exact⟨l',q',h1,h2,h3,by rw[h4];rfl,by unfold tx;rw[h5,if_neg ay]⟩
 .have hb:dB (s.length+1) s=[s]:=by
   rw[dB,if_neg ag,if_neg RJ]
  simp only[hb] at hp;rw[if_neg ay] at hp;simp only[lE] at hp;split at hp
  .cases hp
  .rename_i x st1 t1 hpe;split at hpe
   .rename_i eN t2 dM;cases hpe
    obtain⟨l1,q1,h1,h2,h3,h4,h5⟩:=zD h hs ag dM;obtain⟨l',q',k1,k2,k3,k4,k5⟩:=CL h1 h2 (by rw[h4];simp;omega) hp;refine⟨l',q',k1,k2,h3.trans k3 (λr hr=>hr),by rw[k4,if_neg RJ];rfl,?_⟩;unfold tx;rw[k5,if_pos ay,h5,if_pos rfl]
   .cases hpe
theorem Ns {s:az}(h:ra st t l q)(hm:t.many=(if s=[] then 0 else 1))(ht:tx st l 0=s):oK st t=some s:=by
 unfold oK;rw[pb h,hm];by_cases RJ:s=[]
 .rw[if_pos RJ,RJ];rfl
 .rw[if_neg RJ];show px 1 0 [tx st l 0] []=some s;rw[ht];simp[px,RJ]
def YY (T:Nat->az)(size many:Int):Prop:=∀j:Nat,(j:Int)<many->nI (T j)=T j/\((T j).length:Int)<=gu size j
theorem J7 (s:az):(s.dropWhile (·=0)).length<=s.length:=(List.dropWhile_sublist _).length_le
theorem YZ (s:az):(nI s).length<=s.length:=by unfold nI;rw[QT];have:=J7 s.reverse;rw[QT] at this;exact this
theorem vz (p:UInt8->Bool):∀s:az,(s.dropWhile p).dropWhile p=s.dropWhile p
 |[]=>rfl
 |x::s=>by
  rw[List.dropWhile_cons];split
  .exact vz p s
  .rename_i h;rw[List.dropWhile_cons,if_neg h]
theorem Ut (s:az):nI (nI s)=nI s:=by unfold nI;rw[List.reverse_reverse,vz]
theorem Uu {n:iM}(h:ra st n.aX l q)(hs:mS st (cM l q++R))(hn:eD n=true)(hk:n.kind=1)(hf:YY (tx st l) n.size n.aX.many):kY st n=true:=by
 unfold kY;rw[hn,hk,sT h hs,pb h];simp only[decide_true,GH,uL];have key:∀(m k:Nat),((k+m:Nat):Int)<=n.aX.many->kY.go n k ((List.range' k m).map (tx st l))=true:=by
  intro m;induction m with
  |zero=>intros;rfl
  |succ m ih=>
   intro k hk;rw[wP,wO,kY.go,ih (k+1) ag];have:=hf k ag;simp[this.1,this.2]
 rw[List.range_eq_range'];exact key _ 0 (by have:=h.mn;omega)
theorem zT (size:Int)(h:0<=size):dx size 12*12<size+12/\size<=dx size 12*12/\0<=dx size 12:=by unfold dx;omega
theorem Fb (size:Int):∀(L:List az)(k:Nat)(out:az),(∀i,i<L.length->((L.getD i []).length:Int)<=gu size (k+i))->(L≠[]->(((k+L.length:Nat):Int)-1)*12<=size)->
  ((qy size k L out).length:Int)=out.length+(min (((k+L.length:Nat):Int)*12) size-min ((k:Int)*12) size)
 |[],k,out,_,_=>by simp[qy]
 |s::L,k,out,h,h2=>by
  have h0:=h 0 ay;rw[KV,xq] at h0;have h3:=h2 ay;rw[cY] at h3;rw[qy,Fb size L (k+1) _ (λi hi=>?_) (λ_=>by omega)]
  .simp only[bL,iz,qX,cY];have Y0:gu size k=min 12 (size-k*12):=rfl;generalize gu size k=g at *
   omega
  .have:=h (i+1) (by simp;omega);rw[Bn] at this;rw[show k+1+i=k+(i+1) by omega];exact this
theorem nt {n:iM}(h:ra st n.aX l q)(h0:0<=n.size)(hm:n.aX.many=dx n.size 12)(hf:YY (tx st l) n.size n.aX.many):((bE st n).length:Int)=n.size:=by
 have hp:=zT n.size h0;rw[<-hm] at hp;unfold bE;rw[pb h];have yx:=h.mn;by_cases hz:n.aX.many=0
 .rw[hz] at hp⊢;simp[qy];omega
 .rw[Fb n.size _ 0 [] (λi hi=>?_) (λ_=>by simp;omega)]
  .simp;omega
  .simp at hi;have:=(hf i ag).2;rw[aZ,Ar,SD ag];simpa using this
theorem zU {s:az}:∀(m k:Nat){st da:au}{n n':iM}{l q R:dg},ra st n.aX l q->mS st (cM l q++R)->k+m<=16->ki s m k st n=(da,n',true)->
  ∃l' q',ra da n'.aX l' q'/\mS da (cM l' q'++R)/\fR st da R/\n'={n with aX:=n'.aX}/\(m=0->n'=n)/\(0<m->n'.aX.many=max n.aX.many ((k+m:Nat):Int))/\∀j:Nat,tx da l' j=if k<=j/\j<k+m then nI ((s.take (min s.length ((j+1)*12))).drop (j*12)) else tx st l j
 |0,k,st,da,n,n',l,q,R,h,hs,hk,hp=>by
  cases hp
  exact⟨l,q,h,hs,fR.refl _ _,rfl,λ_=>rfl,λh=>by omega,λj=>by rw[if_neg ag]⟩
 |m+1,k,st,da,n,n',l,q,R,h,hs,hk,hp=>by
  rw[ki] at hp;split at hp
  .rename_i st1 t1 dM;obtain⟨l1,q1,h1,h2,h3,h4,h5⟩:=zD h hs ag dM;obtain⟨l',q',k1,k2,k3,k4,k5,k6,k7⟩:=zU m (k+1) (n:={n with aX:=t1}) h1 h2 ag hp;refine⟨l',q',k1,k2,h3.trans k3 (λr hr=>hr),k4,λh=>by omega,λ_=>?_,λj=>?_⟩
   .rcases wD m with hm|hm
    .rw[k5 hm];subst hm;exact h4
    .rw[k6 hm];have:({n with aX:=t1}:iM).aX.many=t1.many:=rfl;rw[this,h4];omega
   .rw[k7];by_cases hj:k+1<=j/\j<k+1+m
    .rw[if_pos hj,if_pos ag]
    .rw[if_neg hj];have:tx st1 l1 j=if j=k then _ else tx st l j:=h5 j
     rw[this];by_cases hjk:j=k
     .rw[if_pos hjk,if_pos ag,hjk]
     .rw[if_neg hjk,if_neg ag]
  .cases hp
theorem Uv {s:az}{j:Nat}(hj:j*12<=s.length):(((s.take (min s.length ((j+1)*12))).drop (j*12)).length:Int)<=gu s.length j:=by rw[eW,cW];unfold gu;omega
structure pA (st:au)(n:iM)(l q:dg):Prop where
 tr:ra st n.aX l q
 kd:n.kind=1
 sz:0<=n.size/\n.size<=192
 mn:n.aX.many=dx n.size 12
 lk:1<=n.bK/\n.bK<=9
 ft:YY (tx st l) n.size n.aX.many
theorem pA.ok {n:iM}(h:pA st n l q):eD n=true:=
 Ik h.tr (.inl h.kd) (by rw[h.kd];exact h.sz) (by rw[h.kd];exact h.mn) (by rw[h.kd];exact h.lk)
theorem Fc {n n':iM}{s:az}{a b:Nat}(h:ra st n.aX l q)(hs:mS st (cM l q++R))(hk:n.kind=1)(hl:1<=n.bK/\n.bK<=9)(lV:a<=b)(hb:b<16)(cX:s.length<=192)(hbs:b*12<s.length)
  (hm:max n.aX.many ((b:Int)+1)=dx s.length 12)(hf:∀j:Nat,(j:Int)<n.aX.many->(a<=j/\j<=b)\/(nI (tx st l j)=tx st l j/\((tx st l j).length:Int)<=gu s.length j))(hp:gE st n s a b=(da,n',true)):
  ∃l' q',pA da n' l' q'/\mS da (cM l' q'++R)/\fR st da R/\n'.bK=n.bK/\n'.kind=n.kind:=by
 unfold gE at hp;obtain⟨l',q',h1,h2,h3,h4,h5,h6,h7⟩:=zU (b+1-a) a (n:={n with size:=(s.length:Int)}) h hs ag hp;have vw:n'.aX.many=max n.aX.many ((b:Int)+1):=by
  rw[h6 ag];show max n.aX.many _=_;omega
 refine⟨l',q',⟨h1,by rw[h4];exact hk,by rw[h4];show 0<=(s.length:Int)/\(s.length:Int)<=192;omega,?_,by rw[h4];exact hl,?_⟩,h2,h3,by rw[h4],by rw[h4]⟩
 .have:n'.size=s.length:=by rw[h4]
  rw[vw,hm,this]
 .have jd:n'.size=s.length:=by rw[h4]
  rw[jd];intro j hj;rw[h7];by_cases Ta:a<=j/\j<a+(b+1-a)
  .rw[if_pos Ta];refine⟨Ut _,?_⟩;have:=YZ ((s.take (min s.length ((j+1)*12))).drop (j*12));have:=Uv (s:=s) (j:=j) ag;omega
  .rw[if_neg Ta];by_cases hjn:(j:Int)<n.aX.many
   .rcases hf j hjn with hc|hc
    .omega
    .exact hc
   .have afg:tx st l j=[]:=ye h ag;rw[afg];refine⟨rfl,?_⟩;rw[vw] at hj;unfold gu;simp;omega
theorem Nt (all:az)(at_:Nat)(s:az):(gk all at_ s).length=max all.length (at_+s.length):=by unfold gk;simp only[bL,cW,eW,iz,qX];omega
theorem J8 {n n':iM}{at_:Nat}{s:az}(h:pA st n l q)(hs:mS st (cM l q++R))(ha:at_+s.length<=192)(hp:fH st n at_ s=(da,n',true)):
  ∃l' q',pA da n' l' q'/\mS da (cM l' q'++R)/\fR st da R/\n'.bK=n.bK/\n'.kind=n.kind:=by
 unfold fH at hp;split at hp
 .cases hp;exact⟨l,q,h,hs,fR.refl _ _,rfl,rfl⟩
 .rename_i RJ;have RQ:0<s.length:=nL.2 RJ;have Cg:=nt h.tr h.sz.1 h.mn h.ft;have Li:=Nt (bE st n) at_ s;have jd:=h.sz;have yx:=h.mn;have Om:=zT n.size h.sz.1;refine Fc h.tr hs h.kd h.lk ?_ ?_ ?_ ?_ ?_ ?_ hp
  .omega
  .omega
  .omega
  .omega
  .rw[yx];unfold dx;rw[Li];omega
  .intro j hj
   right
   have:=h.ft j hj;refine⟨this.1,?_⟩;have h2:=this.2;unfold gu at h2⊢;rw[Li];omega
theorem Qf {n n':iM}{size:Nat}(h:pA st n l q)(hs:mS st (cM l q++R))(ha:size<=192)(hp:fB st n size=(da,n',true)):
  ∃l' q',pA da n' l' q'/\mS da (cM l' q'++R)/\fR st da R/\n'.bK=n.bK/\n'.kind=n.kind:=by
 unfold fB at hp;have jd:=h.sz;have yx:=h.mn;have Om:=zT n.size h.sz.1;have hp2:=zT size ag;simp only at hp;split at hp
 .rename_i hle;have Y0:∀j:Nat,gu n.size j<=gu size j:=λj=>by unfold gu;omega
  split at hp
  .rename_i hmm;cases hp
   refine⟨l,q,⟨h.tr,h.kd,by show 0<=(size:Int)/\(size:Int)<=192;omega,hmm.symm,h.lk,λj hj=>?_⟩,hs,fR.refl _ _,rfl,rfl⟩;have:=h.ft j hj;exact⟨this.1,Int.le_trans this.2 (Y0 j)⟩
  .rename_i hmm;rcases dM:nH st n.aX (dx (size:Int) 12-1).toNat [] with⟨st1,t1,ok⟩
   rw[dM] at hp;cases hp
   have hgt:n.aX.many<dx size 12:=by
    (have:dx n.size 12<=dx size 12:=by unfold dx;omega);omega
   (have Jd:dx size 12<=16:=by unfold dx;omega);obtain⟨l',q',h1,h2,h3,h4,h5⟩:=zD h.tr hs ag dM;(have hm2:t1.many=dx size 12:=by rw[h4];omega);refine⟨l',q',⟨h1,h.kd,by show 0<=(size:Int)/\(size:Int)<=192;omega,hm2,h.lk,λj hj=>?_⟩,h2,h3,rfl,rfl⟩;have hj:(j:Int)<t1.many:=hj;(have e:tx st1 l' j=if j=(dx size 12-1).toNat then [] else tx st l j:=h5 j);rw[e];(have h0:(0:Int)<=gu size j:=by unfold gu;omega);split
   .exact⟨rfl,h0⟩
   .by_cases hjn:(j:Int)<n.aX.many
    .have:=h.ft j hjn;exact⟨this.1,Int.le_trans this.2 (Y0 j)⟩
    .rw[ye h.tr ag];exact⟨rfl,h0⟩
 .rename_i hgt;have hle:dx size 12<=n.aX.many:=by rw[yx];unfold dx;omega
  split at hp
  .cases hp
  .rename_i st1 t1 ni;obtain⟨l1,q1,h1,h2,h3,h4,h5⟩:=CL h.tr hs ag ni;split at hp
   .rename_i hz;cases hp
    refine⟨l1,q1,⟨h1,h.kd,by show 0<=(size:Int)/\(size:Int)<=192;omega,h4,h.lk,λj hj=>?_⟩,h2,h3,rfl,rfl⟩;have hj:(j:Int)<t1.many:=hj;rw[h4,hz] at hj;omega
   .rename_i hz;have Cg:=nt h.tr h.sz.1 h.mn h.ft;have pO:((bE st n).take size).length=size:=by rw[cW];omega
    obtain⟨l',q',k1,k2,k3,k4,k5⟩:=Fc (n:={n with aX:=t1,size:=(size:Int)}) h1 h2 h.kd h.lk (cG _) ag ag (by rw[pO];omega) (by
     show max t1.many _=_;rw[pO,h4];omega) (λj hj=>by
     have hj:(j:Int)<t1.many:=hj;rw[h4] at hj;by_cases Z9:j=(dx size 12-1).toNat
     .left;omega
     .right
      have e:tx st1 l1 j=if(j:Int)<dx size 12 then tx st l j else []:=h5 j
      rw[e,if_pos hj];have:=h.ft j ag;refine⟨this.1,?_⟩;have h2:=this.2;rw[pO];unfold gu at h2⊢;omega) hp
    exact⟨l',q',k1,k2,h3.trans k3 (λr hr=>hr),k4,k5⟩
end
variable {id:Nat}
section
variable {k:Nat}{l:dg}
structure NE where
 n:iM
 es:List bf
 Q:dg
abbrev Gr:=Nat->Option NE
def gq (G:Gr)(k:Nat):dg:=match G k with
 |none=>[]
 |some e=>e.Q
def Nu (G:Gr):dg:=(List.range 16).flatMap (gq G)
def sb (G:Gr)(id:Nat):dg:=(List.range 16).flatMap λk=>if k=id then [] else gq G k
def gQ (G:Gr)(id:Nat)(e:Option NE):Gr:=λk=>if k=id then e else G k
theorem Il (f:Nat->dg)(id:Nat):∀n:Nat,((List.range n).flatMap f).Perm ((if id<n then f id else [])++(List.range n).flatMap λk=>if k=id then [] else f k)
 |0=>by simp
 |n+1=>by
  have ih:=Il f id n;rw[Bo,CZ,CZ];simp only[mv,ri,gg];by_cases h:n=id
  .subst h;rw[if_neg ag] at ih;rw[if_pos ag,if_pos rfl,gg];exact(C4 _ ih).trans (by rw[pn];exact List.perm_append_comm)
  .rw[if_neg h];by_cases h2:id<n
   .rw[if_pos h2] at ih;rw[if_pos ag];refine(C4 _ ih).trans ?_;rw[ku]
   .rw[if_neg h2] at ih;rw[if_neg ag];exact C4 _ ih
theorem sU (G:Gr)(h:id<16):(Nu G).Perm (gq G id++sb G id):=by have:=Il (gq G) id 16;rw[if_pos h] at this;exact this
theorem Nv (G:Gr)(id:Nat)(e:Option NE):sb (gQ G id e) id=sb G id:=by
 unfold sb
 congr 1
 funext k
 split
 .rfl
 .rename_i h;unfold gq gQ;rw[if_neg h]
theorem Y1 (G:Gr)(id:Nat)(e:Option NE):gq (gQ G id e) id=match e with
 |none=>[]
 |some e=>e.Q:=by unfold gq gQ;rw[if_pos rfl]
theorem afu {G:Gr}(hk:k<16):∀p∈gq G k,p∈Nu G:=λp hp=>pC.2 ⟨k,lX.2 hk,hp⟩
theorem Qg {G:Gr}(hk:k<16)(h:k≠id):∀p∈gq G k,p∈sb G id:=λp hp=>pC.2 ⟨k,lX.2 hk,by rw[if_neg h];exact hp⟩
structure Y2 (st:au)(n:iM)(es:List bf)(l q:dg):Prop where
 tr:ra st n.aX l q
 kd:n.kind=2
 eo:bD es=true
 sz:n.size=(bn es).length
 lk:n.bK=1
 mn:n.aX.many=(if bn es=[] then 0 else 1)
 tx0:tx st l 0=bn es
def KG (st:au)(e:NE):Prop:=∃l q,e.Q=cM l q/\((e.es=[]/\pA st e.n l q)\/Y2 st e.n e.es l q)
theorem Y2.ok {n:iM}{es:List bf}(h:Y2 st n es l q):eD n=true:=by
 have hl:=(l6 h.eo).1;refine Ik h.tr (.inr h.kd) ?_ ?_ ?_
 .rw[h.kd,h.sz,show fy 2=128 from rfl];omega
 .rw[h.kd,h.mn,h.sz,show fy 2=128 from rfl];unfold dx;by_cases he:bn es=[]
  .rw[if_pos he,he];rfl
  .rw[if_neg he];have:=nL.2 he;omega
 .rw[h.kd,h.lk];simp
theorem KG.ok {e:NE}(h:KG st e):eD e.n=true:=by
 obtain⟨l,q,_,⟨_,h⟩|h⟩:=h
 .exact h.ok
 .exact h.ok
theorem KG.ext {e:NE}{R:dg}(h:KG st e)(hx:fR st da R)(hm:∀p∈e.Q,p∈R):KG da e:=by
 obtain⟨l,q,hq,h⟩:=h;rw[hq] at hm;have DR:∀{t:cB},ra st t l q->ra da t l q:=λh=>h.ext (λp hp=>hx.row p (hm p (cT _ hp))) (by rw[hx.tx];omega)
 have yy:∀j,tx da l j=tx st l j:=λj=>J6 hx hm j
 refine⟨l,q,hq,?_⟩;rcases h with⟨h0,h⟩|h
 .exact .inl ⟨h0,DR h.tr,h.kd,h.sz,h.mn,h.lk,λj hj=>by rw[yy];exact h.ft j hj⟩
 .exact .inr ⟨DR h.tr,h.kd,h.eo,h.sz,h.lk,h.mn,by rw[yy];exact h.tx0⟩
def At (st:au)(l:dg)(G:Gr)(k:Nat):Prop:=match G k with
 |none=>tx st l k=[]
 |some e=>tx st l k=gj e.n/\KG st e
theorem At.some {G:Gr}{e:NE}(h:At st l G k)(he:G k=some e):tx st l k=gj e.n/\KG st e:=by unfold At at h;rw[he] at h;exact h
theorem At.none {G:Gr}(h:At st l G k)(he:G k=none):tx st l k=[]:=by unfold At at h;rw[he] at h;exact h
theorem At.ext {l l' R:dg}{G:Gr}(h:At st l G k)(hx:fR st da R)(ht:tx da l' k=tx st l k)(hm:∀p∈gq G k,p∈R):At da l' G k:=by
 unfold At at h⊢;unfold gq at hm;cases hg:G k with
 |none=>rw[hg] at h;simp only at h⊢;rw[ht,h]
 |some e=>
  rw[hg] at h hm;simp only at h hm⊢;exact⟨by rw[ht];exact h.1,h.2.ext hx hm⟩
structure FX (st:au)(t:cB)(G:Gr)(id:Nat)(Q:dg)(l q:dg):Prop where
 tr:ra st t l q
 so:mS st (cM l q++(Q++sb G id))
 at_:∀k,k≠id->At st l G k
 hi:∀k,16<=k->G k=none
structure rK (st:au)(t:cB)(G:Gr)(l q:dg):Prop where
 tr:ra st t l q
 so:mS st (cM l q++Nu G)
 at_:∀k,At st l G k
 hi:∀k,16<=k->G k=none
theorem rK.fx {G:Gr}(h:rK st t G l q)(hid:id<16):FX st t G id (gq G id) l q:=
 ⟨h.tr,h.so.cZ (pE _ (sU G hid)),λk _=>h.at_ k,h.hi⟩
theorem Qh {G:Gr}{e:Option NE}(h:∀k,16<=k->G k=none)(hid:id<16):∀k,16<=k->gQ G id e k=none:=λk hk=>by
 unfold gQ;rw[if_neg ag];exact h k hk
theorem FX.step {G:Gr}{Q Q' l q:dg}(h:FX st t G id Q l q)(hx:fR st da (cM l q++sb G id))(hs:mS da (Q'++(cM l q++sb G id))):FX da t G id Q' l q:=by
 refine⟨h.tr.ext (λp hp=>hx.row p (by simp[cM,hp])) (by rw[hx.tx];omega),hs.cZ (oP _ _ _),λk hk=>?_,h.hi⟩;by_cases J9:k<16
 .exact(h.at_ k hk).ext hx (J6 hx (λp hp=>cT _ hp) k) (λp hp=>dE _ (Qg J9 hk p hp))
 .have hn:=h.hi k ag;have:=(h.at_ k hk).none hn;unfold At;rw[hn];simp only;rw[J6 hx (λp hp=>cT _ hp) k,this]
theorem Y3 {G:Gr}{e:NE}(h:FX st t G id e.Q l q)(hid:id<16)(he:KG st e)(hp:pK st t id e.n=(da,t',true)):∃l' q',rK da t' (gQ G id (some e)) l' q':=by
 unfold pK at hp;obtain⟨l',q',h1,h2,h3,h4,h5⟩:=zD h.tr h.so hid hp;refine⟨l',q',h1,h2.cZ ?_,λk=>?_,Qh h.hi hid⟩
 .refine pE _ ?_;have:=sU (gQ G id (some e)) hid;rw[Nv,Y1] at this;exact this.symm
 .by_cases hk:k=id
  .subst hk;unfold At gQ;rw[if_pos rfl];simp only;refine⟨?_,he.ext h3 (λp hp=>cT _ hp)⟩;have:tx da l' k=if k=k then gj e.n else tx st l k:=h5 k
   rw[this,if_pos rfl]
  .have e1:At st l (gQ G id (some e)) k:=by
    have:=h.at_ k hk;unfold At gQ at *
    rw[if_neg hk];exact this
   refine e1.ext h3 ?_ (λp hp=>?_)
   .have:tx da l' k=if k=id then gj e.n else tx st l k:=h5 k
    rw[this,if_neg hk]
   .have hg:gq (gQ G id (some e)) k=gq G k:=by unfold gq gQ;rw[if_neg hk]
    rw[hg] at hp;by_cases J9:k<16
    .exact dE _ (Qg J9 hk p hp)
    .unfold gq at hp;rw[h.hi k ag] at hp;cases hp
theorem rK.iy {G:Gr}(h:rK st t G l q)(k:Nat):(iy st t).getD k []=tx st l k:=by
 rw[pb h.tr];have yx:=h.tr.mn;by_cases hk:k<t.many.toNat
 .rw[aZ,Ar,SD hk];rfl
 .rw[aZ,sh (by simp;omega),ye h.tr ag];rfl
theorem At.get {G:Gr}(h:At st l G k):eR (tx st l k)=(G k).map (·.n):=by
 cases hg:G k with
 |none=>rw[h.none hg,vq];rfl
 |some e=>rw[(h.some hg).1,MA (h.some hg).2.ok];rfl
theorem rK.jr {G:Gr}(h:rK st t G l q)(k:Nat):jr st t k=(G k).map (·.n):=by
 unfold Go.Pl.jr;have yx:=h.tr.mn;by_cases hk:(k:Int)<t.many
 .rw[if_neg (by simp[fV];omega)];unfold Tf;rw[h.tr.wide,uK];exact(h.at_ k).get
 .rw[if_pos (by simp[fV];omega)];have:=(h.at_ k).get;rw[ye h.tr ag,vq] at this;exact this
theorem rK.lt {G:Gr}(h:rK st t G l q){e:NE}(he:G k=some e):(k:Int)<t.many/\k<16:=by
 have yx:=h.tr.mn;have h1:k<16:=by
  by_cases hk:k<16
  .exact hk
  .rw[h.hi k ag] at he;cases he
 refine⟨?_,h1⟩;by_cases hk:(k:Int)<t.many
 .exact hk
 .have:=((h.at_ k).some he).1;rw[ye h.tr ag] at this;have h2:=(rF ((h.at_ k).some he).2.ok).1;rw[<-this] at h2;simp at h2
def nu (o:Option NE):Option (List bf):=match o with
 |none=>none
 |some e=>if e.n.kind=2 then some e.es else none
theorem Fe (st:au):bR st bB=none:=by unfold bR;rw[if_pos];rw[show eD bB=false from by decide];rfl
theorem KG.bR {e:NE}{R:dg}(h:KG st e)(hs:mS st (e.Q++R)):bR st e.n=if e.n.kind=2 then some e.es else none:=by
 have fm:=h.ok;obtain⟨l,q,hq,⟨_,hf⟩|hd⟩:=h
 .rw[if_neg (by rw[hf.kd];decide)];unfold Go.Pl.bR;rw[if_pos];rw[hf.kd];simp
 .rw[if_pos hd.kd];rw[hq] at hs;unfold Go.Pl.bR;rw[if_neg (by rw[fm,hd.kd,sT hd.tr hs];simp),Ns hd.tr hd.mn hd.tx0];simp only;rw[if_neg (by rw[hd.sz];simp),Ew hd.eo]
theorem rK.bR {G:Gr}(h:rK st t G l q)(k:Nat):bR st ((Go.Pl.jr st t k).getD bB)=nu (G k):=by
 rw[h.jr];cases hg:G k with
 |none=>exact Fe st
 |some e=>
  have hk:=(h.lt hg).2;refine((h.at_ k).some hg).2.bR (R:=sb G k++cM l q) (h.so.cZ ?_);refine(pE _ (sU G hk)).trans ?_;have e1:gq G k=e.Q:=by unfold gq;rw[hg]
  rw[e1];refine List.perm_append_comm.trans ?_;rw[ku]
theorem Ff {G:Gr}(h:rK st t G l q)(hf:vb st t=some id):id<16/\G id=none:=by
 unfold vb at hf;obtain⟨h1,h2,h3⟩:=lj hf;refine⟨ag,?_⟩;simp only[bQ] at h3;rw[h.iy] at h3;cases hg:G id with
 |none=>rfl
 |some e=>
  have h4:=((h.at_ id).some hg).1;rw[h3] at h4;have h5:=(rF ((h.at_ id).some hg).2.ok).1;rw[<-h4] at h5;simp at h5
theorem Im (BD:Int):∀(L:List az)(k n:Nat),n<=k->(n<=mm BD k n L/\mm BD k n L<=k+L.length)/\∀i,i<L.length->mm BD k n L<=k+i->((k+i:Nat):Int)≠BD->L.getD i []=[]
 |[],k,n,h=>by simp[mm];omega
 |s::L,k,n,h=>by
  unfold mm;have ih:=Im BD L (k+1) (if(decide ((k:Int)≠BD)&&decide (s≠[]))=true then k+1 else n) (by split<;>omega);obtain⟨⟨h1,h2⟩,h3⟩:=ih;refine⟨⟨?_,by rw[cY];omega⟩,λi hi hle fY=>?_⟩
  .refine gK ?_ h1;split<;>omega
  .cases i with
   |zero=>
    rw[KV];by_cases hs:s=[]
    .exact hs
    .exfalso;rw[if_pos (by simp[hs];simpa using fY)] at h1 hle;omega
   |succ i=>
    rw[Bn];exact h3 i (by simp at hi;omega) (by rw[show k+1+i=k+(i+1) by omega];exact hle) (by rw[show k+1+i=k+(i+1) by omega];exact fY)
theorem Ka {G:Gr}{e:NE}(h:rK st t G l q)(he:G id=some e)(hp:eb st t id=(da,t',true)):∃l' q',rK da t' (gQ G id none) l' q':=by
 obtain⟨dG,hid⟩:=h.lt he;have yx:=h.tr.mn;have hn:=((h.at_ id).some he).2;unfold eb at hp;have hgn:(jr st t id).getD bB=e.n:=by rw[h.jr,he];rfl
 simp only[hgn,uK] at hp;have bV:(xI st e.n.aX).Perm e.Q:=by
  obtain⟨lx,qx,hq,hh⟩:=hn;rw[hq];rcases hh with⟨_,hf⟩|hd
  .exact JQ hf.tr
  .exact JQ hd.tr
 have OA:=h.fx hid;have Y4:gq G id=e.Q:=by unfold gq;rw[he]
 have tz:mS st ((xI st e.n.aX).filter nh++(cM l q++sb G id)):=by
  have h1:mS st (xI st e.n.aX++(cM l q++sb G id)):=OA.so.cZ (by
   rw[Y4];refine(oP _ _ _).trans ?_;exact C4 _ bV.symm)
  exact h1.sub (KR Bm (GG _))
 obtain⟨f1,f2⟩:=qK tz;have Uw:FX (dI (xI st e.n.aX) st) t G id [] l q:=OA.step f2 f1;have Io:=Im (id:Int) (iy st t) 0 0 (cG _);have pO:(iy st t).length=t.many.toNat:=by rw[pb h.tr];simp
 split at hp
 .cases hp
 .rename_i st1 t1 dM;obtain⟨l1,q1,h1,h2,h3,h4,h5⟩:=zD Uw.tr Uw.so hid dM;have hm1:t1.many=t.many:=by rw[h4];omega
  have hla:rz st t id<=t.many.toNat:=by
   have:=Io.1.2;rw[pO] at this;unfold rz;omega
  obtain⟨l',q',k1,k2,k3,k4,k5⟩:=CL h1 h2 (by rw[hm1];omega) hp;have yy:∀k,k≠id->tx da l' k=tx st l k:=λk hk=>by
   (have e1:tx da l' k=if(k:Int)<(rz st t id:Nat) then tx st1 l1 k else []:=k5 k);(have e2:tx st1 l1 k=if k=id then [] else tx (dI (xI st e.n.aX) st) l k:=h5 k);have e3:tx (dI (xI st e.n.aX) st) l k=tx st l k:=J6 f2 (λp hp=>cT _ hp) k;rw[e1,e2,if_neg hk,e3];split
   .rfl
   .rename_i hge;by_cases hkm:k<t.many.toNat
    .have:=Io.2 k (by rw[pO];exact hkm) (by
      show rz st t id<=0+k;omega) ag
     rw[h.iy] at this;exact this.symm
    .rw[ye h.tr ag]
  refine⟨l',q',k1,k2.cZ ?_,λk=>?_,Qh h.hi hid⟩
  .refine pE _ ?_;have:=sU (gQ G id none) hid;rw[Nv,Y1] at this;exact this.symm
  .by_cases hk:k=id
   .subst hk;unfold At gQ;rw[if_pos rfl];simp only;have e1:tx da l' k=if(k:Int)<(rz st t k:Nat) then tx st1 l1 k else []:=k5 k
    (have e2:tx st1 l1 k=if k=k then [] else tx (dI (xI st e.n.aX) st) l k:=h5 k);rw[e1,e2,if_pos rfl];split<;>rfl
   .have hx:fR st da (sb G id):=(f2.mono (λp hp=>dE _ hp)).trans ((h3.mono (Q':=sb G id) (λp hp=>dE _ hp)).trans (k3.mono (Q':=sb G id) λp hp=>dE _ hp) (λp hp=>hp)) (λp hp=>hp);have e1:At st l (gQ G id none) k:=by
     have:=h.at_ k;unfold At gQ at *
     rw[if_neg hk];exact this
    refine e1.ext hx (yy k hk) (λp hp=>?_);(have hg:gq (gQ G id none) k=gq G k:=by unfold gq gQ;rw[if_neg hk]);rw[hg] at hp;by_cases J9:k<16
    .exact Qg J9 hk p hp
    .unfold gq at hp;rw[h.hi k ag] at hp;cases hp
end
variable {x e:bf}{i j:Nat}{G:Gr}
section
variable {l:List bf}
theorem zV:∀s:az,bS s s=false
 |[]=>rfl
 |a::s=>by unfold bS;rw[if_neg ag,if_neg ag];exact zV s
theorem fe:∀{a b c:az},bS a b=true->bS b c=true->bS a c=true
 |[],[],_,h,_=>by cases h
 |[],_::_,[],_,h=>by cases h
 |[],_::_,_::_,_,_=>rfl
 |_::_,[],_,h,_=>by cases h
 |_::_,_::_,[],_,h=>by cases h
 |x::a,y::b,z::c,h,k=>by
  unfold bS at h k⊢;split at h
  .split at k
   .rw[if_pos ag]
   .split at k
    .cases k
    .rw[if_pos ag]
  .split at h
   .cases h
   .split at k
    .rw[if_pos ag]
    .split at k
     .cases k
     .rw[if_neg ag,if_neg ag];exact fe h k
theorem lK:∀{a b:az},bS a b=false->a≠b->bS b a=true
 |[],[],_,h=>absurd rfl h
 |[],_::_,h,_=>by cases h
 |_::_,[],_,_=>rfl
 |x::a,y::b,h,hn=>by
  unfold bS at h⊢;split at h
  .cases h
  .split at h
   .rename_i h2;rw[if_pos h2]
   .rename_i h1 h2;have Vt:x=y:=uJ.1 ag;subst Vt;rw[if_neg ag,if_neg ag];exact lK h (λe=>hn (by rw[e]))
def Asc (l:List bf):Prop:=l.Pairwise λa b=>bS a.name b.name=true
theorem sV:∀l:List bf,mP l=true↔Asc l
 |[]=>by simp[mP,Asc]
 |[a]=>by simp[mP,Asc]
 |a::b::l=>by
  have ih:=sV (b::l);rw[mP,bO,ih];unfold Asc;rw[jZ (a:=a)];constructor
  .rintro⟨h1,h2⟩;refine⟨λx hx=>?_,h2⟩;rcases bT.1 hx with rfl|hx
   .exact h1
   .exact fe h1 ((jZ.1 h2).1 x hx)
  .rintro⟨h1,h2⟩;exact⟨h1 b ay,h2⟩
theorem Y5 (h:Asc l)(hx:x∈l):l.find? (λy=>decide (y.name=x.name))=some x:=by
 induction l with
 |nil=>cases hx
 |cons a l ih=>
  rw[List.find?_cons];have hp:=jZ.1 h;rcases bT.1 hx with rfl|hx
  .simp
  .have dG:=hp.1 x hx;have fY:a.name≠x.name:=λe=>by rw[e,zV] at dG;cases dG
   simp only[fY,decide_false];exact ih hp.2 hx
theorem nw:x∈gz l e↔x=e\/x∈l:=by
 induction l with
 |nil=>simp[gz]
 |cons a l ih=>
  unfold gz;split
  .simp
  .simp[ih];constructor<;>(rintro(h|h|h)<;>simp[h])
theorem Nw (l:List bf)(e:bf):(gz l e).length=l.length+1:=by
 induction l with
 |nil=>rfl
 |cons a l ih=>unfold gz;split<;>simp[ih]
theorem Y6 (h:Asc l)(hn:∀x∈l,x.name≠e.name):Asc (gz l e):=by
 induction l with
 |nil=>simp[gz,Asc]
 |cons a l ih=>
  have hp:=jZ.1 h;unfold gz;split
  .rename_i dG;refine jZ.2 ⟨λx hx=>?_,h⟩;rcases bT.1 hx with rfl|hx
   .exact dG
   .exact fe dG (hp.1 x hx)
  .rename_i dG;refine jZ.2 ⟨λx hx=>?_,ih hp.2 (λx hx=>hn x (by simp[hx]))⟩;rcases nw.1 hx with rfl|hx
   .exact lK (by simpa using dG) (λe=>hn a ay e.symm)
   .exact hp.1 x hx
theorem Ux (h:l.find? (λy=>decide (y.name=s))=none):∀x∈l,x.name≠s:=by intro x hx;have:=List.find?_eq_none.1 h x hx;simpa using this
theorem CS (h:bD l=true)(hn:∀x∈l,x.name≠e.name)(he:aU e.name=true)(hi:1<=e.id/\e.id<=15)(hl:l.length<12):bD (gz l e)=true:=by
 obtain⟨h1,h2,h3⟩:=iq h;unfold bD;rw[bO,bO,gA,sV,bQ,Nw];refine⟨⟨λx hx=>?_,Y6 ((sV l).1 h2) hn⟩,ag⟩;rcases nw.1 hx with rfl|hx
 .simp[he,fV,hi]
 .have:=h1 x hx;simp[this.1,fV,this.2]
theorem Kb {l l':List bf}(h:bD l=true)(hs:l'.Sublist l):bD l'=true:=by obtain⟨h1,h2,h3⟩:=iq h;have:=hs.length_le;unfold bD;rw[bO,bO,gA,sV,bQ];refine⟨⟨λx hx=>?_,((sV l).1 h2).sublist hs⟩,ag⟩;have:=h1 x (hs.subset hx);simp[this.1,fV,this.2]
theorem jx (l:List bf)(i:Nat):(eA l i).Sublist l:=by
 unfold eA
 conv=>rhs;rw[<-yD i l]
 refine KR (GG _) ?_;rw[<-mu];exact List.drop_sublist _ _
def cE (j:Nat)(l:List bf):Nat:=l.countP λx=>decide (x.id.toNat=j)
theorem Kc (j:Nat)(l:List bf)(e:bf):cE j (gz l e)=cE j l+if e.id.toNat=j then 1 else 0:=by
 unfold cE;induction l with
 |nil=>simp[gz,iH]
 |cons a l ih=>
  unfold gz;split
  .simp[iH]
  .rw[iH,ih,iH];omega
theorem Nx (h:i<l.length):l=l.take i++l.getD i ⟨[],0⟩::l.drop (i+1):=by
 have:l.getD i ⟨[],0⟩=l[i]:=by rw[aZ,bd h];rfl
 rw[this];simp
theorem Kd (j:Nat)(h:i<l.length):cE j (eA l i)+(if(l.getD i ⟨[],0⟩).id.toNat=j then 1 else 0)=cE j l:=by
 conv=>rhs;rw[Nx h]
 unfold cE eA;rw[Bp,Bp,iH];simp;omega
theorem zW (l:List bf)(s:az):(eE l s).map (λk=>l.getD k ⟨[],0⟩)=l.find? (λy=>decide (y.name=s)):=by
 unfold eE;induction l with
 |nil=>rfl
 |cons a l ih=>
  rw[GR,List.find?_cons];by_cases h:a.name=s
  .simp[h]
  .simp only[h,decide_false,Option.map_map];rw[<-ih];cases List.findIdx? (λe=>decide (e.name=s)) l<;>simp
theorem Qi {k:Nat}(h:eE l s=some k):k<l.length:=by unfold eE at h;rw[oO] at h;exact h.1
def bM (G:Gr)(k:Nat):List bf:=match G k with
 |none=>[]
 |some e=>e.es
def iP (G:Gr)(j:Nat):Nat:=((List.range 16).map λk=>cE j (bM G k)).sum
def Vv (e:Option NE):List bf:=match e with
 |none=>[]
 |some e=>e.es
theorem gx (G:Gr)(id:Nat)(e:Option NE)(k:Nat):bM (gQ G id e) k=if k=id then Vv e else bM G k:=by
 unfold bM gQ Vv;by_cases h:k=id
 .simp only[if_pos h]
 .simp only[if_neg h]
theorem RY (f g:Nat->Nat)(id:Nat)(h:∀k,k≠id->f k=g k):∀n:Nat,((List.range n).map f).sum+(if id<n then g id else 0)=((List.range n).map g).sum+if id<n then f id else 0
 |0=>by simp
 |n+1=>by
  have ih:=RY f g id h n;rw[Bo,KI,KI,KW,KW];simp only[wO,C2,C7,List.sum_nil];by_cases hn:n=id
  .subst hn;rw[if_neg ag,if_neg ag] at ih;rw[if_pos ag,if_pos ag];omega
  .rw[h n hn];by_cases h2:id<n
   .rw[if_pos h2,if_pos h2] at ih;rw[if_pos ag,if_pos ag];omega
   .rw[if_neg h2,if_neg h2] at ih;rw[if_neg ag,if_neg ag];omega
theorem mK (G:Gr){id:Nat}(hid:id<16)(e:Option NE)(j:Nat):iP (gQ G id e) j+cE j (bM G id)=iP G j+cE j (Vv e):=by have:=RY (λk=>cE j (bM (gQ G id e) k)) (λk=>cE j (bM G k)) id (λk hk=>by show cE j _=cE j _;rw[gx,if_neg hk]) 16;rw[if_pos hid,if_pos hid] at this;unfold iP;simp only[gx,if_pos] at this⊢;exact this
theorem Fg (f:Nat->Nat){k:Nat}:∀{n:Nat},k<n->f k<=((List.range n).map f).sum
 |0,h=>by omega
 |n+1,h=>by
  rw[Bo,KI,KW];simp only[wO,C2,C7,List.sum_nil];by_cases hk:k=n
  .subst hk;omega
  .have:=Fg f (k:=k) (n:=n) ag;omega
theorem RZ (f:Nat->Nat){k j:Nat}(S7:k≠j):∀{n:Nat},k<n->j<n->f k+f j<=((List.range n).map f).sum
 |0,h,_=>by omega
 |n+1,h,h'=>by
  rw[Bo,KI,KW];simp only[wO,C2,C7,List.sum_nil];by_cases hk:k=n
  .have:=Fg f (k:=j) (n:=n) ag;subst hk;omega
  .by_cases hj:j=n
   .have:=Fg f (k:=k) (n:=n) ag;subst hj;omega
   .have:=RZ f S7 (n:=n) ag ag;omega
def WfN (e:NE):Prop:=(e.n.kind=1/\e.es=[]/\1<=e.n.bK/\e.n.bK<=9)\/(e.n.kind=2/\bD e.es=true/\e.n.bK=1)
structure Gd (G:Gr):Prop where
 wf:∀k e,G k=some e->WfN e
 hi:∀k,16<=k->G k=none
 cI:∃e,G 0=some e/\e.n.kind=2
 ids:∀k,∀x∈bM G k,∃e,G x.id.toNat=some e
 lk:∀j e,j≠0->G j=some e->((iP G j:Nat):Int)=e.n.bK
 ac:∃d:Nat->Nat,∀k,∀x∈bM G k,d k<d x.id.toNat
theorem KG.wf {e:NE}(h:KG st e):WfN e:=by
 obtain⟨l,q,_,⟨h0,h⟩|h⟩:=h
 .exact .inl ⟨h.kd,h0,h.lk⟩
 .exact .inr ⟨h.kd,h.eo,h.lk⟩
theorem rK.wf {l q:dg}(h:rK st t G l q):∀k e,G k=some e->WfN e:=λk e he=>((h.at_ k).some he).2.wf
theorem pV (h:∀k e,G k=some e->WfN e)(k:Nat):bD (bM G k)=true:=by
 unfold bM;cases hg:G k with
 |none=>rfl
 |some e=>
  rcases h k e hg with⟨_,h,_⟩|⟨_,h,_⟩
  .simp only;rw[h];rfl
  .exact h
theorem wu (h:∀k e,G k=some e->WfN e){k:Nat}(hx:x∈bM G k):1<=x.id/\x.id<=15/\aU x.name=true:=by have:=(iq (pV h k)).1 x hx;exact⟨this.2.1,this.2.2,this.1⟩
theorem CT (hi:∀k,16<=k->G k=none){k:Nat}(hx:x∈bM G k):k<16:=by
 by_cases h:k<16
 .exact h
 .unfold bM at hx;rw[hi k ag] at hx;cases hx
theorem mL {k:Nat}{es:List bf}(h:nu (G k)=some es):bM G k=es/\∃e,G k=some e/\e.n.kind=2/\e.es=es:=by
 unfold nu at h;unfold bM;cases hg:G k with
 |none=>rw[hg] at h;cases h
 |some e=>
  rw[hg] at h;simp only at h;split at h
  .rename_i hk;cases h;exact⟨rfl,e,rfl,hk,rfl⟩
  .cases h
theorem yf {k:Nat}{e:NE}(h:G k=some e)(hk:e.n.kind=2):nu (G k)=some e.es:=by unfold nu;rw[h];simp only;rw[if_pos hk]
theorem yg (h:∀k e,G k=some e->WfN e){k:Nat}(hx:x∈bM G k):nu (G k)=some (bM G k):=by
 unfold bM at hx⊢;cases hg:G k with
 |none=>rw[hg] at hx;cases hx
 |some e=>
  rw[hg] at hx;rcases h k e hg with⟨_,h,_⟩|⟨hk,_,_⟩
  .simp only at hx;rw[h] at hx;cases hx
  .unfold nu;simp only;rw[if_pos hk]
def look (G:Gr):List az->Nat->Option Nat
 |[],k=>some k
 |s::l,k=>match nu (G k) with
  |none=>none
  |some es=>match es.find? (λx=>decide (x.name=s)) with
   |none=>none
   |some x=>look G l x.id.toNat
theorem pc (G:Gr):∀(l r:List az)(k:Nat),look G (l++r) k=match look G l k with
  |none=>none
  |some j=>look G r j
 |[],r,k=>rfl
 |s::l,r,k=>by
  rw[yv,look,look];cases nu (G k) with
  |none=>rfl
  |some es=>
   simp only;cases es.find? (λx=>decide (x.name=s)) with
   |none=>rfl
   |some x=>exact pc G l r x.id.toNat
theorem vA {k j:Nat}(h:look G [s] k=some j):∃x∈bM G k,x.name=s/\x.id.toNat=j/\nu (G k)=some (bM G k)/\(bM G k).find? (λx=>decide (x.name=s))=some x:=by
 rw[look] at h;cases he:nu (G k) with
 |none=>rw[he] at h;cases h
 |some es=>
  rw[he] at h;simp only at h;have h1:=(mL he).1;cases hf:es.find? (λx=>decide (x.name=s)) with
  |none=>rw[hf] at h;cases h
  |some x=>
   rw[hf] at h;simp only[look] at h;(cases h);rw[h1];exact⟨x,List.mem_of_find?_eq_some hf,by simpa using List.find?_some hf,rfl,rfl,hf⟩
theorem Uy (h:∀k e,G k=some e->WfN e){k:Nat}(hx:x∈bM G k):look G [x.name] k=some x.id.toNat:=by rw[look,yg h hx];simp only;rw[Y5 ((sV _).1 (iq (pV h k)).2.1) hx];rfl
theorem Ip {l q:dg}(h:rK st t G l q)(cJ:Bool)(k:Nat):bR st (Fs.node ⟨st,t,cJ⟩ k)=nu (G k):=h.bR k
theorem yh {l q:dg}(h:rK st t G l q)(cJ:Bool)(ad:List az):∀(k:Nat),Fs.Hl ⟨st,t,cJ⟩ ad k=match look G ad k with
  |none=>-1
  |some j=>(j:Int):=by
 induction ad with
 |nil=>intro k;rfl
 |cons s ad ih=>
  intro k;have he:=Ip h cJ k;unfold Fs.Hl at ih⊢;rw[oW,look];simp only;rw[he];cases tE:nu (G k) with
  |none=>rfl
  |some es=>
   simp only;have h1:=zW es s;cases ha:eE es s with
   |none=>rw[ha] at h1;rw[<-h1];rfl
   |some i=>
    rw[ha] at h1;simp only[wG] at h1;rw[<-h1];simp only;have hm:es.getD i ⟨[],0⟩∈bM G k:=by
     rw[(mL tE).1];exact List.mem_of_find?_eq_some h1.symm
    have hid:=wu h.wf hm;have:=ih (es.getD i ⟨[],0⟩).id.toNat;rw[yF ag] at this;exact this
theorem ud {d:Nat->Nat}(hd:∀k,∀x∈bM G k,d k<d x.id.toNat):∀(l:List az)(k j:Nat),look G l k=some j->d k+l.length<=d j
 |[],k,j,h=>by cases h;simp
 |s::l,k,j,h=>by
  have h':look G ([s]++l) k=some j:=h;rw[pc] at h';cases h1:look G [s] k with
  |none=>rw[h1] at h';cases h'
  |some m=>
   rw[h1] at h';simp only at h';obtain⟨x,hx,_,rfl,_⟩:=vA h1;have:=hd k x hx;have:=ud hd l _ _ h';rw[cY];omega
theorem yi {α:Type}(l:List α):l=[]\/∃a x,l=a++[x]:=by
 rcases List.eq_nil_or_concat l with h|⟨a,x,h⟩
 .exact .inl h
 .exact .inr ⟨a,x,by rw[h,List.concat_eq_append]⟩
theorem afv (h:cE j l<=1){x y:bf}(hx:x∈l)(hy:y∈l)(hxj:x.id.toNat=j)(hyj:y.id.toNat=j):x=y:=by
 unfold cE at h;rw[List.countP_eq_length_filter] at h;have h1:x∈l.filter λx=>decide (x.id.toNat=j):=pD.2 ⟨hx,by simpa using hxj⟩
 have h2:y∈l.filter λx=>decide (x.id.toNat=j):=pD.2 ⟨hy,by simpa using hyj⟩
 generalize l.filter (λx=>decide (x.id.toNat=j))=w at h h1 h2
 match w,h with
 |[],_=>cases h1
 |[a],_=>simp at h1 h2;rw[h1,h2]
theorem Iq (h:Gd G):∀(n:Nat)(p p':List az)(k:Nat)(e:NE),p.length<=n->look G p 0=some k->look G p' 0=some k->G k=some e->e.n.kind=2->p=p'
 |0,p,p',k,e,hn,h1,h2,h3,h4=>by
  have:p=[]:=mO ag;subst this;cases h1
  obtain⟨d,hd⟩:=h.ac;have:=ud hd p' 0 0 h2;exact(mO ag).symm
 |n+1,p,p',k,e,hn,h1,h2,h3,h4=>by
  obtain⟨d,hd⟩:=h.ac;rcases yi p with rfl|⟨a,s,rfl⟩
  .cases h1
   have:=ud hd p' 0 0 h2;exact(mO ag).symm
  .rcases yi p' with rfl|⟨a',s',rfl⟩
   .cases h2
    have:=ud hd _ 0 0 h1;rw[bL,Bt] at this;omega
   .rw[pc] at h1 h2;cases e1:look G a 0 with
    |none=>rw[e1] at h1;cases h1
    |some m=>
     cases e2:look G a' 0 with
     |none=>rw[e2] at h2;cases h2
     |some m'=>
      rw[e1] at h1;rw[e2] at h2;simp only at h1 h2;obtain⟨x,hx,SN,hxk,hxe,_⟩:=vA h1;obtain⟨y,hy,hys,hyk,_⟩:=vA h2;(have SZ:k≠0:=by have:=wu h.wf hx;omega);have hl:=h.lk k e SZ h3;rcases h.wf k e h3 with⟨hw,_⟩|⟨_,_,hw⟩
      .omega
      .rw[hw] at hl;have hl:iP G k=1:=by omega
       have hm:=CT h.hi hx;have hm':=CT h.hi hy;have c1:1<=cE k (bM G m):=C8.2 ⟨x,hx,by simpa using hxk⟩;have c2:1<=cE k (bM G m'):=C8.2 ⟨y,hy,by simpa using hyk⟩;have hmm:m=m':=by
        by_cases hc:m=m'
        .exact hc
        .exfalso;have:=RZ (λi=>cE k (bM G i)) hc hm hm';unfold iP at hl;omega
       subst hmm;have al9:cE k (bM G m)<=1:=by
        have:=Fg (λi=>cE k (bM G i)) hm;unfold iP at hl;omega
       have Vt:=afv al9 hx hy hxk hyk;subst Vt;obtain⟨em,ama,amb,_⟩:=(mL hxe).2;have:=Iq h n a a' m em (by rw[bL,Bt] at hn;omega) e1 e2 ama amb;rw[this,<-SN,<-hys]
end
variable {f:Fs}{at_:Nat}{af:az}{cJ:Bool}
section
variable {k:Nat}{l:dg}
def FS (st:au)(t:cB):Prop:=∃G l q,rK st t G l q/\Gd G
theorem zX {id:Int}{n:iM}(h:(f.put id n).cJ=false):f.cJ=false:=by
 unfold Fs.put at h;by_cases hf:f.cJ=true
 .rw[if_pos hf] at h;rw[h]
 .simpa using hf
theorem abZ {n:iM}(h:(f.put id n).cJ=false):pK f.st f.t id n=((f.put id n).st,(f.put id n).t,true):=by
 have hf:=zX h;unfold Fs.put at h⊢;rw[if_neg (by rw[hf];simp)] at h⊢;rw[uK] at h⊢;rcases hp:pK f.st f.t id n with⟨st,t,ok⟩;rw[hp] at h;simp only at h⊢;have:ok=true:=by simpa using h
 rw[this]
theorem yj {id:Int}{l:List bf}(h:(f.bk id l).cJ=false):f.cJ=false:=by
 unfold Fs.bk at h;by_cases hf:f.cJ=true
 .rw[if_pos hf] at h;rw[h]
 .simpa using hf
theorem Fh {e:NE}(h:FX st t G id e.Q l q)(hid:id<16)(he:KG st e)(hp:(Fs.put ⟨st,t,false⟩ id e.n).cJ=false):∃l' q',rK (Fs.put ⟨st,t,false⟩ id e.n).st (Fs.put ⟨st,t,false⟩ id e.n).t (gQ G id (some e)) l' q':=
 Y3 h hid he (abZ hp)
theorem ny (h:rK st t G l q)(cJ:Bool)(k:Nat):Fs.node ⟨st,t,cJ⟩ k=((G k).map (·.n)).getD bB:=by unfold Fs.node;rw[show(jr st t k)=_ from h.jr k]
theorem pd {e:NE}{es':List bf}(h:rK st t G l q)(he:G at_=some e)(hk:e.n.kind=2)(tE:bD es'=true)(hp:(Fs.bk ⟨st,t,false⟩ at_ es').cJ=false):
  ∃e' l' q',rK (Fs.bk ⟨st,t,false⟩ at_ es').st (Fs.bk ⟨st,t,false⟩ at_ es').t (gQ G at_ (some e')) l' q'/\e'.es=es'/\e'.n.kind=2/\e'.n.bK=e.n.bK:=by
 obtain⟨_,hid⟩:=h.lt he;obtain⟨ln,qn,hq,hh⟩:=((h.at_ at_).some he).2;rcases hh with⟨_,hf⟩|hd
 .rw[hf.kd] at hk;cases hk
 have aje:Fs.node ⟨st,t,false⟩ at_=e.n:=by rw[ny h,he];rfl
 unfold Fs.bk at hp⊢;rw[if_neg ay] at hp⊢;simp only[aje] at hp⊢;rcases hb:kH st e.n.aX (bn es') with⟨st1,t1,ok⟩;rw[hb] at hp;simp only at hp⊢;have fm:ok=true:=by have:=zX hp;simpa using this
 subst fm;have OA:=h.fx hid;have Y4:gq G at_=e.Q:=by unfold gq;rw[he]
 have cX:=(l6 tE).1;obtain⟨l1,q1,h1,h2,h3,h4,h5⟩:=Qe (R:=cM l q++sb G at_) hd.tr (OA.so.cZ (by
  rw[Y4,hq];exact oP _ _ _)) ag hb
 have Uw:FX st1 t G at_ (cM l1 q1) l q:=OA.step h3 h2
 let e':NE:=⟨{e.n with aX:=t1,size:=((bn es').length:Int)},es',cM l1 q1⟩
 have hn:KG st1 e':=⟨l1,q1,rfl,.inr ⟨h1,hd.kd,tE,rfl,hd.lk,h4,h5⟩⟩;obtain⟨l',q',k⟩:=Fh (e:=e') Uw hid hn hp;exact⟨e',l',q',k,rfl,hd.kd,rfl⟩
theorem zO (h:aP af=true):∀s∈aF af,aU s=true:=by
 intro s hs;unfold aP at h;split at h
 .rename_i h0;rw[h0] at hs;unfold aF at hs;rw[if_pos rfl] at hs;cases hs
 .split at h
  .cases h
  .rw[bO,gA] at h;exact h.1 s hs
theorem yk (h:aF af≠[]):aF af=(aF af).dropLast++[Fs.base af]:=by unfold Fs.base;rw[List.getLastD_eq_getLast?,List.getLast?_eq_some_getLast h,qj,List.dropLast_concat_getLast]
theorem zY (h:rK st t G l q)(hr:¬0<(Fs.bU ⟨st,t,cJ⟩ af).2):
  ∃(at_:Nat)(e:NE),Fs.bU ⟨st,t,cJ⟩ af=((at_:Int),0)/\aF af≠[]/\look G (aF af).dropLast 0=some at_/\G at_=some e/\e.n.kind=2:=by
 unfold Fs.bU at hr⊢;simp only at hr⊢;by_cases hn:aF af=[]
 .rw[if_pos hn] at hr;exact absurd bJ hr
 .rw[if_neg hn] at hr⊢;have hl:Fs.Hl ⟨st,t,cJ⟩ (aF af).dropLast 0=_:=yh h cJ (aF af).dropLast 0;rw[hl] at hr⊢;cases MK:look G (aF af).dropLast 0 with
  |none=>rw[MK] at hr;exact absurd (show(0:Int)<2 by decide) hr
  |some at_=>
   rw[MK] at hr;simp only at hr⊢;rw[if_neg ag] at hr⊢;rw[ny h] at hr⊢;cases hg:G at_ with
   |none=>rw[hg] at hr;exact absurd (show(0:Int)<4 by decide) hr
   |some e=>
    rw[hg] at hr;simp only[wG,qj] at hr⊢;by_cases hk:e.n.kind=2
    .rw[if_neg (by simpa using hk)];exact⟨at_,e,rfl,hn,rfl,hg,hk⟩
    .rw[if_pos hk] at hr;exact absurd bJ hr
theorem Ir (h:rK st t G l q)(cJ:Bool)(af:az):Fs.di ⟨st,t,cJ⟩ af=match look G (aF af) 0 with
  |none=>-1
  |some j=>(j:Int):=yh h cJ (aF af) 0
theorem iF (h:rK st t G l q)(hf:¬Fs.di ⟨st,t,cJ⟩ af<0):∃k:Nat,Fs.di ⟨st,t,cJ⟩ af=k/\look G (aF af) 0=some k:=by
 rw[Ir h] at hf⊢;cases hl:look G (aF af) 0 with
 |none=>rw[hl] at hf;exact absurd bJ hf
 |some k=>exact⟨k,rfl,rfl⟩
theorem Ny (h:rK st t G l q)(hf:¬0<=Fs.di ⟨st,t,cJ⟩ af):look G (aF af) 0=none:=by
 rw[Ir h] at hf;cases hl:look G (aF af) 0 with
 |none=>rfl
 |some k=>rw[hl] at hf;exact absurd ay hf
theorem Y7 {e:NE}(hn:aF af≠[])(hl:look G (aF af).dropLast 0=some at_)(he:G at_=some e)(hk:e.n.kind=2)(hf:look G (aF af) 0=none):∀x∈e.es,x.name≠Fs.base af:=by
 rw[yk hn,pc,hl] at hf;simp only at hf;rw[look,yf he hk] at hf;simp only at hf;cases Gw:e.es.find? (λx=>decide (x.name=Fs.base af)) with
 |none=>exact Ux Gw
 |some x=>rw[Gw] at hf;cases hf
theorem Ke (h:aP af=true)(hn:aF af≠[]):aU (Fs.base af)=true:=by apply zO h;rw[yk hn];simp
theorem sW (h:rK st t G l q)(hp:aP af=true)(hr:¬0<(Fs.bI ⟨st,t,cJ⟩ af).2):
  ∃(at_:Nat)(e:NE),(Fs.bI ⟨st,t,cJ⟩ af).1=(at_:Int)/\aF af≠[]/\look G (aF af).dropLast 0=some at_/\G at_=some e/\e.n.kind=2/\(∀x∈e.es,x.name≠Fs.base af)/\aU (Fs.base af)=true:=by
 unfold Fs.bI at hr⊢;simp only at hr⊢;by_cases h1:0<(Fs.bU ⟨st,t,cJ⟩ af).2
 .rw[if_pos h1] at hr;exact absurd h1 hr
 .rw[if_neg h1] at hr⊢;obtain⟨at_,e,e1,e2,e3,e4,e5⟩:=zY h h1;by_cases h2:0<=Fs.di ⟨st,t,cJ⟩ af
  .rw[if_pos h2] at hr;exact absurd bJ hr
  .rw[if_neg h2,e1];exact⟨at_,e,rfl,e2,e3,e4,e5,Y7 e2 e3 e4 e5 (Ny h h2),Ke hp e2⟩
theorem mb (h:rK st t G l q)(cJ:Bool){e:NE}(he:G k=some e)(hk:e.n.kind=2):Fs.bM ⟨st,t,cJ⟩ k=e.es:=by unfold Fs.bM;rw[Ip h cJ k,yf he hk];rfl
theorem fE (G:Gr)(id:Nat)(e:Option NE):gQ G id e id=e:=by unfold gQ;rw[if_pos rfl]
theorem fP (G:Gr)(e:Option NE)(h:k≠id):gQ G id e k=G k:=by unfold gQ;rw[if_neg h]
theorem dV {e:NE}(h:G k=some e):bM G k=e.es:=by unfold bM;rw[h]
theorem R0 {kind:Int}(hk:kind=1\/kind=2)(h:FS st t)(hp:aP af=true)(h0:(Fs.make ⟨st,t,false⟩ af kind).2=0)(hf:(Fs.make ⟨st,t,false⟩ af kind).1.cJ=false):FS (Fs.make ⟨st,t,false⟩ af kind).1.st (Fs.make ⟨st,t,false⟩ af kind).1.t:=by
 obtain⟨G,l,q,hF,hG⟩:=h;unfold Fs.make at h0 hf⊢;simp only at h0 hf⊢;by_cases h1:0<(Fs.bI ⟨st,t,false⟩ af).2
 .rw[if_pos h1] at h0;simp only at h0;omega
 .rw[if_neg h1] at h0 hf⊢;obtain⟨at_,e,e1,e2,e3,e4,e5,e6,e7⟩:=sW hF hp h1;rw[e1] at h0 hf⊢;cases Az:vb st t with
  |none=>rw[Az] at h0;simp at h0
  |some id=>
   rw[Az] at h0 hf;simp only at h0 hf⊢;rw[mb hF false e4 e5] at h0 hf⊢;by_cases AD:12<=e.es.length
   .rw[if_pos AD] at h0;simp at h0
   .rw[if_neg AD] at hf⊢;simp only at hf⊢;obtain⟨hid,wZ⟩:=Ff hF Az;have nJ:at_≠id:=λhc=>by rw[hc,wZ] at e4;cases e4
    have Gx:id≠0:=λhc=>by obtain⟨r,hr,_⟩:=hG.cI;rw[hc,hr] at wZ;cases wZ
    let en:NE:=⟨⟨kind,1,0,fh⟩,[],[]⟩
    have Ly:=yj hf;(have Y4:gq G id=[]:=by unfold gq;rw[wZ]);have OA:FX st t G id en.Q l q:=by have:=hF.fx hid;rw[Y4] at this;exact this
    have hhn:dh 16=dh 16:=rfl;have Vl:KG st en:=by
     refine⟨dh 16,[],by unfold cM;rw[lp];rfl,?_⟩;rcases hk with rfl|rfl
     .exact .inl ⟨rfl,sP st,rfl,bJ,rfl,bJ,λj hj=>by have hj:(j:Int)<0:=hj;omega⟩
     .exact .inr ⟨sP st,rfl,rfl,rfl,rfl,rfl,by unfold tx;rw[show(dh 16).getD 0 bA=bA from rfl,lJ lI];rfl⟩
    refine' zaN;have zZ:bD (gz e.es ⟨Fs.base af,id⟩)=true:=CS tE e6 e7 (by show 1<=(id:Int)/\(id:Int)<=15;omega) ag;generalize pr:(Fs.put ⟨st,t,false⟩ id ⟨kind,1,0,fh⟩)=fs at hf Ly⊢;(have yB:rK fs.st fs.t (gQ G id (some en)) l1 q1:=by rw[<-pr];exact yB);obtain⟨st1,t1,z6⟩:=fs;simp only at Ly;subst Ly;obtain⟨e',l2,q2,FU,g1,g2,g3⟩:=pd yB e4' e5 zZ hf;refine⟨_,l2,q2,FU,FU.wf,FU.hi,?_,?_,?_,?_⟩
    .obtain⟨r,hr1,nC⟩:=hG.cI;by_cases ha:at_=0
     .subst ha;exact⟨e',fE _ _ _,g2⟩
     .rw[fP _ _ (λh=>ha h.symm),fP _ _ (λh=>Gx h.symm)];exact⟨r,hr1,nC⟩
    .have hold:∀k r,G k=some r->∃r',gQ (gQ G id (some en)) at_ (some e') k=some r':=λk r hr=>by
      by_cases hk:k=at_
      .subst hk;exact⟨_,fE _ _ _⟩
      .rw[fP _ _ hk];by_cases y4:k=id
       .subst y4;exact⟨_,fE _ _ _⟩
       .rw[fP _ _ y4];exact⟨r,hr⟩
     have lC:∃r',gQ (gQ G id (some en)) at_ (some e') id=some r':=by
      rw[fP _ _ (λh=>nJ h.symm)];exact⟨_,fE _ _ _⟩
     intro k x hx;rw[gx] at hx;by_cases hk:k=at_
     .rw[if_pos hk] at hx;have hx:x∈e'.es:=hx;rw[g1] at hx;rcases nw.1 hx with rfl|hx
      .exact lC
      .rw[<-jJ] at hx;obtain⟨r,hr⟩:=hG.ids at_ x hx;exact hold _ r hr
     .rw[if_neg hk,gx] at hx;by_cases y4:k=id
      .rw[if_pos y4] at hx;cases hx
      .rw[if_neg y4] at hx;obtain⟨r,hr⟩:=hG.ids k x hx;exact hold _ r hr
    .have Jp:∀j,iP (gQ (gQ G id (some en)) at_ (some e')) j=iP G j+if id=j then 1 else 0:=λj=>by
      have c1:=mK (gQ G id (some en)) (yB.lt e4').2 (some e') j;have c2:=mK G hid (some en) j;rw[dV e4'] at c1;(have:bM G id=[]:=by unfold bM;rw[wZ]);rw[this] at c2;have c3:=Kc j e.es ⟨Fs.base af,id⟩;have c4:Vv (some e')=gz e.es ⟨Fs.base af,id⟩:=g1;rw[c4,c3] at c1;have c5:cE j (Vv (some en))=0:=rfl;have c6:cE j []=0:=rfl;rw[c5,c6] at c2;simp only[uK] at c1;omega
     have hz:iP G id=0:=by
      unfold iP;have:∀k,cE id (bM G k)=0:=λk=>by
       unfold cE;rw[uM];intro x hx;obtain⟨r,hr⟩:=hG.ids k x hx;simp only[bQ];intro hc;rw[hc,wZ] at hr;cases hr
      rw[show(λk=>cE id (bM G k))=λ_=>0 from funext this];rfl
     intro j r hj hr;rw[Jp];by_cases Nz:j=at_
     .subst Nz;rw[fE] at hr;cases hr
      rw[if_neg (λh=>nJ h.symm),g3];have:=hG.lk j e hj e4;omega
     .rw[fP _ _ Nz] at hr;by_cases uH:j=id
      .subst uH;rw[fE] at hr;cases hr
       rw[if_pos rfl,hz];rfl
      .rw[fP _ _ uH] at hr;rw[if_neg (λh=>uH h.symm)];have:=hG.lk j r hj hr;omega
    .obtain⟨d,hd⟩:=hG.ac;have fY:∀k,∀x∈bM G k,x.id.toNat≠id:=λk x hx hc=>by
      obtain⟨r,hr⟩:=hG.ids k x hx;rw[hc,wZ] at hr;cases hr
     refine⟨λk=>if k=id then d at_+1 else d k,λk x hx=>?_⟩;rw[gx] at hx;by_cases hk:k=at_
     .rw[if_pos hk] at hx;have hx:x∈e'.es:=hx;rw[g1] at hx;rw[hk];show(if at_=id then d at_+1 else d at_)<(if x.id.toNat=id then d at_+1 else d x.id.toNat);rw[if_neg nJ];rcases nw.1 hx with rfl|hx
      .simp
      .rw[<-jJ] at hx;rw[if_neg (fY at_ x hx)];exact hd at_ x hx
     .rw[if_neg hk,gx] at hx;by_cases y4:k=id
      .rw[if_pos y4] at hx;cases hx
      .rw[if_neg y4] at hx;simp only[if_neg y4,if_neg (fY k x hx)];exact hd k x hx
end
section
variable {k:Nat}
theorem mc {e:NE}(h:∃r,G k=some r):∃r,gQ G id (some e) k=some r:=by
 by_cases hk:k=id
 .subst hk;exact⟨e,fE _ _ _⟩
 .rw[fP _ _ hk];exact h
theorem nz {e:NE}(h:∃r,G 0=some r/\r.n.kind=2)(he:id=0->e.n.kind=2):∃r,gQ G id (some e) 0=some r/\r.n.kind=2:=by
 by_cases hk:0=id
 .subst hk;exact⟨e,fE _ _ _,he rfl⟩
 .rw[fP _ _ hk];exact h
theorem R5 (h:∀k e,G k=some e->WfN e){e:NE}(he:G k=some e)(hk:e.n.kind=1):e.es=[]/\1<=e.n.bK/\e.n.bK<=9:=by
 rcases h k e he with⟨_,h1,h2⟩|⟨h1,_⟩
 .exact⟨h1,h2⟩
 .rw[hk] at h1;cases h1
theorem jy (hG:Gd G){ad:List az}(h:look G ad 0=some k):∃e,G k=some e:=by
 rcases yi ad with rfl|⟨a,s,rfl⟩
 .cases h;obtain⟨e,he,_⟩:=hG.cI;exact⟨e,he⟩
 .rw[pc] at h;cases h1:look G a 0 with
  |none=>rw[h1] at h;cases h
  |some m=>
   rw[h1] at h;obtain⟨x,hx,_,rfl,_⟩:=vA h;exact hG.ids m x hx
theorem Gd.same (h:Gd G){e e':NE}(he:G id=some e)(hw:∀k r,gQ G id (some e') k=some r->WfN r)(tE:e'.es=e.es)(hk:e'.n.kind=e.n.kind)(hl:e'.n.bK=e.n.bK):Gd (gQ G id (some e')):=by
 have hid:id<16:=by
  by_cases hid:id<16
  .exact hid
  .rw[h.hi id ag] at he;cases he
 have hE:∀k,bM (gQ G id (some e')) k=bM G k:=λk=>by
  rw[gx];split
  .rename_i hk;rw[hk,dV he];exact tE
  .rfl
 refine⟨hw,Qh h.hi hid,?_,λk x hx=>?_,λj r hj hr=>?_,?_⟩
 .obtain⟨r,hr,nC⟩:=h.cI;exact nz ⟨r,hr,nC⟩ (λhc=>by subst hc;rw[hr] at he;cases he;rw[hk];exact nC)
 .rw[hE] at hx;exact mc (h.ids k x hx)
 .have:iP (gQ G id (some e')) j=iP G j:=by unfold iP;simp only[hE]
  rw[this];by_cases uH:j=id
  .subst uH;rw[fE] at hr;cases hr
   rw[hl];exact h.lk j e hj he
  .rw[fP _ _ uH] at hr;exact h.lk j r hj hr
 .obtain⟨d,hd⟩:=h.ac;exact⟨d,λk x hx=>by rw[hE] at hx;exact hd k x hx⟩
theorem Uz {o:Pl.Op}(h:FS st t)(ha:0<=o.at_/\o.at_<=192)(h0:(Fs.change ⟨st,t,false⟩ o).2=0)(hf:(Fs.change ⟨st,t,false⟩ o).1.cJ=false):FS (Fs.change ⟨st,t,false⟩ o).1.st (Fs.change ⟨st,t,false⟩ o).1.t:=by
 obtain⟨G,l,q,hF,hG⟩:=h;unfold Fs.change at h0 hf⊢;simp only at h0 hf⊢;by_cases h1:Fs.di ⟨st,t,false⟩ o.af<0
 .rw[if_pos h1] at h0;cases h0
 .rw[if_neg h1] at h0 hf⊢;obtain⟨id,e1,e2⟩:=iF hF h1;obtain⟨e,he⟩:=jy hG e2;rw[e1,ny hF,he] at h0 hf⊢;simp only[wG,qj] at h0 hf⊢;by_cases hk:e.n.kind=1
  .rw[if_neg (by simpa using hk)] at h0 hf⊢;by_cases hm:192<o.at_+(o.bq.length:Int)
   .rw[if_pos hm] at h0;cases h0
   .rw[if_neg hm] at hf⊢;obtain⟨_,hid⟩:=hF.lt he;obtain⟨ln,qn,hq,hh⟩:=((hF.at_ id).some he).2;have Is:pA st e.n ln qn:=by
     rcases hh with⟨_,hh⟩|hd
     .exact hh
     .have:=hd.kd;rw[hk] at this;cases this
    have OA:=hF.fx hid;(have Y4:gq G id=e.Q:=by unfold gq;rw[he]);have Xo:mS st (cM ln qn++(cM l q++sb G id)):=OA.so.cZ (by rw[Y4,hq];exact oP _ _ _);rcases hr:(if o.kind=3 then fH st e.n o.at_.toNat o.bq else fB st e.n o.at_.toNat) with⟨st1,n1,ok⟩;rw[hr] at hf;simp only at hf⊢;have fm:ok=true:=by have:=zX hf;simpa using this
    subst fm;have Jt:∃l' q',pA st1 n1 l' q'/\mS st1 (cM l' q'++(cM l q++sb G id))/\fR st st1 (cM l q++sb G id)/\n1.bK=e.n.bK/\n1.kind=e.n.kind:=by
     split at hr
     .exact J8 Is Xo ag hr
     .exact Qf Is Xo ag hr
    obtain⟨l1,q1,g1,g2,g3,g4,g5⟩:=Jt;have Uw:FX st1 t G id (cM l1 q1) l q:=OA.step g3 g2
    let e':NE:=⟨n1,[],cM l1 q1⟩
    obtain⟨l2,q2,FU⟩:=Fh (e:=e') Uw hid ⟨l1,q1,rfl,.inl ⟨rfl,g1⟩⟩ hf;exact⟨_,l2,q2,FU,hG.same he FU.wf (R5 hG.wf he hk).1.symm g5 g4⟩
  .rw[if_pos (by simpa using hk)] at h0;cases h0
theorem ab0 {af to:az}(h:FS st t)(hp:aP to=true)(h0:(Fs.link ⟨st,t,false⟩ af to).2=0)(hf:(Fs.link ⟨st,t,false⟩ af to).1.cJ=false):FS (Fs.link ⟨st,t,false⟩ af to).1.st (Fs.link ⟨st,t,false⟩ af to).1.t:=by
 obtain⟨G,l,q,hF,hG⟩:=h;unfold Fs.link at h0 hf⊢;simp only at h0 hf⊢;by_cases h1:Fs.di ⟨st,t,false⟩ af<0
 .rw[if_pos h1] at h0;cases h0
 .rw[if_neg h1] at h0 hf⊢;obtain⟨id,e1,e2⟩:=iF hF h1;obtain⟨ei,re⟩:=jy hG e2;rw[e1,ny hF,re] at h0 hf⊢;simp only[wG,qj] at h0 hf⊢;by_cases hk:ei.n.kind=1
  .rw[if_neg (by simpa using hk)] at h0 hf⊢;by_cases h2:0<(Fs.bI ⟨st,t,false⟩ to).2
   .rw[if_pos h2] at h0;simp only at h0;omega
   .rw[if_neg h2] at h0 hf⊢;obtain⟨at_,e,Vw,_,e3,e4,e5,e6,e7⟩:=sW hF hp h2;rw[Vw,mb hF false e4 e5] at h0 hf⊢;by_cases AD:9<=ei.n.bK\/12<=e.es.length
    .rw[if_pos AD] at h0;cases h0
    .rw[if_neg AD] at hf⊢;obtain⟨_,hid⟩:=hF.lt re;have nJ:at_≠id:=λhc=>by rw[hc,re] at e4;cases e4;rw[hk] at e5;cases e5
     (have Gx:id≠0:=λhc=>by obtain⟨r,hr,nC⟩:=hG.cI;rw[hc,hr] at re;cases re;rw[hk] at nC;cases nC);obtain⟨amc,MK⟩:=R5 hG.wf re hk
     let en:NE:=⟨{ei.n with bK:=ei.n.bK+1},[],ei.Q⟩
     have Ly:=yj hf;(have Y4:gq G id=ei.Q:=by unfold gq;rw[re]);have OA:FX st t G id en.Q l q:=by have:=hF.fx hid;rw[Y4] at this;exact this
     have Vl:KG st en:=by
      obtain⟨ln,qn,hq,⟨_,hh⟩|hd⟩:=((hF.at_ id).some re).2
      .exact⟨ln,qn,hq,.inl ⟨rfl,hh.tr,hh.kd,hh.sz,hh.mn,by show 1<=ei.n.bK+1/\ei.n.bK+1<=9;omega,hh.ft⟩⟩
      .have:=hd.kd;rw[hk] at this;cases this
     refine' zaN;have zZ:bD (gz e.es ⟨Fs.base to,id⟩)=true:=CS tE e6 e7 (by show 1<=(id:Int)/\(id:Int)<=15;omega) ag;generalize pr:(Fs.put ⟨st,t,false⟩ id {ei.n with bK:=ei.n.bK+1})=fs at hf Ly⊢;(have yB:rK fs.st fs.t (gQ G id (some en)) l1 q1:=by rw[<-pr];exact yB);obtain⟨st1,t1,z6⟩:=fs;simp only at Ly;subst Ly;obtain⟨e',l2,q2,FU,g1,g2,g3⟩:=pd yB e4' e5 zZ hf;have Je:bM G id=[]:=by rw[dV re];exact amc
     have hE:∀k,bM (gQ (gQ G id (some en)) at_ (some e')) k=if k=at_ then gz e.es ⟨Fs.base to,id⟩ else bM G k:=λk=>by
      rw[gx];split
      .exact g1
      .rw[gx];split
       .rename_i hk;rw[hk,Je];rfl
       .rfl
     refine⟨_,l2,q2,FU,FU.wf,FU.hi,?_,?_,?_,?_⟩
     .exact nz (nz hG.cI (λhc=>absurd hc Gx)) (λ_=>g2)
     .intro k x hx;rw[hE] at hx;refine mc (mc ?_);split at hx
      .rcases nw.1 hx with rfl|hx
       .exact⟨ei,by simpa using re⟩
       .rw[<-jJ] at hx;exact hG.ids at_ x hx
      .exact hG.ids k x hx
     .intro j r hj hr;have c1:=mK (gQ G id (some en)) (yB.lt e4').2 (some e') j;have c2:=mK G hid (some en) j;have c3:=Kc j e.es ⟨Fs.base to,id⟩;have c4:Vv (some e')=gz e.es ⟨Fs.base to,id⟩:=g1;rw[dV e4',c4,c3] at c1;rw[Je] at c2;have c5:cE j (Vv (some en))=0:=rfl;have c6:cE j []=0:=rfl;rw[c5,c6] at c2;simp only[uK] at c1;by_cases Nz:j=at_
      .subst Nz;rw[fE] at hr;cases hr
       rw[if_neg (λh=>nJ h.symm)] at c1;rw[g3];have:=hG.lk j e hj e4;omega
      .rw[fP _ _ Nz] at hr;by_cases uH:j=id
       .subst uH;rw[fE] at hr;cases hr
        rw[if_pos rfl] at c1;show _=ei.n.bK+1;have:=hG.lk j ei hj re;omega
       .rw[fP _ _ uH] at hr;rw[if_neg (λh=>uH h.symm)] at c1;have:=hG.lk j r hj hr;omega
     .obtain⟨d,hd⟩:=hG.ac;have amd:∀k,∀x∈bM G k,k≠id:=λk x hx hc=>by rw[hc,Je] at hx;cases hx
      refine⟨λk=>if k=id then d id+d at_+1 else d k,λk x hx=>?_⟩;rw[hE] at hx;show(if k=id then _ else _)<(if x.id.toNat=id then _ else _);split at hx
      .rename_i hk;rw[hk,if_neg nJ];rcases nw.1 hx with rfl|hx
       .rw[if_pos ay];omega
       .rw[<-jJ] at hx;have:=hd at_ x hx;split
        .omega
        .exact this
      .rw[if_neg (amd k x hx)];have:=hd k x hx;split
       .rename_i hc;rw[hc] at this;omega
       .exact this
  .rw[if_pos (by simpa using hk)] at h0;cases h0
theorem sX {l q:dg}(hF:rK st t G l q)(hG:Gd G)(hl:look G (aF af) 0=some id)(hid:id≠0):
  ∃(at_:Nat)(e:NE)(i:Nat),Fs.bU ⟨st,t,false⟩ af=((at_:Int),0)/\look G (aF af).dropLast 0=some at_/\G at_=some e/\e.n.kind=2/\eE e.es (Fs.base af)=some i/\i<e.es.length/\(e.es.getD i ⟨[],0⟩).id.toNat=id/\aF af≠[]:=by
 have hn:aF af≠[]:=λh=>by rw[h] at hl;cases hl;exact hid rfl
 have jM:=hl;rw[yk hn,pc] at jM;cases h1:look G (aF af).dropLast 0 with
 |none=>rw[h1] at jM;cases jM
 |some at_=>
  rw[h1] at jM;obtain⟨x,hx,hxn,hxi,hxe,hxf⟩:=vA jM;obtain⟨hee,e,he,hk,tE⟩:=mL hxe;have h2:=zW e.es (Fs.base af);rw[tE,hxf] at h2;cases hi:eE (bM G at_) (Fs.base af) with
  |none=>rw[hi] at h2;cases h2
  |some i=>
   rw[hi] at h2;simp only[wG] at h2;(have h3:(bM G at_).getD i ⟨[],0⟩=x:=by injection h2);refine⟨at_,e,i,?_,rfl,he,hk,by rw[tE];exact hi,by rw[tE];exact Qi hi,by rw[tE,h3];exact hxi,hn⟩;unfold Fs.bU;simp only;rw[if_neg hn];have MK:Fs.Hl ⟨st,t,false⟩ (aF af).dropLast 0=_:=yh hF false (aF af).dropLast 0;rw[MK,h1];simp only;rw[if_neg ag,ny hF,he];simp only[wG,qj];rw[if_neg (by simpa using hk)]
theorem Y8 (h:FS st t)(h0:(Fs.qz ⟨st,t,false⟩ af).2=0)(hf:(Fs.qz ⟨st,t,false⟩ af).1.cJ=false):FS (Fs.qz ⟨st,t,false⟩ af).1.st (Fs.qz ⟨st,t,false⟩ af).1.t:=by
 obtain⟨G,l,q,hF,hG⟩:=h;unfold Fs.qz at h0 hf⊢;simp only at h0 hf⊢;by_cases h1:Fs.di ⟨st,t,false⟩ af<0
 .rw[if_pos h1] at h0;cases h0
 .rw[if_neg h1] at h0 hf⊢;obtain⟨id,e1,e2⟩:=iF hF h1;obtain⟨ei,re⟩:=jy hG e2;rw[e1,ny hF,re] at h0 hf⊢;simp only[wG,qj] at h0 hf⊢;by_cases hb:(id:Int)=0\/(ei.n.kind=2/\0<ei.n.size)
  .rw[if_pos hb] at h0;cases h0
  .rw[if_neg hb] at h0 hf⊢;have Gx:id≠0:=λhc=>hb (.inl ag)
   obtain⟨at_,e,i,p1,p2,p3,p4,p5,p6,p7,_⟩:=sX hF hG e2 Gx;rw[p1] at h0 hf⊢;simp only at h0 hf⊢;rw[mb hF false p3 p4,p5] at h0 hf⊢;simp only[qj] at h0 hf⊢;obtain⟨_,hid⟩:=hF.lt re;have jJ:=dV p3;have tE:bD e.es=true:=by have:=pV hG.wf at_;rwa [jJ] at this
   have zZ:=Kb tE (jx e.es i);have Je:bM G id=[]:=by
    rw[dV re];obtain⟨ln,qn,hq,⟨h0,_⟩|hd⟩:=((hF.at_ id).some re).2
    .exact h0
    .have jd:=hd.sz;have V5:=hd.kd;have:ei.es=[]:=by
      by_cases hc:ei.es=[]
      .exact hc
      .have h3:=(l6 hd.eo).2 hc;exact absurd (.inr ⟨V5,ag⟩) hb
     exact this
   have nJ:at_≠id:=λhc=>by
    (have:bM G at_=[]:=by rw[hc];exact Je);rw[jJ] at this;rw[this] at p6;simp at p6
   have Kf:(Fs.bk ⟨st,t,false⟩ at_ (eA e.es i)).cJ=false:=by
    by_cases hl:0<ei.n.bK-1
    .rw[if_pos hl] at hf;exact zX hf
    .rw[if_neg hl] at hf;by_cases hfu:(Fs.bk ⟨st,t,false⟩ at_ (eA e.es i)).cJ=true
     .rw[if_pos hfu] at hf;exact hf
     .simpa using hfu
   obtain⟨e',l1,q1,yB,g1,g2,g3⟩:=pd hF p3 p4 zZ Kf;generalize pr:(Fs.bk ⟨st,t,false⟩ at_ (eA e.es i))=fs at hf Kf yB⊢;obtain⟨st1,t1,z6⟩:=fs;simp only at Kf;subst Kf;have afw:gQ G at_ (some e') id=some ei:=by rw[fP _ _ (λh=>nJ h.symm)];exact re
   have vN:∀j,iP (gQ G at_ (some e')) j+(if id=j then 1 else 0)=iP G j:=λj=>by
    have c1:=mK G (hF.lt p3).2 (some e') j;have c4:Vv (some e')=eA e.es i:=g1;rw[jJ,c4] at c1;have c2:=Kd j p6;rw[p7] at c2;omega
   have Kg:∀k x,x∈bM (gQ G at_ (some e')) k->∃r,G x.id.toNat=some r:=λk x hx=>by
    rw[gx] at hx;split at hx
    .have hx:x∈e'.es:=hx;rw[g1] at hx;have:=(jx e.es i).subset hx;rw[<-jJ] at this;exact hG.ids at_ x this
    .exact hG.ids k x hx
   obtain⟨d,hd⟩:=hG.ac;have Qj:∀k x,x∈bM (gQ G at_ (some e')) k->d k<d x.id.toNat:=λk x hx=>by
    rw[gx] at hx;split at hx
    .rename_i hk;have hx:x∈e'.es:=hx;rw[g1] at hx;have:=(jx e.es i).subset hx;rw[<-jJ] at this;rw[hk];exact hd at_ x this
    .exact hd k x hx
   have MK:=hG.lk id ei Gx re;have hci:=vN id;rw[if_pos rfl] at hci;have hE:∀(o:Option NE),Vv o=[]->∀k,bM (gQ (gQ G at_ (some e')) id o) k=bM (gQ G at_ (some e')) k:=λo ho k=>by
    rw[gx];split
    .rename_i hk;rw[ho,hk,gx,if_neg (λh=>nJ h.symm),Je]
    .rfl
   by_cases hl:0<ei.n.bK-1
   .rw[if_pos hl] at hf⊢;have v8:ei.n.kind=1:=by
     rcases hG.wf id ei re with⟨hk,_⟩|⟨_,_,hk⟩
     .exact hk
     .omega
    let en:NE:=⟨{ei.n with bK:=ei.n.bK-1},[],ei.Q⟩
    (have Y4:gq (gQ G at_ (some e')) id=ei.Q:=by unfold gq;rw[afw]);have OA:FX st1 t1 (gQ G at_ (some e')) id en.Q l1 q1:=by have:=yB.fx hid;rw[Y4] at this;exact this
    have Vl:KG st1 en:=by
     obtain⟨ln,qn,hq,⟨_,hh⟩|hd⟩:=((yB.at_ id).some afw).2
     .have:=hh.lk;exact⟨ln,qn,hq,.inl ⟨rfl,hh.tr,hh.kd,hh.sz,hh.mn,by show 1<=ei.n.bK-1/\ei.n.bK-1<=9;omega,hh.ft⟩⟩
     .have:=hd.kd;rw[v8] at this;cases this
    obtain⟨l2,q2,FU⟩:=Fh (e:=en) OA hid Vl hf;have hE2:=hE (some en) rfl;refine⟨_,l2,q2,FU,FU.wf,FU.hi,nz (nz hG.cI (λ_=>g2)) (λhc=>absurd hc Gx),λk x hx=>?_,λj r hj hr=>?_,d,λk x hx=>by rw[hE2] at hx;exact Qj k x hx⟩
    .rw[hE2] at hx;exact mc (mc (Kg k x hx))
    .have hnr:iP (gQ (gQ G at_ (some e')) id (some en)) j=iP (gQ G at_ (some e')) j:=by unfold iP;simp only[hE2]
     have hcj:=vN j;rw[hnr];by_cases uH:j=id
     .subst uH;rw[fE] at hr;cases hr
      show _=ei.n.bK-1;omega
     .rw[fP _ _ uH] at hr;rw[if_neg (λh=>uH h.symm)] at hcj;by_cases Nz:j=at_
      .subst Nz;rw[fE] at hr;cases hr
       rw[g3];have:=hG.lk j e hj p3;omega
      .rw[fP _ _ Nz] at hr;have:=hG.lk j r hj hr;omega
   .rw[if_neg hl] at hf⊢;rw[if_neg ay] at hf⊢;rcases tZ:eb st1 t1 id with⟨eN,t2,ok⟩
    rw[tZ] at hf;simp only at hf⊢;(have fm:ok=true:=by simpa using hf);subst fm;obtain⟨l2,q2,FU⟩:=Ka yB afw tZ;have hE2:=hE none rfl;(have aoh:1<=ei.n.bK:=by rcases hG.wf id ei re with⟨_,_,hk,_⟩|⟨_,_,hk⟩<;>omega);(have hz:iP (gQ G at_ (some e')) id=0:=by omega);refine⟨_,l2,q2,FU,FU.wf,FU.hi,?_,λk x hx=>?_,λj r hj hr=>?_,d,λk x hx=>by rw[hE2] at hx;exact Qj k x hx⟩
    .rw[fP _ _ (λh=>Gx h.symm)];exact nz hG.cI (λ_=>g2)
    .rw[hE2] at hx;have fY:x.id.toNat≠id:=λhc=>by
      have J9:k<16:=CT yB.hi hx;have c1:1<=cE id (bM (gQ G at_ (some e')) k):=C8.2 ⟨x,hx,by simpa using hc⟩;have:=Fg (λi=>cE id (bM (gQ G at_ (some e')) i)) J9;unfold iP at hz;omega
     rw[fP _ _ fY];exact mc (Kg k x hx)
    .have hnr:iP (gQ (gQ G at_ (some e')) id none) j=iP (gQ G at_ (some e')) j:=by unfold iP;simp only[hE2]
     have hcj:=vN j;rw[hnr];by_cases uH:j=id
     .subst uH;rw[fE] at hr;cases hr
     .rw[fP _ _ uH] at hr;rw[if_neg (λh=>uH h.symm)] at hcj;by_cases Nz:j=at_
      .subst Nz;rw[fE] at hr;cases hr
       rw[g3];have:=hG.lk j e hj p3;omega
      .rw[fP _ _ Nz] at hr;have:=hG.lk j r hj hr;omega
end
theorem Qk {s top r:az}(hs:aP s=true)(ht:aP top=true){aS:List az}(h:aF s=aF top++aS):under s top=true:=by unfold under;rw[hs,ht,h];simp
theorem Kh {l a r:List az}(hl:l≠[])(h:l.dropLast=a++r):∃aS,l=a++aS:=by refine⟨r++[l.getLast hl],?_⟩;rw[<-ku,<-h,List.dropLast_concat_getLast]
theorem ab1 {af to:az}(h:FS st t)(Tu:aP af=true)(hp:aP to=true)(h0:(Fs.move ⟨st,t,false⟩ af to).2=0)(hf:(Fs.move ⟨st,t,false⟩ af to).1.cJ=false):FS (Fs.move ⟨st,t,false⟩ af to).1.st (Fs.move ⟨st,t,false⟩ af to).1.t:=by
 obtain⟨G,l,q,hF,hG⟩:=h;unfold Fs.move at h0 hf⊢;simp only at h0 hf⊢;by_cases h1:Fs.di ⟨st,t,false⟩ af<0
 .rw[if_pos h1] at h0;cases h0
 rw[if_neg h1] at h0 hf⊢;obtain⟨id,e1,e2⟩:=iF hF h1;obtain⟨ei,re⟩:=jy hG e2;rw[e1] at h0 hf⊢;by_cases hz:(id:Int)=0
 .rw[if_pos hz] at h0;cases h0
 rw[if_neg hz] at h0 hf⊢;by_cases R6:0<=Fs.di ⟨st,t,false⟩ to
 .rw[if_pos R6] at h0;cases h0
 rw[if_neg R6] at h0 hf⊢;by_cases CE:under to af=true
 .rw[if_pos CE] at h0;cases h0
 rw[if_neg CE] at h0 hf⊢;by_cases rS:0<(Fs.bU ⟨st,t,false⟩ to).2
 .rw[if_pos rS] at h0;simp only at h0;omega
 rw[if_neg rS] at h0 hf⊢;have Gx:id≠0:=by omega
 obtain⟨at_,e,a1,a2,a3,a4,a5⟩:=zY hF rS;obtain⟨fr,ef,i,p1,p2,p3,p4,p5,p6,p7,p8⟩:=sX hF hG e2 Gx;have ajf:=Y7 a2 a3 a4 a5 (Ny hF R6);have ajg:=Ke hp a2;rw[a1,p1] at h0 hf⊢;simp only at h0 hf⊢;rw[mb hF false p3 p4,p5,mb hF false a4 a5] at h0 hf⊢;simp only[qj] at h0 hf⊢;obtain⟨_,hid⟩:=hF.lt re;have Fi:=dV p3;have z7:=dV a4;have ajh:bD ef.es=true:=by have:=pV hG.wf fr;rwa [Fi] at this
 have ame:bD e.es=true:=by have:=pV hG.wf at_;rwa [z7] at this
 have adw:=Kb ajh (jx ef.es i);have cX:(eA ef.es i).length+1=ef.es.length:=by
  unfold eA;rw[bL,cW,eW];omega
 have aoi:=(iq ajh).2.2;have aji:1<=(id:Int)/\(id:Int)<=15:=by omega
 have Ch:∀r,look G r id≠some at_:=by
  intro r hr;have h1:look G (aF af++r) 0=some at_:=by rw[pc,e2];exact hr
  have h2:=Iq hG _ _ _ at_ e (cG _) a3 h1 a4 a5;obtain⟨aS,h3⟩:=Kh a2 h2;exact CE (Qk (r:=to) hp Tu h3)
 obtain⟨d,hd⟩:=hG.ac;by_cases vw:¬(at_:Int)=(fr:Int)/\12<=e.es.length
 .rw[if_pos vw] at h0;cases h0
 rw[if_neg vw] at h0 hf⊢;by_cases NA:(at_:Int)=(fr:Int)
 ·
  rw[if_pos NA] at hf⊢;have NA:at_=fr:=by omega
  subst NA;rw[a4] at p3;cases p3
  have zZ:bD (gz (eA e.es i) ⟨Fs.base to,id⟩)=true:=CS adw (λx hx=>ajf x ((jx e.es i).subset hx)) ajg aji ag;obtain⟨e',l1,q1,yB,g1,g2,g3⟩:=pd hF a4 a5 zZ hf;have x7:∀k x,x∈bM (gQ G at_ (some e')) k->(k=at_/\x=⟨Fs.base to,id⟩)\/x∈bM G k:=λk x hx=>by
   rw[gx] at hx;split at hx
   .rename_i hk;have hx:x∈e'.es:=hx;rw[g1] at hx;rcases nw.1 hx with rfl|hx
    .exact .inl ⟨hk,rfl⟩
    .right;rw[hk,z7];exact(jx e.es i).subset hx
   .exact .inr hx
  have hdi:d at_<d id:=by
   (have:e.es.getD i ⟨[],0⟩∈bM G at_:=by rw[z7,aZ,bd p6];exact rj _);have:=hd at_ _ this;rw[p7] at this;exact this
  refine⟨_,l1,q1,yB,yB.wf,yB.hi,nz hG.cI (λ_=>g2),λk x hx=>?_,λj r hj hr=>?_,d,λk x hx=>?_⟩
  .rcases x7 k x hx with⟨_,rfl⟩|hx
   .exact mc ⟨ei,by simpa using re⟩
   .exact mc (hG.ids k x hx)
  .have c1:=mK G (hF.lt a4).2 (some e') j;have c4:Vv (some e')=gz (eA e.es i) ⟨Fs.base to,id⟩:=g1;have c2:=Kd j p6;rw[z7,c4,Kc] at c1;rw[p7] at c2;simp only[uK] at c1;by_cases Nz:j=at_
   .subst Nz;rw[fE] at hr;cases hr
    rw[g3];have:=hG.lk j e hj a4;omega
   .rw[fP _ _ Nz] at hr;have:=hG.lk j r hj hr;omega
  .rcases x7 k x hx with⟨rfl,rfl⟩|hx
   .simpa using hdi
   .exact hd k x hx
 ·
  rw[if_neg NA] at hf⊢;have fY:at_≠fr:=λh=>NA (by rw[h])
  simp only at hf⊢;have Kf:=yj hf;obtain⟨Vw,l1,q1,yB,g1,g2,g3⟩:=pd hF p3 p4 adw Kf;generalize pr:(Fs.bk ⟨st,t,false⟩ fr (eA ef.es i))=fs at hf Kf yB⊢;obtain⟨st1,t1,z6⟩:=fs;simp only at Kf;subst Kf;have a4':gQ G fr (some Vw) at_=some e:=by rw[fP _ _ fY];exact a4
  rw[mb yB false a4' a5] at hf⊢;have zZ:bD (gz e.es ⟨Fs.base to,id⟩)=true:=CS ame ajf ajg aji ag;obtain⟨e2',l2,q2,FU,k1,k2,k3⟩:=pd yB a4' a5 zZ hf;have x7:∀k x,x∈bM (gQ (gQ G fr (some Vw)) at_ (some e2')) k->(k=at_/\x=⟨Fs.base to,id⟩)\/x∈bM G k:=λk x hx=>by
   rw[gx] at hx;split at hx
   .rename_i hk;have hx:x∈e2'.es:=hx;rw[k1] at hx;rcases nw.1 hx with rfl|hx
    .exact .inl ⟨hk,rfl⟩
    .right;rw[hk,z7];exact hx
   .rw[gx] at hx;split at hx
    .rename_i hk;have hx:x∈Vw.es:=hx;rw[g1] at hx
     right;rw[hk,Fi];exact(jx ef.es i).subset hx
    .exact .inr hx
  refine⟨_,l2,q2,FU,FU.wf,FU.hi,nz (nz hG.cI (λ_=>g2)) (λ_=>k2),λk x hx=>?_,λj r hj hr=>?_,?_⟩
  .rcases x7 k x hx with⟨_,rfl⟩|hx
   .exact mc (mc ⟨ei,by simpa using re⟩)
   .exact mc (mc (hG.ids k x hx))
  .have c1:=mK G (hF.lt p3).2 (some Vw) j;have c2:=mK (gQ G fr (some Vw)) (yB.lt a4').2 (some e2') j;have c3:=Kd j p6;have c4:Vv (some Vw)=eA ef.es i:=g1;have c5:Vv (some e2')=gz e.es ⟨Fs.base to,id⟩:=k1;rw[Fi,c4] at c1;rw[dV a4',c5,Kc] at c2;rw[p7] at c3;simp only[uK] at c2;by_cases Nz:j=at_
   .subst Nz;rw[fE] at hr;cases hr
    rw[k3];have:=hG.lk j e hj a4;omega
   .rw[fP _ _ Nz] at hr;by_cases hjf:j=fr
    .subst hjf;rw[fE] at hr;cases hr
     rw[g3];have:=hG.lk j ef hj p3;omega
    .rw[fP _ _ hjf] at hr;have:=hG.lk j r hj hr;omega
  .classical
   refine⟨λk=>if(∃r,look G r id=some k) then d k+d at_+1 else d k,λk x hx=>?_⟩;show(if _ then _ else _)<(if _ then _ else _);rcases x7 k x hx with⟨rfl,rfl⟩|hx
   .rw[if_neg (λ⟨r,hr⟩=>Ch r hr),if_pos ⟨[],by simp[look]⟩];rw[show((id:Int)).toNat=id from uK id];omega
   .have dG:=hd k x hx;by_cases hk:∃r,look G r id=some k
    .obtain⟨r,hr⟩:=hk;rw[if_pos ⟨r,hr⟩,if_pos ⟨r++[x.name],by rw[pc,hr];exact Uy hG.wf hx⟩];omega
    .rw[if_neg hk];by_cases Tb:∃r,look G r id=some x.id.toNat
     .rw[if_pos Tb];exact xn dG (gK (Nat.le_add_right _ _) (Nat.le_add_right _ _))
     .rw[if_neg Tb];exact dG
theorem A9 {o:Pl.Op}(h:ik o=true):aP o.af=true/\(o.kind=6\/o.kind=7->aP o.to=true)/\0<=o.at_/\o.at_<=192:=by
 unfold ik at h;simp only at h;split at h
 .cases h
 .rename_i h1;split at h
  .cases h
  .simp only[mf,qi,bO,bQ,fV,not_or,wS] at h1 h;obtain⟨⟨⟨h2,h3⟩,h4⟩,h5⟩:=h1;refine⟨h3,λhk=>?_,?_⟩
   .cases hc:aP o.to with
    |true=>rfl
    |false=>exact absurd ⟨hk,hc⟩ h4
   .rcases h with h|⟨_,h⟩
    .omega
    .exact h
theorem R7 {o:Pl.Op}(h:FS st t)(ho:ik o=true):FS (fb st t o).1 (fb st t o).2.1:=by
 obtain⟨hp,R6,ha⟩:=A9 ho;unfold fb;simp only;have iK:∀r:Fs×Int,(r.2=0->r.1.cJ=false->FS r.1.st r.1.t)->FS (if(if r.2=0/\r.1.cJ=true then 7 else r.2)≠0 then(st,t,(if r.2=0/\r.1.cJ=true then 7 else r.2)) else(r.1.st,r.1.t,(if r.2=0/\r.1.cJ=true then 7 else r.2))).1 (if(if r.2=0/\r.1.cJ=true then 7 else r.2)≠0 then(st,t,(if r.2=0/\r.1.cJ=true then 7 else r.2)) else(r.1.st,r.1.t,(if r.2=0/\r.1.cJ=true then(7:Int) else r.2))).2.1:=by
  intro r hr;by_cases hc:r.2=0/\r.1.cJ=true
  .rw[if_pos hc,if_pos bJ];exact h
  .rw[if_neg hc];by_cases hz:r.2=0
   .rw[if_neg (by simpa using hz)];exact hr hz (by simpa using λh=>hc ⟨hz,h⟩)
   .rw[if_pos hz];exact h
 apply iK;intro h0 hf;by_cases k1:o.kind=1
 .rw[if_pos k1] at h0 hf⊢;exact R0 (.inl rfl) h hp h0 hf
 rw[if_neg k1] at h0 hf⊢;by_cases k2:o.kind=2
 .rw[if_pos k2] at h0 hf⊢;exact R0 (.inr rfl) h hp h0 hf
 rw[if_neg k2] at h0 hf⊢;by_cases k5:o.kind=5
 .rw[if_pos k5] at h0 hf⊢;exact Y8 h h0 hf
 rw[if_neg k5] at h0 hf⊢;by_cases k6:o.kind=6
 .rw[if_pos k6] at h0 hf⊢;exact ab0 h (R6 (.inl k6)) h0 hf
 rw[if_neg k6] at h0 hf⊢;by_cases k7:o.kind=7
 .rw[if_pos k7] at h0 hf⊢;exact ab1 h hp (R6 (.inr k7)) h0 hf
 rw[if_neg k7] at h0 hf⊢;exact Uz h ha h0 hf
theorem CU (h:FS st t):FS (next st) t:=by
 obtain⟨G,l,q,hF,hG⟩:=h;obtain⟨h1,h2,h3⟩:=abq hF.so;have ze:∀{p:jF},p∈cM l q++Nu G->gy (next st) p=gy st p:=λhp=>h3 _ hp
 have yy:∀{l' q':dg},(∀p∈cM l' q',p∈cM l q++Nu G)->∀j,tx (next st) l' j=tx st l' j:=λhm j=>nk λhh=>ze (hm _ (dE _ (dD.2 ⟨jI hh,hh⟩)))
 have DR:∀{t':cB}{l' q':dg},(∀p∈cM l' q',p∈cM l q++Nu G)->ra st t' l' q'->ra (next st) t' l' q':=λhm h=>h.ext (λp hp=>ze (hm p (cT _ hp))) (by rw[h2];omega)
 have FN:∀p∈cM l q,p∈cM l q++Nu G:=λp hp=>cT _ hp
 refine⟨G,l,q,⟨DR FN hF.tr,h1,λk=>?_,hF.hi⟩,hG⟩;have hk:=hF.at_ k;unfold At at hk⊢;cases hg:G k with
 |none=>rw[hg] at hk;simp only at hk⊢;rw[yy FN,hk]
 |some e=>
  rw[hg] at hk;simp only at hk⊢;refine⟨by rw[yy FN];exact hk.1,?_⟩;have J9:=(hF.lt hg).2;have hm:∀p∈e.Q,p∈cM l q++Nu G:=λp hp=>dE _ (afu J9 p (by unfold gq;rw[hg];exact hp))
  obtain⟨ln,qn,hq,hh⟩:=hk.2;rw[hq] at hm;refine⟨ln,qn,hq,?_⟩;rcases hh with⟨h0,hh⟩|hh
  .exact .inl ⟨h0,DR hm hh.tr,hh.kd,hh.sz,hh.mn,hh.lk,λj hj=>by rw[yy hm];exact hh.ft j hj⟩
  .exact .inr ⟨DR hm hh.tr,hh.kd,hh.eo,hh.sz,hh.lk,hh.mn,by rw[yy hm];exact hh.tx0⟩
theorem NB (same:Bool):mS (bW same) []:=by refine⟨rfl,rfl,rfl,rfl,yH 1,ay,λi hi=>?_,by simp[bW]⟩;show((Ak i ([]++[]):Nat):Int)<=(List.replicate 64 (0:Int)).getD i 0;rw[aZ,VG];split<;>simp[Ak]
theorem xj (same:Bool):(pK (bW same) fh 0 ⟨2,1,0,fh⟩).2.2=true:=by cases same<;>decide+kernel
theorem NC (same:Bool):FS (mY same).1 (mY same).2:=by
 let G0:Gr:=λ_=>none
 let en:NE:=⟨⟨2,1,0,fh⟩,[],[]⟩
 have hgb:sb G0 0=[]:=by
  unfold sb;rw[List.flatMap_eq_nil_iff];intro k _;split<;>rfl
 have OA:FX (bW same) fh G0 0 en.Q (dh 16) []:=by
  refine⟨sP _,?_,λk hk=>?_,λk hk=>rfl⟩
  .rw[hgb];unfold cM;rw[lp];exact NB same
  .show tx _ _ k=[];unfold tx;rw[(sP (bW same)).hl k (by show(0:Int)<=_;omega),lJ lI]
 have Vl:KG (bW same) en:=⟨dh 16,[],by unfold cM;rw[lp];rfl,.inr ⟨sP _,rfl,rfl,rfl,rfl,rfl,by unfold tx;rw[show(dh 16).getD 0 bA=bA from rfl,lJ lI];rfl⟩⟩;have hp:=xj same;unfold mY;simp only;rcases hr:pK (bW same) fh 0 ⟨2,1,0,fh⟩ with⟨st,t,ok⟩
 rw[hr] at hp;simp only at hp;subst hp;obtain⟨l',q',hF⟩:=Y3 (e:=en) OA ag Vl hr;have hE:∀k,bM (gQ G0 0 (some en)) k=[]:=λk=>by
  rw[gx];split<;>rfl
 refine⟨_,l',q',hF,hF.wf,hF.hi,⟨en,fE _ _ _,rfl⟩,λk x hx=>?_,λj r hj hr=>?_,λ_=>0,λk x hx=>?_⟩
 .rw[hE] at hx;cases hx
 .rw[fP _ _ hj] at hr;cases hr
 .rw[hE] at hx;cases hx
theorem ND:∀o∈first,ik o=true:=by decide+kernel
variable {n m:Nat}
section
variable {k:Nat}{e:NE}
theorem NF {d:Nat->Nat}{a b:Nat}(h:d a<d b):∀n:Nat,((List.range n).countP λj=>decide (d j<d a))<=((List.range n).countP λj=>decide (d j<d b))/\(a<n->((List.range n).countP λj=>decide (d j<d a))<((List.range n).countP λj=>decide (d j<d b)))
 |0=>by simp
 |n+1=>by
  have ih:=NF h n;rw[Bo,Bp,Bp];simp only[iH,KU,mU,bQ];constructor
  .have:=ih.1;split<;>split<;>omega
  .intro ha;by_cases hn:a=n
   .subst hn;have:=ih.1;rw[if_neg ag,if_pos h];omega
   .have:=ih.2 ag;split<;>split<;>omega
theorem Iu (h:Gd G):∃d:Nat->Nat,(∀k,∀x∈bM G k,d k<d x.id.toNat)/\∀k,d k<=16:=by
 obtain⟨d,hd⟩:=h.ac;refine⟨λk=>(List.range 16).countP λj=>decide (d j<d k),λk x hx=>?_,λk=>?_⟩
 .exact(NF (hd k x hx) 16).2 (CT h.hi hx)
 .have:=GF (p:=λj=>decide (d j<d k)) (l:=List.range 16);simpa using this
def wl (G:Gr):Nat->a7->List a7
 |0,x=>[x]
 |f+1,x=>x::(bM G x.id.toNat).flatMap λe=>wl G f ⟨dU x.af e.name,e.id⟩
def cF (j:Nat)(l:List a7):Nat:=l.countP λx=>decide (x.id.toNat=j)
def nn (G:Gr):Nat->Nat->Nat->Nat
 |0,k,j=>if k=j then 1 else 0
 |f+1,k,j=>(if k=j then 1 else 0)+((bM G k).map λe=>nn G f e.id.toNat j).sum
theorem Y9 (G:Gr)(j:Nat):∀(f:Nat)(x:a7),cF j (wl G f x)=nn G f x.id.toNat j
 |0,x=>by simp[cF,wl,nn,iH]
 |f+1,x=>by
  rw[wl,nn];unfold cF;rw[iH,List.countP_flatMap,Nat.add_comm];have:∀e:bf,List.countP (λx=>decide (x.id.toNat=j)) (wl G f ⟨dU x.af e.name,e.id⟩)=nn G f e.id.toNat j:=λe=>Y9 G j f ⟨dU x.af e.name,e.id⟩
  simp only[Function.comp_def,this,bQ]
def sm (n:Nat)(f:Nat->Nat):Nat:=((List.range n).map f).sum
theorem rL (n:Nat)(f:Nat->Nat):sm (n+1) f=sm n f+f n:=by unfold sm;rw[Bo,KI,KW];simp
theorem Ql (n:Nat)(f g:Nat->Nat):sm n (λa=>f a+g a)=sm n f+sm n g:=by
 induction n with
 |zero=>rfl
 |succ n ih=>rw[rL,rL,rL,ih];omega
theorem qQ {f g:Nat->Nat}(h:∀a,a<n->f a=g a):sm n f=sm n g:=by
 induction n with
 |zero=>rfl
 |succ n ih=>rw[rL,rL,ih (λa ha=>h a ag),h n ag]
theorem wv (n:Nat):sm n (λ_=>0)=0:=by
 induction n with
 |zero=>rfl
 |succ n ih=>rw[rL,ih]
theorem Qm (M:Nat->Nat):∀{n:Nat},k<n->sm n (λa=>(if k=a then 1 else 0)*M a)=M k
 |0,h=>by omega
 |n+1,h=>by
  rw[rL];by_cases hk:k=n
  .subst hk;rw[if_pos rfl,qQ (g:=λ_=>0) (λa ha=>by rw[if_neg ag];simp),wv];omega
  .rw[if_neg hk,Qm M ag];omega
theorem R8 {α:Type}(n:Nat)(F:α->Nat->Nat)(M:Nat->Nat):∀l:List α,sm n (λa=>(l.map λe=>F e a).sum*M a)=(l.map λe=>sm n λa=>F e a*M a).sum
 |[]=>by simp[wv]
 |x::l=>by
  simp only[wO,C7,mM];rw[Ql,R8 n F M l]
theorem Ki {α:Type}(l:List α)(f g:α->Nat):(l.map λe=>f e+g e).sum=(l.map f).sum+(l.map g).sum:=by
 induction l with
 |nil=>rfl
 |cons x l ih=>simp only[wO,C7,ih];omega
theorem afx (j:Nat)(l:List bf):(l.map λe=>if e.id.toNat=j then 1 else 0).sum=cE j l:=by
 unfold cE;induction l with
 |nil=>rfl
 |cons x l ih=>rw[wO,C7,ih,iH];simp;omega
theorem R9 (h:Gd G){d:Nat->Nat}(hd:∀k,∀x∈bM G k,d k<d x.id.toNat)(Jd:∀k,d k<=16)(j:Nat):∀(f k:Nat),17<=f+d k->k<16->nn G f k j=(if k=j then 1 else 0)+sm 16 λa=>nn G f k a*cE j (bM G a)
 |0,k,hf,_=>by have:=Jd k;omega
 |f+1,k,hf,hk=>by
  have e1:∀a,nn G (f+1) k a=(if k=a then 1 else 0)+((bM G k).map λe=>nn G f e.id.toNat a).sum:=λa=>rfl
  rw[e1 j];simp only[e1,mM];have e3:=R8 16 (λ(e:bf) a=>nn G f e.id.toNat a) (λa=>cE j (bM G a)) (bM G k);rw[Ql,Qm (λa=>cE j (bM G a)) hk,e3];have e2:((bM G k).map λe=>nn G f e.id.toNat j)=(bM G k).map λe=>(if e.id.toNat=j then 1 else 0)+sm 16 λa=>nn G f e.id.toNat a*cE j (bM G a):=by
   apply CW;intro e he;have hid:=wu h.wf he;have:=hd k e he;exact R9 h hd Jd j f e.id.toNat ag ag
  rw[e2,Ki,afx]
theorem Za {α:Type}(l:List α):(l.map λ_=>0).sum=0:=by
 induction l with
 |nil=>rfl
 |cons x l ih=>rw[wO,C7,ih]
theorem Zb (h:Gd G){j:Nat}(hj:G j=none):∀(f k:Nat),(∃e,G k=some e)->nn G f k j=0
 |0,k,⟨e,he⟩=>by
  unfold nn;rw[if_neg];rintro rfl;rw[hj] at he;cases he
 |f+1,k,⟨e,he⟩=>by
  unfold nn;rw[if_neg (by rintro rfl;rw[hj] at he;cases he)];have:((bM G k).map λe=>nn G f e.id.toNat j)=(bM G k).map λ_=>0:=by
   apply CW;intro x hx;exact Zb h hj f _ (h.ids k x hx)
  rw[this,Za]
theorem z8 (G:Gr)(j:Nat):iP G j=sm 16 λa=>cE j (bM G a):=rfl
theorem NG (h:Gd G){f:Nat}(hf:17<=f):∀j e,G j=some e->((nn G f 0 j:Nat):Int)=e.n.bK:=by
 obtain⟨d,hd,Jd⟩:=Iu h;have Io:=λj=>R9 h hd Jd j f 0 ag ag
 have ajj:∀(m j:Nat)(e:NE),d j<=m->G j=some e->e.n.kind=2->nn G f 0 j=1:=by
  intro m;induction m with
  |zero=>
   intro j e hm he hk;have hM:∀a,cE j (bM G a)=0:=λa=>by
    unfold cE;rw[uM];intro x hx;simp only[bQ];intro hc;have:=hd a x hx;rw[hc] at this;omega
   rw[Io,qQ (g:=λ_=>0) (λa _=>by rw[hM];simp),wv];by_cases hj:0=j
   .rw[if_pos hj]
   .have:=h.lk j e (λhc=>hj hc.symm) he;have hz:iP G j=0:=by
     rw[z8,qQ (g:=λ_=>0) (λa _=>hM a),wv]
    rw[hz] at this;rcases h.wf j e he with⟨v8,_⟩|⟨_,_,hl⟩
    .rw[hk] at v8;cases v8
    .omega
  |succ m ih=>
   intro j e hm he hk;have key:sm 16 (λa=>nn G f 0 a*cE j (bM G a))=iP G j:=by
    rw[z8];apply qQ;intro a ha;rcases wD (cE j (bM G a)) with hz|hp
    .rw[hz];simp
    .obtain⟨x,hx,hxj⟩:=C8.1 hp;have dG:=hd a x hx;have hxj:x.id.toNat=j:=by simpa using hxj
     rw[hxj] at dG;obtain⟨_,ea,hea,hka,_⟩:=mL (yg h.wf hx);rw[ih a ea ag hea hka,Nat.one_mul]
   rw[Io,key];by_cases hj:0=j
   .subst hj;have hz:iP G 0=0:=by
     rw[z8];have hM:∀a,cE 0 (bM G a)=0:=λa=>by
      unfold cE;rw[uM];intro x hx;have:=wu h.wf hx;simp only[bQ];omega
     rw[qQ (g:=λ_=>0) (λa _=>hM a),wv]
    rw[hz];rfl
   .have:=h.lk j e (λhc=>hj hc.symm) he;rcases h.wf j e he with⟨v8,_⟩|⟨_,_,hl⟩
    .rw[hk] at v8;cases v8
    .rw[if_neg hj];omega
 intro j e he;rcases h.wf j e he with⟨v8,_,_⟩|⟨y4,_,hl⟩
 .have hj:j≠0:=λhc=>by subst hc;obtain⟨r,hr,nC⟩:=h.cI;rw[hr] at he;cases he;rw[v8] at nC;cases nC
  have key:sm 16 (λa=>nn G f 0 a*cE j (bM G a))=iP G j:=by
   rw[z8];apply qQ;intro a ha;rcases wD (cE j (bM G a)) with hz|hp
   .rw[hz];simp
   .obtain⟨x,hx,_⟩:=C8.1 hp;obtain⟨_,ea,hea,hka,_⟩:=mL (yg h.wf hx);rw[ajj (d a) a ea (cG _) hea hka,Nat.one_mul]
  rw[<-h.lk j e hj he,Io,if_neg (λhc=>hj hc.symm),mU,key]
 .rw[ajj (d j) j e (cG _) he y4,hl];rfl
theorem Zc:∀l:List a7,(∀x∈l,x.id.toNat<16)->l.length=sm 16 λj=>cF j l
 |[],_=>(wv 16).symm
 |x::l,h=>by
  have ih:=Zc l (λy hy=>h y (by simp[hy]));have:∀j,cF j (x::l)=cF j l+(if x.id.toNat=j then 1 else 0)*1:=λj=>by simp[cF,iH]
  rw[cY,ih,qQ (λj _=>this j),Ql,Qm (λ_=>1) (h x ay)]
def vB (m:Nat)(p:az):Prop:=∃ad:List az,(∀s∈ad,aU s=true)/\ad.length<=m/\p=pathOf ad
theorem UA (ad:List az)(h:∀s∈ad,aU s=true):(ad.map λs=>47::s).flatten.length<=5*ad.length:=by
 induction ad with
 |nil=>simp
 |cons s l ih=>
  have:=(rG (h s ay)).2;have:=ih (λx hx=>h x (by simp[hx]));rw[wO,List.flatten_cons,bL];simp only[cY];omega
theorem vB.len {p:az}(h:vB m p):1<=p.length/\p.length<=5*m+1:=by
 obtain⟨ad,h1,h2,rfl⟩:=h;unfold pathOf;split
 .simp
 .rename_i hn;have:=UA ad h1;refine⟨?_,ag⟩;cases ad with
  |nil=>exact absurd rfl hn
  |cons s l=>simp
theorem vB.add {p s:az}(h:vB m p)(hs:aU s=true):vB (m+1) (dU p s):=by
 obtain⟨ad,h1,h2,rfl⟩:=h;refine⟨ad++[s],λx hx=>?_,by simp;omega,?_⟩
 .rcases eZ.1 hx with hx|hx
  .exact h1 x hx
  .have:x=s:=by simpa using hx
   rw[this];exact hs
 .unfold dU pathOf;rw[if_neg (show ad++[s]≠[] by simp)];cases ad with
  |nil=>simp
  |cons a l=>
   rw[if_neg (show a::l≠[] by simp)];rw[if_neg]
   .simp
   .intro hc;have:=ep List.length hc;have ha:=(rG (h1 a ay)).2;rw[wO,List.flatten_cons,bL] at this;simp at this;omega
theorem Zd (h:Gd G):∀(f m:Nat)(x:a7),0<=x.id->(∃e,G x.id.toNat=some e)->vB m x.af->∀y∈wl G f x,(0<=y.id/\∃e,G y.id.toNat=some e)/\vB (m+f) y.af
 |0,m,x,h0,he,hp,y,hy=>by
  have:y=x:=by simpa[wl] using hy
  subst this;exact⟨⟨h0,he⟩,hp⟩
 |f+1,m,x,h0,he,hp,y,hy=>by
  rw[wl] at hy;rcases bT.1 hy with rfl|hy
  .obtain⟨n,h1,h2,h3⟩:=hp;exact⟨⟨h0,he⟩,n,h1,ag,h3⟩
  .obtain⟨e,hee,hy⟩:=pC.1 hy;have hid:=wu h.wf hee;have:=Zd h f (m+1) ⟨dU x.af e.name,e.id⟩ (by show 0<=e.id;omega) (h.ids _ e hee) (hp.add hid.2.2) y hy;rw[show m+(f+1)=m+1+f by omega];exact this
theorem Gd.lt (h:Gd G)(he:G k=some e):k<16:=by
 by_cases hk:k<16
 .exact hk
 .rw[h.hi k ag] at he;cases he
theorem afy (h:Gd G){f:Nat}(hf:17<=f)(p:az)(hp:vB 0 p):(wl G f ⟨p,0⟩).length<=144:=by
 obtain⟨r,hr,nC⟩:=h.cI;have bV:=Zd h f 0 ⟨p,0⟩ (yH 0) ⟨r,hr⟩ hp;rw[Zc _ (λx hx=>by obtain⟨⟨_,e,he⟩,_⟩:=bV x hx;exact h.lt he)];have hle:∀j,cF j (wl G f ⟨p,0⟩)<=9:=λj=>by
  rw[Y9];show nn G f 0 j<=9;cases hg:G j with
  |none=>rw[Zb h hg f 0 ⟨r,hr⟩];omega
  |some e=>
   have:=NG h hf j e hg;rcases h.wf j e hg with⟨_,_,_,hl⟩|⟨_,_,hl⟩<;>omega
 have:∀n,sm n (λj=>cF j (wl G f ⟨p,0⟩))<=9*n:=λn=>by
  induction n with
  |zero=>exact cG _
  |succ n ih=>rw[rL];have:=hle n;omega
 exact this 16
theorem NH (h:Gd G){d:Nat->Nat}(hd:∀k,∀x∈bM G k,d k<d x.id.toNat)(Jd:∀k,d k<=16){kind:Nat->Int}{E:Nat->Option (List bf)}(hn:∀k e,G k=some e->k<n)(hk:∀k e,G k=some e->kind k=e.n.kind)(hE:∀k,E k=nu (G k)):
  ∀(f:Nat)(x:a7)(out:List a7),17<=f+d x.id.toNat->0<=x.id->(∃e,G x.id.toNat=some e)->out.length+(wl G f x).length<=144->js n kind E f x out=(out++wl G f x,true)
 |0,x,out,hf,_,_,_=>by have:=Jd x.id.toNat;omega
 |f+1,x,out,hf,h0,⟨e,he⟩,hl=>by
  rw[js,wl];rw[wl,cY] at hl;have hxn:=hn _ e he;have hkx:=hk _ e he;rw[if_neg]
  .rcases h.wf _ e he with⟨v8,tE,_⟩|⟨y4,_,_⟩
   .rw[if_pos (by rw[hkx,v8])];rw[dV he,tE];rfl
   .rw[if_neg (by rw[hkx,y4];decide),hE,yf he y4,dV he];rw[dV he] at hl;simp only;have bV:∀y∈e.es,y∈bM G x.id.toNat:=λy hy=>by rw[dV he];exact hy
    have key:∀(l:List bf)(o:List a7),(∀y∈l,y∈bM G x.id.toNat)->o.length+(l.flatMap λe=>wl G f ⟨dU x.af e.name,e.id⟩).length<=144->
      l.foldl (λr e=>if r.2=true then js n kind E f ⟨dU x.af e.name,e.id⟩ r.1 else r) (o,true)=(o++l.flatMap λe=>wl G f ⟨dU x.af e.name,e.id⟩,true):=by
     intro l;induction l with
     |nil=>intro o _ _;simp
     |cons y l ih=>
      intro o hm cX;rw[mv,bL] at cX;rw[wH];simp only[if_true];have hy:=hm y ay;have hid:=wu h.wf hy;have hdy:=hd _ y hy;rw[NH h hd Jd hn hk hE f ⟨dU x.af y.name,y.id⟩ o (by show 17<=f+d y.id.toNat;omega) (by show 0<=y.id;omega) (h.ids _ y hy) ag];rw[ih _ (λz hz=>hm z (by simp[hz])) (by rw[bL];omega),mv,ku]
    rw[key e.es (out++[x]) bV (by rw[bL,Bt];omega)];simp
  .rw[hkx];have hkk:¬e.n.kind=0:=by rcases h.wf _ e he with⟨v8,_⟩|⟨y4,_⟩<;>omega
   simp only[mf,bQ,qi,fV,An,mg,bL,Bt];omega
theorem rK.fC {st:au}{l q:dg}(h:rK st t G l q):(Go.Pl.fC st t).length=t.many.toNat/\∀k,(Go.Pl.fC st t).getD k bB=((G k).map (·.n)).getD bB:=by
 have hl:(Go.Pl.fC st t).length=t.many.toNat:=by unfold Go.Pl.fC;rw[td,pb h.tr];simp
 refine⟨hl,λk=>?_⟩;have yx:=h.tr.mn;have nJ:=(h.at_ k).get;by_cases hk:k<t.many.toNat
 .unfold Go.Pl.fC;rw[aZ,Ar,pb h.tr,Ar,SD hk];simp only[wG,qj];rw[nJ]
 .rw[aZ,sh ag];rw[ye h.tr ag,vq] at nJ;rw[<-nJ]
theorem rK.Kj {st:au}{l q:dg}(h:rK st t G l q)(he:G k=some e):∃R,mS st (e.Q++R):=by
 have hk:=(h.lt he).2;refine⟨sb G k++cM l q,h.so.cZ ?_⟩;refine(pE _ (sU G hk)).trans ?_;have e1:gq G k=e.Q:=by unfold gq;rw[he]
 rw[e1];refine List.perm_append_comm.trans ?_;rw[ku]
theorem rK.UB {st:au}{l q:dg}(h:rK st t G l q)(he:G k=some e):fw st e.n.aX=true:=by
 refine' zbg
 .exact sT hh.tr hR
 .exact sT hh.tr hR
theorem rK.table {st:au}{l q:dg}(h:rK st t G l q):oJ st t=true:=by
 unfold oJ;rw[sT h.tr h.so,uL,gA,pb h.tr];intro s hs;obtain⟨k,hk,rfl⟩:=jK.1 hs;have nJ:=(h.at_ k).get;cases hg:G k with
 |none=>rw[(h.at_ k).none hg];rfl
 |some e=>
  rw[hg] at nJ;rw[nJ];simp only[wG];rw[h.UB hg];simp
theorem rK.file {st:au}{l q:dg}(h:rK st t G l q)(he:G k=some e)(hk:e.n.kind=1):kY st e.n=true/\(bE st e.n).length<=192:=by
 refine' zbg
 .refine⟨Uu hh.tr hR hh.ok hk hh.ft,?_⟩;have h1:=nt hh.tr hh.sz.1 hh.mn hh.ft;have h2:=hh.sz;omega
 .have:=hh.kd;rw[hk] at this;cases this
structure adx (f:Flat):Prop where
 n0:f.ad≠[]
 t0:f.ae≠[]
 nl:f.ad.length<=144
 tl:f.ae.length<=16
 nm:∀x∈f.ad,vB 146 x.af/\0<=x.id/\x.id<=15
 th:∀x∈f.ae,0<=x.id/\x.id<=15/\x.bq.length<=192
theorem Fj {st:au}{out:List a7}:∀(L:List iM)(k:Nat),(∀i,i<L.length->((L.getD i bB).kind≠0->lF out (k+i)=(L.getD i bB).bK)/\((L.getD i bB).kind=1->kY st (L.getD i bB)=true))->lG st out k L=true
 |[],k,_=>rfl
 |n::L,k,h=>by
  rw[lG,Fj L (k+1) (λi hi=>by
   have:=h (i+1) (by simp;omega);rw[Bn] at this;rw[show k+1+i=k+(i+1) by omega];exact this)]
  have:=h 0 ay;rw[KV,xq] at this;simp only[KS,qi,C1,An,mg,C0];constructor
  .by_cases hk:n.kind=0
   .left;simpa using hk
   .right;rw[this.1 hk];simp
  .by_cases hk:n.kind=1
   .right;exact this.2 hk
   .left;exact hk
theorem Iv {st:au}:∀(L:List iM)(k:Nat),(∀i,i<L.length->(L.getD i bB).kind=1->(bE st (L.getD i bB)).length<=192)->k+L.length<=16->(gR st k L).length<=L.length/\∀x∈gR st k L,0<=x.id/\x.id<=15/\x.bq.length<=192
 |[],k,_,_=>by simp[gR]
 |n::L,k,h,hl=>by
  rw[cY] at hl;obtain⟨h1,h2⟩:=Iv L (k+1) (λi hi=>by have:=h (i+1) (by simp;omega);rwa [Bn] at this) ag;have h0:=h 0 ay;rw[KV] at h0;rw[gR];refine⟨?_,λx hx=>?_⟩
  .rw[bL,cY];split
   .simp;omega
   .split<;>simp<;>omega
  .rcases eZ.1 hx with hx|hx
   .split at hx
    .have:x=⟨k,true,[]⟩:=by simpa using hx
     subst this;simp;omega
    .split at hx
     .rename_i hk;have:x=⟨k,false,bE st n⟩:=by simpa using hx
      subst this;have:=h0 hk;simp;omega
     .cases hx
   .exact h2 x hx
theorem ajk (G:Gr)(f:Nat)(x:a7):wl G f x≠[]:=by cases f<;>simp[wl]
theorem Kk {st:au}(h:FS st t):∃f,Jw st t=some f/\adx f:=by
 obtain⟨G,l,q,hF,hG⟩:=h;obtain⟨d,hd,Jd⟩:=Iu hG;obtain⟨nB,hng⟩:=hF.fC;obtain⟨r,hr,nC⟩:=hG.cI;have yx:=hF.tr.mn;have hr0:=hF.lt hr;have WV:vB 0 [47]:=⟨[],ay,ay,rfl⟩;have cX:=afy hG (f:=146) ag [47] WV;have fN:∀k e,G k=some e->(fC st t).getD k bB=e.n:=λk e he=>by rw[hng,he];rfl
 have ady:walk st (fC st t) 146 ⟨[47],0⟩ []=([]++wl G 146 ⟨[47],0⟩,true):=by
  apply NH hG hd Jd
  .intro k e he;have:=hF.lt he;omega
  .intro k e he;rw[fN k e he]
  .intro k;have:=hF.bR k;rw[hF.jr] at this;rw[hng];exact this
  .show 17<=146+_;omega
  .decide
  .exact⟨r,hr⟩
  .simpa using cX
 rw[pn] at ady;have bV:=Zd hG 146 0 ⟨[47],0⟩ bJ ⟨r,hr⟩ WV;have hgo:lG st (wl G 146 ⟨[47],0⟩) 0 (fC st t)=true:=by
  apply Fj;intro i hi;rw[mU];cases hg:G i with
  |none=>
   (have:(fC st t).getD i bB=bB:=by rw[hng,hg];rfl);rw[this];exact⟨λh=>absurd rfl h,λh=>by cases h⟩
  |some e=>
   rw[fN i e hg];refine⟨λ_=>?_,λhk=>(hF.file hg hk).1⟩;rw[<-NG hG (f:=146) ag i e hg];have:=Y9 G i 146 ⟨[47],0⟩;rw[show(⟨[47],0⟩:a7).id.toNat=0 from rfl] at this;rw[<-this];unfold lF cF;rw[List.countP_eq_length_filter]
   congr 2
   apply List.filter_congr;intro x hx;have:=(bV x hx).1.1;rw[C5];omega
 have uG:¬(fC st t=[]\/((fC st t).headD bB).kind≠2):=by
  have h0:=fN 0 r hr;rintro(hc|hc)
  .rw[hc] at nB;simp at nB;omega
  .have:(fC st t).headD bB=r.n:=by
    rw[<-h0];cases fC st t<;>rfl
   rw[this] at hc;exact hc nC
 have Cp:l5 st t=some (wl G 146 ⟨[47],0⟩):=by
  unfold l5;rw[if_neg (by rw[hF.table];simp)];simp only;rw[if_neg uG,ady];simp only;rw[if_pos hgo]
 refine⟨⟨wl G 146 ⟨[47],0⟩,gR st 0 (fC st t)⟩,by unfold Jw;rw[Cp],?_⟩;obtain⟨ht1,ht2⟩:=Iv (st:=st) (fC st t) 0 (λi hi hk=>by
  cases hg:G i with
  |none=>
   (have:(fC st t).getD i bB=bB:=by rw[hng,hg];rfl);rw[this] at hk;cases hk
  |some e=>
   rw[fN i e hg] at hk⊢;exact(hF.file hg hk).2) ag
 refine⟨ajk _ _ _,?_,cX,by show(gR st 0 (fC st t)).length<=16;omega,λx hx=>?_,ht2⟩
 .show gR st 0 (fC st t)≠[];have h0:=fN 0 r hr;cases hn:fC st t with
  |nil=>rw[hn] at nB;simp at nB;omega
  |cons n L=>
   rw[hn,KV] at h0;rw[gR,h0,if_pos nC];simp
 .obtain⟨⟨h1,e,he⟩,h2⟩:=bV x hx;have:=hG.lt he;rw[mU] at h2;exact⟨h2,h1,ag⟩
end
section
variable {l:dg}
theorem Fo:∀(f:Nat)(st:au)(l out o:dg),qw f st l out=some o->o.length<=out.length+f
 |0,_,_,_,_,h=>by cases h
 |f+1,st,[],out,o,h=>by cases h;omega
 |f+1,st,p::l,out,o,h=>by
  rw[qw] at h;split at h
  .have:=Fo f _ _ _ _ h;omega
  .have:=Fo f _ _ _ _ h;rw[bL] at this;simp only[cY,lW] at this;omega
theorem UF (h:ra st t l q):∃o,qw 200 st [t.cI] []=some o/\o.length<=200/\o.Perm (cM l q):=by
 have hp:=JQ h;obtain⟨a,h1,h2⟩:=h.lv;have hd:=fD t.many;obtain⟨c,D,h3,h4,h5⟩:=JP t.depth.toNat [t.cI] h1 (λp hp hh=>h.l0 p (by rw[h2];simp[hp]) hh);have hc:c<=125:=by
  refine' za4
 have:=h5 (200-c) [] [];rw[show c+(200-c)=(199-c)+(c+1) by omega,gg] at this;obtain⟨g,hg⟩:∃g,200-c=g+1:=⟨199-c,ag⟩;rw[hg,qw] at this;rw[show(199-c)+(c+1)=200 by omega] at this;refine⟨_,this,?_,?_⟩
 .have:=Fo _ _ _ _ _ this;simpa using this
 .unfold xI at hp;rw[this] at hp;exact hp
theorem rK.all {G:Gr}(h:rK st t G l q){k:Nat}{e:NE}(he:G k=some e):∃o,qw 200 st [((Go.Pl.jr st t k).getD bB).aX.cI] []=some o/\o.length<=1000/\∀p∈o,bC p=true:=by
 obtain⟨R,hR⟩:=h.Kj he;obtain⟨ln,qn,hq,hh⟩:=((h.at_ k).some he).2;have DR:ra st e.n.aX ln qn:=by
  rcases hh with⟨_,hh⟩|hh
  .exact hh.tr
  .exact hh.tr
 obtain⟨o,h1,h2,h3⟩:=UF DR;refine⟨o,?_,ag,λp hp=>?_⟩
 .rw[h.jr k,he];exact h1
 .have hm:p∈e.Q++R:=cT _ (by rw[hq];exact h3.mem_iff.1 hp);have:=(hR.lv p hm).1;unfold fits at this;simp only[bO] at this;exact this.1.1.1
end
end Go.Pg
namespace Go.Ev
open Go
variable {P:Program}{f:FuncId}
theorem LR.ground {A:Nat->Prop}{ρ:iD}{l l':a6}(h:LR A ρ l l')(hg:∀x∈l,∀ρ,cw ρ x=x):l'=l:=by rw[<-h.self];exact(CW λx hx=>hg x hx ρ).trans (List.map_id _)
theorem y9 {h:yR}(H:∀args s v s',h args s=some (v,s')->s'=s/\(∀ρ,cw ρ v=v)/\(∀x∈args,∀ρ,cw ρ x=x)/\∀w,lT P f ⟨args⟩ w λv' w'=>v'=v/\Fr w w' λ_=>False):oa P f h:=by
 intro args s v s' hh;obtain⟨rfl,hv,ha,hc⟩:=H args s v s' hh;refine⟨aG.refl _,λY A ρ w gD hp gP hl=>?_⟩;have:=hl.ground ha;subst this;refine(hc w).mono λv' w' ⟨h1,hf⟩=>?_
 subst h1;exact⟨ρ,VR.ground hv,Good.aee hp.st hp.eg rfl rfl hf⟩
theorem run_pure {call:eX}(hC:dP P call){args:a6}{n:Nat}{v:Value}{s1:St}(hn:16<=n)(hc:call f args ⟨.nil,n,0,0⟩=some (v,s1))(hv:∀ρ,cw ρ v=v)(ha:∀x∈args,∀ρ,cw ρ x=x)(w:World):lT P f ⟨args⟩ w λv' w'=>v'=v/\Fr w w' λ_=>False:=by
 obtain⟨hg,hk⟩:=hC _ _ _ _ _ hc;have yw:∀b,(⟨.nil,n,0,0⟩:St).heap.get b=none:=λb=>rfl
 have:=hk (λb=>In s1.cU b) (λi=>i<n) (λi=>(i,0)) w args ⟨λi hi=>hi,λb _=>yw b,λb hb=>hb,⟨λb o _ h=>(by have h1:=(yw b).symm.trans h;cases h1),λb b' o o' _ _ h=>(by have h1:=(yw b).symm.trans h;cases h1)⟩⟩ (λg hg=>⟨xn hg hn,rfl⟩) (λeK _=>(CW λx hx=>ha x hx eK).trans (List.map_id _));refine this.mono λv' w' ⟨eK,h1,hG⟩=>⟨?_,hG.fU.os,hG.fU.tape,hG.fU.output,hG.fU.size,λr hr _=>hG.fU.block r hr ?_⟩
 .rw[<-h1.self];exact hv _
 .rintro⟨b,o,_,_,h,_⟩;rw[yw] at h;cases h
end Go.Ev
namespace Go.Proofs
open Go Go.Ev
abbrev aB {α:Type}(x:α)(l r:T α):T α:=.node (some x) l r
abbrev aA {α:Type}:T α:=.nil
open Tryz
noncomputable def fnT:T Func:=(T.node none (T.node none (aB f3 (aB f7 (aB f15 (aB f31 (aB f63 (aB f127 (aB f255 aA aA) aA) (aB f191 aA aA)) (aB f95 (aB f159 (aB f287 aA aA) aA) (aB f223 aA aA))) (aB f47 (aB f79 (aB f143 (aB f271 aA aA) aA) (aB f207 aA aA)) (aB f111 (aB f175 aA aA) (aB f239 aA aA)))) (aB f23 (aB f39 (aB f71 (aB f135 (aB f263 aA aA) aA) (aB f199 aA aA)) (aB f103 (aB f167 aA aA) (aB f231 aA aA))) (aB f55 (aB f87 (aB f151 (aB f279 aA aA) aA) (aB f215 aA aA)) (aB f119 (aB f183 aA aA) (aB f247 aA aA))))) (aB f11 (aB f19 (aB f35 (aB f67 (aB f131 (aB f259 aA aA) aA) (aB f195 aA aA)) (aB f99 (aB f163 aA aA) (aB f227 aA aA))) (aB f51 (aB f83 (aB f147 (aB f275 aA aA) aA) (aB f211 aA aA)) (aB f115 (aB f179 aA aA) (aB f243 aA aA)))) (aB f27 (aB f43 (aB f75 (aB f139 (aB f267 aA aA) aA) (aB f203 aA aA)) (aB f107 (aB f171 aA aA) (aB f235 aA aA))) (aB f59 (aB f91 (aB f155 (aB f283 aA aA) aA) (aB f219 aA aA)) (aB f123 (aB f187 aA aA) (aB f251 aA aA)))))) (aB f5 (aB f9 (aB f17 (aB f33 (aB f65 (aB f129 (aB f257 aA aA) aA) (aB f193 aA aA)) (aB f97 (aB f161 (aB f289 aA aA) aA) (aB f225 aA aA))) (aB f49 (aB f81 (aB f145 (aB f273 aA aA) aA) (aB f209 aA aA)) (aB f113 (aB f177 aA aA) (aB f241 aA aA)))) (aB f25 (aB f41 (aB f73 (aB f137 (aB f265 aA aA) aA) (aB f201 aA aA)) (aB f105 (aB f169 aA aA) (aB f233 aA aA))) (aB f57 (aB f89 (aB f153 (aB f281 aA aA) aA) (aB f217 aA aA)) (aB f121 (aB f185 aA aA) (aB f249 aA aA))))) (aB f13 (aB f21 (aB f37 (aB f69 (aB f133 (aB f261 aA aA) aA) (aB f197 aA aA)) (aB f101 (aB f165 aA aA) (aB f229 aA aA))) (aB f53 (aB f85 (aB f149 (aB f277 aA aA) aA) (aB f213 aA aA)) (aB f117 (aB f181 aA aA) (aB f245 aA aA)))) (aB f29 (aB f45 (aB f77 (aB f141 (aB f269 aA aA) aA) (aB f205 aA aA)) (aB f109 (aB f173 aA aA) (aB f237 aA aA))) (aB f61 (aB f93 (aB f157 (aB f285 aA aA) aA) (aB f221 aA aA)) (aB f125 (aB f189 aA aA) (aB f253 aA aA))))))) (T.node none (aB f4 (aB f8 (aB f16 (aB f32 (aB f64 (aB f128 (aB f256 aA aA) aA) (aB f192 aA aA)) (aB f96 (aB f160 (aB f288 aA aA) aA) (aB f224 aA aA))) (aB f48 (aB f80 (aB f144 (aB f272 aA aA) aA) (aB f208 aA aA)) (aB f112 (aB f176 aA aA) (aB f240 aA aA)))) (aB f24 (aB f40 (aB f72 (aB f136 (aB f264 aA aA) aA) (aB f200 aA aA)) (aB f104 (aB f168 aA aA) (aB f232 aA aA))) (aB f56 (aB f88 (aB f152 (aB f280 aA aA) aA) (aB f216 aA aA)) (aB f120 (aB f184 aA aA) (aB f248 aA aA))))) (aB f12 (aB f20 (aB f36 (aB f68 (aB f132 (aB f260 aA aA) aA) (aB f196 aA aA)) (aB f100 (aB f164 aA aA) (aB f228 aA aA))) (aB f52 (aB f84 (aB f148 (aB f276 aA aA) aA) (aB f212 aA aA)) (aB f116 (aB f180 aA aA) (aB f244 aA aA)))) (aB f28 (aB f44 (aB f76 (aB f140 (aB f268 aA aA) aA) (aB f204 aA aA)) (aB f108 (aB f172 aA aA) (aB f236 aA aA))) (aB f60 (aB f92 (aB f156 (aB f284 aA aA) aA) (aB f220 aA aA)) (aB f124 (aB f188 aA aA) (aB f252 aA aA)))))) (aB f6 (aB f10 (aB f18 (aB f34 (aB f66 (aB f130 (aB f258 aA aA) aA) (aB f194 aA aA)) (aB f98 (aB f162 (aB f290 aA aA) aA) (aB f226 aA aA))) (aB f50 (aB f82 (aB f146 (aB f274 aA aA) aA) (aB f210 aA aA)) (aB f114 (aB f178 aA aA) (aB f242 aA aA)))) (aB f26 (aB f42 (aB f74 (aB f138 (aB f266 aA aA) aA) (aB f202 aA aA)) (aB f106 (aB f170 aA aA) (aB f234 aA aA))) (aB f58 (aB f90 (aB f154 (aB f282 aA aA) aA) (aB f218 aA aA)) (aB f122 (aB f186 aA aA) (aB f250 aA aA))))) (aB f14 (aB f22 (aB f38 (aB f70 (aB f134 (aB f262 aA aA) aA) (aB f198 aA aA)) (aB f102 (aB f166 aA aA) (aB f230 aA aA))) (aB f54 (aB f86 (aB f150 (aB f278 aA aA) aA) (aB f214 aA aA)) (aB f118 (aB f182 aA aA) (aB f246 aA aA)))) (aB f30 (aB f46 (aB f78 (aB f142 (aB f270 aA aA) aA) (aB f206 aA aA)) (aB f110 (aB f174 aA aA) (aB f238 aA aA))) (aB f62 (aB f94 (aB f158 (aB f286 aA aA) aA) (aB f222 aA aA)) (aB f126 (aB f190 aA aA) (aB f254 aA aA))))))))
noncomputable def tyT:T TypeInfo:=(aB t0 (aB t1 (aB t3 (aB t7 (aB t15 (aB t31 (aB t63 (aB t127 (aB t255 aA aA) aA) (aB t191 aA aA)) (aB t95 (aB t159 (aB t287 aA aA) aA) (aB t223 aA aA))) (aB t47 (aB t79 (aB t143 (aB t271 aA aA) aA) (aB t207 aA aA)) (aB t111 (aB t175 (aB t303 aA aA) aA) (aB t239 aA aA)))) (aB t23 (aB t39 (aB t71 (aB t135 (aB t263 aA aA) aA) (aB t199 aA aA)) (aB t103 (aB t167 (aB t295 aA aA) aA) (aB t231 aA aA))) (aB t55 (aB t87 (aB t151 (aB t279 aA aA) aA) (aB t215 aA aA)) (aB t119 (aB t183 aA aA) (aB t247 aA aA))))) (aB t11 (aB t19 (aB t35 (aB t67 (aB t131 (aB t259 aA aA) aA) (aB t195 aA aA)) (aB t99 (aB t163 (aB t291 aA aA) aA) (aB t227 aA aA))) (aB t51 (aB t83 (aB t147 (aB t275 aA aA) aA) (aB t211 aA aA)) (aB t115 (aB t179 aA aA) (aB t243 aA aA)))) (aB t27 (aB t43 (aB t75 (aB t139 (aB t267 aA aA) aA) (aB t203 aA aA)) (aB t107 (aB t171 (aB t299 aA aA) aA) (aB t235 aA aA))) (aB t59 (aB t91 (aB t155 (aB t283 aA aA) aA) (aB t219 aA aA)) (aB t123 (aB t187 aA aA) (aB t251 aA aA)))))) (aB t5 (aB t9 (aB t17 (aB t33 (aB t65 (aB t129 (aB t257 aA aA) aA) (aB t193 aA aA)) (aB t97 (aB t161 (aB t289 aA aA) aA) (aB t225 aA aA))) (aB t49 (aB t81 (aB t145 (aB t273 aA aA) aA) (aB t209 aA aA)) (aB t113 (aB t177 aA aA) (aB t241 aA aA)))) (aB t25 (aB t41 (aB t73 (aB t137 (aB t265 aA aA) aA) (aB t201 aA aA)) (aB t105 (aB t169 (aB t297 aA aA) aA) (aB t233 aA aA))) (aB t57 (aB t89 (aB t153 (aB t281 aA aA) aA) (aB t217 aA aA)) (aB t121 (aB t185 aA aA) (aB t249 aA aA))))) (aB t13 (aB t21 (aB t37 (aB t69 (aB t133 (aB t261 aA aA) aA) (aB t197 aA aA)) (aB t101 (aB t165 (aB t293 aA aA) aA) (aB t229 aA aA))) (aB t53 (aB t85 (aB t149 (aB t277 aA aA) aA) (aB t213 aA aA)) (aB t117 (aB t181 aA aA) (aB t245 aA aA)))) (aB t29 (aB t45 (aB t77 (aB t141 (aB t269 aA aA) aA) (aB t205 aA aA)) (aB t109 (aB t173 (aB t301 aA aA) aA) (aB t237 aA aA))) (aB t61 (aB t93 (aB t157 (aB t285 aA aA) aA) (aB t221 aA aA)) (aB t125 (aB t189 aA aA) (aB t253 aA aA))))))) (aB t2 (aB t4 (aB t8 (aB t16 (aB t32 (aB t64 (aB t128 (aB t256 aA aA) aA) (aB t192 aA aA)) (aB t96 (aB t160 (aB t288 aA aA) aA) (aB t224 aA aA))) (aB t48 (aB t80 (aB t144 (aB t272 aA aA) aA) (aB t208 aA aA)) (aB t112 (aB t176 aA aA) (aB t240 aA aA)))) (aB t24 (aB t40 (aB t72 (aB t136 (aB t264 aA aA) aA) (aB t200 aA aA)) (aB t104 (aB t168 (aB t296 aA aA) aA) (aB t232 aA aA))) (aB t56 (aB t88 (aB t152 (aB t280 aA aA) aA) (aB t216 aA aA)) (aB t120 (aB t184 aA aA) (aB t248 aA aA))))) (aB t12 (aB t20 (aB t36 (aB t68 (aB t132 (aB t260 aA aA) aA) (aB t196 aA aA)) (aB t100 (aB t164 (aB t292 aA aA) aA) (aB t228 aA aA))) (aB t52 (aB t84 (aB t148 (aB t276 aA aA) aA) (aB t212 aA aA)) (aB t116 (aB t180 aA aA) (aB t244 aA aA)))) (aB t28 (aB t44 (aB t76 (aB t140 (aB t268 aA aA) aA) (aB t204 aA aA)) (aB t108 (aB t172 (aB t300 aA aA) aA) (aB t236 aA aA))) (aB t60 (aB t92 (aB t156 (aB t284 aA aA) aA) (aB t220 aA aA)) (aB t124 (aB t188 aA aA) (aB t252 aA aA)))))) (aB t6 (aB t10 (aB t18 (aB t34 (aB t66 (aB t130 (aB t258 aA aA) aA) (aB t194 aA aA)) (aB t98 (aB t162 (aB t290 aA aA) aA) (aB t226 aA aA))) (aB t50 (aB t82 (aB t146 (aB t274 aA aA) aA) (aB t210 aA aA)) (aB t114 (aB t178 aA aA) (aB t242 aA aA)))) (aB t26 (aB t42 (aB t74 (aB t138 (aB t266 aA aA) aA) (aB t202 aA aA)) (aB t106 (aB t170 (aB t298 aA aA) aA) (aB t234 aA aA))) (aB t58 (aB t90 (aB t154 (aB t282 aA aA) aA) (aB t218 aA aA)) (aB t122 (aB t186 aA aA) (aB t250 aA aA))))) (aB t14 (aB t22 (aB t38 (aB t70 (aB t134 (aB t262 aA aA) aA) (aB t198 aA aA)) (aB t102 (aB t166 (aB t294 aA aA) aA) (aB t230 aA aA))) (aB t54 (aB t86 (aB t150 (aB t278 aA aA) aA) (aB t214 aA aA)) (aB t118 (aB t182 aA aA) (aB t246 aA aA)))) (aB t30 (aB t46 (aB t78 (aB t142 (aB t270 aA aA) aA) (aB t206 aA aA)) (aB t110 (aB t174 (aB t302 aA aA) aA) (aB t238 aA aA))) (aB t62 (aB t94 (aB t158 (aB t286 aA aA) aA) (aB t222 aA aA)) (aB t126 (aB t190 aA aA) (aB t254 aA aA))))))))
noncomputable def bh:ig:=⟨fnT,tyT,169,[(39,[1,0]),(61,[0,2,1]),(83,[0,0,0,0,0])],[(94,"loop.example/poolfiles/impl.lead",21),(94,"loop.example/poolfiles/impl.folder",287),(94,"loop.example/poolfiles/impl.entries",286),(94,"loop.example/poolfiles/impl.links",90),(94,"loop.example/poolfiles/impl.size",290),(94,"loop.example/poolfiles/impl.room",86)]⟩
noncomputable def bw:fR:=⟨214,259,215,99999,5,[(135,Wx 136),(137,Wy 138),(81,DG),(87,Jx),(85,vd),(188,DH),(147,Wz 9)]⟩
end Go.Proofs
namespace Go.Proofs
open Go Go.Ev Go.Pl
noncomputable def ahd:fR:=⟨214,259,215,99999,5,[(188,DH)]⟩
def st0:St:=⟨.nil,16,0,0⟩
noncomputable def WA (f:Nat)(args:a6)(v:Value):Bool:=match pH bh ahd 100000 [] 200 f args st0 with
 |some (u,_)=>FR u v
 |none=>false
def S (z:List UInt8):Value:=.string ⟨⟨z⟩⟩
theorem ahe:dN.all (λz=>WA 85 [S z] (S (dn z)))=true:=by kernel_rfl
end Go.Proofs
namespace Go.Proofs
open Go Go.Ev Go.Lg
instance:jc bh 3 1:=⟨by kernel_rfl⟩
instance:nP bh 3:=na cV
instance:sI bh 3 [.int .i64 0]:=lb cV
instance:xM bh 3 .i64:=⟨by kernel_rfl⟩
instance:jc bh 4 1:=⟨by kernel_rfl⟩
instance:nP bh 4:=na cV
instance:WE bh 4:=⟨by kernel_rfl⟩
instance:nP bh 5:=na cV
instance:xM bh 5 .u8:=⟨by kernel_rfl⟩
instance:jc bh 9 1:=⟨by kernel_rfl⟩
instance:nP bh 9:=na cV
instance:zc bh 9:=⟨by kernel_rfl⟩
instance:nP bh 22:=na cV
instance WZ:uz bh 22 5 1 [.int .u8 0]:=tP cV
instance:pI bh 22 5 1:=oL WZ
instance:jc bh 23 1:=⟨by kernel_rfl⟩
instance:nP bh 23:=na cV
instance W0:uz bh 23 39 2 [.string ⟨⟨[]⟩⟩,.int .i64 0]:=tP cV
instance:pI bh 23 39 2:=oL W0
instance:jc bh 24 1:=⟨by kernel_rfl⟩
instance:nP bh 24:=na cV
instance W1:uz bh 24 61 3 [.int .i64 0,.bool false,.string ⟨⟨[]⟩⟩]:=tP cV
instance:pI bh 24 61 3:=oL W1
instance:jc bh 26 2:=⟨by kernel_rfl⟩
instance:wK bh 26 2:=rT cV
instance:sI bh 26 [.slice none 0 0,.slice none 0 0]:=lb cV
instance:mo bh 26 [(0,1),(1,1)] [.slice none 0 0,.slice none 0 0]:=j7 cV
instance:iT bh 26 0 0:=dO cV
instance:iT bh 26 1 1:=dO cV
instance:jc bh 28 5:=⟨by kernel_rfl⟩
instance:wK bh 28 5:=rT cV
instance:sI bh 28 [.int .i64 0,.string ⟨⟨[]⟩⟩,.string ⟨⟨[]⟩⟩,.int .i64 0,.string ⟨⟨[]⟩⟩]:=lb cV
instance:mo bh 28 [(0,1),(1,1),(2,1),(3,1),(4,1)] [.int .i64 0,.string ⟨⟨[]⟩⟩,.string ⟨⟨[]⟩⟩,.int .i64 0,.string ⟨⟨[]⟩⟩]:=j7 cV
instance:iT bh 28 0 0:=dO cV
instance:iT bh 28 1 1:=dO cV
instance:iT bh 28 2 2:=dO cV
instance:iT bh 28 3 3:=dO cV
instance:iT bh 28 4 4:=dO cV
instance:jc bh 39 2:=⟨by kernel_rfl⟩
instance:wK bh 39 2:=rT cV
instance:sI bh 39 [.string ⟨⟨[]⟩⟩,.int .i64 0]:=lb cV
instance:mo bh 39 [(0,1),(1,1)] [.string ⟨⟨[]⟩⟩,.int .i64 0]:=j7 cV
instance:iT bh 39 0 0:=dO cV
instance:iT bh 39 1 1:=dO cV
instance acK:uz bh 43 28 5 [.int .i64 0,.string ⟨⟨[]⟩⟩,.string ⟨⟨[]⟩⟩,.int .i64 0,.string ⟨⟨[]⟩⟩]:=tP cV
instance:pI bh 43 28 5:=oL acK
instance:nP bh 46:=na cV
instance W3:uz bh 46 3 1 [.int .i64 0]:=tP cV
instance:pI bh 46 3 1:=oL W3
instance:jc bh 61 3:=⟨by kernel_rfl⟩
instance:wK bh 61 3:=rT cV
instance:sI bh 61 [.int .i64 0,.bool false,.string ⟨⟨[]⟩⟩]:=lb cV
instance:mo bh 61 [(0,1),(1,1),(2,1)] [.int .i64 0,.bool false,.string ⟨⟨[]⟩⟩]:=j7 cV
instance:iT bh 61 0 0:=dO cV
instance:iT bh 61 1 1:=dO cV
instance:iT bh 61 2 2:=dO cV
instance:jc bh 70 1:=⟨by kernel_rfl⟩
instance:nP bh 70:=na cV
instance W4:uz bh 70 9 1 [.string ⟨⟨[]⟩⟩]:=tP cV
instance:pI bh 70 9 1:=oL W4
instance:mo bh 76 [(0,1),(1,1)] [.slice none 0 0,.int .i64 0]:=j7 cV
instance:iT bh 76 0 0:=dO cV
instance:iT bh 76 1 1:=dO cV
instance:jc bh 78 2:=⟨by kernel_rfl⟩
instance:wK bh 78 2:=rT cV
instance:sI bh 78 [.slice none 0 0,.slice none 0 0]:=lb cV
instance:mo bh 78 [(0,1),(1,1)] [.slice none 0 0,.slice none 0 0]:=j7 cV
instance:iT bh 78 0 0:=dO cV
instance:iT bh 78 1 1:=dO cV
instance:jc bh 79 1:=⟨by kernel_rfl⟩
instance:nP bh 79:=na cV
instance W5:uz bh 79 83 5 [.int .i64 0,.int .i64 0,.int .i64 0,.int .i64 0,.int .i64 0]:=tP cV
instance:pI bh 79 83 5:=oL W5
instance:jc bh 81 8:=⟨by kernel_rfl⟩
instance:wK bh 81 8:=rT cV
instance:sI bh 81 [.slice none 0 0,.slice none 0 0,.slice none 0 0,.int .i64 0,.slice none 0 0,.int .i64 0,.slice none 0 0,.bool false]:=lb cV
instance:mo bh 81 [(0,1),(1,2),(3,1),(4,1),(5,1),(6,1),(7,1)] [.slice none 0 0,.slice none 0 0,.slice none 0 0,.int .i64 0,.slice none 0 0,.int .i64 0,.slice none 0 0,.bool false]:=j7 cV
instance:iT bh 81 0 0:=dO cV
instance:iT bh 81 1 1:=dO cV
instance:iT bh 81 2 3:=dO cV
instance:iT bh 81 3 4:=dO cV
instance:iT bh 81 4 5:=dO cV
instance:iT bh 81 5 6:=dO cV
instance:iT bh 81 6 7:=dO cV
instance:jc bh 83 5:=⟨by kernel_rfl⟩
instance:wK bh 83 5:=rT cV
instance:sI bh 83 [.int .i64 0,.int .i64 0,.int .i64 0,.int .i64 0,.int .i64 0]:=lb cV
instance:mo bh 83 [(0,1),(1,1),(2,1),(3,1),(4,1)] [.int .i64 0,.int .i64 0,.int .i64 0,.int .i64 0,.int .i64 0]:=j7 cV
instance:iT bh 83 0 0:=dO cV
instance:iT bh 83 1 1:=dO cV
instance:iT bh 83 2 2:=dO cV
instance:iT bh 83 3 3:=dO cV
instance:iT bh 83 4 4:=dO cV
instance:jc bh 85 7:=⟨by kernel_rfl⟩
instance:wK bh 85 7:=rT cV
instance:sI bh 85 [.int .i64 0,.int .i64 0,.int .i64 0,.int .i64 0,.int .i64 0,.int .i64 0,.int .i64 0]:=lb cV
instance:mo bh 85 [(0,5),(5,1),(6,1)] [.int .i64 0,.int .i64 0,.int .i64 0,.int .i64 0,.int .i64 0,.int .i64 0,.int .i64 0]:=j7 cV
instance:iT bh 85 0 0:=dO cV
instance:iT bh 85 1 5:=dO cV
instance:iT bh 85 2 6:=dO cV
instance W6:uz bh 127 130 10 [.int .i64 0,.int .i64 0,.int .i64 0,.int .i64 0,.int .i64 0,.int .i64 0,.int .i64 0,.int .i64 0,.int .i64 0,.int .i64 0]:=tP cV
instance:pI bh 127 130 10:=oL W6
instance:jc bh 130 10:=⟨by kernel_rfl⟩
instance:wK bh 130 10:=rT cV
instance:sI bh 130 [.int .i64 0,.int .i64 0,.int .i64 0,.int .i64 0,.int .i64 0,.int .i64 0,.int .i64 0,.int .i64 0,.int .i64 0,.int .i64 0]:=lb cV
instance:mo bh 130 [(0,1),(1,1),(2,1),(3,7)] [.int .i64 0,.int .i64 0,.int .i64 0,.int .i64 0,.int .i64 0,.int .i64 0,.int .i64 0,.int .i64 0,.int .i64 0,.int .i64 0]:=j7 cV
instance:iT bh 130 0 0:=dO cV
instance:iT bh 130 1 1:=dO cV
instance:iT bh 130 2 2:=dO cV
instance:iT bh 130 3 3:=dO cV
instance:xM bh 132 .u64:=⟨by kernel_rfl⟩
instance:nP bh 134:=na cV
instance:mo bh 156 [(0,8),(8,7),(15,1)] [.slice none 0 0,.slice none 0 0,.slice none 0 0,.int .i64 0,.slice none 0 0,.int .i64 0,.slice none 0 0,.bool false,.int .i64 0,.int .i64 0,.int .i64 0,.int .i64 0,.int .i64 0,.int .i64 0,.int .i64 0,.bool false]:=j7 cV
instance:iT bh 156 0 0:=dO cV
instance:iT bh 156 1 8:=dO cV
instance:iT bh 156 2 15:=dO cV
instance W7:uz bh 194 200 2 [.string ⟨⟨[]⟩⟩,.int .i64 0]:=tP cV
instance:pI bh 194 200 2:=oL W7
instance:jc bh 200 2:=⟨by kernel_rfl⟩
instance:wK bh 200 2:=rT cV
instance:sI bh 200 [.string ⟨⟨[]⟩⟩,.int .i64 0]:=lb cV
instance:mo bh 200 [(0,1),(1,1)] [.string ⟨⟨[]⟩⟩,.int .i64 0]:=j7 cV
instance:iT bh 200 0 0:=dO cV
instance:iT bh 200 1 1:=dO cV
instance:Ro bh 63 (iv 0):=⟨3,3,.i64,by kernel_rfl,by kernel_rfl,by kernel_rfl⟩
instance:Hn bh 64 (iv 0):=⟨9,3,by kernel_rfl,by kernel_rfl,by kernel_rfl⟩
instance:Hn bh 65 (.bool false):=⟨9,4,by kernel_rfl,by kernel_rfl,by kernel_rfl⟩
instance:aer bh 66:=⟨61,by kernel_rfl⟩
instance:Rp bh 94:=⟨.pointer 26,by kernel_rfl,rfl⟩
instance:TEq bh 39 [1,0]:=⟨bJ⟩
instance:TEq bh 61 [0,2,1]:=⟨bJ⟩
instance:TEq bh 83 [0,0,0,0,0]:=⟨bJ⟩
end Go.Proofs
namespace Go.Pl
open Go Go.Ev Go.Lg Go.Proofs
def rV (p:jF):a6:=[iv p.row,iv p.dt,iv p.size,iv p.sum,iv p.level]
def im (t:cB):a6:=[iv t.cI.row,iv t.cI.dt,iv t.cI.size,iv t.cI.sum,iv t.cI.level,iv t.depth,iv t.many]
def xR (n:iM):a6:=[iv n.kind,iv n.bK,iv n.size,iv n.aX.cI.row,iv n.aX.cI.dt,iv n.aX.cI.size,iv n.aX.cI.sum,iv n.aX.cI.level,iv n.aX.depth,iv n.aX.many]
def DS (e:bf):a6:=[sv e.name,iv e.id]
def W8 (e:a7):a6:=[sv e.af,iv e.id]
def JC (e:bP):a6:=[iv e.id,.bool e.aJ,sv e.bq]
def nc (o:Op):a6:=[iv o.kind,sv o.af,sv o.to,iv o.at_,sv o.bq]
def pv (p:jF):Value:=.agg ⟨rV p⟩
def tv (t:cB):Value:=.agg ⟨im t⟩
def nv (n:iM):Value:=.agg ⟨xR n⟩
def ov (o:Op):Value:=.agg ⟨nc o⟩
instance:ak az 1:=⟨λs=>[sv s],[],λ_=>rfl,λs v h=>by simp at h;subst h;rfl,ag⟩
instance:ak Int 1:=⟨λs=>[iv s],0,λ_=>rfl,λs v h=>by simp at h;subst h;rfl,ag⟩
instance:ak UInt8 1:=⟨λs=>[bv s],0,λ_=>rfl,λs v h=>by simp at h;subst h;rfl,ag⟩
instance:ak jF 5:=⟨rV,bA,λ_=>rfl,λs v h=>by simp[rV] at h;rcases h with rfl|rfl|rfl|rfl|rfl<;>rfl,ag⟩
instance:ak bf 2:=⟨DS,⟨[],0⟩,λ_=>rfl,λs v h=>by simp[DS] at h;rcases h with rfl|rfl<;>rfl,ag⟩
instance:ak a7 2:=⟨W8,⟨[],0⟩,λ_=>rfl,λs v h=>by simp[W8] at h;rcases h with rfl|rfl<;>rfl,ag⟩
instance:ak bP 3:=⟨JC,⟨0,false,[]⟩,λ_=>rfl,λs v h=>by simp[JC] at h;rcases h with rfl|rfl|rfl<;>rfl,ag⟩
instance:ak iM 10:=⟨xR,bB,λ_=>rfl,λs v h=>by simp[xR] at h;rcases h with rfl|rfl|rfl|rfl|rfl|rfl|rfl|rfl|rfl|rfl<;>rfl,ag⟩
instance:ak Op 5:=⟨nc,⟨0,[],[],0,[]⟩,λ_=>rfl,λs v h=>by simp[nc] at h;rcases h with rfl|rfl|rfl|rfl|rfl<;>rfl,ag⟩
instance:TT bh 70 9 1 az inferInstance:=⟨_,W4,[],rfl⟩
instance:TT bh 46 3 1 Int inferInstance:=⟨_,W3,(0:Int),rfl⟩
instance:TT bh 22 5 1 UInt8 inferInstance:=⟨_,WZ,(0:UInt8),rfl⟩
instance:TT bh 79 83 5 jF inferInstance:=⟨_,W5,bA,rfl⟩
instance:TT bh 23 39 2 a7 inferInstance:=⟨_,W0,(⟨[],0⟩:a7),rfl⟩
instance:TT bh 24 61 3 bP inferInstance:=⟨_,W1,(⟨0,false,[]⟩:bP),rfl⟩
instance:TT bh 43 28 5 Op inferInstance:=⟨_,acK,(⟨0,[],[],0,[]⟩:Op),rfl⟩
instance:TT bh 127 130 10 iM inferInstance:=⟨_,W6,bB,rfl⟩
instance:TT bh 194 200 2 bf inferInstance:=⟨_,W7,(⟨[],0⟩:bf),rfl⟩
instance:TD bh 70 1 az inferInstance []:=⟨_,_,W4,rfl⟩
instance:TD bh 46 1 Int inferInstance 0:=⟨_,_,W3,rfl⟩
instance:TD bh 22 1 UInt8 inferInstance 0:=⟨_,_,WZ,rfl⟩
instance:TD bh 79 5 jF inferInstance bA:=⟨_,_,W5,rfl⟩
instance:TD bh 23 2 a7 inferInstance ⟨[],0⟩:=⟨_,_,W0,rfl⟩
instance:TD bh 24 3 bP inferInstance ⟨0,false,[]⟩:=⟨_,_,W1,rfl⟩
@[simp] theorem aki:(ak.ah (α:=az) (sz:=1))=[]:=rfl
@[simp] theorem akj:(ak.ah (α:=Int) (sz:=1))=0:=rfl
@[simp] theorem als:(ak.ah (α:=UInt8) (sz:=1))=0:=rfl
@[simp] theorem akk:(ak.ah (α:=jF) (sz:=5))=bA:=rfl
@[simp] theorem agp:(ak.ah (α:=bf) (sz:=2))=⟨[],0⟩:=rfl
@[simp] theorem agq:(ak.ah (α:=a7) (sz:=2))=⟨[],0⟩:=rfl
@[simp] theorem agr:(ak.ah (α:=bP) (sz:=3))=⟨0,false,[]⟩:=rfl
@[simp] theorem ahE:(ak.ah (α:=iM) (sz:=10))=bB:=rfl
@[simp] theorem alu:(ak.ah (α:=Op) (sz:=5))=⟨0,[],[],0,[]⟩:=rfl
abbrev bF:=@nQ bh bw
abbrev BH:=@fM bh bw
variable {P:Prop}
structure Hid (P:Prop):Prop where
 out:P
theorem W.ahF {E:ig}{X:fR}{Γ:qV}{l:Kn}{L:List It}{Q:DJ}{id:Nat}{aE:List Oper}(h:∀nx,(∀y∈L,∀i∈y.a8,i<nx)->Γ.s0.next<=nx->Hid (L.flatMap It.a8).Nodup->WD E X Γ aE aE 0 [] nx l L (Q .normal)):W E X Γ (.region id ⟨aE⟩ true) l L Q:=λtm s h1 h2=>W.draw (λnx a b=>h nx a b ⟨h2.nd⟩) tm s h1 h2
theorem LO {A:List Nat}{n n' mask:Nat}{seen:List Sn}{P:Prop}{k:Nat}{R':Fp}(h:k9 n mask (λi=>i∈A\/i∈([]:List It).flatMap It.a8\/(n<=i/\i<n')) (λi=>i∈([]:List It).flatMap It.a8\/(n<=i/\i<n')) seen/\P):
  k9 n mask (λi=>i∈A\/i∈([]:List It).flatMap It.a8\/(n<=i/\i<n')) (λi=>i∈([]:List It).flatMap It.a8\/(n<=i/\i<n')) (⟨k,R',Z⟩::seen)/\P:=
 ⟨⟨.inr ⟨λ_ _ h=>h.elim,λb hb _ hw=>by simp at hw;omega⟩,h.1⟩,h.2⟩
theorem rB (h:P:=by first|(exfalso;omega;done)|contradiction|(exfalso;simp_all;done)|fail):P:=h
theorem Ov (h:P:=by first|(exfalso;omega;done)|contradiction|(exfalso;simp_all;done)|(exfalso;simp_all;omega)|fail):P:=h
theorem pJ (h:P:=by first|(exfalso;omega;done)|fail):P:=h
theorem cj (h:P:=by first|(exfalso;omega;done)|contradiction|fail):P:=h
theorem gT (h:P:=by(first|((first|exact Ev.tmp rfl|exact Ev.const|exact Ev.func);done)|fail)):P:=h
theorem aC (h:P:=by(first|((repeat(first|exact kA.nil|(apply kA.cons;constructor<;>exact rfl)));done)|fail)):P:=h
theorem zf (h:P:=by(first|((repeat(first|exact EvE.nil|(apply EvE.cons;constructor<;>exact rfl;exact rfl)));done)|fail)):P:=h
theorem oh (h:P:=by(first|((repeat(first|exact gh|apply jA));done)|fail)):P:=h
theorem aaQ (h:P:=by(first|((repeat(first|exact O8.here|apply O8.there));done)|fail)):P:=h
theorem xS (h:P:=by(first|((repeat(first|exact zd.here|apply zd.there));done)|fail)):P:=h
theorem bj (h:P:=by(first|((repeat(first|exact Le.nil _|refine Le.cons (by exact rfl) ?_));done)|fail)):P:=h
theorem ar (h:P:=by(first|((repeat(first|exact cC.nil _|refine cC.cons (by(repeat(first|exact O8.here|apply O8.there))) ?_));done)|fail)):P:=h
theorem cb (h:P:=by(first|((first|exact jB.rd aL|exact jB.aQ (by(repeat(first|exact gh|apply jA)))|exact jB.aln aL (by(repeat(first|exact gh|apply jA)))|exact jB.box (by(repeat(first|exact gh|apply jA))) rfl (by first|rfl|(rw[bp];done)|simp));done)|fail)):P:=h
theorem eF (h:P:=by(first|((exact rC.mk cb cb cb);done)|fail)):P:=h
theorem eC (h:P:=by(first|((repeat(first|exact oZ.nil|(apply oZ.cons;exact aaQ)));done)|fail)):P:=h
theorem mH (h:P:=by(first|((first|omega|(simp only[bL,cY,lW];omega)|(simp;done)|(simp;omega)|(simp at *;omega));done)|fail)):P:=h
theorem bu (h:P:=by(first|((repeat(first|exact qD.nil|(apply qD.tmp;exact rfl)|(apply qD.cell;(focus infer_instance);exact rfl;(focus(repeat(first|exact gh|apply jA)));exact rfl)|(apply qD.acH;(focus infer_instance);exact rfl;(focus(repeat(first|exact gh|apply jA)));exact rfl)));done)|fail)):P:=h
theorem fZ (h:P:=by(first|((exact W9.mk cb cb);done)|fail)):P:=h
theorem uq (h:P:=by(first|((exact LP.mk cb (rC.mk cb cb cb));done)|fail)):P:=h
theorem acL (h:P:=by(first|((exact aaR.mk (rC.mk cb cb cb) cb cb);done)|fail)):P:=h
theorem bG (h:P:=by(first|((first|exact .inl rfl|exact .inr rfl);done)|fail)):P:=h
theorem qac (h:P:=by(first|((intro b_ _ h1_ Ge;(try dsimp only[FtR,FtW] at h1_ Ge);first|exact h1_.elim|exact Ge.elim|omega|(simp only[jg,ri,wR,jD,aj,ix] at h1_ Ge;omega)|((first|have Xa:=Rd.lt aL _ Ge|have Xa:=tR.lt aL _ Ge);dsimp only at Xa;(try simp only[jg,ri,wR,jD,aj,ix] at h1_);omega)|((first|have Xa:=Rd.lt aL _ h1_|have Xa:=tR.lt aL _ h1_);dsimp only at Xa;(try simp only[jg,ri,wR,jD,aj,ix] at Ge);omega)|(have Gf:=Ch.out;(try dsimp only[ko,eQ,List.append,List.cons_append,List.nil_append] at Gf);(try simp only[mv,ri,It.a8,tQ,uh,yv,pn,gg,uN,rh,bT,eZ,not_or,jg,jD,KT,yG,KK,Aq] at Gf);first|(simp only[jg,ri,wR,jD,aj,ix] at h1_ Ge;omega)|(subst h1_;first|(exact absurd Ge (by simp only[Gf,KT]))|(simp_all;done))|(subst Ge;first|(exact absurd h1_ (by simp only[Gf,KT]))|(simp_all;done))|(simp_all;done))|(rcases Ge with Ge|Ge<;>first|((first|have Xa:=Rd.lt aL _ Ge|have Xa:=tR.lt aL _ Ge);dsimp only at Xa;(try simp only[jg,mv,ri,gg,uh,It.a8,wR,jD,aj,ix,bT] at h1_);omega)|((try simp only[jg,mv,ri,gg,uh,It.a8,wR,jD,aj,ix,bT] at h1_ Ge);omega)|(have Gf:=Ch.out;(try dsimp only[ko,eQ,cv,dK,List.append,List.cons_append,List.nil_append] at Gf);(try simp only[mv,ri,It.a8,tQ,uh,yv,pn,gg,uN,rh,bT,eZ,not_or,jg,jD,KT,yG,KK,Aq] at Gf);(try simp only[jg,mv,ri,gg,uh,It.a8,wR,jD,aj,ix,bT] at h1_ Ge);first|omega|(subst h1_;simp_all;done)|(subst Ge;simp_all;done)))|(rcases h1_ with h1_|h1_<;>first|((first|have Xa:=Rd.lt aL _ h1_|have Xa:=tR.lt aL _ h1_);dsimp only at Xa;(try simp only[jg,mv,ri,gg,uh,It.a8,wR,jD,aj,ix,bT] at Ge);omega)|((try simp only[jg,mv,ri,gg,uh,It.a8,wR,jD,aj,ix,bT] at h1_ Ge);omega)|(have Gf:=Ch.out;(try dsimp only[ko,eQ,cv,dK,List.append,List.cons_append,List.nil_append] at Gf);(try simp only[mv,ri,It.a8,tQ,uh,yv,pn,gg,uN,rh,bT,eZ,not_or,jg,jD,KT,yG,KK,Aq] at Gf);(try simp only[jg,mv,ri,gg,uh,It.a8,wR,jD,aj,ix,bT] at h1_ Ge);first|omega|(subst h1_;simp_all;done)|(subst Ge;simp_all;done))));done)|fail)):P:=h
theorem ax (h:P:=by(first|(refine⟨by(first|exact .inl rfl|exact .inr rfl),_,[],bu,cC.nil _,?_,rfl⟩;all_goals(rcases _ with h;exact h))|fail)):P:=h
theorem fk (h:P:=by(first|((apply Hm;exact bG;exact bu;exact ar);all_goals(rcases _ with h;exact h))|fail)):P:=h
theorem acM (h:P:=by(first|((apply alp;exact bG;exact bu;(focus(first|assumption|exact Sub.all));(focus(first|assumption|exact Part.refl));exact ar);all_goals(rcases _ with h;exact h))|fail)):P:=h
theorem kL (h:P:=by(first|((apply ali;exact bG;exact bu;exact ar);all_goals(rcases _ with h;exact h))|fail)):P:=h
theorem acN (h:P:=by(first|((apply mR;exact bG;exact bu;exact ar);all_goals(rcases _ with h;exact h))|fail)):P:=h
theorem dX (h:P:=by(first|((apply q8;exact bG;exact bu;exact ar);all_goals(rcases _ with h;exact h))|fail)):P:=h
theorem acO (h:P:=by(first|((apply alw;exact bG;exact bu;exact ar);all_goals(rcases _ with h;exact h))|fail)):P:=h
theorem Xb (h:P:=by(first|((apply ahG;exact bG;exact bu;exact ar);all_goals(rcases _ with h;exact h))|fail)):P:=h
theorem acP (h:P:=by(first|((apply alx;exact bG;exact bu;exact ar);all_goals(rcases _ with h;exact h))|fail)):P:=h
theorem aex (h:P:=by(first|((apply q8 (v':=SA.mk v.r v.rc v.f v.fc v.l v.lc v.g v.gc Xc Xd);exact bG;exact bu;exact ar);all_goals(rcases _ with h;exact h))|fail)):P:=h
theorem aey (h:P:=by(first|((apply q8 (v':=SA.mk v.r v.rc v.f v.fc v.l v.lc Xc Xd v.d v.dc);exact bG;exact bu;exact ar);all_goals(rcases _ with h;exact h))|fail)):P:=h
theorem av (h:P:=by(first|((first|((with_reducible apply WO.lit);exact zf;exact rfl;exact rfl;intro bl _)|((with_reducible apply WO.lit (α:=jF) (xs:=[⟨_,_,_,_,_⟩]));exact zf;exact rfl;exact rfl;intro bl _)|((with_reducible apply WO.lit (α:=bf) (xs:=[⟨_,_⟩]));exact zf;exact rfl;exact rfl;intro bl _)|((with_reducible apply WO.lit (α:=a7) (xs:=[⟨_,_⟩]));exact zf;exact rfl;exact rfl;intro bl _)|((with_reducible apply WO.lit (α:=bP) (xs:=[⟨_,_,_⟩]));exact zf;exact rfl;exact rfl;intro bl _)|((with_reducible apply WO.lit (α:=Op) (xs:=[⟨_,_,_,_,_⟩]));exact zf;exact rfl;exact rfl;intro bl _)|((with_reducible apply WO.aaS);exact gT;exact gT;exact aaQ;exact cb;assumption;(focus(omega;done));intro _ _ Xc Xd _ _ _)|((with_reducible apply WO.Rj);exact gT;exact gT;exact aaQ;exact cb;exact mH;intro _ _ Xc Xd _ _ _)|((with_reducible apply WO.aht);exact gT;exact gT;exact oh;exact mH;intro _ LS LU Hp Pk)|((with_reducible apply WO.ahu);exact gT;exact gT;exact oh;exact mH;intro _ LS LU Hp Pk)|((with_reducible apply WO.ahv);exact gT;exact gT;exact gT;exact oh;exact mH;intro _ LS LU Hp Pk)|((with_reducible apply WO.ahw);exact gT;exact gT;assumption;assumption;exact oh;exact mH;exact mH;intro _ LS LU Hp Pk)|((with_reducible apply WO.ahx);exact gT;exact gT;assumption;assumption;exact mH;intro _ LS LU Hp)|((with_reducible apply WO.ahy);exact gT;exact gT;assumption;assumption;exact mH;intro _ LS LU Hp));all_goals(rcases _ with h;exact h))|fail)):P:=h
theorem aW (h:P:=by(first|((repeat1' (first|(with_reducible first|refine W.seq ?_|refine W.block ?_|refine W.region ?_|refine aq ?_|refine dC ?_|refine WS.nil ?_|refine WD.nil ?_|refine ws ?_|refine ws0 ?_|refine wd ?_|refine wd0 ?_|refine W.skip ?_|refine W.exit ?_|refine W.ret ?_|refine Pc ?_|refine km ?_|refine iU ?_|refine BG ?_|refine ags rfl ?_|refine ej ?_|refine kn ?_|refine Pe ?_|refine ahI rfl ?_|refine aaI ?_|refine Tq ?_|refine Tp ?_|refine LH ?_|refine Pd ?_|refine LF ?_|refine LO ?_|refine Jz (by decide+kernel) ?_)|((with_reducible refine W.ahF ?_);intro nx hold hn_ Ch;(try dsimp only at hn_);(try dsimp only[ko,eQ,List.append,List.cons_append,List.nil_append] at hold);(try simp only[bT,forall_eq_or_imp,jg,false_imp_iff,implies_true,Aq,It.a8,ix,forall_eq,tQ] at hold))|(intro e_;subst e_)|((with_reducible refine WN ?_ ?_ ?_);exact qac;exact qac)|((with_reducible apply alb);exact rfl;exact rfl;(focus((first|exact rfl|assumption);done)))|((with_reducible apply alc);exact rfl;exact rfl;(focus((first|exact rfl|assumption);done)))|((with_reducible apply ald);exact rfl;exact rfl;(focus((first|exact rfl|assumption);done)))|((with_reducible apply ale);exact rfl;exact rfl;(focus((first|exact rfl|assumption);done)))|((with_reducible apply alj);exact rfl;exact rfl)|((with_reducible apply alk);exact rfl;exact rfl)|((with_reducible apply WO.move);constructor<;>exact rfl;intro _)|((with_reducible apply WO.assign);constructor<;>exact rfl;intro _)|((with_reducible apply WO.load);constructor<;>exact rfl;exact oh;exact rfl;intro _)|((with_reducible apply WO.ahi);constructor<;>exact rfl;exact oh;exact rfl;intro _)|((with_reducible apply WO.aez);constructor<;>exact rfl;assumption;exact rfl;intro _)|((with_reducible apply WO.Xe);constructor<;>exact rfl;assumption;exact rfl;intro _)|((with_reducible apply WO.nilCheck);constructor<;>exact rfl;intro _)|((with_reducible apply WO.fieldAddr);constructor<;>exact rfl;intro _)|((with_reducible apply WO.store);constructor<;>exact rfl;constructor<;>exact rfl;exact rfl;exact rfl;exact xS;exact rfl;intro _)|((with_reducible apply WO.ahJ);constructor<;>exact rfl;constructor<;>exact rfl;intro _)|((with_reducible apply WO.ahK);constructor<;>exact rfl;constructor<;>exact rfl;intro _)|((with_reducible apply WO.ahK (p:=bA));constructor<;>exact rfl;constructor<;>exact rfl;intro _)|((with_reducible apply WO.ahJ (p:=bA));constructor<;>exact rfl;constructor<;>exact rfl;intro _)|((with_reducible apply WO.Rq);constructor<;>exact rfl;exact xS;constructor<;>exact rfl;exact mH;intro _)|((with_reducible apply WO.Rq (q:=bA));constructor<;>exact rfl;exact xS;constructor<;>exact rfl;exact mH;intro _)|((with_reducible apply WO.storeT);constructor<;>exact rfl;constructor<;>exact rfl;exact xS;exact rfl;exact mH;intro _)|((with_reducible apply WO.ak4);constructor<;>exact rfl;intro _)|((with_reducible apply WO.ak5);constructor<;>exact rfl;intro _)|((with_reducible apply WO.lss);constructor<;>exact rfl;constructor<;>exact rfl;intro _)|((with_reducible apply WO.leq);constructor<;>exact rfl;constructor<;>exact rfl;intro _)|((with_reducible apply WO.gtr);constructor<;>exact rfl;constructor<;>exact rfl;intro _)|((with_reducible apply WO.geq);constructor<;>exact rfl;constructor<;>exact rfl;intro _)|((with_reducible apply WO.eql);constructor<;>exact rfl;constructor<;>exact rfl;intro _)|((with_reducible apply WO.neq);constructor<;>exact rfl;constructor<;>exact rfl;intro _)|((with_reducible apply WO.ak1);constructor<;>exact rfl;constructor<;>exact rfl;intro _)|((with_reducible apply WO.ak2);constructor<;>exact rfl;constructor<;>exact rfl;intro _)|((with_reducible apply WO.anI);constructor<;>exact rfl;constructor<;>exact rfl;intro _)|((with_reducible apply WO.ak3);constructor<;>exact rfl;constructor<;>exact rfl;intro _)|((with_reducible apply WO.alf);constructor<;>exact rfl;constructor<;>exact rfl;intro _)|((with_reducible apply WO.alg);constructor<;>exact rfl;constructor<;>exact rfl;intro _)|((with_reducible apply WO.not);constructor<;>exact rfl;intro _)|((with_reducible apply WO.extract);constructor<;>exact rfl;exact rfl;intro _)|((with_reducible apply WO.ahg);constructor<;>exact rfl;(focus((first|exact rfl|assumption);done));constructor<;>exact rfl;intro _)|((with_reducible apply WO.ahh);constructor<;>exact rfl;(focus((first|exact rfl|assumption);done));constructor<;>exact rfl;intro _)|((with_reducible apply WO.add);constructor<;>exact rfl;constructor<;>exact rfl;(focus((constructor<;>omega);done));intro _)|((with_reducible apply WO.sub);constructor<;>exact rfl;constructor<;>exact rfl;(focus((constructor<;>omega);done));intro _)|((with_reducible apply WO.mul);constructor<;>exact rfl;constructor<;>exact rfl;(focus((constructor<;>omega);done));intro _)|((with_reducible apply WO.ak0);constructor<;>exact rfl;constructor<;>exact rfl;exact mH;intro _)|((with_reducible apply WO.quo);constructor<;>exact rfl;constructor<;>exact rfl;(focus((first|decide|omega);done));(focus((constructor<;>omega);done));intro _)|((with_reducible apply WO.rem);constructor<;>exact rfl;constructor<;>exact rfl;(focus((first|decide|omega);done));intro _)|((with_reducible apply WO.ak6);constructor<;>exact rfl;intro bx _)|((with_reducible apply WO.ak7);constructor<;>exact rfl;exact rfl;intro bx _)|((with_reducible apply WO.alloc);intro ba _)|((with_reducible apply WO.WR);constructor<;>exact rfl;constructor<;>exact rfl;exact mH;intro _)|((with_reducible apply WO.WT);constructor<;>exact rfl;constructor<;>exact rfl;exact mH;intro _)|((with_reducible apply WO.Jy);constructor<;>exact rfl;(focus((first|exact .inl ⟨rfl,rfl⟩|exact .inr ⟨_,_,rfl,.tmp rfl⟩|exact .inr ⟨_,_,rfl,.const⟩);done));(focus((first|exact .inl ⟨rfl,rfl⟩|exact .inr ⟨_,_,rfl,.tmp rfl⟩|exact .inr ⟨_,_,rfl,.const⟩);done));exact mH;exact mH;intro _)|((with_reducible apply WO.index);constructor<;>exact rfl;constructor<;>exact rfl;exact mH;intro _)|((with_reducible apply WO.xP);constructor<;>exact rfl;(focus((first|exact(rfl:_=((0:Nat):Int))|exact(rfl:_=((1:Nat):Int))|exact(rfl:_=((2:Nat):Int))|exact(rfl:_=((3:Nat):Int))|exact(rfl:_=((4:Nat):Int))|exact(rfl:_=((5:Nat):Int))|exact(rfl:_=((6:Nat):Int))|exact(rfl:_=((7:Nat):Int)));done));exact cb;exact mH;intro _)|((with_reducible apply WO.indexAddr);constructor<;>exact rfl;constructor<;>exact rfl;exact cb;exact mH;intro _)|((with_reducible apply WO.Pf);constructor<;>exact rfl;constructor<;>exact rfl;exact cb;exact mH;intro _)|((with_reducible apply WO.aen);constructor<;>exact rfl;constructor<;>exact rfl;exact mH;intro _)|((with_reducible apply WO.aaJ);constructor<;>exact rfl;constructor<;>exact rfl;exact mH;intro _)|((with_reducible apply WO.aaK);constructor<;>exact rfl;constructor<;>exact rfl;exact mH;intro _)|((with_reducible apply WO.aaL);constructor<;>exact rfl;constructor<;>exact rfl;constructor<;>exact rfl;exact mH;intro _)|((with_reducible apply WO.O7);constructor<;>exact rfl;exact cb;exact mH;intro _)|((with_reducible apply WO.ahj);constructor<;>exact rfl;exact cb;exact mH;exact rfl;intro _)|((with_reducible apply WO.aeg);constructor<;>exact rfl;exact cb;exact mH;intro _)|((with_reducible apply WO.anJ);constructor<;>exact rfl;constructor<;>exact rfl;(focus((constructor<;>omega);done));intro _)|((with_reducible apply WO.alh);constructor<;>exact rfl;constructor<;>exact rfl;(focus((constructor<;>omega);done));intro _)|((with_reducible apply WO.ahq);constructor<;>exact rfl;(focus((constructor<;>omega);done));intro _)|((with_reducible apply WO.conv);constructor<;>exact rfl;(focus((first|exact wrap_u8 _|exact qC (by constructor<;>omega)|exact AM (by constructor<;>omega));done));intro _)|((with_reducible apply WO.str);(focus(exact λ_=>rfl;done));constructor<;>exact rfl;exact cb;intro _)|((with_reducible apply WO.bytes);(focus(exact λ_=>rfl;done));constructor<;>exact rfl;exact mH;intro _ _)|((with_reducible apply WO.make);constructor<;>exact rfl;constructor<;>exact rfl;exact mH;intro bm _ _)|((with_reducible apply WO.min);constructor<;>exact rfl;constructor<;>exact rfl;intro _)|((with_reducible apply WO.max);constructor<;>exact rfl;constructor<;>exact rfl;intro _)|((with_reducible apply WO.aem);(focus((repeat(first|exact Tk.nil|(apply Tk.cons;constructor<;>exact rfl)));done));exact rfl;intro _)|((with_reducible apply WO.aeA);constructor<;>exact rfl;exact rfl;intro _)|((with_reducible apply WO.xor);constructor<;>exact rfl;constructor<;>exact rfl;(focus(omega;done));(focus(omega;done));intro _)|((with_reducible apply WO.aly);constructor<;>exact rfl;constructor<;>exact rfl;(focus(omega;done));(focus(omega;done));intro _)|((with_reducible apply WO.aeB);constructor<;>exact rfl;exact oh;(focus((first|decide|(simp;done)|omega);done));(focus((first|decide|(simp;done)|omega);done));intro _)|((with_reducible apply WO.alm);constructor<;>exact rfl;constructor<;>exact rfl;intro _)|((fail_if_success have:=ns_);((with_reducible apply W.ahn);constructor<;>exact rfl;(focus(first|exact rfl|assumption))))|((fail_if_success have:=ns_);((with_reducible apply W.aho);constructor<;>exact rfl;(focus(first|exact rfl|assumption))))|((fail_if_success have:=ns_);(((with_reducible apply wsg);exact rfl;exact rfl)<;>(intro hg;(try(have ur:=hg;simp only[bQ,mg,qi,C0,mf,bO,C1,GI,OB,IX,jf,wS,fV,Int.not_lt,Int.not_le,Ap] at ur)))))|((fail_if_success have:=ns_);(((with_reducible apply wdg);exact rfl;exact rfl)<;>(intro hg;(try(have ur:=hg;simp only[bQ,mg,qi,C0,mf,bO,C1,GI,OB,IX,jf,wS,fV,Int.not_lt,Int.not_le,Ap] at ur)))))|((fail_if_success have:=ns_);(((with_reducible apply W.cond);constructor<;>exact rfl)<;>(intro hc;(try(have j8:=hc;simp only[bQ,mg,qi,C0,mf,bO,C1,GI,OB,IX,jf,wS,fV,Int.not_lt,Int.not_le,Ap] at j8)))))|fail));all_goals(rcases _ with h;exact h))|fail)):P:=h
theorem xT (h:P:=by(first|((have ns_:=True.intro;refine' aW;all_goals clear ns_);all_goals(rcases _ with h;exact h))|fail)):P:=h
theorem Ow (h:P:=by(first|(((with_reducible apply WO.aV);exact aC;exact λs=>aaT s _ _ _;intros);all_goals(rcases _ with h;exact h))|fail)):P:=h
theorem zc3 (h:P:=by(first|(((with_reducible apply WO.aV);exact aC;exact λs=>Xf s _;intros);all_goals(rcases _ with h;exact h))|fail)):P:=h
theorem Tw (h:P:=by(first|(((with_reducible apply WO.aV);exact aC;(first|exact λs=>LW s _|exact λs=>LW s ⟨_,_,_,_,_⟩);intros);all_goals(rcases _ with h;exact h))|fail)):P:=h
theorem Hq (h:P:=by(first|(((with_reducible apply WO.aV);exact aC;(first|exact λs=>xU s _|exact λs=>xU s ⟨_,_,_,_,_⟩);intros);all_goals(rcases _ with h;exact h))|fail)):P:=h
theorem aaU (h:P:=by(first|(((with_reducible apply WO.aV);exact aC;exact λs=>Tx s _ ag;intros);all_goals(rcases _ with h;exact h))|fail)):P:=h
theorem Xg (h:P:=by(first|(((with_reducible apply WO.rU);exact aC;(first|exact λs=>vi s _ 46 ag|exact λs=>vi s _ 44 ag|exact λs=>vi s _ 47 ag|exact λs=>vi s _ 59 ag|exact λs=>vi s _ 61 ag);intro _ _ vT vU _ _);all_goals(rcases _ with h;exact h))|fail)):P:=h
theorem ahL (h:P:=by(first|(((with_reducible apply WO.aV);exact aC;(first|exact λs=>Hr s _|exact λs=>Hr s ⟨_,_,_,_,_⟩);intros);all_goals(rcases _ with h;exact h))|fail)):P:=h
theorem aaV (h:P:=by(first|(((with_reducible apply WO.aV);exact aC;exact λs=>Ty s _ ag;intros);all_goals(rcases _ with h;exact h))|fail)):P:=h
theorem ahM (h:P:=by(first|(((with_reducible apply WO.iN);exact aC;exact λs hr=>JD s _ _ _ ag aL hr;exact cb;intros);all_goals(rcases _ with h;exact h))|fail)):P:=h
theorem ahN (h:P:=by(first|(((with_reducible apply WO.iN);exact aC;exact λs hr=>Tz s _ _ _ ag aL hr;exact cb;intros);all_goals(rcases _ with h;exact h))|fail)):P:=h
theorem TA (h:P:=by(first|(((with_reducible apply WO.aep);exact aC;exact λs=>LX s _ ag ag aL;intro _ _ DT DU LY BI LZ acQ acR _ _);all_goals(rcases _ with h;exact h))|fail)):P:=h
theorem aeC (h:P:=by(first|(((with_reducible apply WO.aV);exact aC;exact λs=>TB s _ ag;intros);all_goals(rcases _ with h;exact h))|fail)):P:=h
theorem uA (h:P:=by(first|(((with_reducible apply WO.alr);(exact Ev.tmp rfl);exact aC;(dsimp only[List.map,List.nil_append,List.append_nil,List.cons_append]));all_goals(rcases _ with h;exact h))|fail)):P:=h
theorem ahO (h:P:=by(first|(((with_reducible apply WO.iN);exact aC;exact λs hr=>aeD s _ _ _ aL ag _ hr;exact cb;intros);all_goals(rcases _ with h;exact h))|fail)):P:=h
theorem ahP (h:P:=by(first|(((with_reducible apply WO.iN);exact aC;exact λs hr=>aeE s _ _ _ aL ag _ hr;exact cb;intros);all_goals(rcases _ with h;exact h))|fail)):P:=h
theorem aeF (h:P:=by(first|(((with_reducible apply WO.aV);exact aC;(first|exact λs=>DV s _ _ ag|exact λs=>DV s ⟨_,_,_,_,_⟩ _ ag);intros);all_goals(rcases _ with h;exact h))|fail)):P:=h
theorem aeG (h:P:=by(first|(((with_reducible apply WO.rU);exact aC;exact λs=>Pm s _ ag;intro _ _ agt agu _ _);all_goals(rcases _ with h;exact h))|fail)):P:=h
theorem AP (h:P:=by(first|(((with_reducible apply WO.mq);exact aC;(first|exact λs hr=>Hs s _ _ aL _ aL hr|exact λs hr=>Hs s _ _ aL ⟨_,_,_,_,_⟩ aL hr);exact eF;intros);all_goals(rcases _ with h;exact h))|fail)):P:=h
theorem aaW (h:P:=by(first|(((with_reducible apply WO.tS);exact aC;(first|exact λs hr=>DW s _ _ aL _ _ hr|exact λs hr=>DW s _ _ aL ⟨_,_,_,_,_⟩ _ hr);exact eF;intro _ _ Ht Hu _ _);all_goals(rcases _ with h;exact h))|fail)):P:=h
theorem ahQ (h:P:=by(first|(((with_reducible apply WO.tS);exact aC;(first|exact λs hr=>vj s _ _ aL _ aL hr|exact λs hr=>vj s _ _ aL ⟨⟨_,_,_,_,_⟩,_,_⟩ aL hr);exact eF;intro _ _ aeH aeI _ _);all_goals(rcases _ with h;exact h))|fail)):P:=h
theorem DX (h:P:=by(first|(((with_reducible apply WO.AQ);exact aC;(first|exact λs hr=>Hv s _ _ aL _ aL hr|exact λs hr=>Hv s _ _ aL ⟨⟨_,_,_,_,_⟩,_,_⟩ aL hr);exact eF;intro _ _ L1 L3 _ _);all_goals(rcases _ with h;exact h))|fail)):P:=h
theorem Xh (h:P:=by(first|(((with_reducible apply WO.aV);exact aC;exact λs=>Pn s _;intros);all_goals(rcases _ with h;exact h))|fail)):P:=h
theorem Po (h:P:=by(first|(((with_reducible apply WO.aV);exact aC;(first|exact λs=>Hw s _|exact λs=>Hw s ⟨_,_,_,⟨⟨_,_,_,_,_⟩,_,_⟩⟩);intros);all_goals(rcases _ with h;exact h))|fail)):P:=h
theorem ahR (h:P:=by(first|(((with_reducible apply WO.aV);exact aC;(first|exact λs=>DY s _|exact λs=>DY s ⟨_,_,_,⟨⟨_,_,_,_,_⟩,_,_⟩⟩);intros);all_goals(rcases _ with h;exact h))|fail)):P:=h
theorem aeJ (h:P:=by(first|(((with_reducible apply WO.AQ);exact aC;(first|exact λs hr=>DZ s _ _ aL _ aL hr|exact λs hr=>DZ s _ _ aL ⟨⟨_,_,_,_,_⟩,_,_⟩ aL hr);exact eF;intro _ _ gF gG _ _);all_goals(rcases _ with h;exact h))|fail)):P:=h
theorem TC (h:P:=by(first|(((with_reducible apply WO.rW);exact aC;(intro s hr;exact kC s hr);(exact vk.mk cb cb cb);intros);all_goals(rcases _ with h;exact h))|fail)):P:=h
theorem aaX (h:P:=by(first|(((with_reducible apply WO.aaY);exact gT;exact cb;exact mH;intro _);all_goals(rcases _ with h;exact h))|fail)):P:=h
theorem ahS (h:P:=by(first|(((with_reducible apply WO.aV);exact aC;exact λs=>Xi s _ ag;intros);all_goals(rcases _ with h;exact h))|fail)):P:=h
theorem q9 (h:P:=by(first|(((with_reducible apply WO.rW);exact aC;(intro s hr;exact D0 s _ hr);(exact vk.mk cb cb cb);intros);all_goals(rcases _ with h;exact h))|fail)):P:=h
theorem ahT (h:P:=by(first|(((with_reducible apply WO.WY);exact gT;exact gT;intro _);all_goals(rcases _ with h;exact h))|fail)):P:=h
theorem ahU (h:P:=by(first|(((with_reducible apply WO.aaZ);exact gT;exact gT;exact cb;exact mH;intro _);all_goals(rcases _ with h;exact h))|fail)):P:=h
theorem TE (h:P:=by(first|(((with_reducible apply WO.aV);exact aC;exact λs=>TF s _ _ _;intros);all_goals(rcases _ with h;exact h))|fail)):P:=h
theorem aa0 (h:P:=by(first|(((with_reducible apply WO.Xe);exact gT;assumption;exact rfl;intro _);all_goals(rcases _ with h;exact h))|fail)):P:=h
theorem zg (h:P:=by(first|(((with_reducible apply WO.invoke);exact gT;(first|exact Hx|exact L4|exact JE|exact Pp|exact TG);exact aC;(dsimp only[List.map]));all_goals(rcases _ with h;exact h))|fail)):P:=h
theorem aeK (h:P:=by(first|(((with_reducible apply WO.rW);exact aC;(intro s hr;exact hrm s hr);(exact vk.mk cb cb cb);intros);all_goals(rcases _ with h;exact h))|fail)):P:=h
theorem Xj (h:P:=by(first|(((with_reducible apply WO.aV);exact aC;exact λs=>D1 s _ aL;intros);all_goals(rcases _ with h;exact h))|fail)):P:=h
theorem Xk (h:P:=by(first|(((with_reducible apply WO.aa1);exact gT;(exact Hx);intro _);all_goals(rcases _ with h;exact h))|fail)):P:=h
theorem zh (h:P:=by(first|(((with_reducible apply WO.makeFunc);exact aC;exact aC;intro _);all_goals(rcases _ with h;exact h))|fail)):P:=h
theorem L5 (h:P:=by(first|(((with_reducible apply WO.rW);exact aC;(intro s hr;exact uu s _ (hV.th _ ag) hr);(exact vk.mk cb cb cb);intros);all_goals(rcases _ with h;exact h))|fail)):P:=h
theorem aa2 (h:P:=by(first|(((with_reducible apply WO.rW);exact aC;(intro s hr;exact Wu s _ hr);(exact vk.mk cb cb cb);intros);all_goals(rcases _ with h;exact h))|fail)):P:=h
theorem alz (h:P:=by(first|(((with_reducible apply WO.Xl);exact aC;(intro s hr;exact uV s _ hr);(exact Pq.mk (vk.mk cb cb cb) cb cb);intros);all_goals(rcases _ with h;exact h))|fail)):P:=h
theorem ahV (h:P:=by(first|(((with_reducible apply WO.aV);exact aC;exact λs=>Gg s _ _ ⟨aL,aL,aL,aL⟩;intros);all_goals(rcases _ with h;exact h))|fail)):P:=h
theorem Pr (h:P:=by(first|(((with_reducible apply WO.mq);exact aC;(first|exact λs hr=>Rr s _ _ aL _ hr|exact λs hr=>Rr s _ _ aL ⟨⟨_,_,_,_,_⟩,_,_⟩ hr);exact eF;intros);all_goals(rcases _ with h;exact h))|fail)):P:=h
theorem ahW (h:P:=by(first|(((with_reducible apply WO.aV);exact aC;exact λs=>Ps s _ _ ag ag;intros);all_goals(rcases _ with h;exact h))|fail)):P:=h
theorem L6 (h:P:=by(first|(((with_reducible apply WO.aV);exact aC;exact λs=>L7 s _ ag;intros);all_goals(rcases _ with h;exact h))|fail)):P:=h
theorem alA (h:P:=by(first|(((with_reducible apply WO.iN);exact aC;exact λs hr=>uV s _ hr;exact cb;intros);all_goals(rcases _ with h;exact h))|fail)):P:=h
theorem aa3 (h:P:=by(first|(((with_reducible apply WO.Xm);exact aC;(intro s h1 h2;exact Hy s h1 h2);exact cb;exact cb;intros);all_goals(rcases _ with h;exact h))|fail)):P:=h
theorem TH (h:P:=by(first|(((with_reducible apply WO.aV);exact aC;exact λs=>Hz s;intros);all_goals(rcases _ with h;exact h))|fail)):P:=h
theorem TI (h:P:=by(first|(((with_reducible apply WO.lit (α:=a7) (xs:=[_]));exact zf;exact rfl;exact rfl;intro bl _);all_goals(rcases _ with h;exact h))|fail)):P:=h
theorem Xn (h:P:=by(first|(((with_reducible apply WO.lit (α:=a7) (xs:=[⟨_,_⟩]));exact zf;exact rfl;exact rfl;intro bl _);all_goals(rcases _ with h;exact h))|fail)):P:=h
theorem Pt (h:P:=by(first|(((with_reducible apply WO.lit (α:=bP) (xs:=[_]));exact zf;exact rfl;exact rfl;intro bl _);all_goals(rcases _ with h;exact h))|fail)):P:=h
theorem zi (h:P:=by(first|(((with_reducible apply WO.lit (α:=bP) (xs:=[⟨_,_,_⟩]));exact zf;exact rfl;exact rfl;intro bl _);all_goals(rcases _ with h;exact h))|fail)):P:=h
theorem zj (h:P:=by(first|(((with_reducible apply WO.aeL);exact aC;exact eC;exact mH;exact mH;(first|exact gY|assumption|(exact qW ay));(first|exact gY|assumption|(exact qW ay));exact mH;exact mH;(intro s;exact Xo s _ _ _ _ _ _ _ _ (by(first|exact gY|assumption|(exact qW ay))) (by(first|exact gY|assumption|(exact qW ay))) mH mH);intro _ _ anK anL _ _ zk zl zm zn);all_goals(rcases _ with h;exact h))|fail)):P:=h
theorem Rs (h:P:=by(first|(((with_reducible apply WO.ahX);exact gT;exact gT;exact xS;exact mH;intro _);all_goals(rcases _ with h;exact h))|fail)):P:=h
theorem acS (h:P:=by(first|(((with_reducible apply WO.Xp);exact aC;exact eC;exact oh;(intro s hr hm;exact aa4 s _ _ _ ag _ ⟨_,_,_,_,_⟩ hr hm);intro _ _ anM _ _ ano anp anq);all_goals(rcases _ with h;exact h))|fail)):P:=h
theorem acT (h:P:=by(first|(((with_reducible apply WO.Xq);exact aC;exact eC;exact oh;(intro s hr hm;exact aa5 s _ _ _ ag _ _ hr hm);intro _ _ anN _ _ anr ans ant);all_goals(rcases _ with h;exact h))|fail)):P:=h
theorem acU (h:P:=by(first|(((with_reducible apply WO.rW);exact aC;(intro s hr;exact hli s hr);(exact vk.mk cb cb cb);intros);all_goals(rcases _ with h;exact h))|fail)):P:=h
theorem Rt (h:P:=by(first|(((with_reducible apply WO.aeM);exact gT;exact gT;exact xS;exact mH;intro _);all_goals(rcases _ with h;exact h))|fail)):P:=h
theorem HA (h:P:=by(first|(((with_reducible apply WO.mq);exact aC;exact λs hr=>w7 s hr;exact eF;intros);all_goals(rcases _ with h;exact h))|fail)):P:=h
theorem Xr (h:P:=by(first|(((with_reducible apply WO.aV);exact aC;exact λs=>hpc s;intros);all_goals(rcases _ with h;exact h))|fail)):P:=h
theorem Ru (h:P:=by(first|(((with_reducible apply WO.mq);exact aC;exact λs hr=>hfc s _ _ hr;exact eF;intros);all_goals(rcases _ with h;exact h))|fail)):P:=h
theorem acV (h:P:=by(first|(((with_reducible apply WO.nf);exact aC;exact λs=>TJ s _ _ aL _ ag;exact eC;intro _ _ Xs _ _ ahY);all_goals(rcases _ with h;exact h))|fail)):P:=h
theorem Xt (h:P:=by(first|(((with_reducible apply WO.iN);exact aC;exact λs hr=>TK s _ _ _ ag hr;exact cb;intros);all_goals(rcases _ with h;exact h))|fail)):P:=h
theorem acW (h:P:=by(first|(((with_reducible apply WO.iN);exact aC;exact λs hr=>TL s _ _ _ ag hr;exact cb;intros);all_goals(rcases _ with h;exact h))|fail)):P:=h
theorem ahZ (h:P:=by(first|(((with_reducible apply WO.nf);exact aC;exact λs=>xV s _ _ aL _ ag _;exact eC;intro _ _ agv _ _ AR);all_goals(rcases _ with h;exact h))|fail)):P:=h
theorem Xu (h:P:=by(first|(((with_reducible apply WO.aeN);exact aC;exact λs hr hm=>Lw s _ _ hr hm;exact eC;exact cb;intro _ _ ah0 _ _ D4);all_goals(rcases _ with h;exact h))|fail)):P:=h
theorem L8 (h:P:=by(first|(((with_reducible apply WO.nf);exact aC;(first|exact λs=>HB s _ _ aL _ aL|exact λs=>HB s _ _ aL ⟨_,_,_,_,_⟩ aL);exact eC;intro _ _ Xv _ _ ah1);all_goals(rcases _ with h;exact h))|fail)):P:=h
theorem D5 (h:P:=by(first|(((with_reducible apply WO.aeO);exact aC;exact λs hr hm hv=>hlc _ s _ _ hr hm hv;exact eC;exact oh;intro _ _ D6 _ _ vl);all_goals(rcases _ with h;exact h))|fail)):P:=h
theorem Rv (h:P:=by(first|(((with_reducible apply WO.nf);exact aC;exact λs=>hwc s;exact eC;intro _ _ aeP _ _ D7);all_goals(rcases _ with h;exact h))|fail)):P:=h
theorem D8 (h:P:=by(first|(((with_reducible apply WO.nf);exact aC;exact λs=>TN _ s;exact eC;intro _ _ zo _ _ L9);all_goals(rcases _ with h;exact h))|fail)):P:=h
theorem acX (h:P:=by(first|(((with_reducible apply WO.nf);exact aC;(first|exact λs=>D9 s _ _ aL _ aL _ ag|exact λs=>D9 s _ _ aL ⟨⟨_,_,_,_,_⟩,_,_⟩ aL _ ag);exact eC;intro _ _ akl _ _ akm);all_goals(rcases _ with h;exact h))|fail)):P:=h
theorem acY (h:P:=by(first|(((with_reducible apply WO.mq);exact aC;(first|exact λs hr=>AS s _ _ aL _ aL _ ag hr|exact λs hr=>AS s _ _ aL ⟨⟨_,_,_,_,_⟩,_,_⟩ aL _ ag hr);exact eF;intros);all_goals(rcases _ with h;exact h))|fail)):P:=h
theorem acZ (h:P:=by(first|(((with_reducible apply WO.nf);exact aC;(first|exact λs=>vV s _ _ aL _ aL _ ag _|exact λs=>vV s _ _ aL ⟨⟨_,_,_,_,_⟩,_,_⟩ aL _ ag _|exact λs=>vV s _ _ aL _ aL _ ag ⟨_,_,_,⟨⟨_,_,_,_,_⟩,_,_⟩⟩);exact eC;intro _ _ ah2 _ _ ah3);all_goals(rcases _ with h;exact h))|fail)):P:=h
theorem Xw (h:P:=by(first|(((with_reducible apply WO.JF);exact aC;exact uq;exact λs hr=>tT s _ _ _ aL aL _ ag hr;intros);all_goals(rcases _ with h;exact h))|fail)):P:=h
theorem ah4 (h:P:=by(first|(((with_reducible apply WO.tS);exact aC;exact λs hr=>ah5 s hr;exact eF;intro _ _ rX rY _ _);all_goals(rcases _ with h;exact h))|fail)):P:=h
theorem ah6 (h:P:=by(first|(((with_reducible apply WO.iN);exact aC;exact λs hr=>Ea s _ _ _ _ (by first|omega|(simp;done)) hr;exact cb;intros);all_goals(rcases _ with h;exact h))|fail)):P:=h
theorem ac0 (h:P:=by(first|(((with_reducible apply WO.aV);exact aC;exact λs=>HC s _ (by rw[cW];omega);intros);all_goals(rcases _ with h;exact h))|fail)):P:=h
theorem HD (h:P:=by(first|(((with_reducible apply WO.AT);exact aC;(intro v s;exact dM _ s);exact eC;intro _ _ pQ _ _);all_goals(rcases _ with h;exact h))|fail)):P:=h
theorem ac1 (h:P:=by(first|(((with_reducible apply WO.Xx);exact aC;(intro s hr hn hm;exact alB _ _ s hr hn hm);exact eC;exact eF;exact cb;intro _ _ jR jS _ _);all_goals(rcases _ with h;exact h))|fail)):P:=h
theorem Rw (h:P:=by(first|(((with_reducible apply WO.mq);exact aC;(first|exact λs hr=>Ma s _ _ aL _ hr|exact λs hr=>Ma s _ _ aL ⟨⟨_,_,_,_,_⟩,_,_⟩ hr);exact eF;intros);all_goals(rcases _ with h;exact h))|fail)):P:=h
theorem Rx (h:P:=by(first|(((with_reducible apply WO.AQ);exact aC;exact λs hr=>uG s hr;exact eF;intro _ _ jG jH _ _);all_goals(rcases _ with h;exact h))|fail)):P:=h
theorem ac2 (h:P:=by(first|(((with_reducible apply WO.Xx);exact aC;(intro s hr hn hm;exact hwk _ _ _ _ s hr hn hm);exact eC;exact eF;exact cb;intro _ _ jR jS _ _);all_goals(rcases _ with h;exact h))|fail)):P:=h
theorem zp (h:P:=by(first|(((with_reducible apply WO.mq);exact aC;(first|exact λs hr=>Eb s _ _ aL _ aL hr|exact λs hr=>Eb s _ _ aL ⟨_,_,_,⟨⟨_,_,_,_,_⟩,_,_⟩⟩ aL hr);exact eF;intros);all_goals(rcases _ with h;exact h))|fail)):P:=h
theorem uv (h:P:=by(first|(((with_reducible apply WO.vW);exact aC;(intro s hr;exact Xy s hr);exact uq;intros);all_goals(rcases _ with h;exact h))|fail)):P:=h
theorem zq (h:P:=by(first|(((with_reducible apply WO.vW);exact aC;(intro s hr;exact nN s hr);exact uq;intros);all_goals(rcases _ with h;exact h))|fail)):P:=h
theorem Xz (h:P:=by(first|(((with_reducible apply WO.vW);exact aC;(intro s hr;exact rS s hr);exact uq;intros);all_goals(rcases _ with h;exact h))|fail)):P:=h
theorem BJ (h:P:=by(first|(((with_reducible apply WO.Mb);exact aC;(intro s hr;exact Wu s hr);exact uq;intro _ _ AU AV _ _);all_goals(rcases _ with h;exact h))|fail)):P:=h
theorem Ec (h:P:=by(first|(((with_reducible apply WO.aV);exact aC;exact λs=>Pu s _ ag aL aL;intros);all_goals(rcases _ with h;exact h))|fail)):P:=h
theorem Mc (h:P:=by(first|(((with_reducible apply WO.iN);exact aC;exact λs hr=>ah7 _ _ s hr;exact cb;intros);all_goals(rcases _ with h;exact h))|fail)):P:=h
theorem Md (h:P:=by(first|(((with_reducible apply WO.aeQ);exact aC;exact oh;exact λs hr hv=>ah8 _ _ s hr hv;intro _ _ aeR aeS _ _);all_goals(rcases _ with h;exact h))|fail)):P:=h
theorem Me (h:P:=by(first|(((with_reducible apply WO.XA);exact aC;(intro v s hr hm;exact nY _ _ _ s hr hm);exact eC;exact cb;intro _ _ ju _ _);all_goals(rcases _ with h;exact h))|fail)):P:=h
theorem Mf (h:P:=by(first|(((with_reducible apply WO.aV);exact aC;exact λs=>hpi s;intros);all_goals(rcases _ with h;exact h))|fail)):P:=h
theorem XB (h:P:=by(first|(((with_reducible apply WO.nf);exact aC;exact λs=>Vj _ s;exact eC;intro _ _ Mg _ _ XC);all_goals(rcases _ with h;exact h))|fail)):P:=h
theorem XD (h:P:=by(first|(((with_reducible apply WO.xP);exact gT;exact gT;assumption;exact mH;intro _);all_goals(rcases _ with h;exact h))|fail)):P:=h
theorem XE (h:P:=by(first|(((with_reducible apply WO.ah9);exact gT;assumption;exact mH;intro _);all_goals(rcases _ with h;exact h))|fail)):P:=h
theorem BK (h:P:=by(first|(((with_reducible apply WO.Ry);exact aC;exact eC;assumption;(intro s hr hm;exact aa6 s _ _ _ _ _ _ aL ag ag hr hm);intro _ _ ng alC akn aa7 _ _;obtain⟨Ed,rfl,alD⟩:=aa7);all_goals(rcases _ with h;exact h))|fail)):P:=h
theorem ac3 (h:P:=by(first|(((with_reducible apply WO.Ry);exact aC;exact eC;assumption;(intro s hr hm;exact aa8 s _ _ _ _ _ aL ag hr hm);intro _ _ alE alF ako aa9 _ _;obtain⟨alG,rfl,aeT⟩:=aa9);all_goals(rcases _ with h;exact h))|fail)):P:=h
theorem ac4 (h:P:=by(first|(((with_reducible apply WO.Ry);exact aC;exact eC;assumption;(intro s hr hm;exact aba s _ _ _ _ _ _ aL ag ag hr hm);intro _ _ alH alI akp abb _ _;obtain⟨alJ,rfl,alK⟩:=abb);all_goals(rcases _ with h;exact h))|fail)):P:=h
theorem rD (h:P:=by(first|(((with_reducible apply WO.XF);exact aC;exact λs hr=>TO s _ _ aL hr;exact acL;intro _ _ aia _ _);all_goals(rcases _ with h;exact h))|fail)):P:=h
theorem Ee (h:P:=by(first|(((with_reducible apply WO.vW);exact aC;(intro s hr;exact Az s hr);exact uq;intros);all_goals(rcases _ with h;exact h))|fail)):P:=h
theorem XG (h:P:=by(first|(((with_reducible apply WO.mq);exact aC;exact λs hr=>Mh s hr;exact eF;intros);all_goals(rcases _ with h;exact h))|fail)):P:=h
theorem Rz (h:P:=by(first|(((with_reducible apply WO.JB);exact aC;exact λs hr=>Cc _ _ s hr;exact cb;intro _ _ agw agx _ _);all_goals(rcases _ with h;exact h))|fail)):P:=h
theorem BL (h:P:=by(first|(((with_reducible apply WO.vW);exact aC;(intro s hr;(first|exact Xy s hr|exact Rh s hr));exact uq;intros);all_goals(rcases _ with h;exact h))|fail)):P:=h
theorem zr (h:P:=by(first|(((with_reducible apply WO.aV);exact aC;exact λs=>CE s;intros);all_goals(rcases _ with h;exact h))|fail)):P:=h
theorem RA (h:P:=by(first|(((with_reducible apply WO.vW);exact aC;(intro s hr;(first|exact rS s hr|exact aib s hr));exact uq;intros);all_goals(rcases _ with h;exact h))|fail)):P:=h
theorem XH (h:P:=by(first|(((with_reducible apply WO.Mb);exact aC;(intro s hr;(first|exact Wu s hr|exact hef s hr));exact uq;intro _ _ AU AV _ _);all_goals(rcases _ with h;exact h))|fail)):P:=h
theorem ac5 (h:P:=by(first|(((with_reducible apply WO.XA);exact aC;(intro v s hr hm;(first|exact nY _ _ _ s hr hm|exact Oq _ _ _ s hr hm|exact SS _ _ _ s hr hm));exact eC;exact cb;intro _ _ ju _ _);all_goals(rcases _ with h;exact h))|fail)):P:=h
theorem aic (h:P:=by(first|(((with_reducible apply WO.AT);exact aC;(intro v s;exact mG _ _ s);exact eC;intro _ _ xa _ _);all_goals(rcases _ with h;exact h))|fail)):P:=h
theorem XI (h:P:=by(first|(((with_reducible apply WO.AT);exact aC;(intro v s;exact mG _ _ s);exact eC;intro _ _ Gh _ _);all_goals(rcases _ with h;exact h))|fail)):P:=h
theorem XJ (h:P:=by(first|(((with_reducible apply WO.AT);exact aC;(intro v s;exact mG _ _ s);exact eC;intro _ _ Gi _ _);all_goals(rcases _ with h;exact h))|fail)):P:=h
theorem XK (h:P:=by(first|(((with_reducible apply WO.AT);exact aC;(intro v s;exact mG _ _ s);exact eC;intro _ _ Gj _ _);all_goals(rcases _ with h;exact h))|fail)):P:=h
theorem XL (h:P:=by(first|(((with_reducible apply WO.AT);exact aC;(intro v s;exact mG _ _ s);exact eC;intro _ _ Ci _ _);all_goals(rcases _ with h;exact h))|fail)):P:=h
theorem ac6 (h:P:=by(first|(((with_reducible apply WO.Ry);exact aC;exact eC;assumption;(intro s hr hm;exact aid s _ _ _ _ _ aL ag hr hm);intro _ _ anu anv alL aeU _ _;obtain⟨Ef,rfl,XM⟩:=aeU);all_goals(rcases _ with h;exact h))|fail)):P:=h
theorem qG (h:P:=by(first|(((with_reducible apply WO.gM);exact aC;(intro s hr;exact kC s hr);exact fZ;intros);all_goals(rcases _ with h;exact h))|fail)):P:=h
theorem xb (h:P:=by(first|(((with_reducible apply WO.aV);exact aC;exact λs=>Mi s _ ag;intros);all_goals(rcases _ with h;exact h))|fail)):P:=h
theorem XN (h:P:=by(first|(((with_reducible apply WO.gM);exact aC;(intro s hr;exact Eg s _ _ _ _ _ aL _ hr);exact fZ;intros);all_goals(rcases _ with h;exact h))|fail)):P:=h
theorem ac7 (h:P:=by(first|(((with_reducible apply WO.gM);exact aC;(intro s hr;exact lg s _ _ _ _ _ aL _ hr);exact fZ;intros);all_goals(rcases _ with h;exact h))|fail)):P:=h
theorem Mj (h:P:=by(first|(((with_reducible apply WO.gM);exact aC;(intro s hr;exact JG s _ _ _ _ _ aL _ hr);exact fZ;intros);all_goals(rcases _ with h;exact h))|fail)):P:=h
theorem ac8 (h:P:=by(first|(((with_reducible apply WO.gM);exact aC;(intro s hr;exact JH s _ _ _ _ _ aL hr);exact fZ;intros);all_goals(rcases _ with h;exact h))|fail)):P:=h
theorem HE (h:P:=by(first|(((with_reducible apply WO.aie);exact gT;exact gT;intro _);all_goals(rcases _ with h;exact h))|fail)):P:=h
theorem XO (h:P:=by(first|(((with_reducible apply WO.gM);exact aC;(intro s hr;exact rE s _ _ _ _ _ aL _ hr);exact fZ;intros);all_goals(rcases _ with h;exact h))|fail)):P:=h
theorem xc (h:P:=by(first|(((with_reducible apply WO.gM);exact aC;(intro s hr;exact XP s _ _ _ _ _ aL _ hr);exact fZ;intros);all_goals(rcases _ with h;exact h))|fail)):P:=h
theorem aif (h:P:=by(first|(((with_reducible apply WO.rW);exact aC;(intro s hr;exact kC s _ hr);(exact vk.mk cb cb cb);intros);all_goals(rcases _ with h;exact h))|fail)):P:=h
theorem XQ (h:P:=by(first|(((with_reducible apply WO.alM);exact gT;exact gT;intro _);all_goals(rcases _ with h;exact h))|fail)):P:=h
theorem aih (h:P:=by(first|(((with_reducible apply WO.aew);exact gT;exact gT;exact oh;intro _);all_goals(rcases _ with h;exact h))|fail)):P:=h
theorem aii (h:P:=by(first|(((with_reducible apply WO.aV);exact aC;exact λs=>Eh s _ ag aL;intros);all_goals(rcases _ with h;exact h))|fail)):P:=h
theorem aij (h:P:=by(first|(((with_reducible apply WO.aev);exact gT;exact gT;exact oh;intro _);all_goals(rcases _ with h;exact h))|fail)):P:=h
theorem aik (h:P:=by(first|(((with_reducible apply WO.ahB);exact gT;exact gT;exact gT;exact xS;intro _);all_goals(rcases _ with h;exact h))|fail)):P:=h
theorem ail (h:P:=by(first|(((with_reducible apply WO.aeu);exact gT;exact gT;exact oh;intro _);all_goals(rcases _ with h;exact h))|fail)):P:=h
theorem aim (h:P:=by(first|(((with_reducible apply WO.ahA);exact gT;exact gT;exact gT;exact xS;intro _);all_goals(rcases _ with h;exact h))|fail)):P:=h
theorem ain (h:P:=by(first|(((with_reducible apply WO.ahC);exact gT;exact gT;exact gT;exact xS;intro _);all_goals(rcases _ with h;exact h))|fail)):P:=h
theorem Mk (h:P:=by(first|(((with_reducible apply WO.aV);exact aC;(exact mG);intros);all_goals(rcases _ with h;exact h))|fail)):P:=h
theorem ac9 (h:P:=by(first|(((with_reducible apply WO.rW);exact aC;(intro s hr;exact Lp s hr);(exact vk.mk cb cb cb);intros);all_goals(rcases _ with h;exact h))|fail)):P:=h
theorem HF (h:P:=by(first|(((with_reducible apply WO.gM);exact aC;(intro s hr;exact uu s hr);exact fZ;intros);all_goals(rcases _ with h;exact h))|fail)):P:=h
theorem RB (h:P:=by(first|(((with_reducible apply WO.gM);exact aC;(intro s hr;exact BM s _ _ _ _ _ aL _ aL hr);exact fZ;intros);all_goals(rcases _ with h;exact h))|fail)):P:=h
theorem XR (h:P:=by(first|(((with_reducible apply WO.XS);exact aC;(intro s hr;exact Pv s _ _ _ _ _ _ aL _ aL _ hr);exact cb;exact cb;intro _ _ anw anx _ _);all_goals(rcases _ with h;exact h))|fail)):P:=h
theorem aio (h:P:=by(first|(((with_reducible apply WO.gM);exact aC;(intro s hr;exact TP s hr);exact fZ;intros);all_goals(rcases _ with h;exact h))|fail)):P:=h
theorem aip (h:P:=by(first|(((with_reducible apply WO.XS);exact aC;(intro s hr;exact Ml s _ _ _ _ _ _ aL _ aL hr);exact cb;exact cb;intro _ _ alN alO _ _);all_goals(rcases _ with h;exact h))|fail)):P:=h
theorem aiq (h:P:=by(first|(((with_reducible apply WO.Tt);exact gT;exact gT;exact aaQ;exact cb;exact mH;intro _ _ anO anP _ _ _);all_goals(rcases _ with h;exact h))|fail)):P:=h
theorem Mm (h:P:=by(first|(((with_reducible apply WO.gM);exact aC;(intro s hr;exact Pw s hr);exact fZ;intros);all_goals(rcases _ with h;exact h))|fail)):P:=h
theorem XT (h:P:=by(first|(((with_reducible apply WO.gM);exact aC;(intro s hr;exact Az s hr);exact fZ;intros);all_goals(rcases _ with h;exact h))|fail)):P:=h
theorem ais (h:P:=by(first|(((with_reducible apply WO.aoZ);exact aC;(intro s;exact je s);exact eC;intro _ _ alP alQ ait aiu _ _);all_goals(rcases _ with h;exact h))|fail)):P:=h
theorem ada (h:P:=by(first|(((with_reducible apply WO.Px);exact aC;(intro s h1 h2;exact Ej s _ _ _ _ _ _ ag ag h1 h2);exact cb;exact cb;intro _ _ aiy aiz aiA aiB _ _);all_goals(rcases _ with h;exact h))|fail)):P:=h
theorem RC (h:P:=by(first|(((with_reducible apply WO.aeW);exact aC;(intro s h1 h2 h3 h4;exact Ly s _ _ _ _ _ _ _ _ h1 h2 h3 h4);exact cb;exact cb;exact cb;exact cb;intros);all_goals(rcases _ with h;exact h))|fail)):P:=h
theorem cR (h:P:=by(first|((repeat' (first|refine' aW|refine' av|fail));all_goals(rcases _ with h;exact h))|fail)):P:=h
theorem zb2 (h:P:=by(first|((repeat' (first|refine' aW|refine' Ow|refine' av|fail));all_goals(rcases _ with h;exact h))|fail)):P:=h
theorem aiN (h:P:=by(first|((repeat' (first|refine' aW|((with_reducible apply WO.aV);exact aC;exact λs=>abc s _ _ _;intros)|refine' av|fail));all_goals(rcases _ with h;exact h))|fail)):P:=h
theorem Cj (h:P:=by(first|((repeat' (first|refine' aW|refine' Hq|refine' av|fail));all_goals(rcases _ with h;exact h))|fail)):P:=h
theorem XZ (h:P:=by(first|((repeat' (first|refine' aW|refine' aeJ|refine' av|fail));all_goals(rcases _ with h;exact h))|fail)):P:=h
theorem abd (h:P:=by(first|((repeat' (first|refine' aW|refine' Xj|refine' Xk|refine' zh|refine' zg|refine' q9|refine' av|fail));all_goals(rcases _ with h;exact h))|fail)):P:=h
theorem abe (h:P:=by(first|((repeat' (first|refine' aW|refine' Xj|refine' Xk|refine' zh|refine' zg|refine' q9|refine' L5|refine' av|fail));all_goals(rcases _ with h;exact h))|fail)):P:=h
theorem aiO (h:P:=by(first|((repeat' (first|refine' aW|refine' Xj|refine' Xk|refine' zh|refine' zg|refine' q9|refine' L5|refine' aa2|refine' uA|refine' alz|refine' av|fail));all_goals(rcases _ with h;exact h))|fail)):P:=h
theorem X0 (h:P:=by(first|((repeat' (first|refine' aW|refine' zg|refine' q9|refine' zh|refine' uA|refine' L5|refine' av|fail));all_goals(rcases _ with h;exact h))|fail)):P:=h
theorem X1 (h:P:=by(first|((repeat' (first|refine' aW|refine' zg|refine' q9|refine' zh|refine' uA|refine' L5|refine' Xk|refine' Xj|refine' ahV|refine' av|fail));all_goals(rcases _ with h;exact h))|fail)):P:=h
theorem aeX (h:P:=by(first|((repeat' (first|refine' aW|refine' zg|refine' q9|refine' zh|refine' uA|refine' L5|refine' Xk|refine' Xj|refine' ahV|refine' aa2|refine' av|fail));all_goals(rcases _ with h;exact h))|fail)):P:=h
theorem abf (h:P:=by(first|((repeat' (first|refine' aW|refine' uA|refine' alA|refine' av|fail));all_goals(rcases _ with h;exact h))|fail)):P:=h
theorem aiP (h:P:=by(first|((repeat' (first|refine' aW|((with_reducible apply WO.aeY);exact gT;exact gT;exact oh;exact mH;intro _ a_s c_s an5)|((with_reducible apply WO.aeZ);exact gT;assumption;exact xS;exact mH;intro _)|((with_reducible apply WO.X2);exact gT;exact gT;exact oh;exact mH;intro _)|refine' av|fail));all_goals(rcases _ with h;exact h))|fail)):P:=h
theorem HG (h:P:=by(first|((repeat' (first|refine' aW|refine' HA|refine' Ru|refine' Xr|refine' av|fail));all_goals(rcases _ with h;exact h))|fail)):P:=h
theorem ade (h:P:=by(first|((repeat' (first|refine' aW|((with_reducible apply WO.aiQ);exact aC;exact λs=>hg s;exact eC;intros)|refine' av|fail));all_goals(rcases _ with h;exact h))|fail)):P:=h
theorem X3 (h:P:=by(first|((repeat' (first|refine' aW|refine' Xt|refine' acW|refine' Hq|refine' aeF|refine' ahZ|refine' av|fail));all_goals(rcases _ with h;exact h))|fail)):P:=h
theorem X4 (h:P:=by(first|((repeat' (first|refine' aW|refine' DX|refine' AP|refine' D5|refine' av|fail));all_goals(rcases _ with h;exact h))|fail)):P:=h
theorem adf (h:P:=by(first|((repeat' (first|refine' aW|((with_reducible apply WO.rU);exact aC;exact λs=>hR s;intro _ _ adg adh _ _)|refine' av|fail));all_goals(rcases _ with h;exact h))|fail)):P:=h
theorem X5 (h:P:=by(first|((repeat' (first|refine' aW|refine' acY|refine' ah4|refine' ah6|refine' av|fail));all_goals(rcases _ with h;exact h))|fail)):P:=h
theorem RD (h:P:=by(first|((repeat' (first|refine' aW|refine' uv|refine' zq|refine' av|fail));all_goals(rcases _ with h;exact h))|fail)):P:=h
theorem HH (h:P:=by(first|((repeat' (first|refine' aW|refine' rD|refine' aic|refine' av|fail));all_goals(rcases _ with h;exact h))|fail)):P:=h
theorem HI (h:P:=by(first|((repeat' (first|refine' aW|refine' qG|refine' av|fail));all_goals(rcases _ with h;exact h))|fail)):P:=h
theorem sM (h:P:=by(first|((repeat' (first|refine' aW|refine' aif|refine' XQ|refine' ahU|refine' ahS|refine' aih|refine' aii|refine' aij|refine' aik|refine' ail|refine' aim|refine' aaX|refine' ain|refine' ahT|refine' av|fail));all_goals(rcases _ with h;exact h))|fail)):P:=h
theorem BN (h:P:=by(first|((repeat' (first|refine' aW|refine' TI|refine' Xn|refine' av|fail));all_goals(rcases _ with h;exact h))|fail)):P:=h
theorem Mn (h:P:=by(first|((repeat' (first|refine' aW|refine' qG|refine' aio|refine' L6|refine' Rs|refine' av|fail));all_goals(rcases _ with h;exact h))|fail)):P:=h
theorem adi (h:P:=by(first|((repeat' (first|refine' aW|refine' qG|refine' xc|refine' aip|((with_reducible apply WO.gM);exact aC;(intro s hr;exact hmy s _ _ hr);exact fZ;intros)|((with_reducible apply WO.gM);exact aC;(intro s hr;exact TP s _ _ hr);exact fZ;intros)|((with_reducible apply WO.aeq);exact gT;exact gT;exact oh;exact mH;intro _)|refine' aiq|refine' av|fail));all_goals(rcases _ with h;exact h))|fail)):P:=h
theorem HJ (h:P:=by(first|((repeat' (first|refine' aW|refine' XR|refine' TI|refine' Xn|refine' av|fail));all_goals(rcases _ with h;exact h))|fail)):P:=h
theorem Mo (h:P:=by(first|((repeat' (first|refine' aW|refine' ais|refine' av|fail));all_goals(rcases _ with h;exact h))|fail)):P:=h
variable {f i:Nat}
theorem JI {a b:UInt8}:(a.toNat:Int)=b.toNat↔a=b:=by rw[Int.ofNat_inj,uJ]
theorem Py (c:UInt8)(p q:az)(h:c∉p):cut c (p++c::q)=p::cut c q:=by
 induction p with
 |nil=>simp[cut]
 |cons x p ih=>
  simp at h;rw[yv,cut,if_neg (λe=>h.1 e.symm),ih h.2]
theorem vm (c:UInt8)(p:az)(h:c∉p):cut c p=[p]:=by
 induction p with
 |nil=>simp[cut]
 |cons x p ih=>
  simp at h;rw[cut,if_neg (λe=>h.1 e.symm),ih h.2]
theorem TQ (z:az)(h1:f<=i)(h2:i<z.length):(z.drop f).take (i+1-f)=(z.drop f).take (i-f)++[z.getD i 0]:=by
 have:i+1-f=(i-f)+1:=by omega
 rw[this,uO]
 congr 1
 rw[wQ,show f+(i-f)=i by omega,aZ,bd h2];rfl
theorem abg (z:az)(h1:f<=i)(h2:i<z.length):z.drop f=(z.drop f).take (i-f)++z.getD i 0::z.drop (i+1):=by
 conv=>lhs;rw[<-yD (i-f) (z.drop f)]
 congr 1
 rw[mu,show f+(i-f)=i by omega,ui h2,aZ,bd h2];rfl
theorem vi (s:St)(z:az)(c:UInt8)(hz:z.length<=100000):BH 139 [sv z,bv c] s [] [] λv L=>∃a k,v= .slice a (cut c z).length k/\L=[.aQ v 9 1 (ai (cut c z))]:=by
 refine aT f139 ?_;(repeat(first|refine' xT|refine' av|fail))
 refine W.loop (λk l L=>∃(i fr:Nat)(a:aM)(cp:Nat)(done:List az),Le [(0,sv z),(1,bv c),(5,.slice a done.length cp),(6,iv fr),(7,iv i)] l/\cC [.aQ (.slice a done.length cp) 9 1 (ai done)] L/\
  k=z.length-i/\fr<=i/\i<=z.length/\done.length<=i/\cut c z=done++cut c (z.drop fr)/\c∉(z.drop fr).take (i-fr)) z.length ⟨0,0,_,_,[],bj,ar,ag,ag,ag,mH,ay,ay⟩ ?_
 rintro k l L ⟨i,fr,a,cp,done,hl,hL,rfl,h1,h2,h4,h5,h6⟩;refine W.le ?_ hl hL;clear hl hL;(repeat(first|refine' xT|refine' av|fail));refine W.cond gT ?_ ?_<;>intro h<;>simp only[bQ,mg,jf,wS,GI,OB,IX] at h
 ·(repeat(first|refine' xT|refine' av|fail))
  refine W.cond gT ?_ ?_<;>intro hc<;>simp only[bQ,mg,jf,wS,GI,OB,IX] at hc<;>rw[JI] at hc
  ·(repeat(first|refine' xT|refine' av|fail))
   refine⟨_,?_,i+1,i+1,_,_,done++[(z.drop fr).take (i-fr)],bj,ar,rfl,ag,ag,by simp;omega,?_,ay⟩
   .omega
   .have h9:=Py c _ (z.drop (i+1)) h6;rw[<-hc,<-abg z h1 ag,hc] at h9;rw[h5,h9];simp
  ·(repeat(first|refine' xT|refine' av|fail))
   refine⟨_,?_,i+1,fr,_,_,done,bj,ar,rfl,ag,ag,ag,h5,?_⟩
   .omega
   .rw[TQ z h1 ag];simp[h6];exact λe=>hc e.symm
 ·(repeat(first|refine' xT|refine' av|fail))
  have hi:i=z.length:=by omega
  subst hi;have h7:cut c z=done++[z.drop fr]:=by
   rw[h5,vm]
   rwa [qW ay] at h6
  rw[h7];refine⟨bG,_,[.aQ _ 9 1 _],.tmp rfl .nil,ar,_,_,rfl,rfl⟩
theorem xW (a b c d e a' b' c' d' e':Int):fQ [iv a,iv b,iv c,iv d,iv e] [iv a',iv b',iv c',iv d',iv e']=some (decide (a=a'/\b=b'/\c=c'/\d=d'/\e=e')):=by
 simp only[lB,uW,lS,cu,jN,dW]
 congr 1
 rw[po];simp
theorem aaT (s:St)(n a b:Int):bF 57 [iv n,iv a,iv b] s [] (.bool (fV n a b)):=by refine aT f57 ?_;(refine' cR)<;>(refine' ax)<;>(first|(simp_all [gL,fV];done)|(simp_all [gL,fV];omega))
theorem Xf (s:St)(n:Int):bF 190 [iv n] s [] (.bool (Te n)):=by refine aT f190 ?_;(refine' zb2)<;>(refine' ax)<;>simp_all [gL,Te]
theorem Pz (s:St)(z:az):bF 262 [sv z] s [] (.bool (Ju z)):=by refine aT f262 ?_;(refine' zb2)<;>(refine' ax)<;>(simp only[gL,Ju,fV];congr 1;rw[po];simp;omega)
theorem xU (s:St)(p:jF):bF 150 [pv p] s [] (.bool (aI p)):=by
 refine aT f150 ?_;refine' cR;apply WO.ahp
 .exact Ev.tmp rfl
 .exact Ev.tmp rfl
 .rfl
 .exact xW _ _ _ _ _ _ _ _ _ _
 intro _;refine' cR;refine' ax;simp only[gL,aI,bA]
 congr 1
 obtain⟨a,b,c,d,e⟩:=p;simp
theorem LW (s:St)(p:jF):bF 149 [pv p] s [] (.bool (bC p)):=by refine aT f149 ?_;(repeat' (first|refine' aW|((with_reducible apply WO.aV);exact aC;exact λs=>xU s ⟨_,_,_,_,_⟩;intros)|refine' zc3|refine' Ow|refine' av|fail))<;>(refine' ax)<;>simp_all [gL,bC]
theorem Pn (s:St)(n:Int):bF 206 [iv n] s [] (iv (cQ n)):=by refine aT f206 ?_;(refine' cR)<;>(refine' ax)<;>simp_all [gL,cQ]<;>omega
theorem PA (s:St)(n:Int):bF 249 [iv n] s [] (iv (fy n)):=by refine aT f249 ?_;(refine' cR)<;>(refine' ax)<;>simp_all [gL,fy]<;>omega
theorem Ps (s:St)(n:Int)(k:Nat)(hn:0<=n/\n<=10000)(hk:k<=10000):bF 124 [iv n,iv (k:Nat)] s [] (iv (gu n k)):=by refine aT f124 ?_;(refine' cR)<;>(refine' ax)<;>simp_all [gL,gu]<;>omega
variable {k:Nat}
theorem zt (s:St)(n e:Int)(hn:0<=n/\n<=1000000)(he:0<e/\e<=1000000):bF 205 [iv n,iv e] s [] (iv (dx n e)):=by have h1:(n+e-1).tdiv e=(n+e-1)/ e:=VD ag;have h2:0<=(n+e-1)/ e:=Int.ediv_nonneg ag ag;have h3:(n+e-1)/ e<=n+e-1:=Int.ediv_le_self _ ag;refine aT f205 ?_;(repeat(first|refine' xT|refine' av|fail));refine' ax;simp[gL,dx,h1]
theorem Gk (s:St)(k n:Int):bF 210 [iv k,iv n] s [] (iv (fA k n)):=by
 have he:fy k=0\/fy k=12\/fy k=128:=by unfold fy;split<;>(try split)<;>simp
 refine aT f210 ?_;(repeat' (first|refine' aW|((with_reducible apply WO.aV);exact aC;exact λs=>PA s _;intros)|refine' Ow|((with_reducible apply WO.aV);exact aC;exact λs=>zt s _ _ ag ag;intros)|refine' av|fail))<;>(refine' ax)<;>simp_all [gL,fA,fV]<;>omega
def PB (c:UInt8):Bool:=decide (97<=c.toNat)&&decide (c.toNat<=122)
theorem Ek (p:UInt8->Bool)(z:az)(h:i<z.length):(z.take (i+1)).all p=((z.take i).all p&&p (z.getD i 0)):=by rw[uO,bd h,GJ,aZ,bd h];simp
theorem ae0 (p:UInt8->Bool)(z:az)(h:i<z.length)(hp:p (z.getD i 0)=false):z.all p=false:=by rw[GK];exact⟨z.getD i 0,by rw[aZ,bd h];simp,by simpa using hp⟩
theorem Ty (s:St)(z:az)(hz:z.length<=100000):bF 53 [sv z] s [] (.bool (aU z)):=by
 refine aT f53 ?_;(repeat(first|refine' xT|refine' av|fail));refine W.loop (λk l L=>∃(i:Nat),Le [(0,sv z),(3,iv i)] l/\cC [] L/\k=z.length-i/\i<=z.length/\(z.take i).all PB=true) z.length ⟨0,bj,ar,ag,ag,ay⟩ ?_;rintro k l L ⟨i,hl,hL,rfl,h1,h2⟩;refine W.le ?_ hl hL;clear hl hL;(repeat(first|refine' xT|refine' av|fail));refine W.cond gT ?_ ?_<;>intro h<;>simp only[bQ,mg,jf,wS,GI,OB,IX] at h
 ·(refine' cR)
  rotate_left 1
  .refine⟨_,?_,i+1,bj,ar,rfl,ag,?_⟩
   .omega
   .rw[Ek _ _ ag,h2];simp only[PB];simp_all;omega
  all_goals
   refine' ax;(have:PB (z.getD i 0)=false:=by simp only[PB];simp_all;omega);have:=ae0 PB z ag this;unfold PB at this;simp[gL,aU];intro h3;rw[GK] at this;obtain⟨x,hx,h4⟩:=this;exact absurd (h3 x hx) (by simpa using h4)
 ·(repeat(first|refine' xT|refine' Ow|refine' av|fail))
  refine' ax;have hi:i=z.length:=by omega
  subst hi;rw[gY] at h2;unfold PB at h2;simp only[gL,aU,h2,fV]
  congr 1;rw[po];simp;omega
theorem abh (z:az)(hk:k<=9)(hl:k<=z.length)(ha:(z.take k).all kU=true)(hs:k=9\/k=z.length\/kU (z.getD k 0)=false):tI z=z.take k:=by
 unfold tI;rw[gA] at ha;have h1:z.take 9=z.take k++(z.take 9).drop k:=by
  conv=>lhs;rw[<-yD k (z.take 9)]
  rw[OC,As hk]
 rw[h1,List.takeWhile_append_of_pos (λa h=>ha a h)];have h2:((z.take 9).drop k).takeWhile kU=[]:=by
  rcases hs with rfl|rfl|hs
  .rw[yE (by simp;omega)];rfl
  .rw[yE (by simp;omega)];rfl
  .rcases lA k z.length with h|h
   .rcases lA k 9 with h9|h9
    .rw[ui (by simp;omega),List.takeWhile_cons_of_neg];rw[aZ,bd h] at hs;simpa using hs
    .rw[yE (by simp;omega)];simp
   .rw[yE (by simp;omega)];simp
 rw[h2,gg]
theorem El (z:az)(h:k<z.length):numOf (z.take (k+1))=10*numOf (z.take k)+((z.getD k 0).toNat-48):=by unfold numOf;rw[uO,List.foldl_append,bd h,aZ,bd h];rfl
theorem Mp (s:St)(z:az)(hz:z.length<=100000):bF 213 [sv z] s [] (.tuple ⟨[iv (kV z).1,iv (kV z).2]⟩):=by
 refine aT f213 ?_;(repeat(first|refine' xT|refine' av|fail))
 refine W.bN (λk l L=>∃(i n:Nat),Le [(0,sv z),(4,iv n),(5,iv i)] l/\cC [] L/\k=9-i/\i<=z.length/\i<=9/\(z.take i).all kU=true/\n=numOf (z.take i)/\n<10^ i)
  (λl L=>Le [(0,sv z),(4,iv (numOf (tI z))),(5,iv (tI z).length)] l/\cC [] L) 9 ⟨0,0,bj,ar,ag,ag,ag,ay,by simp[numOf],ay⟩ ?_ ?_
 .rintro k l L ⟨i,n,hl,hL,rfl,h1,h2,h3,h4,h5⟩;refine W.le ?_ hl hL;clear hl hL;have h6:n<1000000000:=xn h5 (Nat.pow_le_pow_right ag h2);have h7:=(z.getD i 0).toNat_lt;refine' cR
  .have hd:kU (z.getD i 0)=true:=by simp only[kU,bO,bQ];omega
   refine⟨_,?_,i+1,10*n+((z.getD i 0).toNat-48),?_,ar,rfl,ag,ag,?_,?_,?_⟩
   .omega
   .have:(((10*n+((z.getD i 0).toNat-48):Nat):Int))=10*(n:Int)+((z.getD i 0).toNat-48:Int):=by omega
    rw[this];exact bj
   .rw[Ek _ _ ag,h3,hd];rfl
   .rw[El _ ag,h4]
   .rw[Vy];omega
  all_goals
   have hs:i=9\/i=z.length\/kU (z.getD i 0)=false:=by
    simp only[kU,An,mg,bQ] at *;omega
   have hk:=abh z h2 h1 h3 hs;(have Aj:(tI z).length=i:=by rw[hk,cW];omega);rw[Aj,hk,<-h4];exact⟨bj,ar⟩
 .rintro l L ⟨hl,hL⟩;refine aq ?_;refine W.le ?_ hl hL;have h8:(tI z).length<=z.length:=by
   unfold tI;exact gK (List.takeWhile_sublist _).length_le (by simp;omega)
  have h9:∀n,1<n->n<=z.length->z.headD 0=z.getD 0 0:=λn _ _=>by cases z<;>rfl
  (refine' cR)<;>(refine' ax)<;>simp only[gL,kV]
  .rw[if_pos ⟨ag,by rw[h9 (tI z).length ag ag];rw[<-uJ];show _=48;omega⟩];rfl
  .rw[if_neg];rintro⟨FM,Z8⟩;rw[h9 _ FM ag] at Z8;rw[Z8] at j8;exact j8 rfl
  .rw[if_neg];omega
theorem RE (z:az):(tI z).length<=z.length/\(tI z).length<=9:=by unfold tI;have h:=(List.takeWhile_sublist kU (l:=z.take 9)).length_le;rw[cW] at h;omega
theorem abi (z:az):(kV z).2<=9/\((kV z).2<=z.length):=by have:=RE z;unfold kV;dsimp only;split<;>dsimp only<;>omega
def aiR (z:az):Value:=.tuple ⟨[iv (qZ z),.bool (iR z).isSome]⟩
theorem AW (s:St)(z:az)(hz:z.length<=100000):bF 177 [sv z] s [] (aiR z):=by refine aT f177 ?_;(repeat' (first|refine' aW|((with_reducible apply WO.aV);exact aC;exact λs=>Mp s _ ag;intros)|refine' av|fail))<;>(refine' ax)<;>simp only[gL,aiR,qZ,iR]<;>first|(rw[if_pos ag];rfl)|(rw[if_neg ag];rfl)
theorem PC (z:az){i:Nat}(h:i<z.length)(a b:Nat):Lz (z.drop i) a b=Lz (z.drop (i+1)) ((a+(z.getD i 0).toNat+1)% 9973) ((b+(a+(z.getD i 0).toNat+1)% 9973)% 9973):=by rw[ui h,aZ,bd h];rfl
theorem Mq (s:St)(z:az)(hz:z.length<=100000):bF 250 [sv z] s [] (iv (sumOf z:Nat)):=by
 refine aT f250 ?_;(repeat(first|refine' xT|refine' av|fail))
 refine W.bN (λk l L=>∃(i a b:Nat),Le [(0,sv z),(3,iv a),(4,iv b),(5,iv i)] l/\cC [] L/\k=z.length-i/\i<=z.length/\a<9973/\b<9973/\Lz (z.drop i) a b=sumOf z)
  (λl L=>∃(a b:Nat),Le [(3,iv a),(4,iv b)] l/\cC [] L/\a<9973/\b<9973/\a*9973+b=sumOf z) z.length ⟨0,1,0,bj,ar,ag,ag,ag,ag,by simp[sumOf]⟩ ?_ ?_
 .rintro k l L ⟨i,a,b,hl,hL,rfl,h1,h2,h3,h4⟩;refine W.le ?_ hl hL;clear hl hL;have h7:=(z.getD i 0).toNat_lt;have h8:((a:Int)+(z.getD i 0).toNat+1).tmod 9973=(((a+(z.getD i 0).toNat+1)% 9973:Nat):Int):=rfl;have h9:((a+(z.getD i 0).toNat+1)% 9973)<9973:=SE _ ag;refine' cR
  .refine⟨_,?_,i+1,(a+(z.getD i 0).toNat+1)% 9973,(b+(a+(z.getD i 0).toNat+1)% 9973)% 9973,bj,ar,rfl,ag,h9,SE _ ag,?_⟩
   .omega
   .exact(PC z ag a b).symm.trans h4
  .have hi:i=z.length:=by omega
   subst hi;refine⟨a,b,bj,ar,h2,h3,?_⟩;rw[<-h4,iI];rfl
 .rintro l L ⟨a,b,hl,hL,h1,h2,h3⟩;refine aq ?_;refine W.le ?_ hl hL;refine' cR
  refine' ax;rw[<-h3];rfl
theorem gv (n:Nat):∀k,n<10^ (k+1)->(gW n).length<=k+1:=by
 induction n using Nat.strongRecOn with
 |ind n ih=>
  intro k hk;unfold gW;split
  .simp
  .cases k with
   |zero=>simp at hk;omega
   |succ k=>
    have:=ih (n/ 10) ag k (by rw[Vy] at hk;omega);simp;omega
theorem RF (n:Nat)(h:n<10000000000):(gW n).length<=10:=gv n 9 h
theorem X6 (s:St)(n:Nat)(hn:n<10000000000):bF 195 [iv (n:Int)] s [] (sv (gW n)):=by
 induction n using Nat.strongRecOn generalizing s with
 |ind n ih=>
  have h1:((n:Int).tdiv 10)=((n/ 10:Nat):Int):=rfl;have h2:((n:Int).tmod 10)=((n% 10:Nat):Int):=rfl;have hd:=RF (n/ 10) ag;refine aT f195 ?_;(repeat' (first|refine' aW|((with_reducible apply WO.aV);exact aC;exact λs=>ih (n/ 10) ag s ag;intros)|refine' av|fail))
  ·(refine' ax)
   rw[gW,dif_pos ag,show((48:Int)+n).toNat=48+n by omega];rfl
  ·(refine' ax)
   conv=>rhs;rw[gW,dif_neg ag]
   simp only[gL];(have:((48:Int)+((n:Int).tmod 10)).toNat=48+n% 10:=by rw[h2];omega);rw[this]
  all_goals omega
theorem Tx (s:St)(n:Int)(hn:0<=n/\n<10000000000):bF 195 [iv n] s [] (sv (dec n)):=by obtain⟨m,rfl⟩:=wT hn.1;exact X6 s m ag
theorem om (n:Int)(h:0<=n/\n<10000000000):(dec n).length<=10:=by obtain⟨m,rfl⟩:=wT h.1;exact RF m ag
theorem DV (s:St)(p:jF)(z:az)(hz:z.length<=100000):bF 212 [pv p,sv z] s [] (.bool (fits p z)):=by refine aT f212 ?_;(repeat' (first|refine' aW|refine' Tw|refine' Hq|((with_reducible apply WO.aV);exact aC;exact λs=>Mq s _ ag;intros)|refine' av|fail))<;>(refine' ax)<;>simp_all [gL,fits]
theorem Mr {p:jF}(h:bC p=true):(0<=p.row/\p.row<=63)/\(0<=p.dt/\p.dt<=900)/\(0<=p.size/\p.size<=128)/\(0<=p.sum/\p.sum<=99460728)/\(0<=p.level/\p.level<=2):=by
 simp only[bC,aI,Te,fV,mf,bO,bQ,bA] at h;rcases h with h|h
 .have h:=Bj h;subst h;simp
 .omega
theorem Hr (s:St)(p:jF):bF 196 [pv p] s [] (sv (eM p)):=by
 by_cases hp:bC p=true
 .have hb:=Mr hp;have d1:=om p.row ag;have d2:=om p.dt ag;have d3:=om p.size ag;have d4:=om p.sum ag;have d5:=om p.level ag;refine aT f196 ?_;repeat' (first|refine' aW|refine' Tw|refine' Hq|refine' aaU|refine' av|fail)
  all_goals first|((refine' ax);simp_all [gL,eM];done)|(exfalso;simp_all;done)
 .refine aT f196 ?_;repeat' (first|refine' aW|refine' Tw|refine' Hq|refine' av|fail)
  all_goals first|((refine' ax);simp_all [gL,eM];done)|(exfalso;simp_all;done)
variable {s:az}
theorem tf {b:Bool}(h:b=true)(k:b=false):False:=by rw[h] at k;cases k
def uB (o:Option jF):Value:=.tuple ⟨[pv (o.getD bA),.bool o.isSome]⟩
theorem o7 (s:St)(a b c:Int)(z:az)(hz:z.length<=100000):bF 241 [iv a,iv b,iv c,sv z] s [] (uB (sH a b c z)):=by refine aT f241 ?_;(repeat' (first|refine' aW|((with_reducible apply WO.aV);exact aC;exact λs=>Pz s _;intros)|((with_reducible apply WO.aV);exact aC;exact λs=>Mq s _ ag;intros)|refine' Tw|refine' av|fail))<;>(refine' ax)<;>simp_all [gL,sH,uB]<;>rfl
theorem zu (c:UInt8)(z:az):∀w∈cut c z,w.length<=z.length:=by
 induction z with
 |nil=>simp[cut]
 |cons x z ih=>
  intro w hw;unfold cut at hw;split at hw
  .rcases bT.1 hw with rfl|hw
   .simp
   .have:=ih w hw;simp;omega
  .split at hw
   .simp at hw;subst hw;simp
   .rename_i h;rw[h] at ih;rcases bT.1 hw with rfl|hw
    .have:=ih _ gh;simp;omega
    .have:=ih w (jA _ hw);simp;omega
theorem vn (c:UInt8)(z:az):(cut c z).length<=z.length+1:=by
 induction z with
 |nil=>simp[cut]
 |cons x z ih=>
  unfold cut;split
  .simp;omega
  .split
   .simp
   .rename_i h;rw[h] at ih;simp at ih⊢;omega
theorem aK {α:Type}{l:List α}(h:i<l.length)(d:α):l.getD i d∈l:=by rw[aZ,bd h];simp
def Ck (s:az):Option Int:=(iR s).map λn=>(n:Int)
theorem TR (h:(iR s).isSome=false):Ck s=none:=by unfold Ck;cases hn:iR s<;>simp_all
theorem TS (h:(iR s).isSome=true):Ck s=some (qZ s):=by unfold Ck qZ;cases hn:iR s<;>simp_all
theorem TU (z:az):jq z=if z=[45] then some bA else if(cut 46 z).length≠5 then none else match(cut 46 z).mapM Ck with
  |none=>none
  |some q=>
   let p:jF:=⟨q.getD 0 0,q.getD 1 0,q.getD 2 0,q.getD 3 0,q.getD 4 0⟩
   if !bC p||aI p then none else some p:=by
 unfold jq;split
 .rfl
 .split
  .rename_i a b c d e h;rw[h];simp only[cY,lW,Ck,FV,List.mapM_nil];cases iR a<;>cases iR b<;>cases iR c<;>cases iR d<;>cases iR e<;>rfl
  .rename_i h;rw[if_pos];intro h5;rcases hw:cut 46 z with _|⟨a,_|⟨b,_|⟨c,_|⟨d,_|⟨e,_|⟨f,l⟩⟩⟩⟩⟩⟩<;>rw[hw] at h5<;>simp at h5
   exact h a b c d e hw
theorem vX {α β:Type}(f:α->Option β)(l:List α)(d:α)(h:i<l.length):(l.take (i+1)).mapM f=match(l.take i).mapM f with
  |none=>none
  |some q=>match f (l.getD i d) with
   |none=>none
   |some x=>some (q++[x]):=by
 rw[uO,bd h,List.mapM_append,aZ,bd h];simp only[Option.toList,FV,List.mapM_nil,Option.getD];cases (l.take i).mapM f<;>cases f l[i]<;>rfl
theorem mapM_none {α β:Type}(f:α->Option β)(l:List α)(d:α)(h:i<l.length)(hf:f (l.getD i d)=none):l.mapM f=none:=by
 conv=>lhs;rw[<-yD (i+1) l]
 rw[List.mapM_append,vX f l d h,hf];cases (l.take i).mapM f<;>rfl
theorem qH {α β:Type}(f:α->Option β):∀(l:List α)(q:List β),l.mapM f=some q->q.length=l.length
 |[],q,h=>by simp at h;subst h;rfl
 |x::l,q,h=>by
  rw[FV] at h;cases hx:f x with
  |none=>rw[hx] at h;cases h
  |some y=>
   rw[hx] at h;cases hl:l.mapM f with
   |none=>rw[hl] at h;cases h
   |some r=>
    rw[hl] at h;(cases h);simp[qH f l r hl]
theorem HK (s:St)(z:az)(hz:z.length<=100000):bF 178 [sv z] s [] (uB (jq z)):=by
 have hm:=vn 46 z;have hlw:∀i,i<(cut 46 z).length->((cut 46 z).getD i []).length<=100000:=λi hi=>gK (zu 46 z _ (aK hi _)) hz
 rw[TU];refine aT f178 ?_;repeat' (first|refine' aW|refine' Xg|refine' Tw|refine' Hq|refine' av|fail)
 ·(refine' ax);simp[j8,gL,uB];rfl
 ·(refine' ax);rw[if_neg aL,if_pos ag];rfl
 generalize hw:cut 46 z=w at *
 have hw5:w.length=5:=by omega
 refine W.bN (λk l L=>∃(i:Nat)(q:List Int)(a:aM)(c:Nat),Le [(2,bg ba),(4,.slice vT w.length vU),(5,.slice a q.length c),(6,iv i)] l/\cC [.box ba (rV bA) 83 false,.aQ (.slice vT w.length vU) 9 1 (ai w),.aQ (.slice a q.length c) 3 1 (ai q)] L/\k=5-i/\i<=5/\(w.take i).mapM Ck=some q)
  (λl L=>∃(q:List Int)(a:aM)(c:Nat),Le [(2,bg ba),(5,.slice a q.length c)] l/\cC [.box ba (rV bA) 83 false,.aQ (.slice a q.length c) 3 1 (ai q)] L/\w.mapM Ck=some q) 5 ⟨0,[],_,_,bj,ar,ag,ag,ay⟩ ?_ ?_
 .rintro k l L ⟨i,q,a,c,hl,hL,rfl,h1,h2⟩;refine W.le ?_ hl hL;clear hl hL;have hq:=qH _ _ _ h2;rw[cW] at hq;have dG:i<w.length->(w.getD i ak.ah).length<=100000:=hlw i;(repeat' (first|refine' aW|((with_reducible apply WO.aV);exact aC;exact λs=>AW s _ ag;intros)|refine' av|fail))
  ·(refine' ax)
   have hn:Ck (w.getD i [])=none:=TR j8;rw[if_neg aL,if_neg ag,mapM_none Ck w [] ag hn];rfl
  .have hs:=vX Ck w [] (show i<w.length by omega);have hn:Ck (w.getD i [])=some (qZ (w.getD i [])):=TS j8;rw[h2,hn] at hs;exact⟨_,ag,i+1,q++[qZ (w.getD i [])],_,_,bj,ar,rfl,ag,hs⟩
  .have hi:i=5:=by omega
   subst hi;rw[qW ag] at h2;exact⟨q,_,_,bj,ar,h2⟩
 .rintro l L ⟨q,a,c,hl,hL,h1⟩;refine aq ?_;refine W.le ?_ hl hL;clear hl hL;have hq:=qH _ _ _ h1;repeat' (first|refine' aW|refine' Tw|refine' Hq|refine' av|fail)
  all_goals
   refine' ax
   rw[if_neg aL,if_neg ag,h1];first
                                  |exact Eq.trans (b:=uB none) rfl (ep uB (if_pos (GL.2 (.inl hg))).symm)
                                  |exact Eq.trans (b:=uB none) rfl (ep uB (if_pos (GL.2 (.inr hc))).symm)
                                  |exact Eq.trans (b:=uB (some _)) rfl (ep uB (if_neg (λh=>(GL.1 h).elim (λh=>tf h hg) (λh=>tf h hc))).symm)
end Go.Pl
