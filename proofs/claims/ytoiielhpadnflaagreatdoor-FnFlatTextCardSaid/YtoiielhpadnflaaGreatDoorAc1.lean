/- Lemmas of the proof. No conditions. -/
import Derived.Test.YtoiielhpadnflaaGreatDoorProg
import Derived.Test.YtoiielhpadnflaaGreatDoorAb1
set_option maxRecDepth 100000
set_option maxHeartbeats 4000000
set_option linter.unusedVariables false
set_option linter.unusedSimpArgs false
open Go.Proofs.Tryz
namespace Go
variable{P:Prop}
theorem zaI (h:P:=by
 obtain⟨l1,q1,yu⟩:=D6 (e:=en) Ob hid Z6 Wq;have e4':gP G id (some en) at_=some e:=by rw[fN _ _ pD];exact e4
 have jw:=dR e4;have tw:bC e.es=true:=by have:=pM hG.wf at_;rwa [jw] at this
 all_goals(rcases _ with h;exact h)):P:=h
theorem za2 (h:P:=by
 have:t.depth.toNat=0\/t.depth.toNat=1\/t.depth.toNat=2:=by rw[h.dp];omega
 rcases this with hh|hh|hh<;>rw[hh] at h3<;>simp at h3<;>omega
 all_goals(rcases _ with h;exact h)):P:=h
theorem zbe (h:P:=by
 obtain⟨R,hR⟩:=h.JI he;obtain⟨ln,qn,hq,hh⟩:=((h.at_ k).some he).2;rw[hq] at hR;rcases hh with⟨_,hh⟩|hh
 all_goals(rcases _ with h;exact h)):P:=h
end Go
namespace Go.Pg
open Go.Pl
variable {l:List aC}
section
variable {n:Nat}
theorem rk (h:n<10):gM n=[UInt8.ofNat (48+n)]:=by rw[gM,dif_pos h]
theorem vW (h:¬n<10):gM n=gM (n/ 10)++[UInt8.ofNat (48+n% 10)]:=by rw[gM,dif_neg h]
theorem W5 (h:n<10):(UInt8.ofNat (48+n)).toNat=48+n:=by rw[UInt8.toNat_ofNat_of_lt' (by show _<256;omega)]
theorem vi (n:Nat):1<=(gM n).length:=by rw[gM];split<;>simp
theorem LC (n:Nat):∀c∈gM n,kP c=true:=by
 induction n using Nat.strongRecOn with
 |_ n ih=>
  intro c hc;by_cases h:n<10
  .rw[rk h] at hc;simp only[fJ] at hc;subst hc;simp only[kP,W5 h,bI,bR];omega
  .rw[vW h] at hc;rcases eW.1 hc with hc|hc
   .exact ih (n/ 10) af c hc
   .simp only[fJ] at hc;subst hc;simp only[kP,W5 (Ss n af),bI,bR];omega
theorem gk (n:Nat):∀k,1<=k->n<10^ k->(gM n).length<=k:=by
 induction n using Nat.strongRecOn with
 |_ n ih=>
  intro k hk hn;by_cases h:n<10
  .rw[rk h];exact hk
  .rw[vW h,bn];obtain⟨k,rfl⟩:∃j,k=j+1:=⟨k-1,af⟩;have h1:1<=k:=by
    rcases k with _|k
    .simp at hn;omega
    .omega
   have:=ih (n/ 10) af k h1 (by rw[Vq] at hn;omega);simp only[cU,kC];omega
theorem Th (s:aC)(c:UInt8):numOf (s++[c])=10*numOf s+(c.toNat-48):=by unfold numOf;rw[List.foldl_append];rfl
theorem O2 (n:Nat):numOf (gM n)=n:=by
 induction n using Nat.strongRecOn with
 |_ n ih=>
  by_cases h:n<10
  .rw[rk h];show 10*0+((UInt8.ofNat (48+n)).toNat-48)=n;rw[W5 h];omega
  .rw[vW h,Th,ih (n/ 10) af,W5 (Ss n af)];omega
theorem Ti (n:Nat):(gM n).headD 0=48->n=0:=by
 induction n using Nat.strongRecOn with
 |_ n ih=>
  intro h;by_cases hn:n<10
  .rw[rk hn] at h;have:(UInt8.ofNat (48+n)).toNat=(48:UInt8).toNat:=by rw[show UInt8.ofNat (48+n)=48 from h]
   rw[W5 hn] at this;have h2:(48:UInt8).toNat=48:=rfl;omega
  .rw[vW hn] at h;have h1:(gM (n/ 10)++[UInt8.ofNat (48+n% 10)]).headD 0=(gM (n/ 10)).headD 0:=by
    have:=vi (n/ 10);cases hh:gM (n/ 10) with
    |nil=>rw[hh] at this;simp at this
    |cons a l=>rfl
   rw[h1] at h;have:=ih (n/ 10) af h;omega
theorem w7 {p:UInt8->Bool}:∀(a b:aC),(∀c∈a,p c=true)->(b.head?.all λc=>!p c)=true->(a++b).takeWhile p=a
 |[],[],_,_=>rfl
 |[],c::b,_,h=>by
  have:p c=false:=by simpa using h
  simp[this]
 |x::a,b,h,h2=>by
  rw[yw,List.takeWhile_cons,h x ay];simp only[if_true];rw[w7 a b (λc hc=>h c (by simp[hc])) h2]
theorem Tj (hn:n<1000000000)(b:aC)(hb:(b.head?.all λc=>!kP c)=true):tD (gM n++b)=gM n:=by
 have h9:(gM n).length<=9:=gk n 9 af af;unfold tD;rw[KI,rT h9];apply w7
 .exact LC n
 .cases b with
  |nil=>simp
  |cons c b=>
   cases h:9-(gM n).length with
   |zero=>simp
   |succ k=>simpa using hb
theorem Hg (hn:n<1000000000)(b:aC)(hb:(b.head?.all λc=>!kP c)=true):kQ (gM n++b)=(n,(gM n).length):=by
 unfold kQ;simp only[Tj hn b hb];rw[if_neg,O2];rintro⟨h1,h2⟩;have h3:(gM n++b).headD 0=(gM n).headD 0:=by
  have:=vi n;cases hh:gM n with
  |nil=>rw[hh] at this;simp at this
  |cons a l=>rfl
 rw[h3] at h2;have:=Ti n h2;subst this;rw[rk af] at h1;simp at h1
theorem LD (hn:n<1000000000):iN (gM n)=some n:=by unfold iN;have h:=Hg hn [] rfl;rw[gJ] at h;simp only[h];rw[if_neg];have:=vi n;omega
theorem nw {n:Int}(h:0<=n):dec n=gM n.toNat:=by obtain⟨k,rfl⟩:=yC h;rfl
theorem ot {n:Int}(h0:0<=n)(h:n<1000000000):iN (dec n)=some n.toNat:=by rw[nw h0,LD af]
theorem sy {n:Int}(h0:0<=n)(h:n<1000000000):qR (dec n)=n:=by unfold qR;rw[ot h0 h];simp;omega
theorem aa0 {n:Int}(h0:0<=n)(h:n<1000000000):(dec n).length<=9:=by rw[nw h0];exact gk _ 9 af af
theorem CB {n:Int}(h0:0<=n):∀c∈dec n,kP c=true:=by rw[nw h0];exact LC _
theorem vj (c:UInt8):∀s:aC,(∀x∈s,x≠c)->cut c s=[s]
 |[],_=>rfl
 |x::s,h=>by
  rw[cut,if_neg (h x ay),vj c s (λy hy=>h y (by simp[hy]))]
theorem CC (c:UInt8):∀(s b:aC),(∀x∈s,x≠c)->cut c (s++c::b)=s::cut c b
 |[],b,_=>by rw[pF,cut,if_pos rfl]
 |x::s,b,h=>by
  rw[yw,cut,if_neg (h x ay),CC c s b (λy hy=>h y (by simp[hy]))]
theorem DL (c:UInt8):∀l:List aC,l≠[]->(∀s∈l,∀x∈s,x≠c)->cut c (iD c l)=l
 |[],h,_=>absurd rfl h
 |[s],_,h=>vj c s (h s ay)
 |s::t::l,_,h=>by
  rw[iD,CC c s _ (h s ay),DL c (t::l) ay (λu hu=>h u (by simp[hu]))];simp
theorem eJ (s:aC)(l:List aC):fieldsOf (s::l)=gM s.length++58::s++fieldsOf l:=by simp[fieldsOf]
theorem LF:∀(l:List aC)(out:aC),(out++fieldsOf l).length<=2048->kR l out=some (out++fieldsOf l)
 |[],out,_=>by simp[kR,fieldsOf]
 |s::l,out,h=>by
  rw[eJ] at h;simp only[bn,cU] at h;rw[kR,if_neg af];dsimp only;rw[if_neg (by simp only[bn,cU];omega),LF l _ (by simp only[bn,cU];omega),eJ];simp
theorem y5 (h:l.length<=60)(hl:(fieldsOf l).length<=2048):jg l=some (fieldsOf l):=by unfold jg;rw[if_neg af,LF l [] (by simpa using hl)];simp
theorem LG:∀(l:List aC)(f:Nat)(out:List aC),l.length<f->(fieldsOf l).length<=2048->sr f (fieldsOf l) out=some (out++l)
 |[],f,out,h,_=>by
  obtain⟨f,rfl⟩:∃g,f=g+1:=⟨f-1,af⟩;simp[sr,fieldsOf]
 |s::l,f,out,h,hl=>by
  obtain⟨f,rfl⟩:∃g,f=g+1:=⟨f-1,af⟩;have jA:=hl;rw[eJ] at hl;simp only[bn,cU] at hl;have gh:fieldsOf (s::l)≠[]:=by rw[eJ];simp
  obtain⟨c,z,hz⟩:∃c z,fieldsOf (s::l)=c::z:=by
   cases hh:fieldsOf (s::l) with
   |nil=>exact absurd hh gh
   |cons c z=>exact⟨c,z,rfl⟩
  have hn:kQ (fieldsOf (s::l))=(s.length,(gM s.length).length):=by
   rw[eJ,iL];exact Hg af _ (by simp[kP])
  rw[hz,sr]
  .rw[<-hz,hn];have hp:=vi s.length;have cX:(fieldsOf (s::l)).length=(gM s.length).length+1+s.length+(fieldsOf l).length:=by rw[eJ];simp only[bn,cU];omega
   have e1:(fieldsOf (s::l)).getD (gM s.length).length 0=58:=by
    rw[eJ,iL,a7,Ad (cC _),Ag];rfl
   have e2:(fieldsOf (s::l)).drop ((gM s.length).length+1)=s++fieldsOf l:=by
    rw[eJ,iL,<-mA,List.drop_left];rfl
   have e3:(fieldsOf (s::l)).drop ((gM s.length).length+1+s.length)=fieldsOf l:=by
    rw[<-mA,e2,List.drop_left]
   dsimp only;(have B8:l.length<f:=by rw[cU] at h;omega);rw[if_neg (by rw[e1,cX];rintro(h|h|h|h)<;>first|omega|exact h rfl),e3,e2,List.take_left,LG l f _ B8 af];simp
  .simp
theorem BD:∀l:List aC,2*l.length<=(fieldsOf l).length
 |[]=>by simp[fieldsOf]
 |s::l=>by
  have:=BD l;have:=vi s.length;rw[eJ];simp only[bn,cU];omega
theorem F2 (h:l.length<=60)(hl:(fieldsOf l).length<=2048):eS (fieldsOf l)=some l:=by unfold eS;rw[if_neg af,LG l _ [] (by have:=BD l;omega) hl];simp only[pF];rw[y5 h hl];simp
end
variable {s:aC}{c:UInt8}
section
variable {l:c9}
theorem O3 (h:∀x∈s,kP x=true)(hc:kP c=false):∀x∈s,x≠c:=by rintro x hx rfl;rw[h x hx] at hc;cases hc
theorem vX {p:jt}(h:aK p=false):bB p=true↔(8<=p.row/\p.row<=63)/\(1<=p.di/\p.di<=900)/\(1<=p.size/\p.size<=128)/\(0<=p.sum/\p.sum<=99460728)/\0<=p.level/\p.level<=2:=by simp[bB,h,S5,fM,and_assoc]
theorem qC {p:jt}:aK p=true↔p=bz:=by simp[aK]
theorem lF:aK bz=true:=by simp[aK]
theorem AG {p:jt}(h:aK p=false)(ho:bB p=true):eH p=iD 46 [dec p.row,dec p.di,dec p.size,dec p.sum,dec p.level]:=by simp[eH,h,ho,iD]
theorem vk:eH bz=[45]:=by decide
theorem Jq {p:jt}(ho:bB p=true):∀x∈eH p,kP x=true\/x=46\/x=45:=by
 cases h:aK p with
 |true=>rw[qC.1 h,vk];simp
 |false=>
  have hk:=(vX h).1 ho;rw[AG h ho];intro x hx;simp only[iD,eW,bH] at hx;have hd:=λ{n:Int} (h0:0<=n) (hx:x∈dec n)=>CB h0 x hx
  rcases hx with hx|hx|hx|hx|hx|hx|hx|hx|hx
  .exact .inl (hd af hx)
  .exact .inr (.inl hx)
  .exact .inl (hd af hx)
  .exact .inr (.inl hx)
  .exact .inl (hd af hx)
  .exact .inr (.inl hx)
  .exact .inl (hd af hx)
  .exact .inr (.inl hx)
  .exact .inl (hd af hx)
theorem jG {p:jt}:(eH p).length<=24:=by
 cases ho:bB p with
 |false=>simp[eH,ho]
 |true=>
 cases h:aK p with
 |true=>rw[qC.1 h,vk];simp
 |false=>
  have hk:=(vX h).1 ho;rw[AG h ho];have h1:(dec p.row).length<=2:=by rw[nw af];exact gk _ 2 af af
  have h2:(dec p.di).length<=3:=by rw[nw af];exact gk _ 3 af af
  have h3:(dec p.size).length<=3:=by rw[nw af];exact gk _ 3 af af
  have h4:(dec p.sum).length<=9:=by rw[nw af];exact gk _ 9 af af
  have h5:(dec p.level).length<=1:=by rw[nw af];exact gk _ 1 af af
  simp only[iD,bn,cU];omega
theorem DM {p:jt}(ho:bB p=true):jh (eH p)=some p:=by
 cases h:aK p with
 |true=>rw[qC.1 h,vk];rfl
 |false=>
  have hk:=(vX h).1 ho;have hc:cut 46 (eH p)=[dec p.row,dec p.di,dec p.size,dec p.sum,dec p.level]:=by
   rw[AG h ho];apply DL _ _ ay;intro s hs;simp only[bH,iS,jb] at hs;rcases hs with rfl|rfl|rfl|rfl|rfl<;>exact O3 (CB af) bT
  have gh:eH p≠[45]:=by
   intro he;have:=eC List.length hc;rw[he] at this;simp[cut] at this
  unfold jh;rw[if_neg gh,hc];simp only[ot (show 0<=p.row by omega) af,ot (show 0<=p.di by omega) af,ot (show 0<=p.size by omega) af,ot (show 0<=p.sum by omega) af,ot (show 0<=p.level by omega) af];have e:(⟨(p.row.toNat:Int),(p.di.toNat:Int),(p.size.toNat:Int),(p.sum.toNat:Int),(p.level.toNat:Int)⟩:jt)=p:=by
   obtain⟨a,b,c,d,e⟩:=p;simp only at hk;simp;omega
  rw[e];simp[ho,h]
theorem Tk {p:jt}(h:jh s=some p):bB p=true:=by
 unfold jh at h;split at h
 .cases h;decide
 .split at h
  .split at h
   .simp only at h;split at h
    .cases h
    .rename_i hh;cases h
     simp at hh;exact hh.1
   .cases h
  .cases h
theorem mapM_some {α β:Type}(f:α->Option β):∀{l:List α}{r:List β},l.mapM f=some r->r.length=l.length/\∀y∈r,∃x∈l,f x=some y
 |[],r,h=>by simp at h;subst h;simp
 |x::l,r,h=>by
  rw[FG] at h;cases hx:f x with
  |none=>rw[hx] at h;simp at h
  |some y=>
   cases hl:l.mapM f with
   |none=>rw[hx,hl] at h;simp at h
   |some r'=>
    rw[hx,hl] at h;simp at h;subst h;obtain⟨h1,h2⟩:=mapM_some f hl;refine⟨by simp[h1],λz hz=>?_⟩;rcases bH.1 hz with rfl|hz
    .exact⟨x,ay,hx⟩
    .obtain⟨w,hw,SJ⟩:=h2 z hz;exact⟨w,by simp[hw],SJ⟩
theorem DN {α β:Type}(f:α->Option β)(g:β->α):∀l:List β,(∀x∈l,f (g x)=some x)->(l.map g).mapM f=some l
 |[],_=>rfl
 |x::l,h=>by
  rw[xg,FG,h x ay,DN f g l (λy hy=>h y (by simp[hy]))];rfl
theorem O4 (h4:l.length=4)(ho:∀p∈l,bB p=true)(hh:l.all aK=false):ko (iD 44 (l.map eH))=some l:=by
 unfold ko;rw[DL _ _ (by intro h;rw[List.map_eq_nil_iff] at h;subst h;simp at h4)]
 .rw[DN jh eH l (λp hp=>DM (ho p hp))];simp[h4,hh]
 .intro s hs x hx;obtain⟨p,hp,rfl⟩:=lp.1 hs;rcases Jq (ho p hp) x hx with h|rfl|rfl
  .rintro rfl;exact absurd h bT
  .decide
  .decide
theorem BE (h:ko s=some l):l.length=4/\(∀p∈l,bB p=true)/\l.all aK=false:=by
 unfold ko at h;split at h
 .cases h
 .rename_i r hr;split at h
  .cases h
  .rename_i hh;cases h
   refine⟨af,λp hp=>?_,by simpa using λh=>hh (.inr h)⟩;obtain⟨x,_,hx⟩:=(mapM_some jh hr).2 p hp;exact Tk hx
theorem LH (h:kn l=some s):l.length=4/\(∀p∈l,bB p=true)/\l.all aK=false/\s=iD 44 (l.map eH):=by
 unfold kn at h;split at h
 .cases h
 .split at h
  .cases h
  .split at h
   .cases h
   .rename_i h1 h2 h3;cases h
    refine⟨af,λp hp=>?_,by simpa using h3,rfl⟩;simp only[Gx,not_exists,not_and] at h2;have:=h2 p hp;simpa using this
theorem Tl (h4:l.length=4)(ho:∀p∈l,bB p=true)(hh:l.all aK=false):kn l=some (iD 44 (l.map eH)):=by unfold kn;rw[if_neg af,if_neg,if_neg (by simp[hh])];simp only[Gx,not_exists,not_and];intro p hp;simp[ho p hp]
theorem aa1 (h4:l.length=4):(iD 44 (l.map eH)).length<=128/\1<=(iD 44 (l.map eH)).length:=by
 match l,h4 with
 |[a,b,c,d],_=>
  have:=jG (p:=a);have:=jG (p:=b);have:=jG (p:=c);have:=jG (p:=d);simp only[xg,CS,iD,bn,cU];omega
theorem Tn (k:Int):0<=fm k/\fm k<=128:=by
 unfold fm;split
 .omega
 .split<;>omega
theorem kZ {n:iE}(h:ew n=true):(n.kind=1\/n.kind=2)/\(0<=n.size/\n.size<=2048)/\n.a6.many=fp n.kind n.size/\(0<=n.a6.many/\n.a6.many<=16)/\n.a6.depth=cQ n.a6.many/\bB n.a6.cG=true/\(1<=n.bF/\n.bF<=9)/\(n.kind=2->n.bF=1):=by
 simp only[ew,bI,rU,CR,mQ,CQ,fM,bR] at h;obtain⟨⟨⟨⟨h1,h2⟩,h3⟩,h4⟩,h5,h6⟩:=h;have hk:n.kind=1\/n.kind=2:=by
  by_cases k1:n.kind=1
  .exact .inl k1
  .by_cases k2:n.kind=2
   .exact .inr k2
   .exfalso;apply h1;simp[fp,fm,k1,k2]
 have hs:0<=n.size/\n.size<=16*fm n.kind:=by
  unfold fp at h1;split at h1
  .exact absurd af h1
  .rename_i hh;simp[fM] at hh;omega
 have he:=Tn n.kind;have hm:n.a6.many=fp n.kind n.size:=by omega
 have hp:fp n.kind n.size<=16:=by
  unfold fp dn;split
  .omega
  .rcases hk with hk|hk
   .rw[hk] at hs⊢;simp[fm] at hs⊢;omega
   .rw[hk] at hs⊢;simp[fm] at hs⊢;omega
 refine⟨hk,⟨hs.1,af⟩,hm,af,by rw[hm];omega,h4,?_,?_⟩
 .split at h5<;>omega
 .intro hk;rw[if_pos hk] at h5;omega
theorem fB (m:Int):0<=cQ m/\cQ m<=2:=by
 unfold cQ;split
 .omega
 .split<;>omega
theorem qD:∀l:List aC,(∀s∈l,s.length<=24)->(fieldsOf l).length<=l.length*34
 |[],_=>by simp[fieldsOf]
 |s::l,h=>by
  have:=qD l (λx hx=>h x (by simp[hx]));have h1:=h s ay;have:(gM s.length).length<=9:=gk _ 9 af af;rw[eJ];simp only[bn,cU];omega
theorem y6 {n:iE}(h:ew n=true):∀s∈jU n,s.length<=24:=by
 obtain⟨hk,hs,_,hm,hd,hr,hl,_⟩:=kZ h;have:=fB n.a6.many;intro s hs;simp only[jU,bH,iS,jb] at hs;have hh:=λ{n:Int} (h0:0<=n) (h:n<1000000000)=>gu (aa0 h0 h) (show 9<=24 by omega)
 rcases hs with rfl|rfl|rfl|rfl|rfl|rfl|rfl
 .exact hh af af
 .exact hh af af
 .exact hh af af
 .exact jG
 .exact hh af af
 .exact hh af af
 .simp
theorem DO {n:iE}(h:ew n=true):gf n=fieldsOf (jU n):=by unfold gf;rw[h,y5 (by simp[jU]) (by have:=qD _ (y6 h);simp[jU] at this⊢;omega)];rfl
theorem rl {n:iE}(h:ew n=true):1<=(gf n).length/\(gf n).length<=128:=by
 rw[DO h];obtain⟨hk,hs,_,hm,hd,hr,hl,_⟩:=kZ h;have hd':=fB n.a6.many;have h1:(dec n.kind).length<=1:=by rw[nw af];exact gk _ 1 af af
 have h2:(dec n.bF).length<=1:=by rw[nw af];exact gk _ 1 af af
 have h3:(dec n.size).length<=4:=by rw[nw af];exact gk _ 4 af af
 have h4:(dec n.a6.depth).length<=1:=by rw[nw af];exact gk _ 1 af af
 have h5:(dec n.a6.many).length<=2:=by rw[nw af];exact gk _ 2 af af
 have h6:=jG (p:=n.a6.cG);have OP:∀k:Nat,k<=24->(gM k).length<=2:=λk hk=>gk _ 2 af af
 simp only[jU,eJ,bn,cU];have:=OP (dec n.kind).length af;have:=OP (dec n.bF).length af;have:=OP (dec n.size).length af;have:=OP (dec n.a6.depth).length af;have:=OP (dec n.a6.many).length af;have:=OP (eH n.a6.cG).length af;have:=OP 3 af;have:(fieldsOf []).length=0:=rfl;simp only[kC];simp only[mS,Nat.reduceAdd];omega
theorem LI {n:iE}(h:ew n=true):eL (gf n)=some n:=by
 have hg:eS (gf n)=some (jU n):=by
  rw[DO h];exact F2 (by simp[jU]) (by have:=qD _ (y6 h);simp[jU] at this⊢;omega)
 obtain⟨hk,hs,_,hm,hd,hr,hl,_⟩:=kZ h;have hd':=fB n.a6.many;unfold eL;rw[hg];simp only[jU];rw[sy (show 0<=n.kind by omega) af,sy (show 0<=n.bF by omega) af,sy (show 0<=n.size by omega) af,sy (show 0<=n.a6.depth by omega) af,sy (show 0<=n.a6.many by omega) af,DM hr];simp[h]
theorem xJ {n:iE}(h:eL s=some n):ew n=true/\gf n=s:=by
 unfold eL at h;split at h
 .simp only at h;split at h
  .cases h
  .rename_i hh;cases h
   simpa using hh
 .cases h
theorem vl:eL []=none:=by
 cases h:eL [] with
 |none=>rfl
 |some n=>
  obtain⟨h1,h2⟩:=xJ h;have:=(rl h1).1;rw[h2] at this;simp at this
theorem rm (h:aV s=true):(∀c∈s,97<=c.toNat/\c.toNat<=122)/\1<=s.length/\s.length<=4:=by simp only[aV,bI,bR,fT] at h;exact⟨λc hc=>h.1.1 c hc,h.1.2,h.2⟩
theorem Re (h:aV s=true)(hc:c.toNat<97):∀x∈s,x≠c:=by rintro x hx rfl;have:=(rm h).1 x hx;omega
theorem vm (e:bg)(l:List bg):bj (e::l)=(e.name++61::dec e.id)++59::bj l:=by simp[bj]
theorem acL:∀l:List bg,(∀e∈l,aV e.name=true/\0<=e.id)->(cut 59 (bj l)).dropLast=l.map λe=>e.name++61::dec e.id
 |[],_=>rfl
 |e::l,h=>by
  have he:=h e ay;rw[vm,CC]
  .have gh:cut 59 (bj l)≠[]:=by
    cases hh:bj l with
    |nil=>simp[cut]
    |cons x z=>
     rw[cut];split
     .simp
     .split<;>simp
   rw[List.dropLast_cons_of_ne_nil gh,acL l (λx hx=>h x (by simp[hx]))];rfl
  .intro x hx;rcases eW.1 hx with hx|hx
   .exact Re he.1 bT x hx
   .rcases bH.1 hx with rfl|hx
    .decide
    .exact O3 (CB he.2) bT x hx
theorem LJ {e:bg}(h:aV e.name=true)(h0:0<=e.id)(h1:e.id<1000000000):mb (e.name++61::dec e.id)=some e:=by unfold mb;rw[CC _ _ _ (Re h bT),vj _ _ (O3 (CB h0) bT)];simp only[sy h0 h1]
theorem gZ {l:List bg}(h:bC l=true):(∀e∈l,aV e.name=true/\1<=e.id/\e.id<=15)/\mT l=true/\l.length<=12:=by simp only[bC,bI,bR,fT,fM] at h;exact⟨λe he=>h.1.1 e he,h.1.2,h.2⟩
theorem DP {l:List bg}(h:bC l=true):iO (bj l)=some l:=by obtain⟨h1,_,_⟩:=gZ h;unfold iO;rw[acL l (λe he=>⟨(h1 e he).1,by have:=h1 e he;omega⟩)];rw[DN mb _ l (λe he=>by have:=h1 e he;exact LJ this.1 af af)];simp[h]
theorem l8 {l:List bg}(h:bC l=true):(bj l).length<=96/\(l≠[]->1<=(bj l).length):=by
 obtain⟨h1,_,h3⟩:=gZ h;have:∀l:List bg,(∀e∈l,aV e.name=true/\1<=e.id/\e.id<=15)->(bj l).length<=l.length*8/\(l≠[]->1<=(bj l).length):=by
  intro l;induction l with
  |nil=>simp[bj]
  |cons e l ih=>
   intro h;have he:=h e ay;have h4:=(rm he.1).2;(have h5:(dec e.id).length<=2:=by rw[nw af];exact gk _ 2 af af);have:=(ih (λx hx=>h x (by simp[hx]))).1;rw[vm];simp only[bn,cU];refine⟨af,λ_=>by omega⟩
 have:=this l h1;exact⟨af,this.2⟩
end
variable {a b st cZ:ar}{Q':c9}{p:jt}{level:Int}
def nh (p:jt):Bool:=!aK p
def aeJ (i:Nat)(p:jt):Bool:=decide (p.row.toNat=i)
def z8 (i:Nat)(Q:c9):Nat:=Q.countP (aeJ i)
theorem aa2 (i:Nat):z8 i []=0:=rfl
theorem iQ (i:Nat)(p q:c9):z8 i (p++q)=z8 i p+z8 i q:=by simp[z8]
theorem oT (i:Nat)(p:jt)(q:c9):z8 i (p::q)=z8 i q+if p.row.toNat=i then 1 else 0:=by simp[z8,iA,aeJ]
theorem LK {i:Nat}{p q:c9}(h:p.Perm q):z8 i p=z8 i q:=h.countP_eq _
theorem DQ {i:Nat}{Q:c9}(h:z8 i Q=0):∀p∈Q,p.row.toNat≠i:=by intro p hp he;have:=(uO.1 h) p hp;simp[aeJ,he] at this
def Live (st:ar)(p:jt):Prop:=fits p (gw st p)=true/\p.di<=st.fH
structure mX (st:ar)(Q:c9):Prop where
 lr:st.ej.length=64
 lf:st.bd.length=64
 ll:st.dm.length=64
 kp:st.oQ=0
 tx:1<=st.fH
 lv:∀p∈Q,Live st p
 ct:∀i:Nat,i<64->((z8 i (Q++st.cP):Nat):Int)<=st.bd.getD i 0
 gn:∀p∈st.cP,8<=p.row.toNat/\p.row.toNat<64
structure fY (st cZ:ar)(Q:c9):Prop where
 tx:cZ.fH=st.fH
 row:∀p∈Q,gw cZ p=gw st p
theorem fY.refl (st:ar)(Q:c9):fY st st Q:=⟨rfl,λ_ _=>rfl⟩
theorem fY.trans {a b c:ar}{Q Q':c9}(h:fY a b Q)(k:fY b c Q')(hs:∀p∈Q,p∈Q'):fY a c Q:=⟨k.tx.trans h.tx,λp hp=>(k.row p (hs p hp)).trans (h.row p hp)⟩
theorem fY.mono {Q Q':c9}(h:fY a b Q)(hs:∀p∈Q',p∈Q):fY a b Q':=⟨h.tx,λp hp=>h.row p (hs p hp)⟩
theorem Live.nh (h:Live st p):aK p=false/\bB p=true:=by have:=h.1;simp[fits] at this;exact⟨this.1.1.2,this.1.1.1⟩
theorem Live.Wa (h:Live st p):8<=p.row.toNat/\p.row.toNat<64/\1<=p.di:=by have:=(vX h.nh.1).1 h.nh.2;omega
theorem Live.ext {Q:c9}(h:Live st p)(hr:gw cZ p=gw st p)(ht:st.fH<=cZ.fH):Live cZ p:=⟨by rw[hr];exact h.1,by have:=h.2;omega⟩
theorem mX.cT {Q Q':c9}(h:mX st Q)(hp:Q.Perm Q'):mX st Q':=
 ⟨h.lr,h.lf,h.ll,h.kp,h.tx,λp hq=>h.lv p (hp.mem_iff.2 hq),λi hi=>by rw[LK (hp.symm.append_right _)];exact h.ct i hi,h.gn⟩
theorem mX.less {Q Q':c9}(h:mX st Q)(hm:∀p∈Q',p∈Q)(hc:∀i,z8 i Q'<=z8 i Q):mX st Q':=
 ⟨h.lr,h.lf,h.ll,h.kp,h.tx,λp hq=>h.lv p (hm p hq),λi hi=>by
   have:=h.ct i hi;rw[iQ] at this⊢;have:=hc i;omega,h.gn⟩
theorem mX.sub {Q Q':c9}(h:mX st Q)(hs:Q'.Sublist Q):mX st Q':=h.less (λp hp=>hs.subset hp) (λi=>hs.countP_le)
theorem k9 {p:Nat->Bool}:∀{n i k:Nat},nS p n i=some k->i<=k/\k<i+n/\p k=true
 |0,i,k,h=>by cases h
 |n+1,i,k,h=>by
  unfold nS at h;split at h
  .rename_i hp;cases h;exact⟨af,af,hp⟩
  .obtain⟨h1,h2,h3⟩:=k9 h;exact⟨af,af,h3⟩
theorem j3 {α:Type}(l:List α)(i j:Nat)(x d:α):(l.set i x).getD j d=if i=j/\j<l.length then x else l.getD j d:=by
 rw[a7,a7,List.getElem?_set];by_cases h:i=j
 .subst h;by_cases h2:i<l.length
  .simp[h2]
  .simp[h2]
 .simp[h]
theorem DR {i di level:Int}(h:ss i di level s=some p):p=⟨i,di,s.length,sumOf s,level⟩/\1<=s.length/\s.length<=128/\bB p=true:=by
 unfold ss at h;simp only at h;split at h
 .cases h
 .split at h
  .cases h
  .rename_i h1 h2;cases h
   simp[Je] at h1;exact⟨rfl,nO.2 h1.1,h1.2,by simpa using h2⟩
theorem Jr {i:Nat}(h:oF st s level=some i):8<=i/\i<64/\(st.ej.getD i []=s\/st.bd.getD i 0=0):=by
 unfold oF at h;split at h
 .rename_i k hk;cases h
  split at hk
  .obtain⟨h1,h2,h3⟩:=k9 hk;simp only[yX,bI,bR] at h3;exact⟨h1,af,.inl h3.1.1⟩
  .cases hk
 .obtain⟨h1,h2,h3⟩:=k9 h;exact⟨h1,af,.inr (by simpa using h3)⟩
theorem LL {Q:c9}(h:mX st Q)(hw:bh st s level=some (cZ,p)):
  mX cZ (p::Q)/\fY st cZ Q/\gw cZ p=s/\p.level=level/\p.di=st.fH/\cZ.cP=st.cP:=by
 unfold bh at hw;split at hw
 .cases hw
 .rename_i i hi;obtain⟨i1,i2,i3⟩:=Jr hi;split at hw
  .cases hw
  .rename_i q hq;obtain⟨q1,q2,q3,q4⟩:=DR hq;cases hw
   have Lv:p.row.toNat=i:=by rw[q1];simp
   have hnh:aK p=false:=by
    rw[q1];simp[aK,bz];omega
   have Vj:∀q:jt,q∈Q->gw {st with ej:=st.ej.set i s,bd:=st.bd.set i (st.bd.getD i 0+1),dm:=st.dm.set i st.fH} q=gw st q:=by
    intro r hr;unfold gw;rw[j3];split
    .rename_i hc;rcases i3 with i3|i3
     .rw[<-hc.1,i3]
     .have h1:=h.ct i i2;rw[i3,iQ] at h1;have h2:=DQ (i:=i) (Q:=Q) af r hr;exact absurd hc.1.symm h2
    .rfl
   have hme:gw {st with ej:=st.ej.set i s,bd:=st.bd.set i (st.bd.getD i 0+1),dm:=st.dm.set i st.fH} p=s:=by
    unfold gw;rw[j3,Lv,if_pos ⟨rfl,by rw[h.lr];exact i2⟩]
   refine⟨⟨by simp[h.lr],by simp[h.lf],by simp[h.ll],h.kp,h.tx,?_,?_,h.gn⟩,⟨rfl,Vj⟩,hme,by rw[q1],by rw[q1],rfl⟩
   .intro r hr;rcases bH.1 hr with rfl|hr
    .refine⟨?_,?_⟩
     .rw[hme];simp[fits,q4,hnh];constructor<;>rw[q1]
     .rw[q1];exact yD _
    .exact(h.lv r hr).ext (Q:=Q) (Vj r hr) (yD _)
   .intro j hj;have:=h.ct j hj;rw[yw,oT,j3,Lv];by_cases nI:i=j
    .subst nI;rw[if_pos rfl,if_pos ⟨rfl,by rw[h.lf];exact i2⟩];show((z8 i (Q++st.cP)+1:Nat):Int)<=_;omega
    .rw[if_neg nI,if_neg (by rintro⟨h,_⟩;exact nI h)];show((z8 j (Q++st.cP)+0:Nat):Int)<=_;omega
theorem aa3 {Q:c9}(h:mX st (p::Q)):mX (drop st p.row) Q/\fY st (drop st p.row) Q:=by
 have hp:=(h.lv p ay).Wa;have Oa:=h.ct p.row.toNat hp.2.1;rw[yw,oT,if_pos rfl] at Oa;have Vj:∀q∈Q,gw (drop st p.row) q=gw st q:=by
  intro q hq;unfold drop gw;dsimp only;split
  .rename_i h0;rw[j3];split
   .rename_i hc;exfalso;rw[iQ] at Oa;exact DQ (i:=p.row.toNat) (Q:=Q) af q hq hc.1.symm
   .rfl
  .rfl
 refine⟨⟨?_,?_,?_,h.kp,h.tx,λq hq=>(h.lv q (by simp[hq])).ext (Q:=Q) (Vj q hq) (yD _),?_,h.gn⟩,⟨rfl,Vj⟩⟩
 .unfold drop;dsimp only;split<;>simp[h.lr]
 .unfold drop;simp[h.lf]
 .unfold drop;dsimp only;split<;>simp[h.ll]
 .intro i hi;have h1:=h.ct i hi;rw[yw,oT] at h1;show((z8 i (Q++st.cP):Nat):Int)<=(st.bd.set p.row.toNat (st.bd.getD p.row.toNat 0-1)).getD i 0;rw[j3];by_cases hc:p.row.toNat=i
  .subst hc;rw[if_pos ⟨rfl,by rw[h.lf];exact hp.2.1⟩];omega
  .rw[if_neg (by rintro⟨h,_⟩;exact hc h)];rw[if_neg hc] at h1;omega
theorem Rf {Q:c9}(h:mX st (p::Q)):mX (free st p) Q/\fY st (free st p) Q:=by
 have hl:=h.lv p ay;have hr:=hl.Wa;unfold free;rw[if_neg (by rw[hl.nh.1];simp),if_neg (by rw[h.kp];omega)];split
 .refine⟨⟨h.lr,h.lf,h.ll,h.kp,h.tx,λq hq=>h.lv q (by simp[hq]),λi hi=>?_,λq hq=>?_⟩,⟨rfl,λ_ _=>rfl⟩⟩
  .have:=h.ct i hi;rw[yw,oT,iQ] at this;rw[iQ,iQ,oT,aa2];show((_:Nat):Int)<=st.bd.getD i 0;omega
  .rcases eW.1 hq with hq|hq
   .exact h.gn q hq
   .have:q=p:=by simpa using hq
    subst this;exact⟨hr.1,hr.2.1⟩
 .exact aa3 h
theorem AH (h:aK p=true):free st p=st:=by unfold free;rw[if_pos h]
theorem qE:∀{L:c9}{st:ar}{Q:c9},mX st (L.filter nh++Q)->mX (dC L st) Q/\fY st (dC L st) Q
 |[],st,Q,h=>⟨h,fY.refl _ _⟩
 |p::L,st,Q,h=>by
  cases hp:aK p with
  |true=>
   rw[uj,if_neg (by simp[nh,hp])] at h;have:=qE h;show mX (dC L (free st p)) Q/\_;rw[show dC (p::L) st=dC L (free st p) from rfl,AH hp];exact this
  |false=>
   rw[uj,if_pos (by simp[nh,hp])] at h;obtain⟨h1,h2⟩:=Rf h;obtain⟨h3,h4⟩:=qE h1;exact⟨h3,(h2.mono (λq hq=>by simp[hq])).trans h4 (λq hq=>hq)⟩
theorem aa4 {Q:c9}(h:mX st Q):mX (next st) Q/\(next st).fH=st.fH+1/\∀p∈Q,gw (next st) p=gw st p:=by
 have key:∀(g:c9)(s:ar),s.ej.length=64->s.bd.length=64->s.dm.length=64->s.oQ=0->s.fH=st.fH->(∀p∈Q,gw s p=gw st p)->(∀p∈g,p.row.toNat<64)->(∀i:Nat,i<64->((z8 i (Q++g):Nat):Int)<=s.bd.getD i 0)->
   let s':=g.foldl (λst p=>drop st p.row) s
   s'.ej.length=64/\s'.bd.length=64/\s'.dm.length=64/\s'.oQ=0/\s'.fH=st.fH/\(∀p∈Q,gw s' p=gw st p)/\(∀i:Nat,i<64->((z8 i Q:Nat):Int)<=s'.bd.getD i 0):=by
  intro g;induction g with
  |nil=>intro s h1 h2 h3 h4 h5 h6 h7 h8;simp only[gJ] at h8;exact⟨h1,h2,h3,h4,h5,h6,h8⟩
  |cons p g ih=>
   intro s h1 h2 h3 h4 h5 h6 h7 h8;have hp:=h7 p ay;have Oa:=h8 p.row.toNat hp;rw[iQ,oT,if_pos rfl] at Oa;apply ih (drop s p.row)
   .unfold drop;dsimp only;split<;>simp[h1]
   .unfold drop;simp[h2]
   .unfold drop;dsimp only;split<;>simp[h3]
   .exact h4
   .exact h5
   .intro q hq;rw[<-h6 q hq];unfold drop gw;dsimp only;split
    .rw[j3];split
     .rename_i hc;exfalso;exact DQ (i:=p.row.toNat) (Q:=Q) af q hq hc.1.symm
     .rfl
    .rfl
   .exact λq hq=>h7 q (by simp[hq])
   .intro i hi;have h1:=h8 i hi;rw[iQ,oT] at h1;show((z8 i (Q++g):Nat):Int)<=(s.bd.set p.row.toNat (s.bd.getD p.row.toNat 0-1)).getD i 0;rw[j3,iQ];by_cases hc:p.row.toNat=i
    .subst hc;rw[if_pos ⟨rfl,by rw[h2];exact hp⟩];omega
    .rw[if_neg (by rintro⟨h,_⟩;exact hc h)];rw[if_neg hc] at h1;omega
 obtain⟨h1,h2,h3,h4,h5,h6,h7⟩:=key st.cP st h.lr h.lf h.ll h.kp rfl (λ_ _=>rfl) (λp hp=>(h.gn p hp).2) h.ct;have ht:(next st).fH=st.fH+1:=rfl;refine⟨⟨h1,h2,h3,h4,by rw[ht];have:=h.tx;omega,λp hp=>(h.lv p hp).ext (Q:=Q) (h6 p hp) (by rw[ht];omega),λi hi=>?_,by simp[next]⟩,rfl,h6⟩;show((z8 i (Q++[]):Nat):Int)<=_;rw[gJ];exact h7 i hi
variable {k r q:c9}{t:cB}
section
variable {n:Int}{l a:c9}
theorem lb (n:Nat):(da n).filter nh=[]:=by rw[List.filter_eq_nil_iff];intro p hp;rw[List.eq_of_mem_replicate hp];decide
theorem mJ {n:Nat}(h:p∈da n):p=bz:=List.eq_of_mem_replicate h
theorem jl (n:Nat):(da n).length=n:=sX
theorem jH:bB bz=true:=by decide
theorem W6:nh p=true↔aK p=false:=by simp[nh]
theorem dx:p∈l.filter nh↔p∈l/\aK p=false:=by rw[rW,W6]
theorem iR {st:ar}{level:Int}(h:below st p level=some k):
  k.length=4/\(∀q∈k,bB q=true)/\((aK p=true/\k=da 4)\/(aK p=false/\p.level=level/\p.di<=st.fH/\fits p (gw st p)=true/\ko (gw st p)=some k/\∀q∈k,q.di<=p.di)):=by
 unfold below at h;split at h
 .rename_i hp;cases h
  exact⟨jl 4,λq hq=>by rw[mJ hq];exact jH,.inl ⟨hp,rfl⟩⟩
 .rename_i hp;split at h
  .cases h
  .rename_i hh;split at h
   .cases h
   .rename_i s hs;split at h
    .cases h
    .rename_i l hl;split at h
     .cases h
     .rename_i hb;cases h
      have h1:=BE hl;unfold jT at hs;rw[if_neg hp] at hs;split at hs
      .rename_i hf;cases hs
       refine⟨h1.1,h1.2.1,.inr ⟨by simpa using hp,?_,?_,hf,hl,?_⟩⟩
       .simp at hh;omega
       .simp at hh;omega
       .simpa using hb
      .cases hs
theorem LM {st:ar}{level:Int}(h:aK p=false)(hl:p.level=level)(hb:p.di<=st.fH)(hf:fits p (gw st p)=true)(hg:ko (gw st p)=some k)(hk:∀q∈k,q.di<=p.di):below st p level=some k:=by
 have ho:bB p=true:=by simp[fits] at hf;exact hf.1.1.1
 unfold below;rw[if_neg (by simp[h]),if_neg (by simp[ho,hl];omega)];have:jT st p=some (gw st p):=by unfold jT;rw[if_neg (by simp[h]),if_pos hf]
 rw[this];simp only;rw[hg];simp only;rw[if_neg];simpa using hk
theorem ou {st:ar}{level:Int}(h:aK p=true):below st p level=some (da 4):=by unfold below;rw[if_pos h]
theorem sA {st cZ:ar}{level:Int}(h:below st p level=some k)(hr:aK p=false->gw cZ p=gw st p)(ht:st.fH<=cZ.fH):below cZ p level=some k:=by
 obtain⟨_,_,⟨h1,rfl⟩|⟨h1,h2,h3,h4,h5,h6⟩⟩:=iR h
 .exact ou h1
 .exact LM h1 h2 af (by rw[hr h1];exact h4) (by rw[hr h1];exact h5) h6
theorem LN (st:ar)(n:Int):down st n []=some []:=rfl
theorem pX {st:ar}(h:below st p n=some k)(h2:down st n l=some r):down st n (p::l)=some (k++r):=by
 unfold down at h2⊢;rw[FG,h];cases hm:l.mapM λp=>below st p n with
 |none=>rw[hm] at h2;cases h2
 |some w=>rw[hm] at h2;cases h2;rfl
theorem gm {st:ar}(h:down st n (p::l)=some r):∃k r',below st p n=some k/\down st n l=some r'/\r=k++r':=by
 unfold down at h⊢;rw[FG] at h;cases hb:below st p n with
 |none=>rw[hb] at h;cases h
 |some k=>
  cases hm:l.mapM λp=>below st p n with
  |none=>rw[hb,hm] at h;cases h
  |some w=>rw[hb,hm] at h;cases h;exact⟨k,_,rfl,rfl,rfl⟩
theorem DS {st:ar}:∀{l l2 r r2:c9},down st n l=some r->down st n l2=some r2->down st n (l++l2)=some (r++r2)
 |[],l2,r,r2,h,h2=>by cases h;exact h2
 |p::l,l2,r,r2,h,h2=>by
  obtain⟨k,r',h3,h4,rfl⟩:=gm h;rw[yw,iL];exact pX h3 (DS h4 h2)
theorem DT {st:ar}:∀{l l2 r:c9},down st n (l++l2)=some r->∃r1 r2,down st n l=some r1/\down st n l2=some r2/\r=r1++r2
 |[],l2,r,h=>⟨[],r,rfl,h,rfl⟩
 |p::l,l2,r,h=>by
  obtain⟨k,r',h3,h4,rfl⟩:=gm h;obtain⟨r1,r2,h5,h6,rfl⟩:=DT h4;exact⟨k++r1,r2,pX h3 h5,h6,ay⟩
theorem xK (st:ar)(n:Int):∀m:Nat,down st n (da m)=some (da (4*m))
 |0=>rfl
 |m+1=>by
  have:=pX (ou (st:=st) (level:=n) lF) (xK st n m);rw[show da (m+1)=bz::da m from rfl,this]
  congr 1
theorem y7 {st:ar}:∀{l r:c9},down st n l=some r->r.length=4*l.length/\∀q∈r,bB q=true
 |[],r,h=>by cases h;simp
 |p::l,r,h=>by
  obtain⟨k,r',h3,h4,rfl⟩:=gm h;obtain⟨h5,h6⟩:=y7 h4;obtain⟨h7,h8,_⟩:=iR h3;refine⟨by simp[h5,h7];omega,λq hq=>?_⟩;rcases eW.1 hq with hq|hq
  .exact h8 q hq
  .exact h6 q hq
theorem DU {st cZ:ar}:∀{l r:c9},down st n l=some r->(∀p∈l.filter nh,gw cZ p=gw st p)->st.fH<=cZ.fH->down cZ n l=some r
 |[],r,h,_,_=>h
 |p::l,r,h,hr,ht=>by
  obtain⟨k,r',h3,h4,rfl⟩:=gm h;refine pX (sA h3 (λhp=>hr p (dx.2 ⟨ay,hp⟩)) ht) (DU h4 (λq hq=>hr q ?_) ht);rw[dx] at hq⊢;exact⟨by simp[hq.1],hq.2⟩
theorem y8 {st:ar}:∀{l r:c9},down st n l=some r->∀p∈l,(below st p n).isSome=true
 |[],r,h=>by simp
 |p::l,r,h=>by
  obtain⟨k,r',h3,h4,rfl⟩:=gm h;intro q hq;rcases bH.1 hq with rfl|hq
  .rw[h3];rfl
  .exact y8 h4 q hq
def pK (st:ar):Nat->c9->Option (c9×c9)
 |0,l=>some (l,[])
 |n+1,l=>match down st (n+1:Nat) l with
  |none=>none
  |some l'=>match pK st n l' with
   |none=>none
   |some (a,q)=>some (a,l.filter nh++q)
theorem rn (st:ar):∀(n:Nat)(l:c9),gR.go st n l=(pK st n l).map (·.1)
 |0,l=>rfl
 |n+1,l=>by
  rw[gR.go,pK];cases down st (n+1:Nat) l with
  |none=>rfl
  |some l'=>
   simp only;rw[rn st n l'];cases pK st n l' with
   |none=>rfl
   |some r=>rfl
theorem gE {st:ar}{n:Nat}(h:pK st (n+1) l=some (a,q)):∃l' q',down st (n+1:Nat) l=some l'/\pK st n l'=some (a,q')/\q=l.filter nh++q':=by
 rw[pK] at h;cases hd:down st (n+1:Nat) l with
 |none=>rw[hd] at h;cases h
 |some l'=>
  rw[hd] at h;simp only at h;cases hl:pK st n l' with
  |none=>rw[hl] at h;cases h
  |some r=>
   rw[hl] at h;(cases h);exact⟨l',r.2,rfl,hl,rfl⟩
theorem tP {st:ar}{n:Nat}{l l' a q':c9}(h:down st (n+1:Nat) l=some l')(h2:pK st n l'=some (a,q')):pK st (n+1) l=some (a,l.filter nh++q'):=by rw[pK,h];simp only;rw[h2]
theorem DV {st cZ:ar}:∀{n:Nat}{l a q:c9},pK st n l=some (a,q)->(∀p∈q,gw cZ p=gw st p)->st.fH<=cZ.fH->pK cZ n l=some (a,q)
 |0,l,a,q,h,_,_=>h
 |n+1,l,a,q,h,hr,ht=>by
  obtain⟨l',q',h1,h2,rfl⟩:=gE h;exact tP (DU h1 (λp hp=>hr p (cA _ hp)) ht) (DV h2 (λp hp=>hr p (dt _ hp)) ht)
theorem DW {st:ar}:∀{n:Nat}{l a q:c9},pK st n l=some (a,q)->a.length=4^ n*l.length/\((∀p∈l,bB p=true)->∀p∈a,bB p=true)
 |0,l,a,q,h=>by cases h;simp
 |n+1,l,a,q,h=>by
  obtain⟨l',q',h1,h2,rfl⟩:=gE h;obtain⟨h3,h4⟩:=DW h2;obtain⟨h5,h6⟩:=y7 h1;refine⟨by rw[h3,h5,Vq,Nat.mul_assoc],λ_=>h4 h6⟩
structure qS (st:ar)(t:cB)(l q:c9):Prop where
 mn:0<=t.many/\t.many<=16
 dp:t.depth=cQ t.many
 rt:bB t.cG=true
 lv:∃a,pK st t.depth.toNat [t.cG]=some (a,q)/\l=a++da (16-a.length)
 hl:∀i:Nat,t.many<=i->l.getD i bz=bz
 l0:∀p∈l,aK p=false->p.level=0
def cK (l q:c9):c9:=q++l.filter nh
theorem qS.len {st:ar}(h:qS st t l q):l.length=16/\∀p∈l,bB p=true:=by
 obtain⟨a,h1,rfl⟩:=h.lv;obtain⟨h2,h3⟩:=DW h1;have hd:=fB t.many;have:t.depth.toNat=0\/t.depth.toNat=1\/t.depth.toNat=2:=by rw[h.dp];omega
 refine⟨?_,λp hp=>?_⟩
 .rw[bn,jl,h2];rcases this with h|h|h<;>rw[h]<;>simp
 .rcases eW.1 hp with hp|hp
  .exact h3 (by simpa using h.rt) p hp
  .rw[mJ hp];exact jH
theorem qS.ext {st cZ:ar}(h:qS st t l q)(hr:∀p∈q,gw cZ p=gw st p)(ht:st.fH<=cZ.fH):qS cZ t l q:=by obtain⟨a,h1,h2⟩:=h.lv;exact⟨h.mn,h.dp,h.rt,⟨a,DV h1 hr ht,h2⟩,h.hl,h.l0⟩
theorem qS.wide {st:ar}(h:qS st t l q):wide st t=l:=by obtain⟨a,h1,h2⟩:=h.lv;unfold Go.Pl.wide gR;rw[rn,h1,h2];rfl
theorem sB (st:ar):qS st eY (da 16) []:=⟨bT,bT,bT,⟨[bz],rfl,rfl⟩,λi _=>by
 rw[a7];by_cases hi:i<16
 .rw[bc (by rw[jl];exact hi)];exact Qz ..
 .rw[qP (by rw[jl];omega)];rfl,λp hp h=>by rw[mJ hp] at h;cases h⟩
theorem qS.fK {st:ar}(h:qS st t l q):fK st t=q:=by
 obtain⟨a,h1,h2⟩:=h.lv;have hd:=fB t.many;have pL:0<=t.depth:=by rw[h.dp];exact hd.1
 have hc:t.depth.toNat=0\/t.depth.toNat=1\/t.depth.toNat=2:=by rw[h.dp];omega
 unfold Go.Pl.fK;rcases hc with hc|hc|hc<;>rw[hc] at h1
 .cases h1;rw[if_pos (.inl af)]
 .obtain⟨l',q',h3,h4,rfl⟩:=gE h1;cases h4
  cases hr:aK t.cG with
  |true=>rw[if_pos (.inr rfl)];simp[nh,hr]
  |false=>rw[if_neg (by simp;omega),if_neg af];simp[nh,hr]
 .obtain⟨l',q',h3,h4,rfl⟩:=gE h1;obtain⟨l2,q2,h5,h6,rfl⟩:=gE h4;cases h6
  obtain⟨k,r',h7,h8,rfl⟩:=gm h3;have hr':r'=[]:=by cases h8;rfl
  subst hr';simp only[gJ] at *
  have Ox:below st t.cG 2=some k:=h7;cases hr:aK t.cG with
  |true=>
   rw[if_pos (.inr rfl)];rw[ou hr] at Ox;(cases Ox);rw[lb];simp[nh,hr]
  |false=>
   rw[if_neg (by simp;omega),if_pos af,Ox];simp[nh,hr];rfl
theorem aeK {st cZ:ar}{Q l:c9}{level:Int}{old p:jt}(h:mX st Q)(h4:l.length=4)(hl:∀p∈l,bB p=true/\p.di<=st.fH)(ho:aK old=false->old∈Q/\(below st old level).isSome=true)(hf:OS st l level old=some (cZ,p)):
  ∃new jI,[p].filter nh=new++jI/\mX cZ (new++Q)/\fY st cZ Q/\below cZ p level=some l/\bB p=true/\p.di<=st.fH/\(jI=[]\/(jI=[p]/\p=old))/\cZ.cP=st.cP:=by
 unfold OS at hf;split at hf
 .rename_i ha;cases hf
  have hlh:l=da 4:=by
   rw[<-h4];exact List.eq_replicate_iff.2 ⟨rfl,λp hp=>qC.1 (fT.1 ha p hp)⟩
  exact⟨[],[],rfl,h,fY.refl _ _,by rw[hlh];exact ou lF,jH,by show(0:Int)<=_;have:=h.tx;omega,.inl rfl,rfl⟩
 .rename_i ha;have ha:l.all aK=false:=by simpa using ha
  have hp:=Tl h4 (λp hp=>(hl p hp).1) ha;have hg:=O4 h4 (λp hp=>(hl p hp).1) ha;rw[hp] at hf;simp only[qd] at hf;split at hf
  .rename_i hc;cases hf
   simp only[bI,rU,bR] at hc;obtain⟨⟨vM,qQ⟩,IW⟩:=hc;obtain⟨ho1,OJ⟩:=ho vM;obtain⟨k,hk⟩:=lV.1 OJ;have GV:k=l:=by
    obtain⟨_,_,⟨h1,_⟩|⟨_,_,_,_,h5,_⟩⟩:=iR hk
    .rw[vM] at h1;cases h1
    .rw[IW,hg] at h5;cases h5;rfl
   subst GV;exact⟨[],[old],by simp[nh,vM],h,fY.refl _ _,hk,(h.lv old ho1).nh.2,(h.lv old ho1).2,.inr ⟨rfl,rfl⟩,rfl⟩
  .obtain⟨h1,h2,h3,h5,h6,h7⟩:=LL h hf;have Js:=h1.lv p ay;refine⟨[p],[],by simp[nh,Js.nh.1],h1,h2,?_,Js.nh.2,by rw[h6];exact yD _,.inl rfl,h7⟩;exact LM Js.nh.1 h5 Js.2 Js.1 (by rw[h3];exact hg) (λq hq=>by rw[h6];exact(hl q hq).2)
theorem vY {level:Int}:∀(k:Nat){L was:c9}{st cZ:ar}{Q stays xL out aa5:c9},L.length=4*k->k<=was.length->mX st Q->(∀p∈L,bB p=true/\p.di<=st.fH)->(∀w∈was,aK w=false->w∈Q/\(below st w level).isSome=true)->kq level L was st stays out=(cZ,some (xL,aa5))->
  ∃o new jI,aa5=out++o/\o.length=k/\(o.filter nh).Perm (new++jI)/\mX cZ (new++Q)/\fY st cZ Q/\down cZ level o=some L/\(∀p∈o,bB p=true/\p.di<=st.fH)/\jI.Sublist (was.filter nh)/\(∀r∈jI,r∈xL)/\(∀r∈stays,r∈xL)
 |0,L,was,st,cZ,Q,stays,xL,out,aa5,hL,hw,h,hp,ho,hg=>by
  have:L=[]:=mj af;subst this;rw[kq] at hg
  .cases hg
   exact⟨[],[],[],ay,rfl,.refl _,h,fY.refl _ _,rfl,ay,List.nil_sublist _,ay,λr hr=>hr⟩
  .intros;contradiction
 |k+1,L,was,st,cZ,Q,stays,xL,out,aa5,hL,hw,h,hp,ho,hg=>by
  match L,hL with
  |a::b::c::d::L,hL=>
  match was,hw with
  |w::was,hw=>
  rw[kq] at hg;simp only[List.headD_cons,List.tail_cons] at hg;split at hg
  .cases hg
  .rename_i st1 p hf;have hp4:∀x∈[a,b,c,d],bB x=true/\x.di<=st.fH:=λx hx=>hp x (by simp at hx⊢;rcases hx with rfl|rfl|rfl|rfl<;>simp)
   obtain⟨n1,r1,f1,f2,f3,f4,f5,f6,f7,_⟩:=aeK h rfl hp4 (ho w ay) hf;have ht1:st1.fH=st.fH:=f3.tx;obtain⟨o,new,jI,g1,g2,g3,g4,g5,g6,g7,g8,g9,g10⟩:=vY k (by simp at hL;omega) (by simp at hw;omega) f2 (λx hx=>by rw[ht1];exact hp x (by simp[hx])) (λx hx hh=>by
    obtain⟨h1,h2⟩:=ho x (by simp[hx]) hh;obtain⟨y,hy⟩:=lV.1 h2;exact⟨by simp[h1],by rw[sA hy (λ_=>f3.row x h1) af];rfl⟩) hg
   have ahE:(∀r∈stays,r∈xL)/\(p=w->p∈xL):=by
    refine⟨λr hr=>g10 r ?_,λhpw=>g10 p ?_⟩
    .by_cases hpw:p=w<;>simp[hpw,hr]
    .simp[hpw]
   refine⟨p::o,new++n1,r1++jI,by rw[g1];simp,by simp[g2],?_,by rw[iL];exact g4,f3.trans g5 (λx hx=>by simp[hx]),?_,?_,?_,?_,?_⟩
   .have:(p::o).filter nh=[p].filter nh++o.filter nh:=by rw[<-qW];rfl
    rw[this,f1];refine(pz _ g3).trans ?_;simp only[iL];refine(oK _ _ _).trans ?_;refine(oK _ _ _).trans ?_;refine(pz _ (oK _ _ _)).trans ?_;exact oK _ _ _
   .refine pX (sA f4 (λhh=>g5.row p ?_) (by rw[g5.tx];omega)) g6;have:p∈[p].filter nh:=by simp[nh,hh]
    rw[f1] at this;rcases eW.1 this with hm|hm
    .exact cA _ hm
    .rcases f7 with f7|⟨f7,f8⟩
     .rw[f7] at hm;cases hm
     .subst f8;exact dt _ (ho p ay hh).1
   .intro x hx;rcases bH.1 hx with rfl|hx
    .exact⟨f5,f6⟩
    .rw[<-ht1];exact g7 x hx
   .rcases f7 with f7|⟨f7,f8⟩
    .rw[f7,pF];exact g8.trans (List.Sublist.filter _ (List.sublist_cons_self _ _))
    .subst f8;have Ky:nh p=true:=by
      rw[f7] at f1;(have:p∈[p].filter nh:=by rw[f1];simp);exact(rW.1 this).2
     rw[f7,uj,if_pos Ky];exact g8.cons_cons _
   .intro r hr;rcases eW.1 hr with hr|hr
    .rcases f7 with f7|⟨f7,f8⟩
     .rw[f7] at hr;cases hr
     .rw[f7] at hr;have:r=p:=by simpa using hr
      subst this;exact ahE.2 f8
    .exact g9 r hr
   .exact ahE.1
end
variable {R:c9}
section
variable {l:c9}{many:Int}
theorem xM (l:c9):∃k,(eZ l).length=4*k/\4*k<l.length+4/\l.length<=4*k:=by unfold eZ;rw[bn,jl];refine⟨(l.length+3)/ 4,?_,?_,?_⟩<;>omega
theorem xN {p:jt}(h:p∈eZ l):p∈l\/p=bz:=by
 rcases eW.1 h with h|h
 .exact .inl h
 .exact .inr (mJ h)
theorem To (l:c9):(eZ l).filter nh=l.filter nh:=by unfold eZ;rw[qW,lb,gJ]
theorem W7 (h:qS st t l q)(depth:Int)(hd:depth=1\/depth=2):
  ∃w1 w2:c9,(depth=1->iT st t depth 1=w1/\w2=[]/\1<=w1.length)/\(depth=2->iT st t depth 1=w1/\iT st t depth 2=w2/\4<=w1.length/\1<=w2.length)/\
   (∀w∈w1,aK w=false->(below st w 1).isSome=true)/\(∀w∈w2,aK w=false->(below st w 2).isSome=true)/\(w2.filter nh++w1.filter nh).Sublist q:=by
 obtain⟨a,h1,h2⟩:=h.lv;have hdd:=fB t.many;have hh:∀w∈da 4,aK w=false->False:=λw hw h=>by rw[mJ hw] at h;cases h
 by_cases gh:t.depth=depth
 .rcases hd with hd|hd
  .have hc:t.depth.toNat=1:=by rw[gh,hd];rfl
   rw[hc] at h1;obtain⟨l',q',h3,h4,rfl⟩:=gE h1;(cases h4);refine⟨[t.cG],[],λ_=>⟨?_,rfl,ay⟩,λh=>by omega,λw hw _=>y8 h3 w hw,ay,ay⟩;unfold iT;rw[if_neg af,if_pos af]
  .have hc:t.depth.toNat=2:=by rw[gh,hd];rfl
   rw[hc] at h1;obtain⟨l',q',h3,h4,rfl⟩:=gE h1;obtain⟨l2,q2,h5,h6,rfl⟩:=gE h4;(cases h6);obtain⟨k,r',h7,h8,rfl⟩:=gm h3;have hr':r'=[]:=by cases h8;rfl
   subst hr';simp only[gJ] at *
   have Ox:below st t.cG 2=some k:=h7;have hk:=(iR Ox).1;refine⟨k,[t.cG],λh=>by omega,λ_=>⟨?_,?_,af,ay⟩,λw hw _=>y8 h5 w hw,λw hw _=>by simp at hw;subst hw;rw[Ox];rfl,Gs _⟩
   .unfold iT;rw[if_neg af,if_neg af,hd,Ox];rfl
   .unfold iT;rw[if_neg af,if_pos af]
 .rcases hd with hd|hd
  .refine⟨da 4,[],λ_=>⟨?_,rfl,bT⟩,λh=>by omega,λw hw hx=>(hh w hw hx).elim,ay,by rw[lb];simp⟩;unfold iT;rw[if_pos gh]
  .refine⟨da 4,da 4,λh=>by omega,λ_=>⟨?_,?_,bT,bT⟩,λw hw hx=>(hh w hw hx).elim,λw hw hx=>(hh w hw hx).elim,by rw[lb];simp⟩
   .unfold iT;rw[if_pos gh]
   .unfold iT;rw[if_pos gh]
theorem Tp (h:qS st t l q)(hr:∀p∈q,gw cZ p=gw st p)(ht:st.fH<=cZ.fH)(hd:t.depth=2->(t.cG∈q\/aK t.cG=true))(depth level:Int)(hdp:depth=2):iT cZ t depth level=iT st t depth level:=by
 unfold iT;split
 .rfl
 .split
  .rfl
  .rename_i gh _;obtain⟨a,h1,h2⟩:=h.lv;have hc:t.depth.toNat=2:=by omega
   rw[hc] at h1;obtain⟨l',q',h3,h4,rfl⟩:=gE h1;obtain⟨k,r',h7,h8,rfl⟩:=gm h3;have Ox:below st t.cG 2=some k:=h7;rw[hdp,Ox,sA Ox (λhh=>hr _ ?_) ht];rcases hd af with hd|hd
   .exact hd
   .rw[hh] at hd;cases hd
theorem W8 (h:qS st t l q)(hd:t.depth=2):t.cG∈q\/aK t.cG=true:=by
 obtain⟨a,h1,h2⟩:=h.lv;have hc:t.depth.toNat=2:=by omega
 rw[hc] at h1;obtain⟨l',q',h3,h4,rfl⟩:=gE h1;cases hr:aK t.cG with
 |true=>exact .inr rfl
 |false=>left;apply cA;simp[nh,hr]
theorem Tq {st st1:ar}{l q R lt l1 stays:c9}(h:qS st t l q)(hs:mX st (q++R))(hm:0<=many/\many<=16)(dz:lt.length=many.toNat)(hp:∀p∈lt,bB p=true/\p.di<=st.fH)
  (hl:ir t (cQ many) (cQ many).toNat 1 lt st []=(st1,some (stays,l1))):
  ∃a new jI q',mX st1 (new++(q++R))/\fY st st1 (q++R)/\pK st1 (cQ many).toNat [l1.headD bz]=some (a,q')/\a++da (16-a.length)=lt++da (16-many.toNat)/\q'.Perm (new++jI)/\jI.Sublist q/\(∀r∈jI,r∈stays)/\bB (l1.headD bz)=true:=by
 by_cases h1:many<=1
 .have hd:cQ many=0:=by unfold cQ;rw[if_pos h1]
  rw[hd] at hl⊢;cases hl
  refine⟨[lt.headD bz],[],[],[],hs,fY.refl _ _,rfl,?_,.refl _,List.nil_sublist _,ay,?_⟩
  .match lt,dz with
   |[],dz=>rw[show many.toNat=0 from dz.symm];rfl
   |[x],dz=>rw[show many.toNat=1 from dz.symm];rfl
   |x::y::z,dz=>simp at dz;omega
  .cases lt with
   |nil=>exact jH
   |cons x z=>exact(hp x ay).1
 .by_cases h4:many<=4
  .have hd:cQ many=1:=by unfold cQ;rw[if_neg h1,if_pos h4]
   rw[hd] at hl⊢;obtain⟨w1,w2,hw,_,z7,_,jf⟩:=W7 h 1 (.inl rfl);obtain⟨N6,rfl,hw3⟩:=hw rfl;simp only[List.filter_nil,pF] at jf;have jA:ir t 1 (0+1) 1 lt st []=(st1,some (stays,l1)):=hl;rw[ir,N6] at jA;obtain⟨k,AI,yW,hk3⟩:=xM lt;(have hk:k=1:=by omega);subst hk;split at jA
   .cases jA
   .rename_i stx aeL lx hg;rw[ir] at jA;cases jA
    have aaA:∀w∈w1,aK w=false->w∈q++R/\(below st w 1).isSome=true:=λw hw hh=>⟨cA _ (jf.subset (dx.2 ⟨hw,hh⟩)),z7 w hw hh⟩
    obtain⟨o,new,jI,g1,g2,g3,g4,g5,g6,g7,g8,g9,g10⟩:=vY 1 AI hw3 hs (λp pT=>by
     rcases xN pT with pT|rfl
     .exact hp p pT
     .exact⟨jH,by show(0:Int)<=_;have:=hs.tx;omega⟩) aaA hg
    match o,g2 with
    |[p],_=>
    rw[g1];refine⟨eZ lt,new,jI,[p].filter nh++[],g4,g5,tP g6 rfl,?_,by rw[gJ];exact g3,g8.trans jf,g9,(g7 p ay).1⟩;rw[AI];unfold eZ;rw[iL]
    congr 1
    simp only[da,Vu]
    congr 1
    (have:(eZ lt).length=lt.length+(4-lt.length% 4)% 4:=by unfold eZ;rw[bn,jl]);omega
  .have hd:cQ many=2:=by unfold cQ;rw[if_neg h1,if_neg h4]
   rw[hd] at hl⊢;obtain⟨w1,w2,_,hw,z7,Vg,jf⟩:=W7 h 2 (.inr rfl);obtain⟨N6,SJ,hw3,hw4⟩:=hw rfl;have jA:ir t 2 (0+1+1) 1 lt st []=(st1,some (stays,l1)):=hl;rw[ir,N6] at jA;obtain⟨k,AI,yW,hk3⟩:=xM lt;split at jA
   .cases jA
   .rename_i stx aeL lx hg;have W9:∀w∈w1,aK w=false->w∈q:=λw hw hh=>jf.subset (dt _ (dx.2 ⟨hw,hh⟩))
    have hq2:∀w∈w2,aK w=false->w∈q:=λw hw hh=>jf.subset (cA _ (dx.2 ⟨hw,hh⟩))
    obtain⟨o,new,jI,g1,g2,g3,g4,g5,g6,g7,g8,g9,g10⟩:=vY k AI af hs (λp pT=>by
     rcases xN pT with pT|rfl
     .exact hp p pT
     .exact⟨jH,by show(0:Int)<=_;have:=hs.tx;omega⟩) (λw hw hh=>⟨cA _ (W9 w hw hh),z7 w hw hh⟩) hg
    rw[pF] at g1;subst g1;(have ahF:∀p∈q,gw stx p=gw st p:=λp hp=>g5.row p (cA _ hp));rw[ir,show(1:Int)+1=2 from rfl,Tp h ahF (by rw[g5.tx];omega) (W8 h) 2 2 rfl,SJ] at jA;obtain⟨k2,hk4,hk5,hk6⟩:=xM lx;(have hk:k2=1:=by omega);subst hk;split at jA
    .cases jA
    .rename_i sty ale ly Cr;rw[ir] at jA;cases jA
     obtain⟨o2,ad4,aa6,e1,e2,e3,e4,e5,e6,e7,e8,e9,e10⟩:=vY 1 hk4 hw4 g4 (λp pT=>by
      rw[g5.tx];rcases xN pT with pT|rfl
      .exact g7 p pT
      .exact⟨jH,by show(0:Int)<=_;have:=hs.tx;omega⟩) (λw hw hh=>by
       refine⟨dt _ (cA _ (hq2 w hw hh)),?_⟩;obtain⟨y,hy⟩:=lV.1 (Vg w hw hh);rw[sA hy (λ_=>ahF w (hq2 w hw hh)) (by rw[g5.tx];omega)];rfl) Cr
     match o2,e2 with
     |[p],_=>
     rw[e1];have hx6:down st1 1 (eZ lx)=some (eZ lt++da (4*((4-lx.length% 4)% 4))):=by
      unfold eZ;refine DS (DU g6 (λr hr=>e5.row r ?_) (by rw[e5.tx];omega)) (xK _ _ _);rw[g3.mem_iff] at hr;rcases eW.1 hr with hr|hr
      .exact cA _ hr
      .exact dt _ (cA _ (jf.subset (dt _ (g8.subset hr))))
     refine⟨_,ad4++new,aa6++jI,[p].filter nh++((eZ lx).filter nh++[]),?_,g5.trans e5 (λx hx=>dt _ hx),tP e6 (tP hx6 rfl),?_,?_,?_,?_,(e7 p ay).1⟩
     .rw[iL];exact e4
     .have hlx:(eZ lt).length=lt.length+(4-lt.length% 4)% 4:=by unfold eZ;rw[bn,jl]
      rw[bn,jl,AI];unfold eZ;rw[iL,iL]
      congr 1
      simp only[da,Vu]
      congr 1
      omega
     .rw[gJ,To];refine(List.Perm.append e3 g3).trans ?_;simp only[iL];refine pz _ ?_;exact oK _ _ _
     .exact(KH e8 g8).trans jf
     .intro r hr;rcases eW.1 hr with hr|hr
      .exact e9 r hr
      .exact e10 r (g9 r hr)
theorem O5 (i:Nat)(f:jt->Bool)(q:c9):z8 i (q.filter f)+z8 i (q.filter λp=>!f p)=z8 i q:=by
 induction q with
 |nil=>rfl
 |cons p q ih=>
  rw[uj,uj];cases hf:f p<;>simp[oT]<;>omega
theorem O6 {a b:c9}{f:jt->Bool}(h:a.Sublist b)(hf:∀x∈a,f x=true):a.Sublist (b.filter f):=by have:=h.filter f;rw[KM.2 hf] at this;exact this
theorem Xa {t t':cB}{l q R lv:c9}(h:qS st t l q)(hs:mX st (q++R))(cX:lv.length=16)(hm:0<=many/\many<=16)(hp:∀p∈lv,bB p=true/\p.di<=st.fH/\(aK p=false->p.level=0))(hl:gY st t lv many=(cZ,some t')):
  ∃q',qS cZ t' (lv.take many.toNat++da (16-many.toNat)) q'/\mX cZ (q'++R)/\fY st cZ R/\t'.many=many:=by
 unfold gY at hl;simp only at hl;split at hl
 .cases hl
 .rename_i st1 stays l1 Js;cases hl
  obtain⟨a,new,jI,q',k1,k2,k3,k4,k5,k6,k7,k8⟩:=Tq h hs hm (by rw[cO,cX];omega) (λp pT=>⟨(hp p (B2 pT)).1,(hp p (B2 pT)).2.1⟩) Js;rw[h.fK];have hf:mX st1 ((q.filter λp=>!(stays.contains p)).filter nh++(q'++R)):=by
   have h1:mX st1 ((q.filter λp=>!(stays.contains p))++(q'++R)):=by
    refine k1.less (λp pT=>?_) (λi=>?_)
    .simp only[eW,rW] at pT⊢;rcases pT with⟨pT,_⟩|pT|pT
     .exact .inr (.inl pT)
     .rcases eW.1 (k5.mem_iff.1 pT) with pT|pT
      .exact .inl pT
      .exact .inr (.inl (k6.subset pT))
     .exact .inr (.inr pT)
    .have e1:=LK (i:=i) k5;have e2:z8 i jI<=z8 i (q.filter λp=>stays.contains p):=(O6 k6 (λx hx=>by simpa using k7 x hx)).countP_le;have e3:=O5 i (λp=>stays.contains p) q;simp only[iQ] at e1⊢;omega
   exact h1.sub (KH Gy (Gs _))
  obtain⟨f1,f2⟩:=qE hf;refine⟨q',⟨hm,rfl,k8,⟨a,DV k3 (λp pT=>f2.row p (cA _ pT)) (by rw[f2.tx];omega),k4.symm⟩,λi hi=>?_,λp pT hh=>?_⟩,f1,?_,rfl⟩
  .have hi:many<=(i:Int):=hi;rw[a7,Ad (by rw[cO,cX];omega)];by_cases hb:i-(lv.take many.toNat).length<(da (16-many.toNat)).length
   .rw[bc hb];exact Qz ..
   .rw[qP af];rfl
  .rcases eW.1 pT with pT|pT
   .exact(hp p (B2 pT)).2.2 hh
   .rw[mJ pT] at hh;cases hh
  .exact(k2.mono (λp pT=>dt _ pT)).trans f2 (λp pT=>dt _ pT)
end
variable {t':cB}
theorem lG (h:aK p=true):a8 st p=[]:=by unfold a8 jT;rw[if_pos h];rfl
theorem Tr (h:Live st p):a8 st p=gw st p:=by unfold a8 jT;rw[if_neg (by rw[h.nh.1];simp),if_pos h.1];rfl
theorem ny (hr:aK p=false->gw cZ p=gw st p):a8 cZ p=a8 st p:=by
 cases h:aK p with
 |true=>rw[lG h,lG h]
 |false=>
  unfold a8 jT;rw[hr h]
theorem Hh {l:c9}{k:Nat}(h:k<l.length)(p:jt):l=l.take k++l.getD k bz::l.drop (k+1)/\l.set k p=l.take k++p::l.drop (k+1):=by
 have:l.getD k bz=l[k]:=by rw[a7,bc h];rfl
 refine⟨?_,?_⟩
 .rw[this];simp
 .rw[List.set_eq_take_append_cons_drop,if_pos h]
theorem set_perm {l:c9}{k:Nat}(h:k<l.length)(p:jt):((l.set k p).filter nh++[l.getD k bz].filter nh).Perm ([p].filter nh++l.filter nh):=by
 obtain⟨h1,h2⟩:=Hh h p;rw[h2]
 conv=>rhs;rw[h1]
 generalize l.take k=a;generalize l.drop (k+1)=b;generalize l.getD k bz=x;have e:∀y:jt,(a++y::b).filter nh=a.filter nh++([y].filter nh++b.filter nh):=λy=>by
  show(a++([y]++b)).filter nh=_;rw[qW,qW]
 rw[e,e];generalize a.filter nh=a;generalize b.filter nh=b;generalize [x].filter nh=x;generalize [p].filter nh=p;have h1:(a++(p++b)++x).Perm (p++(a++(b++x))):=by
  simp only[iL];exact oK _ _ _
 have h2:(p++(a++(b++x))).Perm (p++(a++(x++b))):=pz _ (pz _ List.perm_append_comm);exact h1.trans h2
theorem Ts {l:c9}{many:Nat}(FR:l.length=16)(hm:many<=16)(h:∀i:Nat,many<=i->l.getD i bz=bz):l.take many++da (16-many)=l:=by
 apply Sq;intro i;by_cases hi:i<many
 .rw[wB (by rw[cO];omega),Vv hi]
 .rw[Ad (by rw[cO];omega),cO,FR,yA hm];by_cases h2:i<16
  .have:=h i af;rw[a7,bc af] at this;rw[bc (by rw[jl];omega),bc af];simp only[qd] at this;rw[this]
   congr 1
   exact Qz ..
  .rw[qP (by rw[jl];omega),qP af]
theorem uu (l:c9)(m n j:Nat):(l.take m++da n).getD j bz=if j<m then l.getD j bz else bz:=by
 rw[a7];by_cases h:j<(l.take m).length
 .rw[wB h,Vv (by rw[cO] at h;omega),if_pos (by rw[cO] at h;omega),a7]
 .rw[Ad af];have hh:(da n)[j-(l.take m).length]?.getD bz=bz:=by
   by_cases h2:j-(l.take m).length<(da n).length
   .rw[bc h2];exact Qz ..
   .rw[qP af];rfl
  rw[hh];split
  .rw[cO] at h;rw[a7,qP af];rfl
  .rfl
theorem jv {l:c9}{j:Nat}(h:aK (l.getD j bz)=false):l.getD j bz∈l:=by
 rw[a7] at h⊢;by_cases hj:j<l.length
 .rw[bc hj];exact rX _
 .rw[qP af] at h;cases h
def aa7 (st cZ:ar)(t t':cB)(l R:c9)(k:Nat)(s:aC):Prop:=
 ∃l' q',qS cZ t' l' q'/\mX cZ (cK l' q'++R)/\fY st cZ R/\t'.many=max t.many ((k:Int)+1)/\∀j:Nat,a8 cZ (l'.getD j bz)=if j=k then s else a8 st (l.getD j bz)
theorem y9 {l q R:c9}{k:Nat}{s:aC}(h:qS st t l q)(hs:mX st (cK l q++R))(hk:k<16)(hp:nK st t k s=(cZ,t',true)):aa7 st cZ t t' l R k s:=by
 unfold nK at hp;simp only[h.wide] at hp;obtain⟨cX,hlo⟩:=h.len;have yr:=h.mn;have Xb:∀p∈l,p.di<=st.fH:=λp hp=>by
  cases hh:aK p with
  |true=>rw[qC.1 hh];show(0:Int)<=_;have:=hs.tx;omega
  |false=>exact(hs.lv p (by simp only[cK,eW];exact .inl (.inr (dx.2 ⟨hp,hh⟩)))).2
 split at hp
 .rename_i hc;cases hp
  refine⟨l,q,h,hs,fY.refl _ _,af,λj=>?_⟩;split
  .rename_i hj;rw[hj];exact hc.1
  .rfl
 .rename_i hc;split at hp
  .cases hp
  .rename_i x st1 p dD;split at hp
   .cases hp
   .rename_i y eI t2 po;cases hp
    have Jt:∀j,(l.set k p).getD j bz=if j=k then p else l.getD j bz:=λj=>by
     rw[j3,cX];by_cases hj:k=j
     .subst hj;rw[if_pos ⟨rfl,hk⟩,if_pos rfl]
     .rw[if_neg (by rintro⟨h,_⟩;exact hj h),if_neg (λh=>hj h.symm)]
    have Xc:(l.set k p).length=16:=by rw[gy];exact cX
    have hw:mX st1 ([p].filter nh++(cK l q++R))/\fY st st1 (cK l q++R)/\(bB p=true/\p.di<=st.fH/\(aK p=false->p.level=0))/\a8 st1 p=s:=by
     split at dD
     .rename_i hws;cases dD
      have sS:aK (l.getD k bz)=false->(l.getD k bz)∈l:=jv;have ho:bB (l.getD k bz)=true/\(l.getD k bz).di<=st.fH/\(aK (l.getD k bz)=false->(l.getD k bz).level=0):=by
       cases hh:aK (l.getD k bz) with
       |true=>rw[qC.1 hh];exact⟨jH,by show(0:Int)<=_;have:=hs.tx;omega,ay⟩
       |false=>exact⟨hlo _ (sS hh),Xb _ (sS hh),λ_=>h.l0 _ (sS hh) hh⟩
      (have hmt:max t.many ((k:Int)+1)≠t.many:=λh=>hc ⟨hws,h⟩);have hkh:l.getD k bz=bz:=h.hl k af;refine⟨?_,fY.refl _ _,ho,hws⟩;rw[hkh];exact hs
     .unfold Jg at dD;split at dD
      .rename_i Rc;cases dD
       exact⟨hs,fY.refl _ _,⟨jH,by show(0:Int)<=_;have:=hs.tx;omega,by intro h;cases h⟩,by rw[lG lF,Rc]⟩
      .obtain⟨w1,w2,w3,w4,w5,_⟩:=LL hs dD;have Js:=w1.lv p ay;have Ky:[p].filter nh=[p]:=by simp[nh,Js.nh.1]
       rw[Ky];exact⟨w1,w2,⟨Js.nh.2,by rw[w5];exact yD _,λ_=>w4⟩,by rw[Tr Js,w3]⟩
    obtain⟨N6,SJ,hw3,hw4⟩:=hw;have Cb:st1.fH=st.fH:=SJ.tx;have hT1:qS st1 t l q:=h.ext (λr hr=>SJ.row r (by simp[cK,hr])) (by rw[Cb];omega);have hS1:mX st1 (q++([p].filter nh++(l.filter nh++R))):=N6.cT (by
     simp only[cK,iL];exact oK _ _ _)
    have hmx:0<=max t.many ((k:Int)+1)/\max t.many ((k:Int)+1)<=16:=by omega
    obtain⟨q',k1,k2,k3,k4⟩:=Xa hT1 hS1 Xc hmx (λr hr=>by
     rw[Cb];rcases Gz hr with hr|rfl
     .exact⟨hlo r hr,Xb r hr,h.l0 r hr⟩
     .exact hw3) po
    have jA:(l.set k p).take (max t.many ((k:Int)+1)).toNat++da (16-(max t.many ((k:Int)+1)).toNat)=l.set k p:=by
     apply Ts Xc af;intro i hi;rw[Jt,if_neg af];exact h.hl i af
    rw[jA] at k1;have ahG:=set_perm (l:=l) (k:=k) af p;have key:mX (if p=l.getD k bz then eI else free eI (l.getD k bz)) (cK (l.set k p) q'++R)/\fY eI (if p=l.getD k bz then eI else free eI (l.getD k bz)) (cK (l.set k p) q'++R):=by
     have Tt:mX eI ([l.getD k bz].filter nh++(cK (l.set k p) q'++R)):=k2.cT (by
      have e1:(q'++([p].filter nh++(l.filter nh++R))).Perm (q'++(((l.set k p).filter nh++[l.getD k bz].filter nh)++R)):=by
       rw[<-iL ([p].filter nh)];exact pz _ (CU _ ahG.symm)
      refine e1.trans ?_;simp only[cK,iL];refine(pz q' (oK _ _ _)).trans ?_;exact oK _ _ _)
     split
     .exact⟨Tt.sub (nN _ _),fY.refl _ _⟩
     .cases hh:aK (l.getD k bz) with
      |true=>
       rw[AH hh];exact⟨Tt.sub (nN _ _),fY.refl _ _⟩
      |false=>
       rw[show [l.getD k bz].filter nh=[l.getD k bz] by rw[uj,if_pos (W6.2 hh)];rfl] at Tt;exact Rf Tt
    obtain⟨ahH,Xd⟩:=key;generalize(if p=l.getD k bz then eI else free eI (l.getD k bz))=st3 at ahH Xd⊢;refine⟨l.set k p,q',k1.ext (λr hr=>Xd.row r (by simp[cK,hr])) (by rw[Xd.tx];omega),ahH,?_,k4,λj=>?_⟩
    .refine(SJ.mono (λr hr=>dt _ hr)).trans ((k3.mono (Q':=R) (λr hr=>?_)).trans (Xd.mono (Q':=R) λr hr=>dt _ hr) (λr hr=>hr)) (λr hr=>hr);exact dt _ (dt _ hr)
    .rw[Jt];have uC:∀r,aK r=false->r∈l.set k p->gw st3 r=gw eI r:=λr hh hr=>Xd.row r (by
      simp only[cK,eW];exact .inl (.inr (dx.2 ⟨hr,hh⟩)))
     split
     .rename_i hj;rw[<-hw4,ny (λhh=>(uC p hh ?_)),ny (λhh=>k3.row p ?_)]
      .exact cA _ (by simp[nh,hh])
      .obtain⟨_,e⟩:=Hh (l:=l) (k:=k) af p;rw[e];simp
     .rename_i hj;have IV:aK (l.getD j bz)=false->l.getD j bz∈l.set k p:=λhh=>by
       (have:(l.set k p).getD j bz=l.getD j bz:=by rw[Jt,if_neg hj]);rw[<-this] at hh⊢;exact jv hh
      rw[ny (λhh=>uC _ hh (IV hh)),ny (λhh=>k3.row _ ?_),ny (λhh=>SJ.row _ ?_)]
      .simp only[cK,eW];exact .inl (.inr (dx.2 ⟨jv hh,hh⟩))
      .exact dt _ (cA _ (dx.2 ⟨jv hh,hh⟩))
theorem CD {l q R:c9}{many:Int}(h:qS st t l q)(hs:mX st (cK l q++R))(hm:0<=many/\many<=t.many)(hp:tE st t many=(cZ,t',true)):
  ∃l' q',qS cZ t' l' q'/\mX cZ (cK l' q'++R)/\fY st cZ R/\t'.many=many/\∀j:Nat,a8 cZ (l'.getD j bz)=if(j:Int)<many then a8 st (l.getD j bz) else []:=by
 unfold tE at hp;obtain⟨cX,hlo⟩:=h.len;have yr:=h.mn;split at hp
 .rename_i hc;cases hp
  refine⟨l,q,h,hs,fY.refl _ _,hc.symm,λj=>?_⟩;split
  .rfl
  .rw[h.hl j af,lG lF]
 .simp only[h.wide] at hp;split at hp
  .cases hp
  .rename_i y eI t2 po;cases hp
   obtain⟨q',k1,k2,k3,k4⟩:=Xa h (R:=l.filter nh++R) (by simpa[cK] using hs) cX ⟨hm.1,af⟩ (λr hr=>by
    refine⟨hlo r hr,?_,h.l0 r hr⟩;cases hh:aK r with
    |true=>rw[qC.1 hh];show(0:Int)<=_;have:=hs.tx;omega
    |false=>exact(hs.lv r (by simp only[cK,eW];exact .inl (.inr (dx.2 ⟨hr,hh⟩)))).2) po
   have AB:(l.take many.toNat++da (16-many.toNat)).filter nh=(l.take many.toNat).filter nh:=by rw[qW,lb,gJ]
   have Tt:mX eI ((l.drop many.toNat).filter nh++(cK (l.take many.toNat++da (16-many.toNat)) q'++R)):=k2.cT (by
    have e:l.filter nh=(l.take many.toNat).filter nh++(l.drop many.toNat).filter nh:=by rw[<-qW,yy]
    rw[e];unfold cK;rw[AB];simp only[iL];refine(pz q' (oK _ _ _)).trans ?_;exact oK _ _ _)
   obtain⟨f1,f2⟩:=qE Tt;refine⟨_,q',k1.ext (λr hr=>f2.row r (by simp[cK,hr])) (by rw[f2.tx];omega),f1,?_,k4,λj=>?_⟩
   .exact(k3.mono (Q':=R) (λr hr=>dt _ hr)).trans (f2.mono (Q':=R) λr hr=>dt _ hr) (λr hr=>hr)
   .rw[uu];by_cases hj:j<many.toNat
    .rw[if_pos hj,if_pos af,ny (λhh=>f2.row _ ?_),ny (λhh=>k3.row _ ?_)]
     .exact cA _ (dx.2 ⟨jv hh,hh⟩)
     .simp only[cK,eW];refine .inl (.inr (dx.2 ⟨?_,hh⟩));have:(l.take many.toNat++da (16-many.toNat)).getD j bz=l.getD j bz:=by rw[uu,if_pos hj]
      rw[<-this] at hh⊢;exact jv hh
    .rw[if_neg hj,if_neg af,lG lF]
theorem DX:∀{n:Nat}{l1 l2 a q:c9},pK st n (l1++l2)=some (a,q)->∃a1 q1 a2 q2,pK st n l1=some (a1,q1)/\pK st n l2=some (a2,q2)/\a=a1++a2/\q.Perm (q1++q2)
 |0,l1,l2,a,q,h=>by cases h;exact⟨l1,[],l2,[],rfl,rfl,rfl,.refl _⟩
 |n+1,l1,l2,a,q,h=>by
  obtain⟨l',q',h1,h2,rfl⟩:=gE h;obtain⟨r1,r2,h3,h4,rfl⟩:=DT h1;obtain⟨a1,q1,a2,q2,h5,h6,rfl,h7⟩:=DX h2;refine⟨a1,_,a2,_,tP h3 h5,tP h4 h6,rfl,?_⟩;rw[qW];simp only[iL];refine pz _ ((pz _ h7).trans ?_);exact oK _ _ _
theorem DY (st:ar):∀(n m:Nat),∃c,pK st n (da m)=some (da c,[])
 |0,m=>⟨m,rfl⟩
 |n+1,m=>by
  obtain⟨c,h⟩:=DY st n (4*m);exact⟨c,by have:=tP (xK st (n+1:Nat) m) h;rw[lb] at this;exact this⟩
theorem Ju:∀(n:Nat)(L:c9){a q:c9},pK st n L=some (a,q)->(∀p∈a,aK p=false->p.level=0)->
  ∃(c:Nat)(D:c9),c<=L.length*5^ n/\D.Perm (q++a.filter nh)/\∀f aE out,qq (c+f) st (L++aE) out=qq f st aE (out++D)
 |0,L,a,q,h,h0=>by
  cases h
  induction L with
  |nil=>exact⟨0,[],ay,.refl _,λf aE out=>by simp⟩
  |cons p L ih=>
   obtain⟨c,D,h1,h2,h3⟩:=ih (λx hx=>h0 x (by simp[hx]));cases hp:aK p with
   |true=>
    refine⟨c+1,D,by simp at h1⊢;omega,by simpa[nh,hp] using h2,λf aE out=>?_⟩;rw[show c+1+f=(c+f)+1 by omega,yw,qq,if_pos hp,h3]
   |false=>
    refine⟨c+1,p::D,by simp at h1⊢;omega,by simpa[nh,hp] using h2,λf aE out=>?_⟩;have hl:=h0 p ay hp;rw[show c+1+f=(c+f)+1 by omega,yw,qq,if_neg (by rw[hp];simp),if_neg af,h3];simp
 |n+1,L,a,q,h,h0=>by
  induction L generalizing a q with
  |nil=>
   obtain⟨l',q',h1,h2,rfl⟩:=gE h;have jA:l'=[]:=by cases h1;rfl
   subst jA;have:∀m,pK st m []=some ([],[]):=λm=>by
    induction m with
    |zero=>rfl
    |succ m ih=>rw[pK];simp only[LN,ih];rfl
   rw[this] at h2;(cases h2);exact⟨0,[],ay,.refl _,λf aE out=>by simp⟩
  |cons p L ih=>
   obtain⟨a1,q1,a2,q2,h1,h2,rfl,hq⟩:=DX (l1:=[p]) (l2:=L) h;obtain⟨c,D,h3,h4,h5⟩:=ih _ _ h2 (λx hx=>h0 x (by simp[hx]));obtain⟨l',q',h6,h7,rfl⟩:=gE h1;have aa8:5^ (n+1)=5*5^ n:=by rw[Vq,GA]
   have ans:1<=5^ n:=Nat.pow_pos af;cases hp:aK p with
   |true=>
    obtain⟨k,r',h8,h9,rfl⟩:=gm h6;(have hr':r'=[]:=by cases h9;rfl);subst hr';rw[ou hp] at h8;(cases h8);rw[gJ] at h7;obtain⟨c',tg⟩:=DY st n 4;rw[tg] at h7;(cases h7);refine⟨c+1,D,?_,?_,λf aE out=>?_⟩
    .rw[cU,lU];omega
    .refine h4.trans ?_;rw[qW,lb,pF];rw[show [p].filter nh=[] by simp[nh,hp]] at hq;exact CU _ (by simpa using hq.symm)
    .rw[show c+1+f=(c+f)+1 by omega,yw,qq,if_pos hp,h5]
   |false=>
    obtain⟨k,r',h8,h9,rfl⟩:=gm h6;(have hr':r'=[]:=by cases h9;rfl);subst hr';rw[gJ] at h7;obtain⟨hk4,_,⟨hx,_⟩|⟨_,aeM,_⟩⟩:=iR h8
    .rw[hp] at hx;cases hx
    obtain⟨c2,D2,Fx,Z7,Ar⟩:=Ju n k h7 (λx hx=>h0 x (by simp[hx]));refine⟨c2+c+1,p::(D2++D),?_,?_,λf aE out=>?_⟩
    .rw[cU,lU];rw[hk4] at Fx;omega
    .have e:([p].filter nh)=[p]:=by simp[nh,hp]
     rw[e] at hq;have:(q++(a1++a2).filter nh).Perm ((([p]++q')++q2)++(a1.filter nh++a2.filter nh)):=by
      rw[qW];exact CU _ hq
     refine List.Perm.trans ?_ this.symm;refine(List.Perm.cons p (List.Perm.append Z7 h4)).trans ?_;simp only[iL,uh];refine List.Perm.cons p (pz q' ?_);exact oK _ _ _
    .rw[show c2+c+1+f=(c2+(c+f))+1 by omega,yw,qq,if_neg (by rw[hp];simp),if_pos (by rw[aeM];omega),aeM,h8];simp only[qd];rw[Ar,h5];simp
theorem Jv {l q:c9}(h:qS st t l q):(xC st t).Perm (cK l q):=by
 obtain⟨a,h1,h2⟩:=h.lv;have hd:=fB t.many;obtain⟨c,D,h3,h4,h5⟩:=Ju t.depth.toNat [t.cG] h1 (λp hp hh=>h.l0 p (by rw[h2];simp[hp]) hh);have hc:c<=125:=by
  refine' za2
 unfold xC;have:=h5 (200-c) [] [];rw[show c+(200-c)=(199-c)+(c+1) by omega] at this;rw[show 200=(199-c)+(c+1) by omega];rw[gJ] at this;rw[this];obtain⟨g,hg⟩:∃g,200-c=g+1:=⟨199-c,af⟩;rw[hg,qq];simp only[pF,qd];refine h4.trans ?_;rw[h2];unfold cK;rw[qW,lb,gJ]
section
variable {l:c9}
def tx (st:ar)(l:c9)(j:Nat):aC:=a8 st (l.getD j bz)
theorem xO (h:qS st t l q){j:Nat}(hj:t.many<=j):tx st l j=[]:=by unfold tx;rw[h.hl j hj,lG lF]
theorem Jw (h:fY st cZ R)(hm:∀p∈cK l q,p∈R)(j:Nat):tx cZ l j=tx st l j:=
 ny λhh=>h.row _ (hm _ (dt _ (dx.2 ⟨jv hh,hh⟩)))
theorem oU (h:qS st t l q):ij st t=(List.range t.many.toNat).map (tx st l):=by
 unfold ij;rw[h.wide];have hl:=h.len.1;have hm:=h.mn;apply Sq;intro i;by_cases hi:i<t.many.toNat
 .rw[wD,Vv hi,wD,Sr hi,bc af];simp only[uL,tx,a7,bc (show i<l.length by omega),qd]
 .rw[qP (by simp;omega),qP (by simp;omega)]
theorem O7 (h:qS st t l q):aK t.cG=true\/t.cG.level=t.depth:=by
 obtain⟨a,h1,h2⟩:=h.lv;have hd:=fB t.many;have pL:0<=t.depth:=by rw[h.dp];exact hd.1
 cases hh:aK t.cG with
 |true=>exact .inl rfl
 |false=>
  right
  cases hc:t.depth.toNat with
  |zero=>
   rw[hc] at h1;(cases h1);rw[h.l0 t.cG (by rw[h2];simp) hh];omega
  |succ n=>
   rw[hc] at h1;obtain⟨l',q',h3,h4,rfl⟩:=gE h1;obtain⟨k,r',h7,h8,rfl⟩:=gm h3;obtain⟨_,_,⟨h1,_⟩|⟨_,h9,_⟩⟩:=iR h7
   .rw[hh] at h1;cases h1
   .rw[h9];omega
theorem Hi {n:iE}(h:qS st n.a6 l q)(hk:n.kind=1\/n.kind=2)(hs:0<=n.size/\n.size<=16*fm n.kind)(hm:n.a6.many=dn n.size (fm n.kind))(hl:1<=n.bF/\n.bF<=if n.kind=2 then 1 else 9):ew n=true:=by
 have he:fm n.kind≠0:=by rcases hk with hk|hk<;>rw[hk]<;>decide
 have hp:fp n.kind n.size=dn n.size (fm n.kind):=by
  unfold fp;rw[if_neg];simp[he,fM];omega
 have yr:=h.mn;have hr:=O7 h;simp only[ew,hp,<-hm,bI,rU,CR,mQ,CQ,fM,bR,mh];exact⟨⟨⟨⟨af,ay⟩,by rw[h.dp];simp⟩,h.rt⟩,hl,hr⟩
theorem sC (h:qS st t l q)(hs:mX st (cK l q++R)):fk st t=true:=by
 obtain⟨a,h1,h2⟩:=h.lv;have hl:gR st t=some a:=by unfold gR;rw[rn,h1];rfl
 have yr:=h.mn;unfold fk;rw[hl];simp only[bI,bR,fM];refine⟨⟨⟨yr,h.dp⟩,h.rt⟩,?_⟩;have key:∀(b:c9)(i:Nat),(∀j,j<b.length->l.getD (i+j) bz=b.getD j bz)->(∀p∈b,p∈l)->kx (kT st t.many) i b=true:=by
  intro b;induction b with
  |nil=>intros;rfl
  |cons p b ih=>
   intro i hi hm;unfold kx;rw[bI];refine⟨?_,ih (i+1) (λj hj=>?_) (λx hx=>hm x (by simp[hx]))⟩
   .unfold kT;cases hh:aK p with
    |true=>simp
    |false=>
     have hp:=hm p ay;have Js:=hs.lv p (by simp only[cK,eW];exact .inl (.inr (dx.2 ⟨hp,hh⟩)));have hrd:jT st p=some (gw st p):=by unfold jT;rw[if_neg (by simp[hh]),if_pos Js.1]
     have dz:(i:Int)<t.many:=by
      by_cases hc:(i:Int)<t.many
      .exact hc
      .have:=h.hl i af;have h0:=hi 0 ay;rw[xj,this] at h0;have:p=bz:=by simpa using h0.symm
       rw[this] at hh;cases hh
     simp[hrd,h.l0 p hp hh,Js.2,dz]
   .have:=hi (j+1) (by simp;omega);rw[show i+(j+1)=i+1+j by omega] at this;simpa using this
 refine key a 0 (λj hj=>?_) (λp hp=>by rw[h2];simp[hp]);rw[h2,mS,a7,wB hj,a7]
theorem O8 {t t':cB}{s:aC}(h:qS st t l q)(hs:mX st (cK l q++R))(cX:s.length<=128)(hp:ky st t s=(cZ,t',true)):
  ∃l' q',qS cZ t' l' q'/\mX cZ (cK l' q'++R)/\fY st cZ R/\t'.many=(if s=[] then 0 else 1)/\tx cZ l' 0=s:=by
 have yr:=h.mn;unfold ky at hp;by_cases Rc:s=[]
 .subst Rc;have hb:dw (([]:aC).length+1) []=[]:=rfl;simp only[hb] at hp;rw[if_neg ay] at hp;simp only[lA] at hp;obtain⟨l',q',h1,h2,h3,h4,h5⟩:=CD h hs (by simp;omega) hp;exact⟨l',q',h1,h2,h3,by rw[h4];rfl,by unfold tx;rw[h5,if_neg ay]⟩
 .have hb:dw (s.length+1) s=[s]:=by
   rw[dw,if_neg af,if_neg Rc]
  simp only[hb] at hp;rw[if_neg ay] at hp;simp only[lA] at hp;split at hp
  .cases hp
  .rename_i x st1 t1 hpe;split at hpe
   .rename_i eI t2 dD;cases hpe
    obtain⟨l1,q1,h1,h2,h3,h4,h5⟩:=y9 h hs af dD;obtain⟨l',q',k1,k2,k3,k4,k5⟩:=CD h1 h2 (by rw[h4];simp;omega) hp;refine⟨l',q',k1,k2,h3.trans k3 (λr hr=>hr),by rw[k4,if_neg Rc];rfl,?_⟩;unfold tx;rw[k5,if_pos ay,h5,if_pos rfl]
   .cases hpe
theorem LO {s:aC}(h:qS st t l q)(hm:t.many=(if s=[] then 0 else 1))(ht:tx st l 0=s):oH st t=some s:=by
 unfold oH;rw[oU h,hm];by_cases Rc:s=[]
 .rw[if_pos Rc,Rc];rfl
 .rw[if_neg Rc];show ph 1 0 [tx st l 0] []=some s;rw[ht];simp[ph,Rc]
def Xe (T:Nat->aC)(size many:Int):Prop:=∀j:Nat,(j:Int)<many->nL (T j)=T j/\((T j).length:Int)<=gj size j
theorem Jx (s:aC):(s.dropWhile (·=0)).length<=s.length:=(List.dropWhile_sublist _).length_le
theorem Xf (s:aC):(nL s).length<=s.length:=by unfold nL;rw[QB];have:=Jx s.reverse;rw[QB] at this;exact this
theorem vn (p:UInt8->Bool):∀s:aC,(s.dropWhile p).dropWhile p=s.dropWhile p
 |[]=>rfl
 |x::s=>by
  rw[List.dropWhile_cons];split
  .exact vn p s
  .rename_i h;rw[List.dropWhile_cons,if_neg h]
theorem Tu (s:aC):nL (nL s)=nL s:=by unfold nL;rw[List.reverse_reverse,vn]
theorem Tv {n:iE}(h:qS st n.a6 l q)(hs:mX st (cK l q++R))(hn:ew n=true)(hk:n.kind=1)(hf:Xe (tx st l) n.size n.a6.many):kU st n=true:=by
 unfold kU;rw[hn,hk,sC h hs,oU h];simp only[decide_true,KK,uN];have key:∀(m k:Nat),((k+m:Nat):Int)<=n.a6.many->kU.go n k ((List.range' k m).map (tx st l))=true:=by
  intro m;induction m with
  |zero=>intros;rfl
  |succ m ih=>
   intro k hk;rw[wO,xg,kU.go,ih (k+1) af];have:=hf k af;simp[this.1,this.2]
 rw[List.range_eq_range'];exact key _ 0 (by have:=h.mn;omega)
theorem za (size:Int)(h:0<=size):dn size 12*12<size+12/\size<=dn size 12*12/\0<=dn size 12:=by unfold dn;omega
theorem DZ (size:Int):∀(L:List aC)(k:Nat)(out:aC),(∀i,i<L.length->((L.getD i []).length:Int)<=gj size (k+i))->(L≠[]->(((k+L.length:Nat):Int)-1)*12<=size)->
  ((qt size k L out).length:Int)=out.length+(min (((k+L.length:Nat):Int)*12) size-min ((k:Int)*12) size)
 |[],k,out,_,_=>by simp[qt]
 |s::L,k,out,h,h2=>by
  have h0:=h 0 ay;rw[KQ,xj] at h0;have h3:=h2 ay;rw[cU] at h3;rw[qt,DZ size L (k+1) _ (λi hi=>?_) (λ_=>by omega)]
  .simp only[bn,mI,sX,cU];have Xg:gj size k=min 12 (size-k*12):=rfl;generalize gj size k=g at *
   omega
  .have:=h (i+1) (by simp;omega);rw[Bi] at this;rw[show k+1+i=k+(i+1) by omega];exact this
theorem nz {n:iE}(h:qS st n.a6 l q)(h0:0<=n.size)(hm:n.a6.many=dn n.size 12)(hf:Xe (tx st l) n.size n.a6.many):((bD st n).length:Int)=n.size:=by
 have hp:=za n.size h0;rw[<-hm] at hp;unfold bD;rw[oU h];have yr:=h.mn;by_cases hz:n.a6.many=0
 .rw[hz] at hp⊢;simp[qt];omega
 .rw[DZ n.size _ 0 [] (λi hi=>?_) (λ_=>by simp;omega)]
  .simp;omega
  .simp at hi;have:=(hf i af).2;rw[a7,wD,Sr af];simpa using this
theorem zb {s:aC}:∀(m k:Nat){st cZ:ar}{n n':iE}{l q R:c9},qS st n.a6 l q->mX st (cK l q++R)->k+m<=16->ka s m k st n=(cZ,n',true)->
  ∃l' q',qS cZ n'.a6 l' q'/\mX cZ (cK l' q'++R)/\fY st cZ R/\n'={n with a6:=n'.a6}/\(m=0->n'=n)/\(0<m->n'.a6.many=max n.a6.many ((k+m:Nat):Int))/\∀j:Nat,tx cZ l' j=if k<=j/\j<k+m then nL ((s.take (min s.length ((j+1)*12))).drop (j*12)) else tx st l j
 |0,k,st,cZ,n,n',l,q,R,h,hs,hk,hp=>by
  cases hp
  exact⟨l,q,h,hs,fY.refl _ _,rfl,λ_=>rfl,λh=>by omega,λj=>by rw[if_neg af]⟩
 |m+1,k,st,cZ,n,n',l,q,R,h,hs,hk,hp=>by
  rw[ka] at hp;split at hp
  .rename_i st1 t1 dD;obtain⟨l1,q1,h1,h2,h3,h4,h5⟩:=y9 h hs af dD;obtain⟨l',q',k1,k2,k3,k4,k5,k6,k7⟩:=zb m (k+1) (n:={n with a6:=t1}) h1 h2 af hp;refine⟨l',q',k1,k2,h3.trans k3 (λr hr=>hr),k4,λh=>by omega,λ_=>?_,λj=>?_⟩
   .rcases xh m with hm|hm
    .rw[k5 hm];subst hm;exact h4
    .rw[k6 hm];have:({n with a6:=t1}:iE).a6.many=t1.many:=rfl;rw[this,h4];omega
   .rw[k7];by_cases hj:k+1<=j/\j<k+1+m
    .rw[if_pos hj,if_pos af]
    .rw[if_neg hj];have:tx st1 l1 j=if j=k then _ else tx st l j:=h5 j
     rw[this];by_cases hjk:j=k
     .rw[if_pos hjk,if_pos af,hjk]
     .rw[if_neg hjk,if_neg af]
  .cases hp
theorem Tw {s:aC}{j:Nat}(hj:j*12<=s.length):(((s.take (min s.length ((j+1)*12))).drop (j*12)).length:Int)<=gj s.length j:=by rw[eP,cO];unfold gj;omega
structure pq (st:ar)(n:iE)(l q:c9):Prop where
 tr:qS st n.a6 l q
 kd:n.kind=1
 sz:0<=n.size/\n.size<=192
 mn:n.a6.many=dn n.size 12
 lk:1<=n.bF/\n.bF<=9
 ft:Xe (tx st l) n.size n.a6.many
theorem pq.ok {n:iE}(h:pq st n l q):ew n=true:=
 Hi h.tr (.inl h.kd) (by rw[h.kd];exact h.sz) (by rw[h.kd];exact h.mn) (by rw[h.kd];exact h.lk)
theorem D0 {n n':iE}{s:aC}{a b:Nat}(h:qS st n.a6 l q)(hs:mX st (cK l q++R))(hk:n.kind=1)(hl:1<=n.bF/\n.bF<=9)(lS:a<=b)(hb:b<16)(cX:s.length<=192)(hbs:b*12<s.length)
  (hm:max n.a6.many ((b:Int)+1)=dn s.length 12)(hf:∀j:Nat,(j:Int)<n.a6.many->(a<=j/\j<=b)\/(nL (tx st l j)=tx st l j/\((tx st l j).length:Int)<=gj s.length j))(hp:gC st n s a b=(cZ,n',true)):
  ∃l' q',pq cZ n' l' q'/\mX cZ (cK l' q'++R)/\fY st cZ R/\n'.bF=n.bF/\n'.kind=n.kind:=by
 unfold gC at hp;obtain⟨l',q',h1,h2,h3,h4,h5,h6,h7⟩:=zb (b+1-a) a (n:={n with size:=(s.length:Int)}) h hs af hp;have vo:n'.a6.many=max n.a6.many ((b:Int)+1):=by
  rw[h6 af];show max n.a6.many _=_;omega
 refine⟨l',q',⟨h1,by rw[h4];exact hk,by rw[h4];show 0<=(s.length:Int)/\(s.length:Int)<=192;omega,?_,by rw[h4];exact hl,?_⟩,h2,h3,by rw[h4],by rw[h4]⟩
 .have:n'.size=s.length:=by rw[h4]
  rw[vo,hm,this]
 .have iX:n'.size=s.length:=by rw[h4]
  rw[iX];intro j hj;rw[h7];by_cases S0:a<=j/\j<a+(b+1-a)
  .rw[if_pos S0];refine⟨Tu _,?_⟩;have:=Xf ((s.take (min s.length ((j+1)*12))).drop (j*12));have:=Tw (s:=s) (j:=j) af;omega
  .rw[if_neg S0];by_cases hjn:(j:Int)<n.a6.many
   .rcases hf j hjn with hc|hc
    .omega
    .exact hc
   .have WL:tx st l j=[]:=xO h af;rw[WL];refine⟨rfl,?_⟩;rw[vo] at hj;unfold gj;simp;omega
theorem LP (all:aC)(at_:Nat)(s:aC):(jE all at_ s).length=max all.length (at_+s.length):=by unfold jE;simp only[bn,cO,eP,mI,sX];omega
theorem Jy {n n':iE}{at_:Nat}{s:aC}(h:pq st n l q)(hs:mX st (cK l q++R))(ha:at_+s.length<=192)(hp:fF st n at_ s=(cZ,n',true)):
  ∃l' q',pq cZ n' l' q'/\mX cZ (cK l' q'++R)/\fY st cZ R/\n'.bF=n.bF/\n'.kind=n.kind:=by
 unfold fF at hp;split at hp
 .cases hp;exact⟨l,q,h,hs,fY.refl _ _,rfl,rfl⟩
 .rename_i Rc;have Rg:0<s.length:=nO.2 Rc;have AB:=nz h.tr h.sz.1 h.mn h.ft;have QQ:=LP (bD st n) at_ s;have iX:=h.sz;have yr:=h.mn;have VU:=za n.size h.sz.1;refine D0 h.tr hs h.kd h.lk ?_ ?_ ?_ ?_ ?_ ?_ hp
  .omega
  .omega
  .omega
  .omega
  .rw[yr];unfold dn;rw[QQ];omega
  .intro j hj
   right
   have:=h.ft j hj;refine⟨this.1,?_⟩;have h2:=this.2;unfold gj at h2⊢;rw[QQ];omega
theorem O9 {n n':iE}{size:Nat}(h:pq st n l q)(hs:mX st (cK l q++R))(ha:size<=192)(hp:fq st n size=(cZ,n',true)):
  ∃l' q',pq cZ n' l' q'/\mX cZ (cK l' q'++R)/\fY st cZ R/\n'.bF=n.bF/\n'.kind=n.kind:=by
 unfold fq at hp;have iX:=h.sz;have yr:=h.mn;have VU:=za n.size h.sz.1;have hp2:=za size af;simp only at hp;split at hp
 .rename_i hle;have Xg:∀j:Nat,gj n.size j<=gj size j:=λj=>by unfold gj;omega
  split at hp
  .rename_i hmm;cases hp
   refine⟨l,q,⟨h.tr,h.kd,by show 0<=(size:Int)/\(size:Int)<=192;omega,hmm.symm,h.lk,λj hj=>?_⟩,hs,fY.refl _ _,rfl,rfl⟩;have:=h.ft j hj;exact⟨this.1,Int.le_trans this.2 (Xg j)⟩
  .rename_i hmm;rcases dD:nK st n.a6 (dn (size:Int) 12-1).toNat [] with⟨st1,t1,ok⟩
   rw[dD] at hp;cases hp
   have hgt:n.a6.many<dn size 12:=by
    (have:dn n.size 12<=dn size 12:=by unfold dn;omega);omega
   (have FR:dn size 12<=16:=by unfold dn;omega);obtain⟨l',q',h1,h2,h3,h4,h5⟩:=y9 h.tr hs af dD;(have hm2:t1.many=dn size 12:=by rw[h4];omega);refine⟨l',q',⟨h1,h.kd,by show 0<=(size:Int)/\(size:Int)<=192;omega,hm2,h.lk,λj hj=>?_⟩,h2,h3,rfl,rfl⟩;have hj:(j:Int)<t1.many:=hj;(have e:tx st1 l' j=if j=(dn size 12-1).toNat then [] else tx st l j:=h5 j);rw[e];(have h0:(0:Int)<=gj size j:=by unfold gj;omega);split
   .exact⟨rfl,h0⟩
   .by_cases hjn:(j:Int)<n.a6.many
    .have:=h.ft j hjn;exact⟨this.1,Int.le_trans this.2 (Xg j)⟩
    .rw[xO h.tr af];exact⟨rfl,h0⟩
 .rename_i hgt;have hle:dn size 12<=n.a6.many:=by rw[yr];unfold dn;omega
  split at hp
  .cases hp
  .rename_i st1 t1 oz;obtain⟨l1,q1,h1,h2,h3,h4,h5⟩:=CD h.tr hs af oz;split at hp
   .rename_i hz;cases hp
    refine⟨l1,q1,⟨h1,h.kd,by show 0<=(size:Int)/\(size:Int)<=192;omega,h4,h.lk,λj hj=>?_⟩,h2,h3,rfl,rfl⟩;have hj:(j:Int)<t1.many:=hj;rw[h4,hz] at hj;omega
   .rename_i hz;have AB:=nz h.tr h.sz.1 h.mn h.ft;have qM:((bD st n).take size).length=size:=by rw[cO];omega
    obtain⟨l',q',k1,k2,k3,k4,k5⟩:=D0 (n:={n with a6:=t1,size:=(size:Int)}) h1 h2 h.kd h.lk (cC _) af af (by rw[qM];omega) (by
     show max t1.many _=_;rw[qM,h4];omega) (λj hj=>by
     have hj:(j:Int)<t1.many:=hj;rw[h4] at hj;by_cases Z8:j=(dn size 12-1).toNat
     .left;omega
     .right
      have e:tx st1 l1 j=if(j:Int)<dn size 12 then tx st l j else []:=h5 j
      rw[e,if_pos hj];have:=h.ft j af;refine⟨this.1,?_⟩;have h2:=this.2;rw[qM];unfold gj at h2⊢;omega) hp
    exact⟨l',q',k1,k2,h3.trans k3 (λr hr=>hr),k4,k5⟩
end
variable {id:Nat}
section
variable {k:Nat}{l:c9}
structure NE where
 n:iE
 es:List bg
 Q:c9
abbrev Gr:=Nat->Option NE
def gq (G:Gr)(k:Nat):c9:=match G k with
 |none=>[]
 |some e=>e.Q
def LQ (G:Gr):c9:=(List.range 16).flatMap (gq G)
def rM (G:Gr)(id:Nat):c9:=(List.range 16).flatMap λk=>if k=id then [] else gq G k
def gP (G:Gr)(id:Nat)(e:Option NE):Gr:=λk=>if k=id then e else G k
theorem Hj (f:Nat->c9)(id:Nat):∀n:Nat,((List.range n).flatMap f).Perm ((if id<n then f id else [])++(List.range n).flatMap λk=>if k=id then [] else f k)
 |0=>by simp
 |n+1=>by
  have ih:=Hj f id n;rw[Bj,wQ,wQ];simp only[js,py,gJ];by_cases h:n=id
  .subst h;rw[if_neg af] at ih;rw[if_pos af,if_pos rfl,gJ];exact(CU _ ih).trans (by rw[pF];exact List.perm_append_comm)
  .rw[if_neg h];by_cases h2:id<n
   .rw[if_pos h2] at ih;rw[if_pos af];refine(CU _ ih).trans ?_;rw[iL]
   .rw[if_neg h2] at ih;rw[if_neg af];exact CU _ ih
theorem sD (G:Gr)(h:id<16):(LQ G).Perm (gq G id++rM G id):=by have:=Hj (gq G) id 16;rw[if_pos h] at this;exact this
theorem LS (G:Gr)(id:Nat)(e:Option NE):rM (gP G id e) id=rM G id:=by
 unfold rM
 congr 1
 funext k
 split
 .rfl
 .rename_i h;unfold gq gP;rw[if_neg h]
theorem Xh (G:Gr)(id:Nat)(e:Option NE):gq (gP G id e) id=match e with
 |none=>[]
 |some e=>e.Q:=by unfold gq gP;rw[if_pos rfl]
theorem aeN {G:Gr}(hk:k<16):∀p∈gq G k,p∈LQ G:=λp hp=>px.2 ⟨k,kF.2 hk,hp⟩
theorem Pb {G:Gr}(hk:k<16)(h:k≠id):∀p∈gq G k,p∈rM G id:=λp hp=>px.2 ⟨k,kF.2 hk,by rw[if_neg h];exact hp⟩
structure Xi (st:ar)(n:iE)(es:List bg)(l q:c9):Prop where
 tr:qS st n.a6 l q
 kd:n.kind=2
 eo:bC es=true
 sz:n.size=(bj es).length
 lk:n.bF=1
 mn:n.a6.many=(if bj es=[] then 0 else 1)
 tx0:tx st l 0=bj es
def Kz (st:ar)(e:NE):Prop:=∃l q,e.Q=cK l q/\((e.es=[]/\pq st e.n l q)\/Xi st e.n e.es l q)
theorem Xi.ok {n:iE}{es:List bg}(h:Xi st n es l q):ew n=true:=by
 have hl:=(l8 h.eo).1;refine Hi h.tr (.inr h.kd) ?_ ?_ ?_
 .rw[h.kd,h.sz,show fm 2=128 from rfl];omega
 .rw[h.kd,h.mn,h.sz,show fm 2=128 from rfl];unfold dn;by_cases he:bj es=[]
  .rw[if_pos he,he];rfl
  .rw[if_neg he];have:=nO.2 he;omega
 .rw[h.kd,h.lk];simp
theorem Kz.ok {e:NE}(h:Kz st e):ew e.n=true:=by
 obtain⟨l,q,_,⟨_,h⟩|h⟩:=h
 .exact h.ok
 .exact h.ok
theorem Kz.ext {e:NE}{R:c9}(h:Kz st e)(hx:fY st cZ R)(hm:∀p∈e.Q,p∈R):Kz cZ e:=by
 obtain⟨l,q,hq,h⟩:=h;rw[hq] at hm;have F1:∀{t:cB},qS st t l q->qS cZ t l q:=λh=>h.ext (λp hp=>hx.row p (hm p (cA _ hp))) (by rw[hx.tx];omega)
 have Cb:∀j,tx cZ l j=tx st l j:=λj=>Jw hx hm j
 refine⟨l,q,hq,?_⟩;rcases h with⟨h0,h⟩|h
 .exact .inl ⟨h0,F1 h.tr,h.kd,h.sz,h.mn,h.lk,λj hj=>by rw[Cb];exact h.ft j hj⟩
 .exact .inr ⟨F1 h.tr,h.kd,h.eo,h.sz,h.lk,h.mn,by rw[Cb];exact h.tx0⟩
def At (st:ar)(l:c9)(G:Gr)(k:Nat):Prop:=match G k with
 |none=>tx st l k=[]
 |some e=>tx st l k=gf e.n/\Kz st e
theorem At.some {G:Gr}{e:NE}(h:At st l G k)(he:G k=some e):tx st l k=gf e.n/\Kz st e:=by unfold At at h;rw[he] at h;exact h
theorem At.none {G:Gr}(h:At st l G k)(he:G k=none):tx st l k=[]:=by unfold At at h;rw[he] at h;exact h
theorem At.ext {l l' R:c9}{G:Gr}(h:At st l G k)(hx:fY st cZ R)(ht:tx cZ l' k=tx st l k)(hm:∀p∈gq G k,p∈R):At cZ l' G k:=by
 unfold At at h⊢;unfold gq at hm;cases hg:G k with
 |none=>rw[hg] at h;simp only at h⊢;rw[ht,h]
 |some e=>
  rw[hg] at h hm;simp only at h hm⊢;exact⟨by rw[ht];exact h.1,h.2.ext hx hm⟩
structure FX (st:ar)(t:cB)(G:Gr)(id:Nat)(Q:c9)(l q:c9):Prop where
 tr:qS st t l q
 so:mX st (cK l q++(Q++rM G id))
 at_:∀k,k≠id->At st l G k
 hi:∀k,16<=k->G k=none
structure rp (st:ar)(t:cB)(G:Gr)(l q:c9):Prop where
 tr:qS st t l q
 so:mX st (cK l q++LQ G)
 at_:∀k,At st l G k
 hi:∀k,16<=k->G k=none
theorem rp.fx {G:Gr}(h:rp st t G l q)(hid:id<16):FX st t G id (gq G id) l q:=
 ⟨h.tr,h.so.cT (pz _ (sD G hid)),λk _=>h.at_ k,h.hi⟩
theorem Pc {G:Gr}{e:Option NE}(h:∀k,16<=k->G k=none)(hid:id<16):∀k,16<=k->gP G id e k=none:=λk hk=>by
 unfold gP;rw[if_neg af];exact h k hk
theorem FX.step {G:Gr}{Q Q' l q:c9}(h:FX st t G id Q l q)(hx:fY st cZ (cK l q++rM G id))(hs:mX cZ (Q'++(cK l q++rM G id))):FX cZ t G id Q' l q:=by
 refine⟨h.tr.ext (λp hp=>hx.row p (by simp[cK,hp])) (by rw[hx.tx];omega),hs.cT (oK _ _ _),λk hk=>?_,h.hi⟩;by_cases Jz:k<16
 .exact(h.at_ k hk).ext hx (Jw hx (λp hp=>cA _ hp) k) (λp hp=>dt _ (Pb Jz hk p hp))
 .have hn:=h.hi k af;have:=(h.at_ k hk).none hn;unfold At;rw[hn];simp only;rw[Jw hx (λp hp=>cA _ hp) k,this]
theorem Xj {G:Gr}{e:NE}(h:FX st t G id e.Q l q)(hid:id<16)(he:Kz st e)(hp:nb st t id e.n=(cZ,t',true)):∃l' q',rp cZ t' (gP G id (some e)) l' q':=by
 unfold nb at hp;obtain⟨l',q',h1,h2,h3,h4,h5⟩:=y9 h.tr h.so hid hp;refine⟨l',q',h1,h2.cT ?_,λk=>?_,Pc h.hi hid⟩
 .refine pz _ ?_;have:=sD (gP G id (some e)) hid;rw[LS,Xh] at this;exact this.symm
 .by_cases hk:k=id
  .subst hk;unfold At gP;rw[if_pos rfl];simp only;refine⟨?_,he.ext h3 (λp hp=>cA _ hp)⟩;have:tx cZ l' k=if k=k then gf e.n else tx st l k:=h5 k
   rw[this,if_pos rfl]
  .have e1:At st l (gP G id (some e)) k:=by
    have:=h.at_ k hk;unfold At gP at *
    rw[if_neg hk];exact this
   refine e1.ext h3 ?_ (λp hp=>?_)
   .have:tx cZ l' k=if k=id then gf e.n else tx st l k:=h5 k
    rw[this,if_neg hk]
   .have hg:gq (gP G id (some e)) k=gq G k:=by unfold gq gP;rw[if_neg hk]
    rw[hg] at hp;by_cases Jz:k<16
    .exact dt _ (Pb Jz hk p hp)
    .unfold gq at hp;rw[h.hi k af] at hp;cases hp
theorem rp.ij {G:Gr}(h:rp st t G l q)(k:Nat):(ij st t).getD k []=tx st l k:=by
 rw[oU h.tr];have yr:=h.tr.mn;by_cases hk:k<t.many.toNat
 .rw[a7,wD,Sr hk];rfl
 .rw[a7,qP (by simp;omega),xO h.tr af];rfl
theorem At.get {G:Gr}(h:At st l G k):eL (tx st l k)=(G k).map (·.n):=by
 cases hg:G k with
 |none=>rw[h.none hg,vl];rfl
 |some e=>rw[(h.some hg).1,LI (h.some hg).2.ok];rfl
theorem rp.ji {G:Gr}(h:rp st t G l q)(k:Nat):ji st t k=(G k).map (·.n):=by
 unfold Go.Pl.ji;have yr:=h.tr.mn;by_cases hk:(k:Int)<t.many
 .rw[if_neg (by simp[fM];omega)];unfold Dx;rw[h.tr.wide,uM];exact(h.at_ k).get
 .rw[if_pos (by simp[fM];omega)];have:=(h.at_ k).get;rw[xO h.tr af,vl] at this;exact this
theorem rp.lt {G:Gr}(h:rp st t G l q){e:NE}(he:G k=some e):(k:Int)<t.many/\k<16:=by
 have yr:=h.tr.mn;have h1:k<16:=by
  by_cases hk:k<16
  .exact hk
  .rw[h.hi k af] at he;cases he
 refine⟨?_,h1⟩;by_cases hk:(k:Int)<t.many
 .exact hk
 .have:=((h.at_ k).some he).1;rw[xO h.tr af] at this;have h2:=(rl ((h.at_ k).some he).2.ok).1;rw[<-this] at h2;simp at h2
def nA (o:Option NE):Option (List bg):=match o with
 |none=>none
 |some e=>if e.n.kind=2 then some e.es else none
theorem D1 (st:ar):bN st bA=none:=by unfold bN;rw[if_pos];rw[show ew bA=false from by decide];rfl
theorem Kz.bN {e:NE}{R:c9}(h:Kz st e)(hs:mX st (e.Q++R)):bN st e.n=if e.n.kind=2 then some e.es else none:=by
 have gd:=h.ok;obtain⟨l,q,hq,⟨_,hf⟩|hd⟩:=h
 .rw[if_neg (by rw[hf.kd];decide)];unfold Go.Pl.bN;rw[if_pos];rw[hf.kd];simp
 .rw[if_pos hd.kd];rw[hq] at hs;unfold Go.Pl.bN;rw[if_neg (by rw[gd,hd.kd,sC hd.tr hs];simp),LO hd.tr hd.mn hd.tx0];simp only;rw[if_neg (by rw[hd.sz];simp),DP hd.eo]
theorem rp.bN {G:Gr}(h:rp st t G l q)(k:Nat):bN st ((Go.Pl.ji st t k).getD bA)=nA (G k):=by
 rw[h.ji];cases hg:G k with
 |none=>exact D1 st
 |some e=>
  have hk:=(h.lt hg).2;refine((h.at_ k).some hg).2.bN (R:=rM G k++cK l q) (h.so.cT ?_);refine(pz _ (sD G hk)).trans ?_;have e1:gq G k=e.Q:=by unfold gq;rw[hg]
  rw[e1];refine List.perm_append_comm.trans ?_;rw[iL]
theorem D4 {G:Gr}(h:rp st t G l q)(hf:vc st t=some id):id<16/\G id=none:=by
 unfold vc at hf;obtain⟨h1,h2,h3⟩:=k9 hf;refine⟨af,?_⟩;simp only[bR] at h3;rw[h.ij] at h3;cases hg:G id with
 |none=>rfl
 |some e=>
  have h4:=((h.at_ id).some hg).1;rw[h3] at h4;have h5:=(rl ((h.at_ id).some hg).2.ok).1;rw[<-h4] at h5;simp at h5
theorem Hk (By:Int):∀(L:List aC)(k n:Nat),n<=k->(n<=mr By k n L/\mr By k n L<=k+L.length)/\∀i,i<L.length->mr By k n L<=k+i->((k+i:Nat):Int)≠By->L.getD i []=[]
 |[],k,n,h=>by simp[mr];omega
 |s::L,k,n,h=>by
  unfold mr;have ih:=Hk By L (k+1) (if(decide ((k:Int)≠By)&&decide (s≠[]))=true then k+1 else n) (by split<;>omega);obtain⟨⟨h1,h2⟩,h3⟩:=ih;refine⟨⟨?_,by rw[cU];omega⟩,λi hi hle gh=>?_⟩
  .refine gu ?_ h1;split<;>omega
  .cases i with
   |zero=>
    rw[KQ];by_cases hs:s=[]
    .exact hs
    .exfalso;rw[if_pos (by simp[hs];simpa using gh)] at h1 hle;omega
   |succ i=>
    rw[Bi];exact h3 i (by simp at hi;omega) (by rw[show k+1+i=k+(i+1) by omega];exact hle) (by rw[show k+1+i=k+(i+1) by omega];exact gh)
theorem JA {G:Gr}{e:NE}(h:rp st t G l q)(he:G id=some e)(hp:gg st t id=(cZ,t',true)):∃l' q',rp cZ t' (gP G id none) l' q':=by
 obtain⟨dz,hid⟩:=h.lt he;have yr:=h.tr.mn;have hn:=((h.at_ id).some he).2;unfold gg at hp;have hgn:(ji st t id).getD bA=e.n:=by rw[h.ji,he];rfl
 simp only[hgn,uM] at hp;have bU:(xC st e.n.a6).Perm e.Q:=by
  obtain⟨lx,qx,hq,hh⟩:=hn;rw[hq];rcases hh with⟨_,hf⟩|hd
  .exact Jv hf.tr
  .exact Jv hd.tr
 have Ob:=h.fx hid;have Xk:gq G id=e.Q:=by unfold gq;rw[he]
 have u6:mX st ((xC st e.n.a6).filter nh++(cK l q++rM G id)):=by
  have h1:mX st (xC st e.n.a6++(cK l q++rM G id)):=Ob.so.cT (by
   rw[Xk];refine(oK _ _ _).trans ?_;exact CU _ bU.symm)
  exact h1.sub (KH Gy (Gs _))
 obtain⟨f1,f2⟩:=qE u6;have Tx:FX (dC (xC st e.n.a6) st) t G id [] l q:=Ob.step f2 f1;have Hl:=Hk (id:Int) (ij st t) 0 0 (cC _);have qM:(ij st t).length=t.many.toNat:=by rw[oU h.tr];simp
 split at hp
 .cases hp
 .rename_i st1 t1 dD;obtain⟨l1,q1,h1,h2,h3,h4,h5⟩:=y9 Tx.tr Tx.so hid dD;have hm1:t1.many=t.many:=by rw[h4];omega
  have hla:ri st t id<=t.many.toNat:=by
   have:=Hl.1.2;rw[qM] at this;unfold ri;omega
  obtain⟨l',q',k1,k2,k3,k4,k5⟩:=CD h1 h2 (by rw[hm1];omega) hp;have Cb:∀k,k≠id->tx cZ l' k=tx st l k:=λk hk=>by
   (have e1:tx cZ l' k=if(k:Int)<(ri st t id:Nat) then tx st1 l1 k else []:=k5 k);(have e2:tx st1 l1 k=if k=id then [] else tx (dC (xC st e.n.a6) st) l k:=h5 k);have e3:tx (dC (xC st e.n.a6) st) l k=tx st l k:=Jw f2 (λp hp=>cA _ hp) k;rw[e1,e2,if_neg hk,e3];split
   .rfl
   .rename_i hge;by_cases hkm:k<t.many.toNat
    .have:=Hl.2 k (by rw[qM];exact hkm) (by
      show ri st t id<=0+k;omega) af
     rw[h.ij] at this;exact this.symm
    .rw[xO h.tr af]
  refine⟨l',q',k1,k2.cT ?_,λk=>?_,Pc h.hi hid⟩
  .refine pz _ ?_;have:=sD (gP G id none) hid;rw[LS,Xh] at this;exact this.symm
  .by_cases hk:k=id
   .subst hk;unfold At gP;rw[if_pos rfl];simp only;have e1:tx cZ l' k=if(k:Int)<(ri st t k:Nat) then tx st1 l1 k else []:=k5 k
    (have e2:tx st1 l1 k=if k=k then [] else tx (dC (xC st e.n.a6) st) l k:=h5 k);rw[e1,e2,if_pos rfl];split<;>rfl
   .have hx:fY st cZ (rM G id):=(f2.mono (λp hp=>dt _ hp)).trans ((h3.mono (Q':=rM G id) (λp hp=>dt _ hp)).trans (k3.mono (Q':=rM G id) λp hp=>dt _ hp) (λp hp=>hp)) (λp hp=>hp);have e1:At st l (gP G id none) k:=by
     have:=h.at_ k;unfold At gP at *
     rw[if_neg hk];exact this
    refine e1.ext hx (Cb k hk) (λp hp=>?_);(have hg:gq (gP G id none) k=gq G k:=by unfold gq gP;rw[if_neg hk]);rw[hg] at hp;by_cases Jz:k<16
    .exact Pb Jz hk p hp
    .unfold gq at hp;rw[h.hi k af] at hp;cases hp
end
variable {x e:bg}{i j:Nat}{G:Gr}
section
variable {l:List bg}
theorem zc:∀s:aC,bO s s=false
 |[]=>rfl
 |a::s=>by unfold bO;rw[if_neg af,if_neg af];exact zc s
theorem eT:∀{a b c:aC},bO a b=true->bO b c=true->bO a c=true
 |[],[],_,h,_=>by cases h
 |[],_::_,[],_,h=>by cases h
 |[],_::_,_::_,_,_=>rfl
 |_::_,[],_,h,_=>by cases h
 |_::_,_::_,[],_,h=>by cases h
 |x::a,y::b,z::c,h,k=>by
  unfold bO at h k⊢;split at h
  .split at k
   .rw[if_pos af]
   .split at k
    .cases k
    .rw[if_pos af]
  .split at h
   .cases h
   .split at k
    .rw[if_pos af]
    .split at k
     .cases k
     .rw[if_neg af,if_neg af];exact eT h k
theorem lD:∀{a b:aC},bO a b=false->a≠b->bO b a=true
 |[],[],_,h=>absurd rfl h
 |[],_::_,h,_=>by cases h
 |_::_,[],_,_=>rfl
 |x::a,y::b,h,hn=>by
  unfold bO at h⊢;split at h
  .cases h
  .split at h
   .rename_i h2;rw[if_pos h2]
   .rename_i h1 h2;have Vk:x=y:=sW.1 af;subst Vk;rw[if_neg af,if_neg af];exact lD h (λe=>hn (by rw[e]))
def Asc (l:List bg):Prop:=l.Pairwise λa b=>bO a.name b.name=true
theorem sE:∀l:List bg,mT l=true↔Asc l
 |[]=>by simp[mT,Asc]
 |[a]=>by simp[mT,Asc]
 |a::b::l=>by
  have ih:=sE (b::l);rw[mT,bI,ih];unfold Asc;rw[jP (a:=a)];constructor
  .rintro⟨h1,h2⟩;refine⟨λx hx=>?_,h2⟩;rcases bH.1 hx with rfl|hx
   .exact h1
   .exact eT h1 ((jP.1 h2).1 x hx)
  .rintro⟨h1,h2⟩;exact⟨h1 b ay,h2⟩
theorem Xl (h:Asc l)(hx:x∈l):l.find? (λy=>decide (y.name=x.name))=some x:=by
 induction l with
 |nil=>cases hx
 |cons a l ih=>
  rw[List.find?_cons];have hp:=jP.1 h;rcases bH.1 hx with rfl|hx
  .simp
  .have dz:=hp.1 x hx;have gh:a.name≠x.name:=λe=>by rw[e,zc] at dz;cases dz
   simp only[gh,decide_false];exact ih hp.2 hx
theorem nB:x∈gx l e↔x=e\/x∈l:=by
 induction l with
 |nil=>simp[gx]
 |cons a l ih=>
  unfold gx;split
  .simp
  .simp[ih];constructor<;>(rintro(h|h|h)<;>simp[h])
theorem LU (l:List bg)(e:bg):(gx l e).length=l.length+1:=by
 induction l with
 |nil=>rfl
 |cons a l ih=>unfold gx;split<;>simp[ih]
theorem Xm (h:Asc l)(hn:∀x∈l,x.name≠e.name):Asc (gx l e):=by
 induction l with
 |nil=>simp[gx,Asc]
 |cons a l ih=>
  have hp:=jP.1 h;unfold gx;split
  .rename_i dz;refine jP.2 ⟨λx hx=>?_,h⟩;rcases bH.1 hx with rfl|hx
   .exact dz
   .exact eT dz (hp.1 x hx)
  .rename_i dz;refine jP.2 ⟨λx hx=>?_,ih hp.2 (λx hx=>hn x (by simp[hx]))⟩;rcases nB.1 hx with rfl|hx
   .exact lD (by simpa using dz) (λe=>hn a ay e.symm)
   .exact hp.1 x hx
theorem Ty (h:l.find? (λy=>decide (y.name=s))=none):∀x∈l,x.name≠s:=by intro x hx;have:=List.find?_eq_none.1 h x hx;simpa using this
theorem CE (h:bC l=true)(hn:∀x∈l,x.name≠e.name)(he:aV e.name=true)(hi:1<=e.id/\e.id<=15)(hl:l.length<12):bC (gx l e)=true:=by
 obtain⟨h1,h2,h3⟩:=gZ h;unfold bC;rw[bI,bI,fT,sE,bR,LU];refine⟨⟨λx hx=>?_,Xm ((sE l).1 h2) hn⟩,af⟩;rcases nB.1 hx with rfl|hx
 .simp[he,fM,hi]
 .have:=h1 x hx;simp[this.1,fM,this.2]
theorem JB {l l':List bg}(h:bC l=true)(hs:l'.Sublist l):bC l'=true:=by obtain⟨h1,h2,h3⟩:=gZ h;have:=hs.length_le;unfold bC;rw[bI,bI,fT,sE,bR];refine⟨⟨λx hx=>?_,((sE l).1 h2).sublist hs⟩,af⟩;have:=h1 x (hs.subset hx);simp[this.1,fM,this.2]
theorem jm (l:List bg)(i:Nat):(ek l i).Sublist l:=by
 unfold ek
 conv=>rhs;rw[<-yy i l]
 refine KH (Gs _) ?_;rw[<-mA];exact List.drop_sublist _ _
def cE (j:Nat)(l:List bg):Nat:=l.countP λx=>decide (x.id.toNat=j)
theorem JC (j:Nat)(l:List bg)(e:bg):cE j (gx l e)=cE j l+if e.id.toNat=j then 1 else 0:=by
 unfold cE;induction l with
 |nil=>simp[gx,iA]
 |cons a l ih=>
  unfold gx;split
  .simp[iA]
  .rw[iA,ih,iA];omega
theorem LW (h:i<l.length):l=l.take i++l.getD i ⟨[],0⟩::l.drop (i+1):=by
 have:l.getD i ⟨[],0⟩=l[i]:=by rw[a7,bc h];rfl
 rw[this];simp
theorem JD (j:Nat)(h:i<l.length):cE j (ek l i)+(if(l.getD i ⟨[],0⟩).id.toNat=j then 1 else 0)=cE j l:=by
 conv=>rhs;rw[LW h]
 unfold cE ek;rw[Bk,Bk,iA];simp;omega
theorem zd (l:List bg)(s:aC):(ey l s).map (λk=>l.getD k ⟨[],0⟩)=l.find? (λy=>decide (y.name=s)):=by
 unfold ey;induction l with
 |nil=>rfl
 |cons a l ih=>
  rw[Bo,List.find?_cons];by_cases h:a.name=s
  .simp[h]
  .simp only[h,decide_false,Option.map_map];rw[<-ih];cases List.findIdx? (λe=>decide (e.name=s)) l<;>simp
theorem Pd {k:Nat}(h:ey l s=some k):k<l.length:=by unfold ey at h;rw[qe] at h;exact h.1
def bG (G:Gr)(k:Nat):List bg:=match G k with
 |none=>[]
 |some e=>e.es
def iG (G:Gr)(j:Nat):Nat:=((List.range 16).map λk=>cE j (bG G k)).sum
def Vl (e:Option NE):List bg:=match e with
 |none=>[]
 |some e=>e.es
theorem gp (G:Gr)(id:Nat)(e:Option NE)(k:Nat):bG (gP G id e) k=if k=id then Vl e else bG G k:=by
 unfold bG gP Vl;by_cases h:k=id
 .simp only[if_pos h]
 .simp only[if_neg h]
theorem Rh (f g:Nat->Nat)(id:Nat)(h:∀k,k≠id->f k=g k):∀n:Nat,((List.range n).map f).sum+(if id<n then g id else 0)=((List.range n).map g).sum+if id<n then f id else 0
 |0=>by simp
 |n+1=>by
  have ih:=Rh f g id h n;rw[Bj,Qw,Qw,KR,KR];simp only[xg,CS,Bp,List.sum_nil];by_cases hn:n=id
  .subst hn;rw[if_neg af,if_neg af] at ih;rw[if_pos af,if_pos af];omega
  .rw[h n hn];by_cases h2:id<n
   .rw[if_pos h2,if_pos h2] at ih;rw[if_pos af,if_pos af];omega
   .rw[if_neg h2,if_neg h2] at ih;rw[if_neg af,if_neg af];omega
theorem mK (G:Gr){id:Nat}(hid:id<16)(e:Option NE)(j:Nat):iG (gP G id e) j+cE j (bG G id)=iG G j+cE j (Vl e):=by have:=Rh (λk=>cE j (bG (gP G id e) k)) (λk=>cE j (bG G k)) id (λk hk=>by show cE j _=cE j _;rw[gp,if_neg hk]) 16;rw[if_pos hid,if_pos hid] at this;unfold iG;simp only[gp,if_pos] at this⊢;exact this
theorem D5 (f:Nat->Nat){k:Nat}:∀{n:Nat},k<n->f k<=((List.range n).map f).sum
 |0,h=>by omega
 |n+1,h=>by
  rw[Bj,Qw,KR];simp only[xg,CS,Bp,List.sum_nil];by_cases hk:k=n
  .subst hk;omega
  .have:=D5 f (k:=k) (n:=n) af;omega
theorem Ri (f:Nat->Nat){k j:Nat}(SX:k≠j):∀{n:Nat},k<n->j<n->f k+f j<=((List.range n).map f).sum
 |0,h,_=>by omega
 |n+1,h,h'=>by
  rw[Bj,Qw,KR];simp only[xg,CS,Bp,List.sum_nil];by_cases hk:k=n
  .have:=D5 f (k:=j) (n:=n) af;subst hk;omega
  .by_cases hj:j=n
   .have:=D5 f (k:=k) (n:=n) af;subst hj;omega
   .have:=Ri f SX (n:=n) af af;omega
def WfN (e:NE):Prop:=(e.n.kind=1/\e.es=[]/\1<=e.n.bF/\e.n.bF<=9)\/(e.n.kind=2/\bC e.es=true/\e.n.bF=1)
structure Gd (G:Gr):Prop where
 wf:∀k e,G k=some e->WfN e
 hi:∀k,16<=k->G k=none
 cG:∃e,G 0=some e/\e.n.kind=2
 ids:∀k,∀x∈bG G k,∃e,G x.id.toNat=some e
 lk:∀j e,j≠0->G j=some e->((iG G j:Nat):Int)=e.n.bF
 ac:∃d:Nat->Nat,∀k,∀x∈bG G k,d k<d x.id.toNat
theorem Kz.wf {e:NE}(h:Kz st e):WfN e:=by
 obtain⟨l,q,_,⟨h0,h⟩|h⟩:=h
 .exact .inl ⟨h.kd,h0,h.lk⟩
 .exact .inr ⟨h.kd,h.eo,h.lk⟩
theorem rp.wf {l q:c9}(h:rp st t G l q):∀k e,G k=some e->WfN e:=λk e he=>((h.at_ k).some he).2.wf
theorem pM (h:∀k e,G k=some e->WfN e)(k:Nat):bC (bG G k)=true:=by
 unfold bG;cases hg:G k with
 |none=>rfl
 |some e=>
  rcases h k e hg with⟨_,h,_⟩|⟨_,h,_⟩
  .simp only;rw[h];rfl
  .exact h
theorem vZ (h:∀k e,G k=some e->WfN e){k:Nat}(hx:x∈bG G k):1<=x.id/\x.id<=15/\aV x.name=true:=by have:=(gZ (pM h k)).1 x hx;exact⟨this.2.1,this.2.2,this.1⟩
theorem CF (hi:∀k,16<=k->G k=none){k:Nat}(hx:x∈bG G k):k<16:=by
 by_cases h:k<16
 .exact h
 .unfold bG at hx;rw[hi k af] at hx;cases hx
theorem mL {k:Nat}{es:List bg}(h:nA (G k)=some es):bG G k=es/\∃e,G k=some e/\e.n.kind=2/\e.es=es:=by
 unfold nA at h;unfold bG;cases hg:G k with
 |none=>rw[hg] at h;cases h
 |some e=>
  rw[hg] at h;simp only at h;split at h
  .rename_i hk;cases h;exact⟨rfl,e,rfl,hk,rfl⟩
  .cases h
theorem xP {k:Nat}{e:NE}(h:G k=some e)(hk:e.n.kind=2):nA (G k)=some e.es:=by unfold nA;rw[h];simp only;rw[if_pos hk]
theorem xQ (h:∀k e,G k=some e->WfN e){k:Nat}(hx:x∈bG G k):nA (G k)=some (bG G k):=by
 unfold bG at hx⊢;cases hg:G k with
 |none=>rw[hg] at hx;cases hx
 |some e=>
  rw[hg] at hx;rcases h k e hg with⟨_,h,_⟩|⟨hk,_,_⟩
  .simp only at hx;rw[h] at hx;cases hx
  .unfold nA;simp only;rw[if_pos hk]
def look (G:Gr):List aC->Nat->Option Nat
 |[],k=>some k
 |s::l,k=>match nA (G k) with
  |none=>none
  |some es=>match es.find? (λx=>decide (x.name=s)) with
   |none=>none
   |some x=>look G l x.id.toNat
theorem oV (G:Gr):∀(l r:List aC)(k:Nat),look G (l++r) k=match look G l k with
  |none=>none
  |some j=>look G r j
 |[],r,k=>rfl
 |s::l,r,k=>by
  rw[yw,look,look];cases nA (G k) with
  |none=>rfl
  |some es=>
   simp only;cases es.find? (λx=>decide (x.name=s)) with
   |none=>rfl
   |some x=>exact oV G l r x.id.toNat
theorem vp {k j:Nat}(h:look G [s] k=some j):∃x∈bG G k,x.name=s/\x.id.toNat=j/\nA (G k)=some (bG G k)/\(bG G k).find? (λx=>decide (x.name=s))=some x:=by
 rw[look] at h;cases he:nA (G k) with
 |none=>rw[he] at h;cases h
 |some es=>
  rw[he] at h;simp only at h;have h1:=(mL he).1;cases hf:es.find? (λx=>decide (x.name=s)) with
  |none=>rw[hf] at h;cases h
  |some x=>
   rw[hf] at h;simp only[look] at h;(cases h);rw[h1];exact⟨x,List.mem_of_find?_eq_some hf,by simpa using List.find?_some hf,rfl,rfl,hf⟩
theorem Tz (h:∀k e,G k=some e->WfN e){k:Nat}(hx:x∈bG G k):look G [x.name] k=some x.id.toNat:=by rw[look,xQ h hx];simp only;rw[Xl ((sE _).1 (gZ (pM h k)).2.1) hx];rfl
theorem Hm {l q:c9}(h:rp st t G l q)(cq:Bool)(k:Nat):bN st (Fs.node ⟨st,t,cq⟩ k)=nA (G k):=h.bN k
theorem xR {l q:c9}(h:rp st t G l q)(cq:Bool)(ad:List aC):∀(k:Nat),Fs.G9 ⟨st,t,cq⟩ ad k=match look G ad k with
  |none=>-1
  |some j=>(j:Int):=by
 induction ad with
 |nil=>intro k;rfl
 |cons s ad ih=>
  intro k;have he:=Hm h cq k;unfold Fs.G9 at ih⊢;rw[oR,look];simp only;rw[he];cases tw:nA (G k) with
  |none=>rfl
  |some es=>
   simp only;have h1:=zd es s;cases ha:ey es s with
   |none=>rw[ha] at h1;rw[<-h1];rfl
   |some i=>
    rw[ha] at h1;simp only[uL] at h1;rw[<-h1];simp only;have hm:es.getD i ⟨[],0⟩∈bG G k:=by
     rw[(mL tw).1];exact List.mem_of_find?_eq_some h1.symm
    have hid:=vZ h.wf hm;have:=ih (es.getD i ⟨[],0⟩).id.toNat;rw[Bg af] at this;exact this
theorem tQ {d:Nat->Nat}(hd:∀k,∀x∈bG G k,d k<d x.id.toNat):∀(l:List aC)(k j:Nat),look G l k=some j->d k+l.length<=d j
 |[],k,j,h=>by cases h;simp
 |s::l,k,j,h=>by
  have h':look G ([s]++l) k=some j:=h;rw[oV] at h';cases h1:look G [s] k with
  |none=>rw[h1] at h';cases h'
  |some m=>
   rw[h1] at h';simp only at h';obtain⟨x,hx,_,rfl,_⟩:=vp h1;have:=hd k x hx;have:=tQ hd l _ _ h';rw[cU];omega
theorem xS {α:Type}(l:List α):l=[]\/∃a x,l=a++[x]:=by
 rcases List.eq_nil_or_concat l with h|⟨a,x,h⟩
 .exact .inl h
 .exact .inr ⟨a,x,by rw[h,List.concat_eq_append]⟩
theorem aeO (h:cE j l<=1){x y:bg}(hx:x∈l)(hy:y∈l)(hxj:x.id.toNat=j)(hyj:y.id.toNat=j):x=y:=by
 unfold cE at h;rw[List.countP_eq_length_filter] at h;have h1:x∈l.filter λx=>decide (x.id.toNat=j):=rW.2 ⟨hx,by simpa using hxj⟩
 have h2:y∈l.filter λx=>decide (x.id.toNat=j):=rW.2 ⟨hy,by simpa using hyj⟩
 generalize l.filter (λx=>decide (x.id.toNat=j))=w at h h1 h2
 match w,h with
 |[],_=>cases h1
 |[a],_=>simp at h1 h2;rw[h1,h2]
theorem Hn (h:Gd G):∀(n:Nat)(p p':List aC)(k:Nat)(e:NE),p.length<=n->look G p 0=some k->look G p' 0=some k->G k=some e->e.n.kind=2->p=p'
 |0,p,p',k,e,hn,h1,h2,h3,h4=>by
  have:p=[]:=mj af;subst this;cases h1
  obtain⟨d,hd⟩:=h.ac;have:=tQ hd p' 0 0 h2;exact(mj af).symm
 |n+1,p,p',k,e,hn,h1,h2,h3,h4=>by
  obtain⟨d,hd⟩:=h.ac;rcases xS p with rfl|⟨a,s,rfl⟩
  .cases h1
   have:=tQ hd p' 0 0 h2;exact(mj af).symm
  .rcases xS p' with rfl|⟨a',s',rfl⟩
   .cases h2
    have:=tQ hd _ 0 0 h1;rw[bn,Bn] at this;omega
   .rw[oV] at h1 h2;cases e1:look G a 0 with
    |none=>rw[e1] at h1;cases h1
    |some m=>
     cases e2:look G a' 0 with
     |none=>rw[e2] at h2;cases h2
     |some m'=>
      rw[e1] at h1;rw[e2] at h2;simp only at h1 h2;obtain⟨x,hx,N0,hxk,hxe,_⟩:=vp h1;obtain⟨y,hy,hys,hyk,_⟩:=vp h2;(have SO:k≠0:=by have:=vZ h.wf hx;omega);have hl:=h.lk k e SO h3;rcases h.wf k e h3 with⟨hw,_⟩|⟨_,_,hw⟩
      .omega
      .rw[hw] at hl;have hl:iG G k=1:=by omega
       have hm:=CF h.hi hx;have hm':=CF h.hi hy;have c1:1<=cE k (bG G m):=GC.2 ⟨x,hx,by simpa using hxk⟩;have c2:1<=cE k (bG G m'):=GC.2 ⟨y,hy,by simpa using hyk⟩;have hmm:m=m':=by
        by_cases hc:m=m'
        .exact hc
        .exfalso;have:=Ri (λi=>cE k (bG G i)) hc hm hm';unfold iG at hl;omega
       subst hmm;have alf:cE k (bG G m)<=1:=by
        have:=D5 (λi=>cE k (bG G i)) hm;unfold iG at hl;omega
       have Vk:=aeO alf hx hy hxk hyk;subst Vk;obtain⟨em,alg,alh,_⟩:=(mL hxe).2;have:=Hn h n a a' m em (by rw[bn,Bn] at hn;omega) e1 e2 alg alh;rw[this,<-N0,<-hys]
end
variable {f:Fs}{at_:Nat}{ag:aC}{cq:Bool}
section
variable {k:Nat}{l:c9}
def FS (st:ar)(t:cB):Prop:=∃G l q,rp st t G l q/\Gd G
theorem ze {id:Int}{n:iE}(h:(f.put id n).cq=false):f.cq=false:=by
 unfold Fs.put at h;by_cases hf:f.cq=true
 .rw[if_pos hf] at h;rw[h]
 .simpa using hf
theorem aa9 {n:iE}(h:(f.put id n).cq=false):nb f.st f.t id n=((f.put id n).st,(f.put id n).t,true):=by
 have hf:=ze h;unfold Fs.put at h⊢;rw[if_neg (by rw[hf];simp)] at h⊢;rw[uM] at h⊢;rcases hp:nb f.st f.t id n with⟨st,t,ok⟩;rw[hp] at h;simp only at h⊢;have:ok=true:=by simpa using h
 rw[this]
theorem xT {id:Int}{l:List bg}(h:(f.bh id l).cq=false):f.cq=false:=by
 unfold Fs.bh at h;by_cases hf:f.cq=true
 .rw[if_pos hf] at h;rw[h]
 .simpa using hf
theorem D6 {e:NE}(h:FX st t G id e.Q l q)(hid:id<16)(he:Kz st e)(hp:(Fs.put ⟨st,t,false⟩ id e.n).cq=false):∃l' q',rp (Fs.put ⟨st,t,false⟩ id e.n).st (Fs.put ⟨st,t,false⟩ id e.n).t (gP G id (some e)) l' q':=
 Xj h hid he (aa9 hp)
theorem nC (h:rp st t G l q)(cq:Bool)(k:Nat):Fs.node ⟨st,t,cq⟩ k=((G k).map (·.n)).getD bA:=by unfold Fs.node;rw[show(ji st t k)=_ from h.ji k]
theorem oW {e:NE}{es':List bg}(h:rp st t G l q)(he:G at_=some e)(hk:e.n.kind=2)(tw:bC es'=true)(hp:(Fs.bh ⟨st,t,false⟩ at_ es').cq=false):
  ∃e' l' q',rp (Fs.bh ⟨st,t,false⟩ at_ es').st (Fs.bh ⟨st,t,false⟩ at_ es').t (gP G at_ (some e')) l' q'/\e'.es=es'/\e'.n.kind=2/\e'.n.bF=e.n.bF:=by
 obtain⟨_,hid⟩:=h.lt he;obtain⟨ln,qn,hq,hh⟩:=((h.at_ at_).some he).2;rcases hh with⟨_,hf⟩|hd
 .rw[hf.kd] at hk;cases hk
 have ahI:Fs.node ⟨st,t,false⟩ at_=e.n:=by rw[nC h,he];rfl
 unfold Fs.bh at hp⊢;rw[if_neg ay] at hp⊢;simp only[ahI] at hp⊢;rcases hb:ky st e.n.a6 (bj es') with⟨st1,t1,ok⟩;rw[hb] at hp;simp only at hp⊢;have gd:ok=true:=by have:=ze hp;simpa using this
 subst gd;have Ob:=h.fx hid;have Xk:gq G at_=e.Q:=by unfold gq;rw[he]
 have cX:=(l8 tw).1;obtain⟨l1,q1,h1,h2,h3,h4,h5⟩:=O8 (R:=cK l q++rM G at_) hd.tr (Ob.so.cT (by
  rw[Xk,hq];exact oK _ _ _)) af hb
 have Tx:FX st1 t G at_ (cK l1 q1) l q:=Ob.step h3 h2
 let e':NE:=⟨{e.n with a6:=t1,size:=((bj es').length:Int)},es',cK l1 q1⟩
 have hn:Kz st1 e':=⟨l1,q1,rfl,.inr ⟨h1,hd.kd,tw,rfl,hd.lk,h4,h5⟩⟩;obtain⟨l',q',k⟩:=D6 (e:=e') Tx hid hn hp;exact⟨e',l',q',k,rfl,hd.kd,rfl⟩
theorem zf (h:aT ag=true):∀s∈aI ag,aV s=true:=by
 intro s hs;unfold aT at h;split at h
 .rename_i h0;rw[h0] at hs;unfold aI at hs;rw[if_pos rfl] at hs;cases hs
 .split at h
  .cases h
  .rw[bI,fT] at h;exact h.1 s hs
theorem xU (h:aI ag≠[]):aI ag=(aI ag).dropLast++[Fs.base ag]:=by unfold Fs.base;rw[List.getLastD_eq_getLast?,List.getLast?_eq_some_getLast h,qd,List.dropLast_concat_getLast]
theorem zg (h:rp st t G l q)(hr:¬0<(Fs.bP ⟨st,t,cq⟩ ag).2):
  ∃(at_:Nat)(e:NE),Fs.bP ⟨st,t,cq⟩ ag=((at_:Int),0)/\aI ag≠[]/\look G (aI ag).dropLast 0=some at_/\G at_=some e/\e.n.kind=2:=by
 unfold Fs.bP at hr⊢;simp only at hr⊢;by_cases hn:aI ag=[]
 .rw[if_pos hn] at hr;exact absurd bT hr
 .rw[if_neg hn] at hr⊢;have hl:Fs.G9 ⟨st,t,cq⟩ (aI ag).dropLast 0=_:=xR h cq (aI ag).dropLast 0;rw[hl] at hr⊢;cases LX:look G (aI ag).dropLast 0 with
  |none=>rw[LX] at hr;exact absurd (show(0:Int)<2 by decide) hr
  |some at_=>
   rw[LX] at hr;simp only at hr⊢;rw[if_neg af] at hr⊢;rw[nC h] at hr⊢;cases hg:G at_ with
   |none=>rw[hg] at hr;exact absurd (show(0:Int)<4 by decide) hr
   |some e=>
    rw[hg] at hr;simp only[uL,qd] at hr⊢;by_cases hk:e.n.kind=2
    .rw[if_neg (by simpa using hk)];exact⟨at_,e,rfl,hn,rfl,hg,hk⟩
    .rw[if_pos hk] at hr;exact absurd bT hr
theorem Ho (h:rp st t G l q)(cq:Bool)(ag:aC):Fs.db ⟨st,t,cq⟩ ag=match look G (aI ag) 0 with
  |none=>-1
  |some j=>(j:Int):=xR h cq (aI ag) 0
theorem iy (h:rp st t G l q)(hf:¬Fs.db ⟨st,t,cq⟩ ag<0):∃k:Nat,Fs.db ⟨st,t,cq⟩ ag=k/\look G (aI ag) 0=some k:=by
 rw[Ho h] at hf⊢;cases hl:look G (aI ag) 0 with
 |none=>rw[hl] at hf;exact absurd bT hf
 |some k=>exact⟨k,rfl,rfl⟩
theorem LY (h:rp st t G l q)(hf:¬0<=Fs.db ⟨st,t,cq⟩ ag):look G (aI ag) 0=none:=by
 rw[Ho h] at hf;cases hl:look G (aI ag) 0 with
 |none=>rfl
 |some k=>rw[hl] at hf;exact absurd ay hf
theorem Xn {e:NE}(hn:aI ag≠[])(hl:look G (aI ag).dropLast 0=some at_)(he:G at_=some e)(hk:e.n.kind=2)(hf:look G (aI ag) 0=none):∀x∈e.es,x.name≠Fs.base ag:=by
 rw[xU hn,oV,hl] at hf;simp only at hf;rw[look,xP he hk] at hf;simp only at hf;cases D7:e.es.find? (λx=>decide (x.name=Fs.base ag)) with
 |none=>exact Ty D7
 |some x=>rw[D7] at hf;cases hf
theorem JE (h:aT ag=true)(hn:aI ag≠[]):aV (Fs.base ag)=true:=by apply zf h;rw[xU hn];simp
theorem sF (h:rp st t G l q)(hp:aT ag=true)(hr:¬0<(Fs.cu ⟨st,t,cq⟩ ag).2):
  ∃(at_:Nat)(e:NE),(Fs.cu ⟨st,t,cq⟩ ag).1=(at_:Int)/\aI ag≠[]/\look G (aI ag).dropLast 0=some at_/\G at_=some e/\e.n.kind=2/\(∀x∈e.es,x.name≠Fs.base ag)/\aV (Fs.base ag)=true:=by
 unfold Fs.cu at hr⊢;simp only at hr⊢;by_cases h1:0<(Fs.bP ⟨st,t,cq⟩ ag).2
 .rw[if_pos h1] at hr;exact absurd h1 hr
 .rw[if_neg h1] at hr⊢;obtain⟨at_,e,e1,e2,e3,e4,e5⟩:=zg h h1;by_cases h2:0<=Fs.db ⟨st,t,cq⟩ ag
  .rw[if_pos h2] at hr;exact absurd bT hr
  .rw[if_neg h2,e1];exact⟨at_,e,rfl,e2,e3,e4,e5,Xn e2 e3 e4 e5 (LY h h2),JE hp e2⟩
theorem mf (h:rp st t G l q)(cq:Bool){e:NE}(he:G k=some e)(hk:e.n.kind=2):Fs.bG ⟨st,t,cq⟩ k=e.es:=by unfold Fs.bG;rw[Hm h cq k,xP he hk];rfl
theorem fC (G:Gr)(id:Nat)(e:Option NE):gP G id e id=e:=by unfold gP;rw[if_pos rfl]
theorem fN (G:Gr)(e:Option NE)(h:k≠id):gP G id e k=G k:=by unfold gP;rw[if_neg h]
theorem dR {e:NE}(h:G k=some e):bG G k=e.es:=by unfold bG;rw[h]
theorem Rj {kind:Int}(hk:kind=1\/kind=2)(h:FS st t)(hp:aT ag=true)(h0:(Fs.make ⟨st,t,false⟩ ag kind).2=0)(hf:(Fs.make ⟨st,t,false⟩ ag kind).1.cq=false):FS (Fs.make ⟨st,t,false⟩ ag kind).1.st (Fs.make ⟨st,t,false⟩ ag kind).1.t:=by
 obtain⟨G,l,q,hF,hG⟩:=h;unfold Fs.make at h0 hf⊢;simp only at h0 hf⊢;by_cases h1:0<(Fs.cu ⟨st,t,false⟩ ag).2
 .rw[if_pos h1] at h0;simp only at h0;omega
 .rw[if_neg h1] at h0 hf⊢;obtain⟨at_,e,e1,e2,e3,e4,e5,e6,e7⟩:=sF hF hp h1;rw[e1] at h0 hf⊢;cases C6:vc st t with
  |none=>rw[C6] at h0;simp at h0
  |some id=>
   rw[C6] at h0 hf;simp only at h0 hf⊢;rw[mf hF false e4 e5] at h0 hf⊢;by_cases Ar:12<=e.es.length
   .rw[if_pos Ar] at h0;simp at h0
   .rw[if_neg Ar] at hf⊢;simp only at hf⊢;obtain⟨hid,wW⟩:=D4 hF C6;have pD:at_≠id:=λhc=>by rw[hc,wW] at e4;cases e4
    have F3:id≠0:=λhc=>by obtain⟨r,hr,_⟩:=hG.cG;rw[hc,hr] at wW;cases wW
    let en:NE:=⟨⟨kind,1,0,eY⟩,[],[]⟩
    have Wq:=xT hf;(have Xk:gq G id=[]:=by unfold gq;rw[wW]);have Ob:FX st t G id en.Q l q:=by have:=hF.fx hid;rw[Xk] at this;exact this
    have hhn:da 16=da 16:=rfl;have Z6:Kz st en:=by
     refine⟨da 16,[],by unfold cK;rw[lb];rfl,?_⟩;rcases hk with rfl|rfl
     .exact .inl ⟨rfl,sB st,rfl,bT,rfl,bT,λj hj=>by have hj:(j:Int)<0:=hj;omega⟩
     .exact .inr ⟨sB st,rfl,rfl,rfl,rfl,rfl,by unfold tx;rw[show(da 16).getD 0 bz=bz from rfl,lG lF];rfl⟩
    refine' zaI;have zh:bC (gx e.es ⟨Fs.base ag,id⟩)=true:=CE tw e6 e7 (by show 1<=(id:Int)/\(id:Int)<=15;omega) af;generalize pf:(Fs.put ⟨st,t,false⟩ id ⟨kind,1,0,eY⟩)=fs at hf Wq⊢;(have yu:rp fs.st fs.t (gP G id (some en)) l1 q1:=by rw[<-pf];exact yu);obtain⟨st1,t1,zi⟩:=fs;simp only at Wq;subst Wq;obtain⟨e',l2,q2,FB,g1,g2,g3⟩:=oW yu e4' e5 zh hf;refine⟨_,l2,q2,FB,FB.wf,FB.hi,?_,?_,?_,?_⟩
    .obtain⟨r,hr1,mG⟩:=hG.cG;by_cases ha:at_=0
     .subst ha;exact⟨e',fC _ _ _,g2⟩
     .rw[fN _ _ (λh=>ha h.symm),fN _ _ (λh=>F3 h.symm)];exact⟨r,hr1,mG⟩
    .have hold:∀k r,G k=some r->∃r',gP (gP G id (some en)) at_ (some e') k=some r':=λk r hr=>by
      by_cases hk:k=at_
      .subst hk;exact⟨_,fC _ _ _⟩
      .rw[fN _ _ hk];by_cases yW:k=id
       .subst yW;exact⟨_,fC _ _ _⟩
       .rw[fN _ _ yW];exact⟨r,hr⟩
     have mq:∃r',gP (gP G id (some en)) at_ (some e') id=some r':=by
      rw[fN _ _ (λh=>pD h.symm)];exact⟨_,fC _ _ _⟩
     intro k x hx;rw[gp] at hx;by_cases hk:k=at_
     .rw[if_pos hk] at hx;have hx:x∈e'.es:=hx;rw[g1] at hx;rcases nB.1 hx with rfl|hx
      .exact mq
      .rw[<-jw] at hx;obtain⟨r,hr⟩:=hG.ids at_ x hx;exact hold _ r hr
     .rw[if_neg hk,gp] at hx;by_cases yW:k=id
      .rw[if_pos yW] at hx;cases hx
      .rw[if_neg yW] at hx;obtain⟨r,hr⟩:=hG.ids k x hx;exact hold _ r hr
    .have I9:∀j,iG (gP (gP G id (some en)) at_ (some e')) j=iG G j+if id=j then 1 else 0:=λj=>by
      have c1:=mK (gP G id (some en)) (yu.lt e4').2 (some e') j;have c2:=mK G hid (some en) j;rw[dR e4'] at c1;(have:bG G id=[]:=by unfold bG;rw[wW]);rw[this] at c2;have c3:=JC j e.es ⟨Fs.base ag,id⟩;have c4:Vl (some e')=gx e.es ⟨Fs.base ag,id⟩:=g1;rw[c4,c3] at c1;have c5:cE j (Vl (some en))=0:=rfl;have c6:cE j []=0:=rfl;rw[c5,c6] at c2;simp only[uM] at c1;omega
     have hz:iG G id=0:=by
      unfold iG;have:∀k,cE id (bG G k)=0:=λk=>by
       unfold cE;rw[uO];intro x hx;obtain⟨r,hr⟩:=hG.ids k x hx;simp only[bR];intro hc;rw[hc,wW] at hr;cases hr
      rw[show(λk=>cE id (bG G k))=λ_=>0 from funext this];rfl
     intro j r hj hr;rw[I9];by_cases LZ:j=at_
     .subst LZ;rw[fC] at hr;cases hr
      rw[if_neg (λh=>pD h.symm),g3];have:=hG.lk j e hj e4;omega
     .rw[fN _ _ LZ] at hr;by_cases sT:j=id
      .subst sT;rw[fC] at hr;cases hr
       rw[if_pos rfl,hz];rfl
      .rw[fN _ _ sT] at hr;rw[if_neg (λh=>sT h.symm)];have:=hG.lk j r hj hr;omega
    .obtain⟨d,hd⟩:=hG.ac;have gh:∀k,∀x∈bG G k,x.id.toNat≠id:=λk x hx hc=>by
      obtain⟨r,hr⟩:=hG.ids k x hx;rw[hc,wW] at hr;cases hr
     refine⟨λk=>if k=id then d at_+1 else d k,λk x hx=>?_⟩;rw[gp] at hx;by_cases hk:k=at_
     .rw[if_pos hk] at hx;have hx:x∈e'.es:=hx;rw[g1] at hx;rw[hk];show(if at_=id then d at_+1 else d at_)<(if x.id.toNat=id then d at_+1 else d x.id.toNat);rw[if_neg pD];rcases nB.1 hx with rfl|hx
      .simp
      .rw[<-jw] at hx;rw[if_neg (gh at_ x hx)];exact hd at_ x hx
     .rw[if_neg hk,gp] at hx;by_cases yW:k=id
      .rw[if_pos yW] at hx;cases hx
      .rw[if_neg yW] at hx;simp only[if_neg yW,if_neg (gh k x hx)];exact hd k x hx
end
section
variable {k:Nat}
theorem mg {e:NE}(h:∃r,G k=some r):∃r,gP G id (some e) k=some r:=by
 by_cases hk:k=id
 .subst hk;exact⟨e,fC _ _ _⟩
 .rw[fN _ _ hk];exact h
theorem nD {e:NE}(h:∃r,G 0=some r/\r.n.kind=2)(he:id=0->e.n.kind=2):∃r,gP G id (some e) 0=some r/\r.n.kind=2:=by
 by_cases hk:0=id
 .subst hk;exact⟨e,fC _ _ _,he rfl⟩
 .rw[fN _ _ hk];exact h
theorem Rk (h:∀k e,G k=some e->WfN e){e:NE}(he:G k=some e)(hk:e.n.kind=1):e.es=[]/\1<=e.n.bF/\e.n.bF<=9:=by
 rcases h k e he with⟨_,h1,h2⟩|⟨h1,_⟩
 .exact⟨h1,h2⟩
 .rw[hk] at h1;cases h1
theorem jn (hG:Gd G){ad:List aC}(h:look G ad 0=some k):∃e,G k=some e:=by
 rcases xS ad with rfl|⟨a,s,rfl⟩
 .cases h;obtain⟨e,he,_⟩:=hG.cG;exact⟨e,he⟩
 .rw[oV] at h;cases h1:look G a 0 with
  |none=>rw[h1] at h;cases h
  |some m=>
   rw[h1] at h;obtain⟨x,hx,_,rfl,_⟩:=vp h;exact hG.ids m x hx
theorem Gd.same (h:Gd G){e e':NE}(he:G id=some e)(hw:∀k r,gP G id (some e') k=some r->WfN r)(tw:e'.es=e.es)(hk:e'.n.kind=e.n.kind)(hl:e'.n.bF=e.n.bF):Gd (gP G id (some e')):=by
 have hid:id<16:=by
  by_cases hid:id<16
  .exact hid
  .rw[h.hi id af] at he;cases he
 have hE:∀k,bG (gP G id (some e')) k=bG G k:=λk=>by
  rw[gp];split
  .rename_i hk;rw[hk,dR he];exact tw
  .rfl
 refine⟨hw,Pc h.hi hid,?_,λk x hx=>?_,λj r hj hr=>?_,?_⟩
 .obtain⟨r,hr,mG⟩:=h.cG;exact nD ⟨r,hr,mG⟩ (λhc=>by subst hc;rw[hr] at he;cases he;rw[hk];exact mG)
 .rw[hE] at hx;exact mg (h.ids k x hx)
 .have:iG (gP G id (some e')) j=iG G j:=by unfold iG;simp only[hE]
  rw[this];by_cases sT:j=id
  .subst sT;rw[fC] at hr;cases hr
   rw[hl];exact h.lk j e hj he
  .rw[fN _ _ sT] at hr;exact h.lk j r hj hr
 .obtain⟨d,hd⟩:=h.ac;exact⟨d,λk x hx=>by rw[hE] at hx;exact hd k x hx⟩
theorem TA {o:Pl.Op}(h:FS st t)(ha:0<=o.at_/\o.at_<=192)(h0:(Fs.change ⟨st,t,false⟩ o).2=0)(hf:(Fs.change ⟨st,t,false⟩ o).1.cq=false):FS (Fs.change ⟨st,t,false⟩ o).1.st (Fs.change ⟨st,t,false⟩ o).1.t:=by
 obtain⟨G,l,q,hF,hG⟩:=h;unfold Fs.change at h0 hf⊢;simp only at h0 hf⊢;by_cases h1:Fs.db ⟨st,t,false⟩ o.ag<0
 .rw[if_pos h1] at h0;cases h0
 .rw[if_neg h1] at h0 hf⊢;obtain⟨id,e1,e2⟩:=iy hF h1;obtain⟨e,he⟩:=jn hG e2;rw[e1,nC hF,he] at h0 hf⊢;simp only[uL,qd] at h0 hf⊢;by_cases hk:e.n.kind=1
  .rw[if_neg (by simpa using hk)] at h0 hf⊢;by_cases hm:192<o.at_+(o.a8.length:Int)
   .rw[if_pos hm] at h0;cases h0
   .rw[if_neg hm] at hf⊢;obtain⟨_,hid⟩:=hF.lt he;obtain⟨ln,qn,hq,hh⟩:=((hF.at_ id).some he).2;have Hp:pq st e.n ln qn:=by
     rcases hh with⟨_,hh⟩|hd
     .exact hh
     .have:=hd.kd;rw[hk] at this;cases this
    have Ob:=hF.fx hid;(have Xk:gq G id=e.Q:=by unfold gq;rw[he]);have Xo:mX st (cK ln qn++(cK l q++rM G id)):=Ob.so.cT (by rw[Xk,hq];exact oK _ _ _);rcases hr:(if o.kind=3 then fF st e.n o.at_.toNat o.a8 else fq st e.n o.at_.toNat) with⟨st1,n1,ok⟩;rw[hr] at hf;simp only at hf⊢;have gd:ok=true:=by have:=ze hf;simpa using this
    subst gd;have Jd:∃l' q',pq st1 n1 l' q'/\mX st1 (cK l' q'++(cK l q++rM G id))/\fY st st1 (cK l q++rM G id)/\n1.bF=e.n.bF/\n1.kind=e.n.kind:=by
     split at hr
     .exact Jy Hp Xo af hr
     .exact O9 Hp Xo af hr
    obtain⟨l1,q1,g1,g2,g3,g4,g5⟩:=Jd;have Tx:FX st1 t G id (cK l1 q1) l q:=Ob.step g3 g2
    let e':NE:=⟨n1,[],cK l1 q1⟩
    obtain⟨l2,q2,FB⟩:=D6 (e:=e') Tx hid ⟨l1,q1,rfl,.inl ⟨rfl,g1⟩⟩ hf;exact⟨_,l2,q2,FB,hG.same he FB.wf (Rk hG.wf he hk).1.symm g5 g4⟩
  .rw[if_pos (by simpa using hk)] at h0;cases h0
theorem aba {ag to:aC}(h:FS st t)(hp:aT to=true)(h0:(Fs.link ⟨st,t,false⟩ ag to).2=0)(hf:(Fs.link ⟨st,t,false⟩ ag to).1.cq=false):FS (Fs.link ⟨st,t,false⟩ ag to).1.st (Fs.link ⟨st,t,false⟩ ag to).1.t:=by
 obtain⟨G,l,q,hF,hG⟩:=h;unfold Fs.link at h0 hf⊢;simp only at h0 hf⊢;by_cases h1:Fs.db ⟨st,t,false⟩ ag<0
 .rw[if_pos h1] at h0;cases h0
 .rw[if_neg h1] at h0 hf⊢;obtain⟨id,e1,e2⟩:=iy hF h1;obtain⟨ei,qT⟩:=jn hG e2;rw[e1,nC hF,qT] at h0 hf⊢;simp only[uL,qd] at h0 hf⊢;by_cases hk:ei.n.kind=1
  .rw[if_neg (by simpa using hk)] at h0 hf⊢;by_cases h2:0<(Fs.cu ⟨st,t,false⟩ to).2
   .rw[if_pos h2] at h0;simp only at h0;omega
   .rw[if_neg h2] at h0 hf⊢;obtain⟨at_,e,e1',_,e3,e4,e5,e6,e7⟩:=sF hF hp h2;rw[e1',mf hF false e4 e5] at h0 hf⊢;by_cases Ar:9<=ei.n.bF\/12<=e.es.length
    .rw[if_pos Ar] at h0;cases h0
    .rw[if_neg Ar] at hf⊢;obtain⟨_,hid⟩:=hF.lt qT;have pD:at_≠id:=λhc=>by rw[hc,qT] at e4;cases e4;rw[hk] at e5;cases e5
     (have F3:id≠0:=λhc=>by obtain⟨r,hr,mG⟩:=hG.cG;rw[hc,hr] at qT;cases qT;rw[hk] at mG;cases mG);obtain⟨ali,LX⟩:=Rk hG.wf qT hk
     let en:NE:=⟨{ei.n with bF:=ei.n.bF+1},[],ei.Q⟩
     have Wq:=xT hf;(have Xk:gq G id=ei.Q:=by unfold gq;rw[qT]);have Ob:FX st t G id en.Q l q:=by have:=hF.fx hid;rw[Xk] at this;exact this
     have Z6:Kz st en:=by
      obtain⟨ln,qn,hq,⟨_,hh⟩|hd⟩:=((hF.at_ id).some qT).2
      .exact⟨ln,qn,hq,.inl ⟨rfl,hh.tr,hh.kd,hh.sz,hh.mn,by show 1<=ei.n.bF+1/\ei.n.bF+1<=9;omega,hh.ft⟩⟩
      .have:=hd.kd;rw[hk] at this;cases this
     refine' zaI;have zh:bC (gx e.es ⟨Fs.base to,id⟩)=true:=CE tw e6 e7 (by show 1<=(id:Int)/\(id:Int)<=15;omega) af;generalize pf:(Fs.put ⟨st,t,false⟩ id {ei.n with bF:=ei.n.bF+1})=fs at hf Wq⊢;(have yu:rp fs.st fs.t (gP G id (some en)) l1 q1:=by rw[<-pf];exact yu);obtain⟨st1,t1,zi⟩:=fs;simp only at Wq;subst Wq;obtain⟨e',l2,q2,FB,g1,g2,g3⟩:=oW yu e4' e5 zh hf;have Dc:bG G id=[]:=by rw[dR qT];exact ali
     have hE:∀k,bG (gP (gP G id (some en)) at_ (some e')) k=if k=at_ then gx e.es ⟨Fs.base to,id⟩ else bG G k:=λk=>by
      rw[gp];split
      .exact g1
      .rw[gp];split
       .rename_i hk;rw[hk,Dc];rfl
       .rfl
     refine⟨_,l2,q2,FB,FB.wf,FB.hi,?_,?_,?_,?_⟩
     .exact nD (nD hG.cG (λhc=>absurd hc F3)) (λ_=>g2)
     .intro k x hx;rw[hE] at hx;refine mg (mg ?_);split at hx
      .rcases nB.1 hx with rfl|hx
       .exact⟨ei,by simpa using qT⟩
       .rw[<-jw] at hx;exact hG.ids at_ x hx
      .exact hG.ids k x hx
     .intro j r hj hr;have c1:=mK (gP G id (some en)) (yu.lt e4').2 (some e') j;have c2:=mK G hid (some en) j;have c3:=JC j e.es ⟨Fs.base to,id⟩;have c4:Vl (some e')=gx e.es ⟨Fs.base to,id⟩:=g1;rw[dR e4',c4,c3] at c1;rw[Dc] at c2;have c5:cE j (Vl (some en))=0:=rfl;have c6:cE j []=0:=rfl;rw[c5,c6] at c2;simp only[uM] at c1;by_cases LZ:j=at_
      .subst LZ;rw[fC] at hr;cases hr
       rw[if_neg (λh=>pD h.symm)] at c1;rw[g3];have:=hG.lk j e hj e4;omega
      .rw[fN _ _ LZ] at hr;by_cases sT:j=id
       .subst sT;rw[fC] at hr;cases hr
        rw[if_pos rfl] at c1;show _=ei.n.bF+1;have:=hG.lk j ei hj qT;omega
       .rw[fN _ _ sT] at hr;rw[if_neg (λh=>sT h.symm)] at c1;have:=hG.lk j r hj hr;omega
     .obtain⟨d,hd⟩:=hG.ac;have alj:∀k,∀x∈bG G k,k≠id:=λk x hx hc=>by rw[hc,Dc] at hx;cases hx
      refine⟨λk=>if k=id then d id+d at_+1 else d k,λk x hx=>?_⟩;rw[hE] at hx;show(if k=id then _ else _)<(if x.id.toNat=id then _ else _);split at hx
      .rename_i hk;rw[hk,if_neg pD];rcases nB.1 hx with rfl|hx
       .rw[if_pos ay];omega
       .rw[<-jw] at hx;have:=hd at_ x hx;split
        .omega
        .exact this
      .rw[if_neg (alj k x hx)];have:=hd k x hx;split
       .rename_i hc;rw[hc] at this;omega
       .exact this
  .rw[if_pos (by simpa using hk)] at h0;cases h0
theorem sG {l q:c9}(hF:rp st t G l q)(hG:Gd G)(hl:look G (aI ag) 0=some id)(hid:id≠0):
  ∃(at_:Nat)(e:NE)(i:Nat),Fs.bP ⟨st,t,false⟩ ag=((at_:Int),0)/\look G (aI ag).dropLast 0=some at_/\G at_=some e/\e.n.kind=2/\ey e.es (Fs.base ag)=some i/\i<e.es.length/\(e.es.getD i ⟨[],0⟩).id.toNat=id/\aI ag≠[]:=by
 have hn:aI ag≠[]:=λh=>by rw[h] at hl;cases hl;exact hid rfl
 have jA:=hl;rw[xU hn,oV] at jA;cases h1:look G (aI ag).dropLast 0 with
 |none=>rw[h1] at jA;cases jA
 |some at_=>
  rw[h1] at jA;obtain⟨x,hx,hxn,hxi,hxe,hxf⟩:=vp jA;obtain⟨hee,e,he,hk,tw⟩:=mL hxe;have h2:=zd e.es (Fs.base ag);rw[tw,hxf] at h2;cases hi:ey (bG G at_) (Fs.base ag) with
  |none=>rw[hi] at h2;cases h2
  |some i=>
   rw[hi] at h2;simp only[uL] at h2;(have h3:(bG G at_).getD i ⟨[],0⟩=x:=by injection h2);refine⟨at_,e,i,?_,rfl,he,hk,by rw[tw];exact hi,by rw[tw];exact Pd hi,by rw[tw,h3];exact hxi,hn⟩;unfold Fs.bP;simp only;rw[if_neg hn];have LX:Fs.G9 ⟨st,t,false⟩ (aI ag).dropLast 0=_:=xR hF false (aI ag).dropLast 0;rw[LX,h1];simp only;rw[if_neg af,nC hF,he];simp only[uL,qd];rw[if_neg (by simpa using hk)]
theorem Xp (h:FS st t)(h0:(Fs.qu ⟨st,t,false⟩ ag).2=0)(hf:(Fs.qu ⟨st,t,false⟩ ag).1.cq=false):FS (Fs.qu ⟨st,t,false⟩ ag).1.st (Fs.qu ⟨st,t,false⟩ ag).1.t:=by
 obtain⟨G,l,q,hF,hG⟩:=h;unfold Fs.qu at h0 hf⊢;simp only at h0 hf⊢;by_cases h1:Fs.db ⟨st,t,false⟩ ag<0
 .rw[if_pos h1] at h0;cases h0
 .rw[if_neg h1] at h0 hf⊢;obtain⟨id,e1,e2⟩:=iy hF h1;obtain⟨ei,qT⟩:=jn hG e2;rw[e1,nC hF,qT] at h0 hf⊢;simp only[uL,qd] at h0 hf⊢;by_cases hb:(id:Int)=0\/(ei.n.kind=2/\0<ei.n.size)
  .rw[if_pos hb] at h0;cases h0
  .rw[if_neg hb] at h0 hf⊢;have F3:id≠0:=λhc=>hb (.inl af)
   obtain⟨at_,e,i,p1,p2,p3,p4,p5,p6,p7,_⟩:=sG hF hG e2 F3;rw[p1] at h0 hf⊢;simp only at h0 hf⊢;rw[mf hF false p3 p4,p5] at h0 hf⊢;simp only[qd] at h0 hf⊢;obtain⟨_,hid⟩:=hF.lt qT;have jw:=dR p3;have tw:bC e.es=true:=by have:=pM hG.wf at_;rwa [jw] at this
   have zh:=JB tw (jm e.es i);have Dc:bG G id=[]:=by
    rw[dR qT];obtain⟨ln,qn,hq,⟨h0,_⟩|hd⟩:=((hF.at_ id).some qT).2
    .exact h0
    .have iX:=hd.sz;have V0:=hd.kd;have:ei.es=[]:=by
      by_cases hc:ei.es=[]
      .exact hc
      .have h3:=(l8 hd.eo).2 hc;exact absurd (.inr ⟨V0,af⟩) hb
     exact this
   have pD:at_≠id:=λhc=>by
    (have:bG G at_=[]:=by rw[hc];exact Dc);rw[jw] at this;rw[this] at p6;simp at p6
   have KA:(Fs.bh ⟨st,t,false⟩ at_ (ek e.es i)).cq=false:=by
    by_cases hl:0<ei.n.bF-1
    .rw[if_pos hl] at hf;exact ze hf
    .rw[if_neg hl] at hf;by_cases hfu:(Fs.bh ⟨st,t,false⟩ at_ (ek e.es i)).cq=true
     .rw[if_pos hfu] at hf;exact hf
     .simpa using hfu
   obtain⟨e',l1,q1,yu,g1,g2,g3⟩:=oW hF p3 p4 zh KA;generalize pf:(Fs.bh ⟨st,t,false⟩ at_ (ek e.es i))=fs at hf KA yu⊢;obtain⟨st1,t1,zi⟩:=fs;simp only at KA;subst KA;have aeP:gP G at_ (some e') id=some ei:=by rw[fN _ _ (λh=>pD h.symm)];exact qT
   have vM:∀j,iG (gP G at_ (some e')) j+(if id=j then 1 else 0)=iG G j:=λj=>by
    have c1:=mK G (hF.lt p3).2 (some e') j;have c4:Vl (some e')=ek e.es i:=g1;rw[jw,c4] at c1;have c2:=JD j p6;rw[p7] at c2;omega
   have JF:∀k x,x∈bG (gP G at_ (some e')) k->∃r,G x.id.toNat=some r:=λk x hx=>by
    rw[gp] at hx;split at hx
    .have hx:x∈e'.es:=hx;rw[g1] at hx;have:=(jm e.es i).subset hx;rw[<-jw] at this;exact hG.ids at_ x this
    .exact hG.ids k x hx
   obtain⟨d,hd⟩:=hG.ac;have Pe:∀k x,x∈bG (gP G at_ (some e')) k->d k<d x.id.toNat:=λk x hx=>by
    rw[gp] at hx;split at hx
    .rename_i hk;have hx:x∈e'.es:=hx;rw[g1] at hx;have:=(jm e.es i).subset hx;rw[<-jw] at this;rw[hk];exact hd at_ x this
    .exact hd k x hx
   have LX:=hG.lk id ei F3 qT;have hci:=vM id;rw[if_pos rfl] at hci;have hE:∀(o:Option NE),Vl o=[]->∀k,bG (gP (gP G at_ (some e')) id o) k=bG (gP G at_ (some e')) k:=λo ho k=>by
    rw[gp];split
    .rename_i hk;rw[ho,hk,gp,if_neg (λh=>pD h.symm),Dc]
    .rfl
   by_cases hl:0<ei.n.bF-1
   .rw[if_pos hl] at hf⊢;have AI:ei.n.kind=1:=by
     rcases hG.wf id ei qT with⟨hk,_⟩|⟨_,_,hk⟩
     .exact hk
     .omega
    let en:NE:=⟨{ei.n with bF:=ei.n.bF-1},[],ei.Q⟩
    (have Xk:gq (gP G at_ (some e')) id=ei.Q:=by unfold gq;rw[aeP]);have Ob:FX st1 t1 (gP G at_ (some e')) id en.Q l1 q1:=by have:=yu.fx hid;rw[Xk] at this;exact this
    have Z6:Kz st1 en:=by
     obtain⟨ln,qn,hq,⟨_,hh⟩|hd⟩:=((yu.at_ id).some aeP).2
     .have:=hh.lk;exact⟨ln,qn,hq,.inl ⟨rfl,hh.tr,hh.kd,hh.sz,hh.mn,by show 1<=ei.n.bF-1/\ei.n.bF-1<=9;omega,hh.ft⟩⟩
     .have:=hd.kd;rw[AI] at this;cases this
    obtain⟨l2,q2,FB⟩:=D6 (e:=en) Ob hid Z6 hf;have hE2:=hE (some en) rfl;refine⟨_,l2,q2,FB,FB.wf,FB.hi,nD (nD hG.cG (λ_=>g2)) (λhc=>absurd hc F3),λk x hx=>?_,λj r hj hr=>?_,d,λk x hx=>by rw[hE2] at hx;exact Pe k x hx⟩
    .rw[hE2] at hx;exact mg (mg (JF k x hx))
    .have hnr:iG (gP (gP G at_ (some e')) id (some en)) j=iG (gP G at_ (some e')) j:=by unfold iG;simp only[hE2]
     have hcj:=vM j;rw[hnr];by_cases sT:j=id
     .subst sT;rw[fC] at hr;cases hr
      show _=ei.n.bF-1;omega
     .rw[fN _ _ sT] at hr;rw[if_neg (λh=>sT h.symm)] at hcj;by_cases LZ:j=at_
      .subst LZ;rw[fC] at hr;cases hr
       rw[g3];have:=hG.lk j e hj p3;omega
      .rw[fN _ _ LZ] at hr;have:=hG.lk j r hj hr;omega
   .rw[if_neg hl] at hf⊢;rw[if_neg ay] at hf⊢;rcases tO:gg st1 t1 id with⟨eI,t2,ok⟩
    rw[tO] at hf;simp only at hf⊢;(have gd:ok=true:=by simpa using hf);subst gd;obtain⟨l2,q2,FB⟩:=JA yu aeP tO;have hE2:=hE none rfl;(have ant:1<=ei.n.bF:=by rcases hG.wf id ei qT with⟨_,_,hk,_⟩|⟨_,_,hk⟩<;>omega);(have hz:iG (gP G at_ (some e')) id=0:=by omega);refine⟨_,l2,q2,FB,FB.wf,FB.hi,?_,λk x hx=>?_,λj r hj hr=>?_,d,λk x hx=>by rw[hE2] at hx;exact Pe k x hx⟩
    .rw[fN _ _ (λh=>F3 h.symm)];exact nD hG.cG (λ_=>g2)
    .rw[hE2] at hx;have gh:x.id.toNat≠id:=λhc=>by
      have Jz:k<16:=CF yu.hi hx;have c1:1<=cE id (bG (gP G at_ (some e')) k):=GC.2 ⟨x,hx,by simpa using hc⟩;have:=D5 (λi=>cE id (bG (gP G at_ (some e')) i)) Jz;unfold iG at hz;omega
     rw[fN _ _ gh];exact mg (JF k x hx)
    .have hnr:iG (gP (gP G at_ (some e')) id none) j=iG (gP G at_ (some e')) j:=by unfold iG;simp only[hE2]
     have hcj:=vM j;rw[hnr];by_cases sT:j=id
     .subst sT;rw[fC] at hr;cases hr
     .rw[fN _ _ sT] at hr;rw[if_neg (λh=>sT h.symm)] at hcj;by_cases LZ:j=at_
      .subst LZ;rw[fC] at hr;cases hr
       rw[g3];have:=hG.lk j e hj p3;omega
      .rw[fN _ _ LZ] at hr;have:=hG.lk j r hj hr;omega
end
theorem Pf {s top r:aC}(hs:aT s=true)(ht:aT top=true){aE:List aC}(h:aI s=aI top++aE):under s top=true:=by unfold under;rw[hs,ht,h];simp
theorem JG {l a r:List aC}(hl:l≠[])(h:l.dropLast=a++r):∃aE,l=a++aE:=by refine⟨r++[l.getLast hl],?_⟩;rw[<-iL,<-h,List.dropLast_concat_getLast]
theorem abb {ag to:aC}(h:FS st t)(hpp:aT ag=true)(hp:aT to=true)(h0:(Fs.move ⟨st,t,false⟩ ag to).2=0)(hf:(Fs.move ⟨st,t,false⟩ ag to).1.cq=false):FS (Fs.move ⟨st,t,false⟩ ag to).1.st (Fs.move ⟨st,t,false⟩ ag to).1.t:=by
 obtain⟨G,l,q,hF,hG⟩:=h;unfold Fs.move at h0 hf⊢;simp only at h0 hf⊢;by_cases h1:Fs.db ⟨st,t,false⟩ ag<0
 .rw[if_pos h1] at h0;cases h0
 rw[if_neg h1] at h0 hf⊢;obtain⟨id,e1,e2⟩:=iy hF h1;obtain⟨ei,qT⟩:=jn hG e2;rw[e1] at h0 hf⊢;by_cases hz:(id:Int)=0
 .rw[if_pos hz] at h0;cases h0
 rw[if_neg hz] at h0 hf⊢;by_cases Vm:0<=Fs.db ⟨st,t,false⟩ to
 .rw[if_pos Vm] at h0;cases h0
 rw[if_neg Vm] at h0 hf⊢;by_cases N3:under to ag=true
 .rw[if_pos N3] at h0;cases h0
 rw[if_neg N3] at h0 hf⊢;by_cases sS:0<(Fs.bP ⟨st,t,false⟩ to).2
 .rw[if_pos sS] at h0;simp only at h0;omega
 rw[if_neg sS] at h0 hf⊢;have F3:id≠0:=by omega
 obtain⟨at_,e,a1,a2,a3,a4,a5⟩:=zg hF sS;obtain⟨fr,ef,i,p1,p2,p3,p4,p5,p6,p7,p8⟩:=sG hF hG e2 F3;have ahJ:=Xn a2 a3 a4 a5 (LY hF Vm);have ahK:=JE hp a2;rw[a1,p1] at h0 hf⊢;simp only at h0 hf⊢;rw[mf hF false p3 p4,p5,mf hF false a4 a5] at h0 hf⊢;simp only[qd] at h0 hf⊢;obtain⟨_,hid⟩:=hF.lt qT;have D8:=dR p3;have zj:=dR a4;have ahL:bC ef.es=true:=by have:=pM hG.wf fr;rwa [D8] at this
 have alk:bC e.es=true:=by have:=pM hG.wf at_;rwa [zj] at this
 have acM:=JB ahL (jm ef.es i);have cX:(ek ef.es i).length+1=ef.es.length:=by
  unfold ek;rw[bn,cO,eP];omega
 have anu:=(gZ ahL).2.2;have ahM:1<=(id:Int)/\(id:Int)<=15:=by omega
 have D9:∀r,look G r id≠some at_:=by
  intro r hr;have h1:look G (aI ag++r) 0=some at_:=by rw[oV,e2];exact hr
  have h2:=Hn hG _ _ _ at_ e (cC _) a3 h1 a4 a5;obtain⟨aE,h3⟩:=JG a2 h2;exact N3 (Pf (r:=to) hp hpp h3)
 obtain⟨d,hd⟩:=hG.ac;by_cases vo:¬(at_:Int)=(fr:Int)/\12<=e.es.length
 .rw[if_pos vo] at h0;cases h0
 rw[if_neg vo] at h0 hf⊢;by_cases BB:(at_:Int)=(fr:Int)
 ·
  rw[if_pos BB] at hf⊢;have BB:at_=fr:=by omega
  subst BB;rw[a4] at p3;cases p3
  have zh:bC (gx (ek e.es i) ⟨Fs.base to,id⟩)=true:=CE acM (λx hx=>ahJ x ((jm e.es i).subset hx)) ahK ahM af;obtain⟨e',l1,q1,yu,g1,g2,g3⟩:=oW hF a4 a5 zh hf;have uC:∀k x,x∈bG (gP G at_ (some e')) k->(k=at_/\x=⟨Fs.base to,id⟩)\/x∈bG G k:=λk x hx=>by
   rw[gp] at hx;split at hx
   .rename_i hk;have hx:x∈e'.es:=hx;rw[g1] at hx;rcases nB.1 hx with rfl|hx
    .exact .inl ⟨hk,rfl⟩
    .right;rw[hk,zj];exact(jm e.es i).subset hx
   .exact .inr hx
  have hdi:d at_<d id:=by
   (have:e.es.getD i ⟨[],0⟩∈bG G at_:=by rw[zj,a7,bc p6];exact rX _);have:=hd at_ _ this;rw[p7] at this;exact this
  refine⟨_,l1,q1,yu,yu.wf,yu.hi,nD hG.cG (λ_=>g2),λk x hx=>?_,λj r hj hr=>?_,d,λk x hx=>?_⟩
  .rcases uC k x hx with⟨_,rfl⟩|hx
   .exact mg ⟨ei,by simpa using qT⟩
   .exact mg (hG.ids k x hx)
  .have c1:=mK G (hF.lt a4).2 (some e') j;have c4:Vl (some e')=gx (ek e.es i) ⟨Fs.base to,id⟩:=g1;have c2:=JD j p6;rw[zj,c4,JC] at c1;rw[p7] at c2;simp only[uM] at c1;by_cases LZ:j=at_
   .subst LZ;rw[fC] at hr;cases hr
    rw[g3];have:=hG.lk j e hj a4;omega
   .rw[fN _ _ LZ] at hr;have:=hG.lk j r hj hr;omega
  .rcases uC k x hx with⟨rfl,rfl⟩|hx
   .simpa using hdi
   .exact hd k x hx
 ·
  rw[if_neg BB] at hf⊢;have gh:at_≠fr:=λh=>BB (by rw[h])
  simp only at hf⊢;have KA:=xT hf;obtain⟨e1',l1,q1,yu,g1,g2,g3⟩:=oW hF p3 p4 acM KA;generalize pf:(Fs.bh ⟨st,t,false⟩ fr (ek ef.es i))=fs at hf KA yu⊢;obtain⟨st1,t1,zi⟩:=fs;simp only at KA;subst KA;have a4':gP G fr (some e1') at_=some e:=by rw[fN _ _ gh];exact a4
  rw[mf yu false a4' a5] at hf⊢;have zh:bC (gx e.es ⟨Fs.base to,id⟩)=true:=CE alk ahJ ahK ahM af;obtain⟨e2',l2,q2,FB,k1,k2,k3⟩:=oW yu a4' a5 zh hf;have uC:∀k x,x∈bG (gP (gP G fr (some e1')) at_ (some e2')) k->(k=at_/\x=⟨Fs.base to,id⟩)\/x∈bG G k:=λk x hx=>by
   rw[gp] at hx;split at hx
   .rename_i hk;have hx:x∈e2'.es:=hx;rw[k1] at hx;rcases nB.1 hx with rfl|hx
    .exact .inl ⟨hk,rfl⟩
    .right;rw[hk,zj];exact hx
   .rw[gp] at hx;split at hx
    .rename_i hk;have hx:x∈e1'.es:=hx;rw[g1] at hx
     right;rw[hk,D8];exact(jm ef.es i).subset hx
    .exact .inr hx
  refine⟨_,l2,q2,FB,FB.wf,FB.hi,nD (nD hG.cG (λ_=>g2)) (λ_=>k2),λk x hx=>?_,λj r hj hr=>?_,?_⟩
  .rcases uC k x hx with⟨_,rfl⟩|hx
   .exact mg (mg ⟨ei,by simpa using qT⟩)
   .exact mg (mg (hG.ids k x hx))
  .have c1:=mK G (hF.lt p3).2 (some e1') j;have c2:=mK (gP G fr (some e1')) (yu.lt a4').2 (some e2') j;have c3:=JD j p6;have c4:Vl (some e1')=ek ef.es i:=g1;have c5:Vl (some e2')=gx e.es ⟨Fs.base to,id⟩:=k1;rw[D8,c4] at c1;rw[dR a4',c5,JC] at c2;rw[p7] at c3;simp only[uM] at c2;by_cases LZ:j=at_
   .subst LZ;rw[fC] at hr;cases hr
    rw[k3];have:=hG.lk j e hj a4;omega
   .rw[fN _ _ LZ] at hr;by_cases hjf:j=fr
    .subst hjf;rw[fC] at hr;cases hr
     rw[g3];have:=hG.lk j ef hj p3;omega
    .rw[fN _ _ hjf] at hr;have:=hG.lk j r hj hr;omega
  .classical
   refine⟨λk=>if(∃r,look G r id=some k) then d k+d at_+1 else d k,λk x hx=>?_⟩;show(if _ then _ else _)<(if _ then _ else _);rcases uC k x hx with⟨rfl,rfl⟩|hx
   .rw[if_neg (λ⟨r,hr⟩=>D9 r hr),if_pos ⟨[],by simp[look]⟩];rw[show((id:Int)).toNat=id from uM id];omega
   .have dz:=hd k x hx;by_cases hk:∃r,look G r id=some k
    .obtain⟨r,hr⟩:=hk;rw[if_pos ⟨r,hr⟩,if_pos ⟨r++[x.name],by rw[oV,hr];exact Tz hG.wf hx⟩];omega
    .rw[if_neg hk];by_cases S2:∃r,look G r id=some x.id.toNat
     .rw[if_pos S2];exact xi dz (gu (Nat.le_add_right _ _) (Nat.le_add_right _ _))
     .rw[if_neg S2];exact dz
theorem AJ {o:Pl.Op}(h:kV o=true):aT o.ag=true/\(o.kind=6\/o.kind=7->aT o.to=true)/\0<=o.at_/\o.at_<=192:=by
 unfold kV at h;simp only at h;split at h
 .cases h
 .rename_i h1;split at h
  .cases h
  .simp only[mh,rU,bI,bR,fM,not_or,Bh] at h1 h;obtain⟨⟨⟨h2,h3⟩,h4⟩,h5⟩:=h1;refine⟨h3,λhk=>?_,?_⟩
   .cases hc:aT o.to with
    |true=>rfl
    |false=>exact absurd ⟨hk,hc⟩ h4
   .rcases h with h|⟨_,h⟩
    .omega
    .exact h
theorem Rl {o:Pl.Op}(h:FS st t)(ho:kV o=true):FS (gW st t o).1 (gW st t o).2.1:=by
 obtain⟨hp,Vm,ha⟩:=AJ ho;unfold gW;simp only;have jz:∀r:Fs×Int,(r.2=0->r.1.cq=false->FS r.1.st r.1.t)->FS (if(if r.2=0/\r.1.cq=true then 7 else r.2)≠0 then(st,t,(if r.2=0/\r.1.cq=true then 7 else r.2)) else(r.1.st,r.1.t,(if r.2=0/\r.1.cq=true then 7 else r.2))).1 (if(if r.2=0/\r.1.cq=true then 7 else r.2)≠0 then(st,t,(if r.2=0/\r.1.cq=true then 7 else r.2)) else(r.1.st,r.1.t,(if r.2=0/\r.1.cq=true then(7:Int) else r.2))).2.1:=by
  intro r hr;by_cases hc:r.2=0/\r.1.cq=true
  .rw[if_pos hc,if_pos bT];exact h
  .rw[if_neg hc];by_cases hz:r.2=0
   .rw[if_neg (by simpa using hz)];exact hr hz (by simpa using λh=>hc ⟨hz,h⟩)
   .rw[if_pos hz];exact h
 apply jz;intro h0 hf;by_cases k1:o.kind=1
 .rw[if_pos k1] at h0 hf⊢;exact Rj (.inl rfl) h hp h0 hf
 rw[if_neg k1] at h0 hf⊢;by_cases k2:o.kind=2
 .rw[if_pos k2] at h0 hf⊢;exact Rj (.inr rfl) h hp h0 hf
 rw[if_neg k2] at h0 hf⊢;by_cases k5:o.kind=5
 .rw[if_pos k5] at h0 hf⊢;exact Xp h h0 hf
 rw[if_neg k5] at h0 hf⊢;by_cases k6:o.kind=6
 .rw[if_pos k6] at h0 hf⊢;exact aba h (Vm (.inl k6)) h0 hf
 rw[if_neg k6] at h0 hf⊢;by_cases k7:o.kind=7
 .rw[if_pos k7] at h0 hf⊢;exact abb h hp (Vm (.inr k7)) h0 hf
 rw[if_neg k7] at h0 hf⊢;exact TA h ha h0 hf
theorem CG (h:FS st t):FS (next st) t:=by
 obtain⟨G,l,q,hF,hG⟩:=h;obtain⟨h1,h2,h3⟩:=aa4 hF.so;have Lv:∀{p:jt},p∈cK l q++LQ G->gw (next st) p=gw st p:=λhp=>h3 _ hp
 have Cb:∀{l' q':c9},(∀p∈cK l' q',p∈cK l q++LQ G)->∀j,tx (next st) l' j=tx st l' j:=λhm j=>ny λhh=>Lv (hm _ (dt _ (dx.2 ⟨jv hh,hh⟩)))
 have F1:∀{t':cB}{l' q':c9},(∀p∈cK l' q',p∈cK l q++LQ G)->qS st t' l' q'->qS (next st) t' l' q':=λhm h=>h.ext (λp hp=>Lv (hm p (cA _ hp))) (by rw[h2];omega)
 have B4:∀p∈cK l q,p∈cK l q++LQ G:=λp hp=>cA _ hp
 refine⟨G,l,q,⟨F1 B4 hF.tr,h1,λk=>?_,hF.hi⟩,hG⟩;have hk:=hF.at_ k;unfold At at hk⊢;cases hg:G k with
 |none=>rw[hg] at hk;simp only at hk⊢;rw[Cb B4,hk]
 |some e=>
  rw[hg] at hk;simp only at hk⊢;refine⟨by rw[Cb B4];exact hk.1,?_⟩;have Jz:=(hF.lt hg).2;have hm:∀p∈e.Q,p∈cK l q++LQ G:=λp hp=>dt _ (aeN Jz p (by unfold gq;rw[hg];exact hp))
  obtain⟨ln,qn,hq,hh⟩:=hk.2;rw[hq] at hm;refine⟨ln,qn,hq,?_⟩;rcases hh with⟨h0,hh⟩|hh
  .exact .inl ⟨h0,F1 hm hh.tr,hh.kd,hh.sz,hh.mn,hh.lk,λj hj=>by rw[Cb hm];exact hh.ft j hj⟩
  .exact .inr ⟨F1 hm hh.tr,hh.kd,hh.eo,hh.sz,hh.lk,hh.mn,by rw[Cb hm];exact hh.tx0⟩
theorem L1 (same:Bool):mX (bV same) []:=by refine⟨rfl,rfl,rfl,rfl,yD 1,ay,λi hi=>?_,by simp[bV]⟩;show((z8 i ([]++[]):Nat):Int)<=(List.replicate 64 (0:Int)).getD i 0;rw[a7,Vz];split<;>simp[z8]
theorem w8 (same:Bool):(nb (bV same) eY 0 ⟨2,1,0,eY⟩).2.2=true:=by cases same<;>decide+kernel
theorem L3 (same:Bool):FS (nj same).1 (nj same).2:=by
 let G0:Gr:=λ_=>none
 let en:NE:=⟨⟨2,1,0,eY⟩,[],[]⟩
 have hgb:rM G0 0=[]:=by
  unfold rM;rw[List.flatMap_eq_nil_iff];intro k _;split<;>rfl
 have Ob:FX (bV same) eY G0 0 en.Q (da 16) []:=by
  refine⟨sB _,?_,λk hk=>?_,λk hk=>rfl⟩
  .rw[hgb];unfold cK;rw[lb];exact L1 same
  .show tx _ _ k=[];unfold tx;rw[(sB (bV same)).hl k (by show(0:Int)<=_;omega),lG lF]
 have Z6:Kz (bV same) en:=⟨da 16,[],by unfold cK;rw[lb];rfl,.inr ⟨sB _,rfl,rfl,rfl,rfl,rfl,by unfold tx;rw[show(da 16).getD 0 bz=bz from rfl,lG lF];rfl⟩⟩;have hp:=w8 same;unfold nj;simp only;rcases hr:nb (bV same) eY 0 ⟨2,1,0,eY⟩ with⟨st,t,ok⟩
 rw[hr] at hp;simp only at hp;subst hp;obtain⟨l',q',hF⟩:=Xj (e:=en) Ob af Z6 hr;have hE:∀k,bG (gP G0 0 (some en)) k=[]:=λk=>by
  rw[gp];split<;>rfl
 refine⟨_,l',q',hF,hF.wf,hF.hi,⟨en,fC _ _ _,rfl⟩,λk x hx=>?_,λj r hj hr=>?_,λ_=>0,λk x hx=>?_⟩
 .rw[hE] at hx;cases hx
 .rw[fN _ _ hj] at hr;cases hr
 .rw[hE] at hx;cases hx
theorem L4:∀o∈first,kV o=true:=by decide+kernel
variable {n m:Nat}
section
variable {k:Nat}{e:NE}
theorem L5 {d:Nat->Nat}{a b:Nat}(h:d a<d b):∀n:Nat,((List.range n).countP λj=>decide (d j<d a))<=((List.range n).countP λj=>decide (d j<d b))/\(a<n->((List.range n).countP λj=>decide (d j<d a))<((List.range n).countP λj=>decide (d j<d b)))
 |0=>by simp
 |n+1=>by
  have ih:=L5 h n;rw[Bj,Bk,Bk];simp only[iA,KP,mS,bR];constructor
  .have:=ih.1;split<;>split<;>omega
  .intro ha;by_cases hn:a=n
   .subst hn;have:=ih.1;rw[if_neg af,if_pos h];omega
   .have:=ih.2 af;split<;>split<;>omega
theorem Hq (h:Gd G):∃d:Nat->Nat,(∀k,∀x∈bG G k,d k<d x.id.toNat)/\∀k,d k<=16:=by
 obtain⟨d,hd⟩:=h.ac;refine⟨λk=>(List.range 16).countP λj=>decide (d j<d k),λk x hx=>?_,λk=>?_⟩
 .exact(L5 (hd k x hx) 16).2 (CF h.hi hx)
 .have:=Gq (p:=λj=>decide (d j<d k)) (l:=List.range 16);simpa using this
def wl (G:Gr):Nat->bE->List bE
 |0,x=>[x]
 |f+1,x=>x::(bG G x.id.toNat).flatMap λe=>wl G f ⟨dQ x.ag e.name,e.id⟩
def cF (j:Nat)(l:List bE):Nat:=l.countP λx=>decide (x.id.toNat=j)
def nn (G:Gr):Nat->Nat->Nat->Nat
 |0,k,j=>if k=j then 1 else 0
 |f+1,k,j=>(if k=j then 1 else 0)+((bG G k).map λe=>nn G f e.id.toNat j).sum
theorem Xq (G:Gr)(j:Nat):∀(f:Nat)(x:bE),cF j (wl G f x)=nn G f x.id.toNat j
 |0,x=>by simp[cF,wl,nn,iA]
 |f+1,x=>by
  rw[wl,nn];unfold cF;rw[iA,List.countP_flatMap,Nat.add_comm];have:∀e:bg,List.countP (λx=>decide (x.id.toNat=j)) (wl G f ⟨dQ x.ag e.name,e.id⟩)=nn G f e.id.toNat j:=λe=>Xq G j f ⟨dQ x.ag e.name,e.id⟩
  simp only[Function.comp_def,this,bR]
def sm (n:Nat)(f:Nat->Nat):Nat:=((List.range n).map f).sum
theorem rq (n:Nat)(f:Nat->Nat):sm (n+1) f=sm n f+f n:=by unfold sm;rw[Bj,Qw,KR];simp
theorem Ph (n:Nat)(f g:Nat->Nat):sm n (λa=>f a+g a)=sm n f+sm n g:=by
 induction n with
 |zero=>rfl
 |succ n ih=>rw[rq,rq,rq,ih];omega
theorem qF {f g:Nat->Nat}(h:∀a,a<n->f a=g a):sm n f=sm n g:=by
 induction n with
 |zero=>rfl
 |succ n ih=>rw[rq,rq,ih (λa ha=>h a af),h n af]
theorem v7 (n:Nat):sm n (λ_=>0)=0:=by
 induction n with
 |zero=>rfl
 |succ n ih=>rw[rq,ih]
theorem Pj (M:Nat->Nat):∀{n:Nat},k<n->sm n (λa=>(if k=a then 1 else 0)*M a)=M k
 |0,h=>by omega
 |n+1,h=>by
  rw[rq];by_cases hk:k=n
  .subst hk;rw[if_pos rfl,qF (g:=λ_=>0) (λa ha=>by rw[if_neg af];simp),v7];omega
  .rw[if_neg hk,Pj M af];omega
theorem Rm {α:Type}(n:Nat)(F:α->Nat->Nat)(M:Nat->Nat):∀l:List α,sm n (λa=>(l.map λe=>F e a).sum*M a)=(l.map λe=>sm n λa=>F e a*M a).sum
 |[]=>by simp[v7]
 |x::l=>by
  simp only[xg,Bp,lU];rw[Ph,Rm n F M l]
theorem JH {α:Type}(l:List α)(f g:α->Nat):(l.map λe=>f e+g e).sum=(l.map f).sum+(l.map g).sum:=by
 induction l with
 |nil=>rfl
 |cons x l ih=>simp only[xg,Bp,ih];omega
theorem aeQ (j:Nat)(l:List bg):(l.map λe=>if e.id.toNat=j then 1 else 0).sum=cE j l:=by
 unfold cE;induction l with
 |nil=>rfl
 |cons x l ih=>rw[xg,Bp,ih,iA];simp;omega
theorem Rn (h:Gd G){d:Nat->Nat}(hd:∀k,∀x∈bG G k,d k<d x.id.toNat)(FR:∀k,d k<=16)(j:Nat):∀(f k:Nat),17<=f+d k->k<16->nn G f k j=(if k=j then 1 else 0)+sm 16 λa=>nn G f k a*cE j (bG G a)
 |0,k,hf,_=>by have:=FR k;omega
 |f+1,k,hf,hk=>by
  have e1:∀a,nn G (f+1) k a=(if k=a then 1 else 0)+((bG G k).map λe=>nn G f e.id.toNat a).sum:=λa=>rfl
  rw[e1 j];simp only[e1,lU];have e3:=Rm 16 (λ(e:bg) a=>nn G f e.id.toNat a) (λa=>cE j (bG G a)) (bG G k);rw[Ph,Pj (λa=>cE j (bG G a)) hk,e3];have e2:((bG G k).map λe=>nn G f e.id.toNat j)=(bG G k).map λe=>(if e.id.toNat=j then 1 else 0)+sm 16 λa=>nn G f e.id.toNat a*cE j (bG G a):=by
   apply yx;intro e he;have hid:=vZ h.wf he;have:=hd k e he;exact Rn h hd FR j f e.id.toNat af af
  rw[e2,JH,aeQ]
theorem Xr {α:Type}(l:List α):(l.map λ_=>0).sum=0:=by
 induction l with
 |nil=>rfl
 |cons x l ih=>rw[xg,Bp,ih]
theorem Xs (h:Gd G){j:Nat}(hj:G j=none):∀(f k:Nat),(∃e,G k=some e)->nn G f k j=0
 |0,k,⟨e,he⟩=>by
  unfold nn;rw[if_neg];rintro rfl;rw[hj] at he;cases he
 |f+1,k,⟨e,he⟩=>by
  unfold nn;rw[if_neg (by rintro rfl;rw[hj] at he;cases he)];have:((bG G k).map λe=>nn G f e.id.toNat j)=(bG G k).map λ_=>0:=by
   apply yx;intro x hx;exact Xs h hj f _ (h.ids k x hx)
  rw[this,Xr]
theorem zk (G:Gr)(j:Nat):iG G j=sm 16 λa=>cE j (bG G a):=rfl
theorem L6 (h:Gd G){f:Nat}(hf:17<=f):∀j e,G j=some e->((nn G f 0 j:Nat):Int)=e.n.bF:=by
 obtain⟨d,hd,FR⟩:=Hq h;have Hl:=λj=>Rn h hd FR j f 0 af af
 have ahN:∀(m j:Nat)(e:NE),d j<=m->G j=some e->e.n.kind=2->nn G f 0 j=1:=by
  intro m;induction m with
  |zero=>
   intro j e hm he hk;have hM:∀a,cE j (bG G a)=0:=λa=>by
    unfold cE;rw[uO];intro x hx;simp only[bR];intro hc;have:=hd a x hx;rw[hc] at this;omega
   rw[Hl,qF (g:=λ_=>0) (λa _=>by rw[hM];simp),v7];by_cases hj:0=j
   .rw[if_pos hj]
   .have:=h.lk j e (λhc=>hj hc.symm) he;have hz:iG G j=0:=by
     rw[zk,qF (g:=λ_=>0) (λa _=>hM a),v7]
    rw[hz] at this;rcases h.wf j e he with⟨AI,_⟩|⟨_,_,hl⟩
    .rw[hk] at AI;cases AI
    .omega
  |succ m ih=>
   intro j e hm he hk;have key:sm 16 (λa=>nn G f 0 a*cE j (bG G a))=iG G j:=by
    rw[zk];apply qF;intro a ha;rcases xh (cE j (bG G a)) with hz|hp
    .rw[hz];simp
    .obtain⟨x,hx,hxj⟩:=GC.1 hp;have dz:=hd a x hx;have hxj:x.id.toNat=j:=by simpa using hxj
     rw[hxj] at dz;obtain⟨_,ea,hea,hka,_⟩:=mL (xQ h.wf hx);rw[ih a ea af hea hka,Nat.one_mul]
   rw[Hl,key];by_cases hj:0=j
   .subst hj;have hz:iG G 0=0:=by
     rw[zk];have hM:∀a,cE 0 (bG G a)=0:=λa=>by
      unfold cE;rw[uO];intro x hx;have:=vZ h.wf hx;simp only[bR];omega
     rw[qF (g:=λ_=>0) (λa _=>hM a),v7]
    rw[hz];rfl
   .have:=h.lk j e (λhc=>hj hc.symm) he;rcases h.wf j e he with⟨AI,_⟩|⟨_,_,hl⟩
    .rw[hk] at AI;cases AI
    .rw[if_neg hj];omega
 intro j e he;rcases h.wf j e he with⟨AI,_,_⟩|⟨yW,_,hl⟩
 .have hj:j≠0:=λhc=>by subst hc;obtain⟨r,hr,mG⟩:=h.cG;rw[hr] at he;cases he;rw[AI] at mG;cases mG
  have key:sm 16 (λa=>nn G f 0 a*cE j (bG G a))=iG G j:=by
   rw[zk];apply qF;intro a ha;rcases xh (cE j (bG G a)) with hz|hp
   .rw[hz];simp
   .obtain⟨x,hx,_⟩:=GC.1 hp;obtain⟨_,ea,hea,hka,_⟩:=mL (xQ h.wf hx);rw[ahN (d a) a ea (cC _) hea hka,Nat.one_mul]
  rw[<-h.lk j e hj he,Hl,if_neg (λhc=>hj hc.symm),mS,key]
 .rw[ahN (d j) j e (cC _) he yW,hl];rfl
theorem Xt:∀l:List bE,(∀x∈l,x.id.toNat<16)->l.length=sm 16 λj=>cF j l
 |[],_=>(v7 16).symm
 |x::l,h=>by
  have ih:=Xt l (λy hy=>h y (by simp[hy]));have:∀j,cF j (x::l)=cF j l+(if x.id.toNat=j then 1 else 0)*1:=λj=>by simp[cF,iA]
  rw[cU,ih,qF (λj _=>this j),Ph,Pj (λ_=>1) (h x ay)]
def vq (m:Nat)(p:aC):Prop:=∃ad:List aC,(∀s∈ad,aV s=true)/\ad.length<=m/\p=pathOf ad
theorem TB (ad:List aC)(h:∀s∈ad,aV s=true):(ad.map λs=>47::s).flatten.length<=5*ad.length:=by
 induction ad with
 |nil=>simp
 |cons s l ih=>
  have:=(rm (h s ay)).2;have:=ih (λx hx=>h x (by simp[hx]));rw[xg,List.flatten_cons,bn];simp only[cU];omega
theorem vq.len {p:aC}(h:vq m p):1<=p.length/\p.length<=5*m+1:=by
 obtain⟨ad,h1,h2,rfl⟩:=h;unfold pathOf;split
 .simp
 .rename_i hn;have:=TB ad h1;refine⟨?_,af⟩;cases ad with
  |nil=>exact absurd rfl hn
  |cons s l=>simp
theorem vq.add {p s:aC}(h:vq m p)(hs:aV s=true):vq (m+1) (dQ p s):=by
 obtain⟨ad,h1,h2,rfl⟩:=h;refine⟨ad++[s],λx hx=>?_,by simp;omega,?_⟩
 .rcases eW.1 hx with hx|hx
  .exact h1 x hx
  .have:x=s:=by simpa using hx
   rw[this];exact hs
 .unfold dQ pathOf;rw[if_neg (show ad++[s]≠[] by simp)];cases ad with
  |nil=>simp
  |cons a l=>
   rw[if_neg (show a::l≠[] by simp)];rw[if_neg]
   .simp
   .intro hc;have:=eC List.length hc;have ha:=(rm (h1 a ay)).2;rw[xg,List.flatten_cons,bn] at this;simp at this;omega
theorem Xu (h:Gd G):∀(f m:Nat)(x:bE),0<=x.id->(∃e,G x.id.toNat=some e)->vq m x.ag->∀y∈wl G f x,(0<=y.id/\∃e,G y.id.toNat=some e)/\vq (m+f) y.ag
 |0,m,x,h0,he,hp,y,hy=>by
  have:y=x:=by simpa[wl] using hy
  subst this;exact⟨⟨h0,he⟩,hp⟩
 |f+1,m,x,h0,he,hp,y,hy=>by
  rw[wl] at hy;rcases bH.1 hy with rfl|hy
  .obtain⟨n,h1,h2,h3⟩:=hp;exact⟨⟨h0,he⟩,n,h1,af,h3⟩
  .obtain⟨e,hee,hy⟩:=px.1 hy;have hid:=vZ h.wf hee;have:=Xu h f (m+1) ⟨dQ x.ag e.name,e.id⟩ (by show 0<=e.id;omega) (h.ids _ e hee) (hp.add hid.2.2) y hy;rw[show m+(f+1)=m+1+f by omega];exact this
theorem Gd.lt (h:Gd G)(he:G k=some e):k<16:=by
 by_cases hk:k<16
 .exact hk
 .rw[h.hi k af] at he;cases he
theorem aeR (h:Gd G){f:Nat}(hf:17<=f)(p:aC)(hp:vq 0 p):(wl G f ⟨p,0⟩).length<=144:=by
 obtain⟨r,hr,mG⟩:=h.cG;have bU:=Xu h f 0 ⟨p,0⟩ (yD 0) ⟨r,hr⟩ hp;rw[Xt _ (λx hx=>by obtain⟨⟨_,e,he⟩,_⟩:=bU x hx;exact h.lt he)];have hle:∀j,cF j (wl G f ⟨p,0⟩)<=9:=λj=>by
  rw[Xq];show nn G f 0 j<=9;cases hg:G j with
  |none=>rw[Xs h hg f 0 ⟨r,hr⟩];omega
  |some e=>
   have:=L6 h hf j e hg;rcases h.wf j e hg with⟨_,_,_,hl⟩|⟨_,_,hl⟩<;>omega
 have:∀n,sm n (λj=>cF j (wl G f ⟨p,0⟩))<=9*n:=λn=>by
  induction n with
  |zero=>exact cC _
  |succ n ih=>rw[rq];have:=hle n;omega
 exact this 16
theorem L7 (h:Gd G){d:Nat->Nat}(hd:∀k,∀x∈bG G k,d k<d x.id.toNat)(FR:∀k,d k<=16){kind:Nat->Int}{E:Nat->Option (List bg)}(hn:∀k e,G k=some e->k<n)(hk:∀k e,G k=some e->kind k=e.n.kind)(hE:∀k,E k=nA (G k)):
  ∀(f:Nat)(x:bE)(out:List bE),17<=f+d x.id.toNat->0<=x.id->(∃e,G x.id.toNat=some e)->out.length+(wl G f x).length<=144->jj n kind E f x out=(out++wl G f x,true)
 |0,x,out,hf,_,_,_=>by have:=FR x.id.toNat;omega
 |f+1,x,out,hf,h0,⟨e,he⟩,hl=>by
  rw[jj,wl];rw[wl,cU] at hl;have hxn:=hn _ e he;have hkx:=hk _ e he;rw[if_neg]
  .rcases h.wf _ e he with⟨AI,tw,_⟩|⟨yW,_,_⟩
   .rw[if_pos (by rw[hkx,AI])];rw[dR he,tw];rfl
   .rw[if_neg (by rw[hkx,yW];decide),hE,xP he yW,dR he];rw[dR he] at hl;simp only;have bU:∀y∈e.es,y∈bG G x.id.toNat:=λy hy=>by rw[dR he];exact hy
    have key:∀(l:List bg)(o:List bE),(∀y∈l,y∈bG G x.id.toNat)->o.length+(l.flatMap λe=>wl G f ⟨dQ x.ag e.name,e.id⟩).length<=144->
      l.foldl (λr e=>if r.2=true then jj n kind E f ⟨dQ x.ag e.name,e.id⟩ r.1 else r) (o,true)=(o++l.flatMap λe=>wl G f ⟨dQ x.ag e.name,e.id⟩,true):=by
     intro l;induction l with
     |nil=>intro o _ _;simp
     |cons y l ih=>
      intro o hm cX;rw[js,bn] at cX;rw[Ah];simp only[if_true];have hy:=hm y ay;have hid:=vZ h.wf hy;have hdy:=hd _ y hy;rw[L7 h hd FR hn hk hE f ⟨dQ x.ag y.name,y.id⟩ o (by show 17<=f+d y.id.toNat;omega) (by show 0<=y.id;omega) (h.ids _ y hy) af];rw[ih _ (λz hz=>hm z (by simp[hz])) (by rw[bn];omega),js,iL]
    rw[key e.es (out++[x]) bU (by rw[bn,Bn];omega)];simp
  .rw[hkx];have hkk:¬e.n.kind=0:=by rcases h.wf _ e he with⟨AI,_⟩|⟨yW,_⟩<;>omega
   simp only[mh,bR,rU,fM,Ab,mQ,bn,Bn];omega
theorem rp.fu {st:ar}{l q:c9}(h:rp st t G l q):(Go.Pl.fu st t).length=t.many.toNat/\∀k,(Go.Pl.fu st t).getD k bA=((G k).map (·.n)).getD bA:=by
 have hl:(Go.Pl.fu st t).length=t.many.toNat:=by unfold Go.Pl.fu;rw[uI,oU h.tr];simp
 refine⟨hl,λk=>?_⟩;have yr:=h.tr.mn;have pD:=(h.at_ k).get;by_cases hk:k<t.many.toNat
 .unfold Go.Pl.fu;rw[a7,wD,oU h.tr,wD,Sr hk];simp only[uL,qd];rw[pD]
 .rw[a7,qP af];rw[xO h.tr af,vl] at pD;rw[<-pD]
theorem rp.JI {st:ar}{l q:c9}(h:rp st t G l q)(he:G k=some e):∃R,mX st (e.Q++R):=by
 have hk:=(h.lt he).2;refine⟨rM G k++cK l q,h.so.cT ?_⟩;refine(pz _ (sD G hk)).trans ?_;have e1:gq G k=e.Q:=by unfold gq;rw[he]
 rw[e1];refine List.perm_append_comm.trans ?_;rw[iL]
theorem rp.TC {st:ar}{l q:c9}(h:rp st t G l q)(he:G k=some e):fk st e.n.a6=true:=by
 refine' zbe
 .exact sC hh.tr hR
 .exact sC hh.tr hR
theorem rp.table {st:ar}{l q:c9}(h:rp st t G l q):oG st t=true:=by
 unfold oG;rw[sC h.tr h.so,uN,fT,oU h.tr];intro s hs;obtain⟨k,hk,rfl⟩:=lp.1 hs;have pD:=(h.at_ k).get;cases hg:G k with
 |none=>rw[(h.at_ k).none hg];rfl
 |some e=>
  rw[hg] at pD;rw[pD];simp only[uL];rw[h.TC hg];simp
theorem rp.file {st:ar}{l q:c9}(h:rp st t G l q)(he:G k=some e)(hk:e.n.kind=1):kU st e.n=true/\(bD st e.n).length<=192:=by
 refine' zbe
 .refine⟨Tv hh.tr hR hh.ok hk hh.ft,?_⟩;have h1:=nz hh.tr hh.sz.1 hh.mn hh.ft;have h2:=hh.sz;omega
 .have:=hh.kd;rw[hk] at this;cases this
structure acN (f:Flat):Prop where
 n0:f.ad≠[]
 t0:f.ae≠[]
 nl:f.ad.length<=144
 tl:f.ae.length<=16
 nm:∀x∈f.ad,vq 146 x.ag/\0<=x.id/\x.id<=15
 th:∀x∈f.ae,0<=x.id/\x.id<=15/\x.a8.length<=192
theorem Ea {st:ar}{out:List bE}:∀(L:List iE)(k:Nat),(∀i,i<L.length->((L.getD i bA).kind≠0->lB out (k+i)=(L.getD i bA).bF)/\((L.getD i bA).kind=1->kU st (L.getD i bA)=true))->lC st out k L=true
 |[],k,_=>rfl
 |n::L,k,h=>by
  rw[lC,Ea L (k+1) (λi hi=>by
   have:=h (i+1) (by simp;omega);rw[Bi] at this;rw[show k+1+i=k+(i+1) by omega];exact this)]
  have:=h 0 ay;rw[KQ,xj] at this;simp only[KJ,rU,CR,Ab,mQ,CQ];constructor
  .by_cases hk:n.kind=0
   .left;simpa using hk
   .right;rw[this.1 hk];simp
  .by_cases hk:n.kind=1
   .right;exact this.2 hk
   .left;exact hk
theorem Hr {st:ar}:∀(L:List iE)(k:Nat),(∀i,i<L.length->(L.getD i bA).kind=1->(bD st (L.getD i bA)).length<=192)->k+L.length<=16->(gQ st k L).length<=L.length/\∀x∈gQ st k L,0<=x.id/\x.id<=15/\x.a8.length<=192
 |[],k,_,_=>by simp[gQ]
 |n::L,k,h,hl=>by
  rw[cU] at hl;obtain⟨h1,h2⟩:=Hr L (k+1) (λi hi=>by have:=h (i+1) (by simp;omega);rwa [Bi] at this) af;have h0:=h 0 ay;rw[KQ] at h0;rw[gQ];refine⟨?_,λx hx=>?_⟩
  .rw[bn,cU];split
   .simp;omega
   .split<;>simp<;>omega
  .rcases eW.1 hx with hx|hx
   .split at hx
    .have:x=⟨k,true,[]⟩:=by simpa using hx
     subst this;simp;omega
    .split at hx
     .rename_i hk;have:x=⟨k,false,bD st n⟩:=by simpa using hx
      subst this;have:=h0 hk;simp;omega
     .cases hx
   .exact h2 x hx
theorem ahO (G:Gr)(f:Nat)(x:bE):wl G f x≠[]:=by cases f<;>simp[wl]
theorem JJ {st:ar}(h:FS st t):∃f,Jh st t=some f/\acN f:=by
 obtain⟨G,l,q,hF,hG⟩:=h;obtain⟨d,hd,FR⟩:=Hq hG;obtain⟨pJ,hng⟩:=hF.fu;obtain⟨r,hr,mG⟩:=hG.cG;have yr:=hF.tr.mn;have hr0:=hF.lt hr;have Tf:vq 0 [47]:=⟨[],ay,ay,rfl⟩;have cX:=aeR hG (f:=146) af [47] Tf;have fg:∀k e,G k=some e->(fu st t).getD k bA=e.n:=λk e he=>by rw[hng,he];rfl
 have acO:walk st (fu st t) 146 ⟨[47],0⟩ []=([]++wl G 146 ⟨[47],0⟩,true):=by
  apply L7 hG hd FR
  .intro k e he;have:=hF.lt he;omega
  .intro k e he;rw[fg k e he]
  .intro k;have:=hF.bN k;rw[hF.ji] at this;rw[hng];exact this
  .show 17<=146+_;omega
  .decide
  .exact⟨r,hr⟩
  .simpa using cX
 rw[pF] at acO;have bU:=Xu hG 146 0 ⟨[47],0⟩ bT ⟨r,hr⟩ Tf;have hgo:lC st (wl G 146 ⟨[47],0⟩) 0 (fu st t)=true:=by
  apply Ea;intro i hi;rw[mS];cases hg:G i with
  |none=>
   (have:(fu st t).getD i bA=bA:=by rw[hng,hg];rfl);rw[this];exact⟨λh=>absurd rfl h,λh=>by cases h⟩
  |some e=>
   rw[fg i e hg];refine⟨λ_=>?_,λhk=>(hF.file hg hk).1⟩;rw[<-L6 hG (f:=146) af i e hg];have:=Xq G i 146 ⟨[47],0⟩;rw[show(⟨[47],0⟩:bE).id.toNat=0 from rfl] at this;rw[<-this];unfold lB cF;rw[List.countP_eq_length_filter]
   congr 2
   apply List.filter_congr;intro x hx;have:=(bU x hx).1.1;rw[CW];omega
 have FA:¬(fu st t=[]\/((fu st t).headD bA).kind≠2):=by
  have h0:=fg 0 r hr;rintro(hc|hc)
  .rw[hc] at pJ;simp at pJ;omega
  .have:(fu st t).headD bA=r.n:=by
    rw[<-h0];cases fu st t<;>rfl
   rw[this] at hc;exact hc mG
 have Cc:lZ st t=some (wl G 146 ⟨[47],0⟩):=by
  unfold lZ;rw[if_neg (by rw[hF.table];simp)];simp only;rw[if_neg FA,acO];simp only;rw[if_pos hgo]
 refine⟨⟨wl G 146 ⟨[47],0⟩,gQ st 0 (fu st t)⟩,by unfold Jh;rw[Cc],?_⟩;obtain⟨ht1,ht2⟩:=Hr (st:=st) (fu st t) 0 (λi hi hk=>by
  cases hg:G i with
  |none=>
   (have:(fu st t).getD i bA=bA:=by rw[hng,hg];rfl);rw[this] at hk;cases hk
  |some e=>
   rw[fg i e hg] at hk⊢;exact(hF.file hg hk).2) af
 refine⟨ahO _ _ _,?_,cX,by show(gQ st 0 (fu st t)).length<=16;omega,λx hx=>?_,ht2⟩
 .show gQ st 0 (fu st t)≠[];have h0:=fg 0 r hr;cases hn:fu st t with
  |nil=>rw[hn] at pJ;simp at pJ;omega
  |cons n L=>
   rw[hn,KQ] at h0;rw[gQ,h0,if_pos mG];simp
 .obtain⟨⟨h1,e,he⟩,h2⟩:=bU x hx;have:=hG.lt he;rw[mS] at h2;exact⟨h2,h1,af⟩
end
section
variable {l:c9}
theorem Eb:∀(f:Nat)(st:ar)(l out o:c9),qq f st l out=some o->o.length<=out.length+f
 |0,_,_,_,_,h=>by cases h
 |f+1,st,[],out,o,h=>by cases h;omega
 |f+1,st,p::l,out,o,h=>by
  rw[qq] at h;split at h
  .have:=Eb f _ _ _ _ h;omega
  .have:=Eb f _ _ _ _ h;rw[bn] at this;simp only[cU,kC] at this;omega
theorem TE (h:qS st t l q):∃o,qq 200 st [t.cG] []=some o/\o.length<=200/\o.Perm (cK l q):=by
 have hp:=Jv h;obtain⟨a,h1,h2⟩:=h.lv;have hd:=fB t.many;obtain⟨c,D,h3,h4,h5⟩:=Ju t.depth.toNat [t.cG] h1 (λp hp hh=>h.l0 p (by rw[h2];simp[hp]) hh);have hc:c<=125:=by
  refine' za2
 have:=h5 (200-c) [] [];rw[show c+(200-c)=(199-c)+(c+1) by omega,gJ] at this;obtain⟨g,hg⟩:∃g,200-c=g+1:=⟨199-c,af⟩;rw[hg,qq] at this;rw[show(199-c)+(c+1)=200 by omega] at this;refine⟨_,this,?_,?_⟩
 .have:=Eb _ _ _ _ _ this;simpa using this
 .unfold xC at hp;rw[this] at hp;exact hp
theorem rp.all {G:Gr}(h:rp st t G l q){k:Nat}{e:NE}(he:G k=some e):∃o,qq 200 st [((Go.Pl.ji st t k).getD bA).a6.cG] []=some o/\o.length<=1000/\∀p∈o,bB p=true:=by
 obtain⟨R,hR⟩:=h.JI he;obtain⟨ln,qn,hq,hh⟩:=((h.at_ k).some he).2;have F1:qS st e.n.a6 ln qn:=by
  rcases hh with⟨_,hh⟩|hh
  .exact hh.tr
  .exact hh.tr
 obtain⟨o,h1,h2,h3⟩:=TE F1;refine⟨o,?_,af,λp hp=>?_⟩
 .rw[h.ji k,he];exact h1
 .have hm:p∈e.Q++R:=cA _ (by rw[hq];exact h3.mem_iff.1 hp);have:=(hR.lv p hm).1;unfold fits at this;simp only[bI] at this;exact this.1.1.1
end
end Go.Pg
namespace Go.Ev
open Go
variable {P:Program}{f:FuncId}
theorem LR.ground {A:Nat->Prop}{ρ:ig}{l l':aY}(h:LR A ρ l l')(hg:∀x∈l,∀ρ,bX ρ x=x):l'=l:=by rw[<-h.self];exact(yx λx hx=>hg x hx ρ).trans (List.map_id _)
theorem zl {h:xr}(H:∀args s v s',h args s=some (v,s')->s'=s/\(∀ρ,bX ρ v=v)/\(∀x∈args,∀ρ,bX ρ x=x)/\∀w,kM P f ⟨args⟩ w λv' w'=>v'=v/\Fr w w' λ_=>False):ni P f h:=by
 intro args s v s' hh;obtain⟨rfl,hv,ha,hc⟩:=H args s v s' hh;refine⟨aH.refl _,λY A ρ w gi hp gL hl=>?_⟩;have:=hl.ground ha;subst this;refine(hc w).mono λv' w' ⟨h1,hf⟩=>?_
 subst h1;exact⟨ρ,VR.ground hv,Good.aaF hp.st hp.dI rfl rfl hf⟩
theorem run_pure {call:ff}(hC:dK P call){args:aY}{n:Nat}{v:Value}{s1:St}(hn:16<=n)(hc:call f args ⟨.nil,n,0,0⟩=some (v,s1))(hv:∀ρ,bX ρ v=v)(ha:∀x∈args,∀ρ,bX ρ x=x)(w:World):kM P f ⟨args⟩ w λv' w'=>v'=v/\Fr w w' λ_=>False:=by
 obtain⟨hg,hk⟩:=hC _ _ _ _ _ hc;have vJ:∀b,(⟨.nil,n,0,0⟩:St).heap.get b=none:=λb=>rfl
 have:=hk (λb=>In s1.cV b) (λi=>i<n) (λi=>(i,0)) w args ⟨λi hi=>hi,λb _=>vJ b,λb hb=>hb,⟨λb o _ h=>(by have h1:=(vJ b).symm.trans h;cases h1),λb b' o o' _ _ h=>(by have h1:=(vJ b).symm.trans h;cases h1)⟩⟩ (λg hg=>⟨xi hg hn,rfl⟩) (λeb _=>(yx λx hx=>ha x hx eb).trans (List.map_id _));refine this.mono λv' w' ⟨eb,h1,hG⟩=>⟨?_,hG.eN.os,hG.eN.tape,hG.eN.output,hG.eN.size,λr hr _=>hG.eN.block r hr ?_⟩
 .rw[<-h1.self];exact hv _
 .rintro⟨b,o,_,_,h,_⟩;rw[vJ] at h;cases h
end Go.Ev
namespace Go.Proofs
open Go Go.Ev
abbrev aB {α:Type}(x:α)(l r:T α):T α:=.node (some x) l r
abbrev aA {α:Type}:T α:=.nil
open Tryz
noncomputable def fnT:T Func:=(T.node none (T.node none (aB f3 (aB f7 (aB f15 (aB f31 (aB f63 (aB f127 (aB f255 aA aA) aA) (aB f191 (aB f319 aA aA) aA)) (aB f95 (aB f159 (aB f287 aA aA) aA) (aB f223 aA aA))) (aB f47 (aB f79 (aB f143 (aB f271 aA aA) aA) (aB f207 aA aA)) (aB f111 (aB f175 (aB f303 aA aA) aA) (aB f239 aA aA)))) (aB f23 (aB f39 (aB f71 (aB f135 (aB f263 aA aA) aA) (aB f199 aA aA)) (aB f103 (aB f167 (aB f295 aA aA) aA) (aB f231 aA aA))) (aB f55 (aB f87 (aB f151 (aB f279 aA aA) aA) (aB f215 aA aA)) (aB f119 (aB f183 (aB f311 aA aA) aA) (aB f247 aA aA))))) (aB f11 (aB f19 (aB f35 (aB f67 (aB f131 (aB f259 aA aA) aA) (aB f195 aA aA)) (aB f99 (aB f163 (aB f291 aA aA) aA) (aB f227 aA aA))) (aB f51 (aB f83 (aB f147 (aB f275 aA aA) aA) (aB f211 aA aA)) (aB f115 (aB f179 (aB f307 aA aA) aA) (aB f243 aA aA)))) (aB f27 (aB f43 (aB f75 (aB f139 (aB f267 aA aA) aA) (aB f203 aA aA)) (aB f107 (aB f171 (aB f299 aA aA) aA) (aB f235 aA aA))) (aB f59 (aB f91 (aB f155 (aB f283 aA aA) aA) (aB f219 aA aA)) (aB f123 (aB f187 (aB f315 aA aA) aA) (aB f251 aA aA)))))) (aB f5 (aB f9 (aB f17 (aB f33 (aB f65 (aB f129 (aB f257 aA aA) aA) (aB f193 (aB f321 aA aA) aA)) (aB f97 (aB f161 (aB f289 aA aA) aA) (aB f225 aA aA))) (aB f49 (aB f81 (aB f145 (aB f273 aA aA) aA) (aB f209 aA aA)) (aB f113 (aB f177 (aB f305 aA aA) aA) (aB f241 aA aA)))) (aB f25 (aB f41 (aB f73 (aB f137 (aB f265 aA aA) aA) (aB f201 aA aA)) (aB f105 (aB f169 (aB f297 aA aA) aA) (aB f233 aA aA))) (aB f57 (aB f89 (aB f153 (aB f281 aA aA) aA) (aB f217 aA aA)) (aB f121 (aB f185 (aB f313 aA aA) aA) (aB f249 aA aA))))) (aB f13 (aB f21 (aB f37 (aB f69 (aB f133 (aB f261 aA aA) aA) (aB f197 aA aA)) (aB f101 (aB f165 (aB f293 aA aA) aA) (aB f229 aA aA))) (aB f53 (aB f85 (aB f149 (aB f277 aA aA) aA) (aB f213 aA aA)) (aB f117 (aB f181 (aB f309 aA aA) aA) (aB f245 aA aA)))) (aB f29 (aB f45 (aB f77 (aB f141 (aB f269 aA aA) aA) (aB f205 aA aA)) (aB f109 (aB f173 (aB f301 aA aA) aA) (aB f237 aA aA))) (aB f61 (aB f93 (aB f157 (aB f285 aA aA) aA) (aB f221 aA aA)) (aB f125 (aB f189 (aB f317 aA aA) aA) (aB f253 aA aA))))))) (T.node none (aB f4 (aB f8 (aB f16 (aB f32 (aB f64 (aB f128 (aB f256 aA aA) aA) (aB f192 (aB f320 aA aA) aA)) (aB f96 (aB f160 (aB f288 aA aA) aA) (aB f224 aA aA))) (aB f48 (aB f80 (aB f144 (aB f272 aA aA) aA) (aB f208 aA aA)) (aB f112 (aB f176 (aB f304 aA aA) aA) (aB f240 aA aA)))) (aB f24 (aB f40 (aB f72 (aB f136 (aB f264 aA aA) aA) (aB f200 aA aA)) (aB f104 (aB f168 (aB f296 aA aA) aA) (aB f232 aA aA))) (aB f56 (aB f88 (aB f152 (aB f280 aA aA) aA) (aB f216 aA aA)) (aB f120 (aB f184 (aB f312 aA aA) aA) (aB f248 aA aA))))) (aB f12 (aB f20 (aB f36 (aB f68 (aB f132 (aB f260 aA aA) aA) (aB f196 aA aA)) (aB f100 (aB f164 (aB f292 aA aA) aA) (aB f228 aA aA))) (aB f52 (aB f84 (aB f148 (aB f276 aA aA) aA) (aB f212 aA aA)) (aB f116 (aB f180 (aB f308 aA aA) aA) (aB f244 aA aA)))) (aB f28 (aB f44 (aB f76 (aB f140 (aB f268 aA aA) aA) (aB f204 aA aA)) (aB f108 (aB f172 (aB f300 aA aA) aA) (aB f236 aA aA))) (aB f60 (aB f92 (aB f156 (aB f284 aA aA) aA) (aB f220 aA aA)) (aB f124 (aB f188 (aB f316 aA aA) aA) (aB f252 aA aA)))))) (aB f6 (aB f10 (aB f18 (aB f34 (aB f66 (aB f130 (aB f258 aA aA) aA) (aB f194 (aB f322 aA aA) aA)) (aB f98 (aB f162 (aB f290 aA aA) aA) (aB f226 aA aA))) (aB f50 (aB f82 (aB f146 (aB f274 aA aA) aA) (aB f210 aA aA)) (aB f114 (aB f178 (aB f306 aA aA) aA) (aB f242 aA aA)))) (aB f26 (aB f42 (aB f74 (aB f138 (aB f266 aA aA) aA) (aB f202 aA aA)) (aB f106 (aB f170 (aB f298 aA aA) aA) (aB f234 aA aA))) (aB f58 (aB f90 (aB f154 (aB f282 aA aA) aA) (aB f218 aA aA)) (aB f122 (aB f186 (aB f314 aA aA) aA) (aB f250 aA aA))))) (aB f14 (aB f22 (aB f38 (aB f70 (aB f134 (aB f262 aA aA) aA) (aB f198 aA aA)) (aB f102 (aB f166 (aB f294 aA aA) aA) (aB f230 aA aA))) (aB f54 (aB f86 (aB f150 (aB f278 aA aA) aA) (aB f214 aA aA)) (aB f118 (aB f182 (aB f310 aA aA) aA) (aB f246 aA aA)))) (aB f30 (aB f46 (aB f78 (aB f142 (aB f270 aA aA) aA) (aB f206 aA aA)) (aB f110 (aB f174 (aB f302 aA aA) aA) (aB f238 aA aA))) (aB f62 (aB f94 (aB f158 (aB f286 aA aA) aA) (aB f222 aA aA)) (aB f126 (aB f190 (aB f318 aA aA) aA) (aB f254 aA aA))))))))
noncomputable def tyT:T TypeInfo:=(aB t0 (aB t1 (aB t3 (aB t7 (aB t15 (aB t31 (aB t63 (aB t127 (aB t255 aA aA) aA) (aB t191 (aB t319 aA aA) aA)) (aB t95 (aB t159 (aB t287 aA aA) aA) (aB t223 aA aA))) (aB t47 (aB t79 (aB t143 (aB t271 aA aA) aA) (aB t207 aA aA)) (aB t111 (aB t175 (aB t303 aA aA) aA) (aB t239 aA aA)))) (aB t23 (aB t39 (aB t71 (aB t135 (aB t263 aA aA) aA) (aB t199 aA aA)) (aB t103 (aB t167 (aB t295 aA aA) aA) (aB t231 aA aA))) (aB t55 (aB t87 (aB t151 (aB t279 aA aA) aA) (aB t215 aA aA)) (aB t119 (aB t183 (aB t311 aA aA) aA) (aB t247 aA aA))))) (aB t11 (aB t19 (aB t35 (aB t67 (aB t131 (aB t259 aA aA) aA) (aB t195 aA aA)) (aB t99 (aB t163 (aB t291 aA aA) aA) (aB t227 aA aA))) (aB t51 (aB t83 (aB t147 (aB t275 aA aA) aA) (aB t211 aA aA)) (aB t115 (aB t179 (aB t307 aA aA) aA) (aB t243 aA aA)))) (aB t27 (aB t43 (aB t75 (aB t139 (aB t267 aA aA) aA) (aB t203 aA aA)) (aB t107 (aB t171 (aB t299 aA aA) aA) (aB t235 aA aA))) (aB t59 (aB t91 (aB t155 (aB t283 aA aA) aA) (aB t219 aA aA)) (aB t123 (aB t187 (aB t315 aA aA) aA) (aB t251 aA aA)))))) (aB t5 (aB t9 (aB t17 (aB t33 (aB t65 (aB t129 (aB t257 aA aA) aA) (aB t193 (aB t321 aA aA) aA)) (aB t97 (aB t161 (aB t289 aA aA) aA) (aB t225 aA aA))) (aB t49 (aB t81 (aB t145 (aB t273 aA aA) aA) (aB t209 aA aA)) (aB t113 (aB t177 (aB t305 aA aA) aA) (aB t241 aA aA)))) (aB t25 (aB t41 (aB t73 (aB t137 (aB t265 aA aA) aA) (aB t201 aA aA)) (aB t105 (aB t169 (aB t297 aA aA) aA) (aB t233 aA aA))) (aB t57 (aB t89 (aB t153 (aB t281 aA aA) aA) (aB t217 aA aA)) (aB t121 (aB t185 (aB t313 aA aA) aA) (aB t249 aA aA))))) (aB t13 (aB t21 (aB t37 (aB t69 (aB t133 (aB t261 aA aA) aA) (aB t197 aA aA)) (aB t101 (aB t165 (aB t293 aA aA) aA) (aB t229 aA aA))) (aB t53 (aB t85 (aB t149 (aB t277 aA aA) aA) (aB t213 aA aA)) (aB t117 (aB t181 (aB t309 aA aA) aA) (aB t245 aA aA)))) (aB t29 (aB t45 (aB t77 (aB t141 (aB t269 aA aA) aA) (aB t205 aA aA)) (aB t109 (aB t173 (aB t301 aA aA) aA) (aB t237 aA aA))) (aB t61 (aB t93 (aB t157 (aB t285 aA aA) aA) (aB t221 aA aA)) (aB t125 (aB t189 (aB t317 aA aA) aA) (aB t253 aA aA))))))) (aB t2 (aB t4 (aB t8 (aB t16 (aB t32 (aB t64 (aB t128 (aB t256 aA aA) aA) (aB t192 (aB t320 aA aA) aA)) (aB t96 (aB t160 (aB t288 aA aA) aA) (aB t224 aA aA))) (aB t48 (aB t80 (aB t144 (aB t272 aA aA) aA) (aB t208 aA aA)) (aB t112 (aB t176 (aB t304 aA aA) aA) (aB t240 aA aA)))) (aB t24 (aB t40 (aB t72 (aB t136 (aB t264 aA aA) aA) (aB t200 aA aA)) (aB t104 (aB t168 (aB t296 aA aA) aA) (aB t232 aA aA))) (aB t56 (aB t88 (aB t152 (aB t280 aA aA) aA) (aB t216 aA aA)) (aB t120 (aB t184 (aB t312 aA aA) aA) (aB t248 aA aA))))) (aB t12 (aB t20 (aB t36 (aB t68 (aB t132 (aB t260 aA aA) aA) (aB t196 aA aA)) (aB t100 (aB t164 (aB t292 aA aA) aA) (aB t228 aA aA))) (aB t52 (aB t84 (aB t148 (aB t276 aA aA) aA) (aB t212 aA aA)) (aB t116 (aB t180 (aB t308 aA aA) aA) (aB t244 aA aA)))) (aB t28 (aB t44 (aB t76 (aB t140 (aB t268 aA aA) aA) (aB t204 aA aA)) (aB t108 (aB t172 (aB t300 aA aA) aA) (aB t236 aA aA))) (aB t60 (aB t92 (aB t156 (aB t284 aA aA) aA) (aB t220 aA aA)) (aB t124 (aB t188 (aB t316 aA aA) aA) (aB t252 aA aA)))))) (aB t6 (aB t10 (aB t18 (aB t34 (aB t66 (aB t130 (aB t258 aA aA) aA) (aB t194 aA aA)) (aB t98 (aB t162 (aB t290 aA aA) aA) (aB t226 aA aA))) (aB t50 (aB t82 (aB t146 (aB t274 aA aA) aA) (aB t210 aA aA)) (aB t114 (aB t178 (aB t306 aA aA) aA) (aB t242 aA aA)))) (aB t26 (aB t42 (aB t74 (aB t138 (aB t266 aA aA) aA) (aB t202 aA aA)) (aB t106 (aB t170 (aB t298 aA aA) aA) (aB t234 aA aA))) (aB t58 (aB t90 (aB t154 (aB t282 aA aA) aA) (aB t218 aA aA)) (aB t122 (aB t186 (aB t314 aA aA) aA) (aB t250 aA aA))))) (aB t14 (aB t22 (aB t38 (aB t70 (aB t134 (aB t262 aA aA) aA) (aB t198 aA aA)) (aB t102 (aB t166 (aB t294 aA aA) aA) (aB t230 aA aA))) (aB t54 (aB t86 (aB t150 (aB t278 aA aA) aA) (aB t214 aA aA)) (aB t118 (aB t182 (aB t310 aA aA) aA) (aB t246 aA aA)))) (aB t30 (aB t46 (aB t78 (aB t142 (aB t270 aA aA) aA) (aB t206 aA aA)) (aB t110 (aB t174 (aB t302 aA aA) aA) (aB t238 aA aA))) (aB t62 (aB t94 (aB t158 (aB t286 aA aA) aA) (aB t222 aA aA)) (aB t126 (aB t190 (aB t318 aA aA) aA) (aB t254 aA aA))))))))
noncomputable def bf:iq:=⟨fnT,tyT,86,[(52,[1,0]),(54,[0,2,1]),(73,[0,0,0,0,0])],[(99,"loop.example/poolfiles/impl.lead",82),(99,"loop.example/poolfiles/impl.folder",306),(99,"loop.example/poolfiles/impl.entries",305),(99,"loop.example/poolfiles/impl.links",87),(99,"loop.example/poolfiles/impl.size",311),(99,"loop.example/poolfiles/impl.room",83)]⟩
noncomputable def bw:fY:=⟨114,268,233,99999,5,[(137,Wu 138),(139,Wv 140),(185,Dy),(84,Jj),(80,ve),(177,Dz),(231,Ww 9),(69,Wx 4)]⟩
end Go.Proofs
namespace Go.Proofs
open Go Go.Ev Go.Pl
noncomputable def aeS:fY:=⟨114,268,233,99999,5,[(177,Dz)]⟩
def st0:St:=⟨.nil,16,0,0⟩
noncomputable def Xv (f:Nat)(args:aY)(v:Value):Bool:=match oP bf aeS 100000 [] 200 f args st0 with
 |some (u,_)=>Dt u v
 |none=>false
def S (z:List UInt8):Value:=.string ⟨⟨z⟩⟩
theorem ahP:dL.all (λz=>Xv 80 [S z] (S (eE z)))=true:=by kernel_rfl
end Go.Proofs
namespace Go.Proofs
open Go Go.Ev Go.Lg
instance:fZ bf 3 1:=⟨by kernel_rfl⟩
instance:np bf 3:=mc cj
instance:rj bf 3 [.int .i64 0]:=jZ cj
instance:xG bf 3 .i64:=⟨by kernel_rfl⟩
instance:fZ bf 4 1:=⟨by kernel_rfl⟩
instance:np bf 4:=mc cj
instance:WB bf 4:=⟨by kernel_rfl⟩
instance:fZ bf 5 1:=⟨by kernel_rfl⟩
instance:np bf 5:=mc cj
instance:xG bf 5 .u8:=⟨by kernel_rfl⟩
instance:fZ bf 9 1:=⟨by kernel_rfl⟩
instance:np bf 9:=mc cj
instance:xF bf 9:=⟨by kernel_rfl⟩
instance:fZ bf 22 1:=⟨by kernel_rfl⟩
instance:np bf 22:=mc cj
instance Xw:rK bf 22 5 1 [.int .u8 0]:=tL cj
instance:pC bf 22 5 1:=oJ Xw
instance:fZ bf 23 1:=⟨by kernel_rfl⟩
instance:np bf 23:=mc cj
instance Xx:rK bf 23 52 2 [.string ⟨⟨[]⟩⟩,.int .i64 0]:=tL cj
instance:pC bf 23 52 2:=oJ Xx
instance:fZ bf 24 1:=⟨by kernel_rfl⟩
instance:np bf 24:=mc cj
instance Xy:rK bf 24 54 3 [.int .i64 0,.bool false,.string ⟨⟨[]⟩⟩]:=tL cj
instance:pC bf 24 54 3:=oJ Xy
instance:fZ bf 26 2:=⟨by kernel_rfl⟩
instance:wJ bf 26 2:=rL cj
instance:rj bf 26 [.slice none 0 0,.slice none 0 0]:=jZ cj
instance:mv bf 26 [(0,1),(1,1)] [.slice none 0 0,.slice none 0 0]:=j2 cj
instance:iu bf 26 0 0:=dA cj
instance:iu bf 26 1 1:=dA cj
instance:fZ bf 30 5:=⟨by kernel_rfl⟩
instance:wJ bf 30 5:=rL cj
instance:rj bf 30 [.int .i64 0,.string ⟨⟨[]⟩⟩,.string ⟨⟨[]⟩⟩,.int .i64 0,.string ⟨⟨[]⟩⟩]:=jZ cj
instance:mv bf 30 [(0,1),(1,1),(2,1),(3,1),(4,1)] [.int .i64 0,.string ⟨⟨[]⟩⟩,.string ⟨⟨[]⟩⟩,.int .i64 0,.string ⟨⟨[]⟩⟩]:=j2 cj
instance:iu bf 30 0 0:=dA cj
instance:iu bf 30 1 1:=dA cj
instance:iu bf 30 2 2:=dA cj
instance:iu bf 30 3 3:=dA cj
instance:iu bf 30 4 4:=dA cj
instance:fZ bf 42 1:=⟨by kernel_rfl⟩
instance:np bf 42:=mc cj
instance Xz:rK bf 42 9 1 [.string ⟨⟨[]⟩⟩]:=tL cj
instance:pC bf 42 9 1:=oJ Xz
instance:fZ bf 52 2:=⟨by kernel_rfl⟩
instance:wJ bf 52 2:=rL cj
instance:rj bf 52 [.string ⟨⟨[]⟩⟩,.int .i64 0]:=jZ cj
instance:mv bf 52 [(0,1),(1,1)] [.string ⟨⟨[]⟩⟩,.int .i64 0]:=j2 cj
instance:iu bf 52 0 0:=dA cj
instance:iu bf 52 1 1:=dA cj
instance:fZ bf 54 3:=⟨by kernel_rfl⟩
instance:wJ bf 54 3:=rL cj
instance:rj bf 54 [.int .i64 0,.bool false,.string ⟨⟨[]⟩⟩]:=jZ cj
instance:mv bf 54 [(0,1),(1,1),(2,1)] [.int .i64 0,.bool false,.string ⟨⟨[]⟩⟩]:=j2 cj
instance:iu bf 54 0 0:=dA cj
instance:iu bf 54 1 1:=dA cj
instance:iu bf 54 2 2:=dA cj
instance:mv bf 65 [(0,1),(1,1)] [.slice none 0 0,.int .i64 0]:=j2 cj
instance:iu bf 65 0 0:=dA cj
instance:iu bf 65 1 1:=dA cj
instance:np bf 66:=mc cj
instance XA:rK bf 66 3 1 [.int .i64 0]:=tL cj
instance:pC bf 66 3 1:=oJ XA
instance:fZ bf 68 2:=⟨by kernel_rfl⟩
instance:wJ bf 68 2:=rL cj
instance:rj bf 68 [.slice none 0 0,.slice none 0 0]:=jZ cj
instance:mv bf 68 [(0,1),(1,1)] [.slice none 0 0,.slice none 0 0]:=j2 cj
instance:iu bf 68 0 0:=dA cj
instance:iu bf 68 1 1:=dA cj
instance:fZ bf 69 1:=⟨by kernel_rfl⟩
instance:np bf 69:=mc cj
instance XB:rK bf 69 73 5 [.int .i64 0,.int .i64 0,.int .i64 0,.int .i64 0,.int .i64 0]:=tL cj
instance:pC bf 69 73 5:=oJ XB
instance:fZ bf 71 8:=⟨by kernel_rfl⟩
instance:wJ bf 71 8:=rL cj
instance:rj bf 71 [.slice none 0 0,.slice none 0 0,.slice none 0 0,.int .i64 0,.slice none 0 0,.int .i64 0,.slice none 0 0,.bool false]:=jZ cj
instance:mv bf 71 [(0,1),(1,2),(3,1),(4,1),(5,1),(6,1),(7,1)] [.slice none 0 0,.slice none 0 0,.slice none 0 0,.int .i64 0,.slice none 0 0,.int .i64 0,.slice none 0 0,.bool false]:=j2 cj
instance:iu bf 71 0 0:=dA cj
instance:iu bf 71 1 1:=dA cj
instance:iu bf 71 2 3:=dA cj
instance:iu bf 71 3 4:=dA cj
instance:iu bf 71 4 5:=dA cj
instance:iu bf 71 5 6:=dA cj
instance:iu bf 71 6 7:=dA cj
instance:fZ bf 73 5:=⟨by kernel_rfl⟩
instance:wJ bf 73 5:=rL cj
instance:rj bf 73 [.int .i64 0,.int .i64 0,.int .i64 0,.int .i64 0,.int .i64 0]:=jZ cj
instance:mv bf 73 [(0,1),(1,1),(2,1),(3,1),(4,1)] [.int .i64 0,.int .i64 0,.int .i64 0,.int .i64 0,.int .i64 0]:=j2 cj
instance:iu bf 73 0 0:=dA cj
instance:iu bf 73 1 1:=dA cj
instance:iu bf 73 2 2:=dA cj
instance:iu bf 73 3 3:=dA cj
instance:iu bf 73 4 4:=dA cj
instance:fZ bf 75 7:=⟨by kernel_rfl⟩
instance:wJ bf 75 7:=rL cj
instance:rj bf 75 [.int .i64 0,.int .i64 0,.int .i64 0,.int .i64 0,.int .i64 0,.int .i64 0,.int .i64 0]:=jZ cj
instance:mv bf 75 [(0,5),(5,1),(6,1)] [.int .i64 0,.int .i64 0,.int .i64 0,.int .i64 0,.int .i64 0,.int .i64 0,.int .i64 0]:=j2 cj
instance:iu bf 75 0 0:=dA cj
instance:iu bf 75 1 5:=dA cj
instance:iu bf 75 2 6:=dA cj
instance:fZ bf 84 1:=⟨by kernel_rfl⟩
instance:np bf 84:=mc cj
instance:fZ bf 86 2:=⟨by kernel_rfl⟩
instance:rj bf 86 [.pointer none,.slice none 0 0]:=jZ cj
instance:iu bf 86 0 0:=dA cj
instance:iu bf 86 1 1:=dA cj
instance XC:rK bf 111 30 5 [.int .i64 0,.string ⟨⟨[]⟩⟩,.string ⟨⟨[]⟩⟩,.int .i64 0,.string ⟨⟨[]⟩⟩]:=tL cj
instance:pC bf 111 30 5:=oJ XC
instance XD:rK bf 119 122 10 [.int .i64 0,.int .i64 0,.int .i64 0,.int .i64 0,.int .i64 0,.int .i64 0,.int .i64 0,.int .i64 0,.int .i64 0,.int .i64 0]:=tL cj
instance:pC bf 119 122 10:=oJ XD
instance:fZ bf 122 10:=⟨by kernel_rfl⟩
instance:wJ bf 122 10:=rL cj
instance:rj bf 122 [.int .i64 0,.int .i64 0,.int .i64 0,.int .i64 0,.int .i64 0,.int .i64 0,.int .i64 0,.int .i64 0,.int .i64 0,.int .i64 0]:=jZ cj
instance:mv bf 122 [(0,1),(1,1),(2,1),(3,7)] [.int .i64 0,.int .i64 0,.int .i64 0,.int .i64 0,.int .i64 0,.int .i64 0,.int .i64 0,.int .i64 0,.int .i64 0,.int .i64 0]:=j2 cj
instance:iu bf 122 0 0:=dA cj
instance:iu bf 122 1 1:=dA cj
instance:iu bf 122 2 2:=dA cj
instance:iu bf 122 3 3:=dA cj
instance:np bf 131:=mc cj
instance:xG bf 145 .u64:=⟨by kernel_rfl⟩
instance:mv bf 152 [(0,8),(8,7),(15,1)] [.slice none 0 0,.slice none 0 0,.slice none 0 0,.int .i64 0,.slice none 0 0,.int .i64 0,.slice none 0 0,.bool false,.int .i64 0,.int .i64 0,.int .i64 0,.int .i64 0,.int .i64 0,.int .i64 0,.int .i64 0,.bool false]:=j2 cj
instance:iu bf 152 0 0:=dA cj
instance:iu bf 152 1 8:=dA cj
instance:iu bf 152 2 15:=dA cj
instance XE:rK bf 192 198 2 [.string ⟨⟨[]⟩⟩,.int .i64 0]:=tL cj
instance:pC bf 192 198 2:=oJ XE
instance:fZ bf 198 2:=⟨by kernel_rfl⟩
instance:wJ bf 198 2:=rL cj
instance:rj bf 198 [.string ⟨⟨[]⟩⟩,.int .i64 0]:=jZ cj
instance:mv bf 198 [(0,1),(1,1)] [.string ⟨⟨[]⟩⟩,.int .i64 0]:=j2 cj
instance:iu bf 198 0 0:=dA cj
instance:iu bf 198 1 1:=dA cj
instance:He bf 44 (iv 0):=⟨9,3,by kernel_rfl,by kernel_rfl,by kernel_rfl⟩
instance:Ra bf 55 (iv 0):=⟨3,3,.i64,by kernel_rfl,by kernel_rfl,by kernel_rfl⟩
instance:He bf 56 (.bool false):=⟨9,4,by kernel_rfl,by kernel_rfl,by kernel_rfl⟩
instance:WZ bf 57:=⟨54,by kernel_rfl⟩
instance:WZ bf 84:=⟨86,by kernel_rfl⟩
instance:Rb bf 99:=⟨.pointer 26,by kernel_rfl,rfl⟩
instance:TEq bf 52 [1,0]:=⟨bT⟩
instance:TEq bf 54 [0,2,1]:=⟨bT⟩
instance:TEq bf 73 [0,0,0,0,0]:=⟨bT⟩
end Go.Proofs
namespace Go.Pl
open Go Go.Ev Go.Lg Go.Proofs
def rN (p:jt):aY:=[iv p.row,iv p.di,iv p.size,iv p.sum,iv p.level]
def hU (t:cB):aY:=[iv t.cG.row,iv t.cG.di,iv t.cG.size,iv t.cG.sum,iv t.cG.level,iv t.depth,iv t.many]
def xV (n:iE):aY:=[iv n.kind,iv n.bF,iv n.size,iv n.a6.cG.row,iv n.a6.cG.di,iv n.a6.cG.size,iv n.a6.cG.sum,iv n.a6.cG.level,iv n.a6.depth,iv n.a6.many]
def Ec (e:bg):aY:=[sv e.name,iv e.id]
def XF (e:bE):aY:=[sv e.ag,iv e.id]
def JK (e:bS):aY:=[iv e.id,.bool e.aN,sv e.a8]
def pr (o:Op):aY:=[iv o.kind,sv o.ag,sv o.to,iv o.at_,sv o.a8]
def pv (p:jt):Value:=.agg ⟨rN p⟩
def tv (t:cB):Value:=.agg ⟨hU t⟩
def nv (n:iE):Value:=.agg ⟨xV n⟩
def ov (o:Op):Value:=.agg ⟨pr o⟩
instance:aq aC 1:=⟨λs=>[sv s],[],λ_=>rfl,λs v h=>by simp at h;subst h;rfl,af⟩
instance:aq Int 1:=⟨λs=>[iv s],0,λ_=>rfl,λs v h=>by simp at h;subst h;rfl,af⟩
instance:aq UInt8 1:=⟨λs=>[bv s],0,λ_=>rfl,λs v h=>by simp at h;subst h;rfl,af⟩
instance:aq jt 5:=⟨rN,bz,λ_=>rfl,λs v h=>by simp[rN] at h;rcases h with rfl|rfl|rfl|rfl|rfl<;>rfl,af⟩
instance:aq bg 2:=⟨Ec,⟨[],0⟩,λ_=>rfl,λs v h=>by simp[Ec] at h;rcases h with rfl|rfl<;>rfl,af⟩
instance:aq bE 2:=⟨XF,⟨[],0⟩,λ_=>rfl,λs v h=>by simp[XF] at h;rcases h with rfl|rfl<;>rfl,af⟩
instance:aq bS 3:=⟨JK,⟨0,false,[]⟩,λ_=>rfl,λs v h=>by simp[JK] at h;rcases h with rfl|rfl|rfl<;>rfl,af⟩
instance:aq iE 10:=⟨xV,bA,λ_=>rfl,λs v h=>by simp[xV] at h;rcases h with rfl|rfl|rfl|rfl|rfl|rfl|rfl|rfl|rfl|rfl<;>rfl,af⟩
instance:aq Op 5:=⟨pr,⟨0,[],[],0,[]⟩,λ_=>rfl,λs v h=>by simp[pr] at h;rcases h with rfl|rfl|rfl|rfl|rfl<;>rfl,af⟩
instance:TT bf 42 9 1 aC inferInstance:=⟨_,Xz,[],rfl⟩
instance:TT bf 66 3 1 Int inferInstance:=⟨_,XA,(0:Int),rfl⟩
instance:TT bf 22 5 1 UInt8 inferInstance:=⟨_,Xw,(0:UInt8),rfl⟩
instance:TT bf 69 73 5 jt inferInstance:=⟨_,XB,bz,rfl⟩
instance:TT bf 23 52 2 bE inferInstance:=⟨_,Xx,(⟨[],0⟩:bE),rfl⟩
instance:TT bf 24 54 3 bS inferInstance:=⟨_,Xy,(⟨0,false,[]⟩:bS),rfl⟩
instance:TT bf 111 30 5 Op inferInstance:=⟨_,XC,(⟨0,[],[],0,[]⟩:Op),rfl⟩
instance:TT bf 119 122 10 iE inferInstance:=⟨_,XD,bA,rfl⟩
instance:TT bf 192 198 2 bg inferInstance:=⟨_,XE,(⟨[],0⟩:bg),rfl⟩
instance:TD bf 42 1 aC inferInstance []:=⟨_,_,Xz,rfl⟩
instance:TD bf 66 1 Int inferInstance 0:=⟨_,_,XA,rfl⟩
instance:TD bf 22 1 UInt8 inferInstance 0:=⟨_,_,Xw,rfl⟩
instance:TD bf 69 5 jt inferInstance bz:=⟨_,_,XB,rfl⟩
instance:TD bf 23 2 bE inferInstance ⟨[],0⟩:=⟨_,_,Xx,rfl⟩
instance:TD bf 24 3 bS inferInstance ⟨0,false,[]⟩:=⟨_,_,Xy,rfl⟩
@[simp] theorem aj0:(aq.ah (α:=aC) (sz:=1))=[]:=rfl
@[simp] theorem aj1:(aq.ah (α:=Int) (sz:=1))=0:=rfl
@[simp] theorem alm:(aq.ah (α:=UInt8) (sz:=1))=0:=rfl
@[simp] theorem aj2:(aq.ah (α:=jt) (sz:=5))=bz:=rfl
@[simp] theorem agm:(aq.ah (α:=bg) (sz:=2))=⟨[],0⟩:=rfl
@[simp] theorem agn:(aq.ah (α:=bE) (sz:=2))=⟨[],0⟩:=rfl
@[simp] theorem ago:(aq.ah (α:=bS) (sz:=3))=⟨0,false,[]⟩:=rfl
@[simp] theorem ahQ:(aq.ah (α:=iE) (sz:=10))=bA:=rfl
@[simp] theorem aln:(aq.ah (α:=Op) (sz:=5))=⟨0,[],[],0,[]⟩:=rfl
abbrev bL:=@l7 bf bw
abbrev FC:=@fA bf bw
variable {P:Prop}
structure Hid (P:Prop):Prop where
 out:P
theorem W.ahR {E:iq}{X:fY}{Γ:qN}{l:Kn}{L:List It}{Q:B9}{id:Nat}{aG:List Oper}(h:∀nx,(∀y∈L,∀i∈y.cr,i<nx)->Γ.s0.next<=nx->Hid (L.flatMap It.cr).Nodup->WD E X Γ aG aG 0 [] nx l L (Q .normal)):W E X Γ (.region id ⟨aG⟩ true) l L Q:=λtm s h1 h2=>W.draw (λnx a b=>h nx a b ⟨h2.nd⟩) tm s h1 h2
theorem L8 {A:List Nat}{n n' mask:Nat}{seen:List Sn}{P:Prop}{k:Nat}{R':Fp}(h:kY n mask (λi=>i∈A\/i∈([]:List It).flatMap It.cr\/(n<=i/\i<n')) (λi=>i∈([]:List It).flatMap It.cr\/(n<=i/\i<n')) seen/\P):
  kY n mask (λi=>i∈A\/i∈([]:List It).flatMap It.cr\/(n<=i/\i<n')) (λi=>i∈([]:List It).flatMap It.cr\/(n<=i/\i<n')) (⟨k,R',Z⟩::seen)/\P:=
 ⟨⟨.inr ⟨λ_ _ h=>h.elim,λb hb _ hw=>by simp at hw;omega⟩,h.1⟩,h.2⟩
theorem nU (h:P:=by first|(exfalso;omega;done)|contradiction|(exfalso;simp_all;done)|fail):P:=h
theorem Oc (h:P:=by first|(exfalso;omega;done)|contradiction|(exfalso;simp_all;done)|(exfalso;simp_all;omega)|fail):P:=h
theorem pE (h:P:=by first|(exfalso;omega;done)|fail):P:=h
theorem cI (h:P:=by first|(exfalso;omega;done)|contradiction|fail):P:=h
theorem fS (h:P:=by(first|((first|exact Ev.tmp rfl|exact Ev.const|exact Ev.func);done)|fail)):P:=h
theorem aD (h:P:=by(first|((repeat(first|exact jY.nil|(apply jY.cons;constructor<;>exact rfl)));done)|fail)):P:=h
theorem zm (h:P:=by(first|((repeat(first|exact EvE.nil|(apply EvE.cons;constructor<;>exact rfl;exact rfl)));done)|fail)):P:=h
theorem oX (h:P:=by(first|((repeat(first|exact ga|apply iV));done)|fail)):P:=h
theorem XG (h:P:=by(first|((repeat(first|exact Kx.here|apply Kx.there));done)|fail)):P:=h
theorem xW (h:P:=by(first|((repeat(first|exact y3.here|apply y3.there));done)|fail)):P:=h
theorem bp (h:P:=by(first|((repeat(first|exact Le.nil _|refine Le.cons (by exact rfl) ?_));done)|fail)):P:=h
theorem au (h:P:=by(first|((repeat(first|exact cx.nil _|refine cx.cons (by(repeat(first|exact Kx.here|apply Kx.there))) ?_));done)|fail)):P:=h
theorem cD (h:P:=by(first|((first|exact kr.rd aP|exact kr.aQ (by(repeat(first|exact ga|apply iV)))|exact kr.ak4 aP (by(repeat(first|exact ga|apply iV)))|exact kr.box (by(repeat(first|exact ga|apply iV))) rfl (by first|rfl|(rw[aR];done)|simp));done)|fail)):P:=h
theorem ez (h:P:=by(first|((exact ru.mk cD cD cD);done)|fail)):P:=h
theorem dU (h:P:=by(first|((repeat(first|exact nM.nil|(apply nM.cons;exact XG)));done)|fail)):P:=h
theorem lT (h:P:=by(first|((first|omega|(simp only[bn,cU,kC];omega)|(simp;done)|(simp;omega)|(simp at *;omega));done)|fail)):P:=h
theorem bY (h:P:=by(first|((repeat(first|exact qO.nil|(apply qO.tmp;exact rfl)|(apply qO.cell;(focus infer_instance);exact rfl;(focus(repeat(first|exact ga|apply iV)));exact rfl)|(apply qO.acI;(focus infer_instance);exact rfl;(focus(repeat(first|exact ga|apply iV)));exact rfl)));done)|fail)):P:=h
theorem fD (h:P:=by(first|((exact Hs.mk cD cD);done)|fail)):P:=h
theorem uv (h:P:=by(first|((exact L9.mk cD (ru.mk cD cD cD));done)|fail)):P:=h
theorem acP (h:P:=by(first|((exact abc.mk (ru.mk cD cD cD) cD cD);done)|fail)):P:=h
theorem cy (h:P:=by(first|((first|exact .inl rfl|exact .inr rfl);done)|fail)):P:=h
theorem qac (h:P:=by(first|((intro b_ _ h1_ F4;(try dsimp only[mV,mW] at h1_ F4);first|exact h1_.elim|exact F4.elim|omega|(simp only[iS,py,wR,jb,aj,fJ] at h1_ F4;omega)|((first|have XH:=Rd.lt aP _ F4|have XH:=tR.lt aP _ F4);dsimp only at XH;(try simp only[iS,py,wR,jb,aj,fJ] at h1_);omega)|((first|have XH:=Rd.lt aP _ h1_|have XH:=tR.lt aP _ h1_);dsimp only at XH;(try simp only[iS,py,wR,jb,aj,fJ] at F4);omega)|(have F5:=D9.out;(try dsimp only[kh,eK,List.append,List.cons_append,List.nil_append] at F5);(try simp only[js,py,It.cr,tN,uh,yw,pF,gJ,yB,uP,bH,eW,not_or,iS,jb,KL,wS,FF,Af] at F5);first|(simp only[iS,py,wR,jb,aj,fJ] at h1_ F4;omega)|(subst h1_;first|(exact absurd F4 (by simp only[F5,KL]))|(simp_all;done))|(subst F4;first|(exact absurd h1_ (by simp only[F5,KL]))|(simp_all;done))|(simp_all;done))|(rcases F4 with F4|F4<;>first|((first|have XH:=Rd.lt aP _ F4|have XH:=tR.lt aP _ F4);dsimp only at XH;(try simp only[iS,js,py,gJ,uh,It.cr,wR,jb,aj,fJ,bH] at h1_);omega)|((try simp only[iS,js,py,gJ,uh,It.cr,wR,jb,aj,fJ,bH] at h1_ F4);omega)|(have F5:=D9.out;(try dsimp only[kh,eK,j4,pw,List.append,List.cons_append,List.nil_append] at F5);(try simp only[js,py,It.cr,tN,uh,yw,pF,gJ,yB,uP,bH,eW,not_or,iS,jb,KL,wS,FF,Af] at F5);(try simp only[iS,js,py,gJ,uh,It.cr,wR,jb,aj,fJ,bH] at h1_ F4);first|omega|(subst h1_;simp_all;done)|(subst F4;simp_all;done)))|(rcases h1_ with h1_|h1_<;>first|((first|have XH:=Rd.lt aP _ h1_|have XH:=tR.lt aP _ h1_);dsimp only at XH;(try simp only[iS,js,py,gJ,uh,It.cr,wR,jb,aj,fJ,bH] at F4);omega)|((try simp only[iS,js,py,gJ,uh,It.cr,wR,jb,aj,fJ,bH] at h1_ F4);omega)|(have F5:=D9.out;(try dsimp only[kh,eK,j4,pw,List.append,List.cons_append,List.nil_append] at F5);(try simp only[js,py,It.cr,tN,uh,yw,pF,gJ,yB,uP,bH,eW,not_or,iS,jb,KL,wS,FF,Af] at F5);(try simp only[iS,js,py,gJ,uh,It.cr,wR,jb,aj,fJ,bH] at h1_ F4);first|omega|(subst h1_;simp_all;done)|(subst F4;simp_all;done))));done)|fail)):P:=h
theorem ax (h:P:=by(first|(refine⟨by(first|exact .inl rfl|exact .inr rfl),_,[],bY,cx.nil _,?_,rfl⟩;all_goals(rcases _ with h;exact h))|fail)):P:=h
theorem fa (h:P:=by(first|((apply Hd;exact cy;exact bY;exact au);all_goals(rcases _ with h;exact h))|fail)):P:=h
theorem acQ (h:P:=by(first|((apply ak6;exact cy;exact bY;(focus(first|assumption|exact Sub.all));(focus(first|assumption|exact Part.refl));exact au);all_goals(rcases _ with h;exact h))|fail)):P:=h
theorem jo (h:P:=by(first|((apply ak0;exact cy;exact bY;exact au);all_goals(rcases _ with h;exact h))|fail)):P:=h
theorem acR (h:P:=by(first|((apply mY;exact cy;exact bY;exact au);all_goals(rcases _ with h;exact h))|fail)):P:=h
theorem dV (h:P:=by(first|((apply qU;exact cy;exact bY;exact au);all_goals(rcases _ with h;exact h))|fail)):P:=h
theorem acS (h:P:=by(first|((apply alo;exact cy;exact bY;exact au);all_goals(rcases _ with h;exact h))|fail)):P:=h
theorem XI (h:P:=by(first|((apply ahS;exact cy;exact bY;exact au);all_goals(rcases _ with h;exact h))|fail)):P:=h
theorem acT (h:P:=by(first|((apply alp;exact cy;exact bY;exact au);all_goals(rcases _ with h;exact h))|fail)):P:=h
theorem aeT (h:P:=by(first|((apply qU (v':=SA.mk v.r v.rc v.f v.fc v.l v.lc v.g v.gc XJ XK);exact cy;exact bY;exact au);all_goals(rcases _ with h;exact h))|fail)):P:=h
theorem aeU (h:P:=by(first|((apply qU (v':=SA.mk v.r v.rc v.f v.fc v.l v.lc XJ XK v.d v.dc);exact cy;exact bY;exact au);all_goals(rcases _ with h;exact h))|fail)):P:=h
theorem av (h:P:=by(first|((first|((with_reducible apply WO.lit);exact zm;exact rfl;exact rfl;intro bl _)|((with_reducible apply WO.lit (α:=jt) (xs:=[⟨_,_,_,_,_⟩]));exact zm;exact rfl;exact rfl;intro bl _)|((with_reducible apply WO.lit (α:=bg) (xs:=[⟨_,_⟩]));exact zm;exact rfl;exact rfl;intro bl _)|((with_reducible apply WO.lit (α:=bE) (xs:=[⟨_,_⟩]));exact zm;exact rfl;exact rfl;intro bl _)|((with_reducible apply WO.lit (α:=bS) (xs:=[⟨_,_,_⟩]));exact zm;exact rfl;exact rfl;intro bl _)|((with_reducible apply WO.lit (α:=Op) (xs:=[⟨_,_,_,_,_⟩]));exact zm;exact rfl;exact rfl;intro bl _)|((with_reducible apply WO.abd);exact fS;exact fS;exact XG;exact cD;assumption;(focus(omega;done));intro _ _ XJ XK _ _ _)|((with_reducible apply WO.Q6);exact fS;exact fS;exact XG;exact cD;exact lT;intro _ _ XJ XK _ _ _)|((with_reducible apply WO.ahp);exact fS;exact fS;exact oX;exact lT;intro _ Ma Mb Ht Pk)|((with_reducible apply WO.ahq);exact fS;exact fS;exact oX;exact lT;intro _ Ma Mb Ht Pk)|((with_reducible apply WO.ahr);exact fS;exact fS;exact fS;exact oX;exact lT;intro _ Ma Mb Ht Pk)|((with_reducible apply WO.ahs);exact fS;exact fS;assumption;assumption;exact oX;exact lT;exact lT;intro _ Ma Mb Ht Pk)|((with_reducible apply WO.aht);exact fS;exact fS;assumption;assumption;exact lT;intro _ Ma Mb Ht)|((with_reducible apply WO.ahu);exact fS;exact fS;assumption;assumption;exact lT;intro _ Ma Mb Ht));all_goals(rcases _ with h;exact h))|fail)):P:=h
theorem aZ (h:P:=by(first|((repeat1' (first|(with_reducible first|refine W.seq ?_|refine W.block ?_|refine W.region ?_|refine ak ?_|refine fe ?_|refine WS.nil ?_|refine WD.nil ?_|refine ws ?_|refine ws0 ?_|refine wd ?_|refine wd0 ?_|refine W.skip ?_|refine W.exit ?_|refine W.ret ?_|refine OW ?_|refine ke ?_|refine iP ?_|refine BC ?_|refine agp rfl ?_|refine gS ?_|refine kg ?_|refine OY ?_|refine ahT rfl ?_|refine aaP ?_|refine Td ?_|refine Tc ?_|refine Lx ?_|refine OX ?_|refine Lu ?_|refine L8 ?_|refine Jm (by decide+kernel) ?_)|((with_reducible refine W.ahR ?_);intro nx hold hn_ D9;(try dsimp only at hn_);(try dsimp only[kh,eK,List.append,List.cons_append,List.nil_append] at hold);(try simp only[bH,forall_eq_or_imp,iS,false_imp_iff,implies_true,Af,It.cr,fJ,forall_eq,tN] at hold))|(intro e_;subst e_)|((with_reducible refine WR ?_ ?_ ?_);exact qac;exact qac)|((with_reducible apply akT);exact rfl;exact rfl;(focus((first|exact rfl|assumption);done)))|((with_reducible apply akU);exact rfl;exact rfl;(focus((first|exact rfl|assumption);done)))|((with_reducible apply akV);exact rfl;exact rfl;(focus((first|exact rfl|assumption);done)))|((with_reducible apply akW);exact rfl;exact rfl;(focus((first|exact rfl|assumption);done)))|((with_reducible apply ak1);exact rfl;exact rfl)|((with_reducible apply ak2);exact rfl;exact rfl)|((with_reducible apply WO.move);constructor<;>exact rfl;intro _)|((with_reducible apply WO.assign);constructor<;>exact rfl;intro _)|((with_reducible apply WO.load);constructor<;>exact rfl;exact oX;exact rfl;intro _)|((with_reducible apply WO.ahe);constructor<;>exact rfl;exact oX;exact rfl;intro _)|((with_reducible apply WO.aeV);constructor<;>exact rfl;assumption;exact rfl;intro _)|((with_reducible apply WO.XL);constructor<;>exact rfl;assumption;exact rfl;intro _)|((with_reducible apply WO.nilCheck);constructor<;>exact rfl;intro _)|((with_reducible apply WO.fieldAddr);constructor<;>exact rfl;intro _)|((with_reducible apply WO.store);constructor<;>exact rfl;constructor<;>exact rfl;exact rfl;exact rfl;exact xW;exact rfl;intro _)|((with_reducible apply WO.ahU);constructor<;>exact rfl;constructor<;>exact rfl;intro _)|((with_reducible apply WO.ahV);constructor<;>exact rfl;constructor<;>exact rfl;intro _)|((with_reducible apply WO.ahV (p:=bz));constructor<;>exact rfl;constructor<;>exact rfl;intro _)|((with_reducible apply WO.ahU (p:=bz));constructor<;>exact rfl;constructor<;>exact rfl;intro _)|((with_reducible apply WO.Ro);constructor<;>exact rfl;exact xW;constructor<;>exact rfl;exact lT;intro _)|((with_reducible apply WO.Ro (q:=bz));constructor<;>exact rfl;exact xW;constructor<;>exact rfl;exact lT;intro _)|((with_reducible apply WO.storeT);constructor<;>exact rfl;constructor<;>exact rfl;exact xW;exact rfl;exact lT;intro _)|((with_reducible apply WO.akM);constructor<;>exact rfl;intro _)|((with_reducible apply WO.akN);constructor<;>exact rfl;intro _)|((with_reducible apply WO.lss);constructor<;>exact rfl;constructor<;>exact rfl;intro _)|((with_reducible apply WO.leq);constructor<;>exact rfl;constructor<;>exact rfl;intro _)|((with_reducible apply WO.gtr);constructor<;>exact rfl;constructor<;>exact rfl;intro _)|((with_reducible apply WO.geq);constructor<;>exact rfl;constructor<;>exact rfl;intro _)|((with_reducible apply WO.eql);constructor<;>exact rfl;constructor<;>exact rfl;intro _)|((with_reducible apply WO.neq);constructor<;>exact rfl;constructor<;>exact rfl;intro _)|((with_reducible apply WO.akJ);constructor<;>exact rfl;constructor<;>exact rfl;intro _)|((with_reducible apply WO.akK);constructor<;>exact rfl;constructor<;>exact rfl;intro _)|((with_reducible apply WO.anv);constructor<;>exact rfl;constructor<;>exact rfl;intro _)|((with_reducible apply WO.akL);constructor<;>exact rfl;constructor<;>exact rfl;intro _)|((with_reducible apply WO.akX);constructor<;>exact rfl;constructor<;>exact rfl;intro _)|((with_reducible apply WO.akY);constructor<;>exact rfl;constructor<;>exact rfl;intro _)|((with_reducible apply WO.not);constructor<;>exact rfl;intro _)|((with_reducible apply WO.extract);constructor<;>exact rfl;exact rfl;intro _)|((with_reducible apply WO.ahc);constructor<;>exact rfl;(focus((first|exact rfl|assumption);done));constructor<;>exact rfl;intro _)|((with_reducible apply WO.ahd);constructor<;>exact rfl;(focus((first|exact rfl|assumption);done));constructor<;>exact rfl;intro _)|((with_reducible apply WO.add);constructor<;>exact rfl;constructor<;>exact rfl;(focus((constructor<;>omega);done));intro _)|((with_reducible apply WO.sub);constructor<;>exact rfl;constructor<;>exact rfl;(focus((constructor<;>omega);done));intro _)|((with_reducible apply WO.mul);constructor<;>exact rfl;constructor<;>exact rfl;(focus((constructor<;>omega);done));intro _)|((with_reducible apply WO.akI);constructor<;>exact rfl;constructor<;>exact rfl;exact lT;intro _)|((with_reducible apply WO.quo);constructor<;>exact rfl;constructor<;>exact rfl;(focus((first|decide|omega);done));(focus((constructor<;>omega);done));intro _)|((with_reducible apply WO.rem);constructor<;>exact rfl;constructor<;>exact rfl;(focus((first|decide|omega);done));intro _)|((with_reducible apply WO.akO);constructor<;>exact rfl;intro bx _)|((with_reducible apply WO.akP);constructor<;>exact rfl;exact rfl;intro bx _)|((with_reducible apply WO.alloc);intro ba _)|((with_reducible apply WO.WU);constructor<;>exact rfl;constructor<;>exact rfl;exact lT;intro _)|((with_reducible apply WO.WV);constructor<;>exact rfl;constructor<;>exact rfl;exact lT;intro _)|((with_reducible apply WO.Jl);constructor<;>exact rfl;(focus((first|exact .inl ⟨rfl,rfl⟩|exact .inr ⟨_,_,rfl,.tmp rfl⟩|exact .inr ⟨_,_,rfl,.const⟩);done));(focus((first|exact .inl ⟨rfl,rfl⟩|exact .inr ⟨_,_,rfl,.tmp rfl⟩|exact .inr ⟨_,_,rfl,.const⟩);done));exact lT;exact lT;intro _)|((with_reducible apply WO.index);constructor<;>exact rfl;constructor<;>exact rfl;exact lT;intro _)|((with_reducible apply WO.xI);constructor<;>exact rfl;(focus((first|exact(rfl:_=((0:Nat):Int))|exact(rfl:_=((1:Nat):Int))|exact(rfl:_=((2:Nat):Int))|exact(rfl:_=((3:Nat):Int))|exact(rfl:_=((4:Nat):Int))|exact(rfl:_=((5:Nat):Int))|exact(rfl:_=((6:Nat):Int))|exact(rfl:_=((7:Nat):Int)));done));exact cD;exact lT;intro _)|((with_reducible apply WO.indexAddr);constructor<;>exact rfl;constructor<;>exact rfl;exact cD;exact lT;intro _)|((with_reducible apply WO.OZ);constructor<;>exact rfl;constructor<;>exact rfl;exact cD;exact lT;intro _)|((with_reducible apply WO.aet);constructor<;>exact rfl;constructor<;>exact rfl;exact lT;intro _)|((with_reducible apply WO.aaQ);constructor<;>exact rfl;constructor<;>exact rfl;exact lT;intro _)|((with_reducible apply WO.aaR);constructor<;>exact rfl;constructor<;>exact rfl;exact lT;intro _)|((with_reducible apply WO.aaS);constructor<;>exact rfl;constructor<;>exact rfl;constructor<;>exact rfl;exact lT;intro _)|((with_reducible apply WO.OU);constructor<;>exact rfl;exact cD;exact lT;intro _)|((with_reducible apply WO.ahf);constructor<;>exact rfl;exact cD;exact lT;exact rfl;intro _)|((with_reducible apply WO.ael);constructor<;>exact rfl;exact cD;exact lT;intro _)|((with_reducible apply WO.anw);constructor<;>exact rfl;constructor<;>exact rfl;(focus((constructor<;>omega);done));intro _)|((with_reducible apply WO.akZ);constructor<;>exact rfl;constructor<;>exact rfl;(focus((constructor<;>omega);done));intro _)|((with_reducible apply WO.ahm);constructor<;>exact rfl;(focus((constructor<;>omega);done));intro _)|((with_reducible apply WO.conv);constructor<;>exact rfl;(focus((first|exact wrap_u8 _|exact qA (by constructor<;>omega)|exact AD (by constructor<;>omega));done));intro _)|((with_reducible apply WO.str);(focus(exact λ_=>rfl;done));constructor<;>exact rfl;exact cD;intro _)|((with_reducible apply WO.bytes);(focus(exact λ_=>rfl;done));constructor<;>exact rfl;exact lT;intro _ _)|((with_reducible apply WO.make);constructor<;>exact rfl;constructor<;>exact rfl;exact lT;intro bm _ _)|((with_reducible apply WO.min);constructor<;>exact rfl;constructor<;>exact rfl;intro _)|((with_reducible apply WO.max);constructor<;>exact rfl;constructor<;>exact rfl;intro _)|((with_reducible apply WO.aes);(focus((repeat(first|exact WH.nil|(apply WH.cons;constructor<;>exact rfl)));done));exact rfl;intro _)|((with_reducible apply WO.aeH);constructor<;>exact rfl;exact rfl;intro _)|((with_reducible apply WO.xor);constructor<;>exact rfl;constructor<;>exact rfl;(focus(omega;done));(focus(omega;done));intro _)|((with_reducible apply WO.alq);constructor<;>exact rfl;constructor<;>exact rfl;(focus(omega;done));(focus(omega;done));intro _)|((with_reducible apply WO.aeI);constructor<;>exact rfl;exact oX;(focus((first|decide|(simp;done)|omega);done));(focus((first|decide|(simp;done)|omega);done));intro _)|((with_reducible apply WO.ak3);constructor<;>exact rfl;constructor<;>exact rfl;intro _)|((fail_if_success have:=ns_);((with_reducible apply W.ahj);constructor<;>exact rfl;(focus(first|exact rfl|assumption))))|((fail_if_success have:=ns_);((with_reducible apply W.ahk);constructor<;>exact rfl;(focus(first|exact rfl|assumption))))|((fail_if_success have:=ns_);(((with_reducible apply wsg);exact rfl;exact rfl)<;>(intro hg;(try(have uw:=hg;simp only[bR,mQ,rU,CQ,mh,bI,CR,Gt,Oi,IF,na,Bh,fM,Int.not_lt,Int.not_le,Ae] at uw)))))|((fail_if_success have:=ns_);(((with_reducible apply wdg);exact rfl;exact rfl)<;>(intro hg;(try(have uw:=hg;simp only[bR,mQ,rU,CQ,mh,bI,CR,Gt,Oi,IF,na,Bh,fM,Int.not_lt,Int.not_le,Ae] at uw)))))|((fail_if_success have:=ns_);(((with_reducible apply W.cond);constructor<;>exact rfl)<;>(intro hc;(try(have j5:=hc;simp only[bR,mQ,rU,CQ,mh,bI,CR,Gt,Oi,IF,na,Bh,fM,Int.not_lt,Int.not_le,Ae] at j5)))))|fail));all_goals(rcases _ with h;exact h))|fail)):P:=h
theorem xX (h:P:=by(first|((have ns_:=True.intro;refine' aZ;all_goals clear ns_);all_goals(rcases _ with h;exact h))|fail)):P:=h
theorem Od (h:P:=by(first|(((with_reducible apply WO.aW);exact aD;exact λs=>abe s _ _ _;intros);all_goals(rcases _ with h;exact h))|fail)):P:=h
theorem zc3 (h:P:=by(first|(((with_reducible apply WO.aW);exact aD;exact λs=>XM s _;intros);all_goals(rcases _ with h;exact h))|fail)):P:=h
theorem TF (h:P:=by(first|(((with_reducible apply WO.aW);exact aD;(first|exact λs=>Mc s _|exact λs=>Mc s ⟨_,_,_,_,_⟩);intros);all_goals(rcases _ with h;exact h))|fail)):P:=h
theorem Hu (h:P:=by(first|(((with_reducible apply WO.aW);exact aD;(first|exact λs=>xY s _|exact λs=>xY s ⟨_,_,_,_,_⟩);intros);all_goals(rcases _ with h;exact h))|fail)):P:=h
theorem Pm (h:P:=by(first|(((with_reducible apply WO.aW);exact aD;exact λs=>TG s _ af;intros);all_goals(rcases _ with h;exact h))|fail)):P:=h
theorem XN (h:P:=by(first|(((with_reducible apply WO.vh);exact aD;(first|exact λs=>vr s _ 46 af|exact λs=>vr s _ 44 af|exact λs=>vr s _ 47 af|exact λs=>vr s _ 59 af|exact λs=>vr s _ 61 af);intro _ _ v8 wa _ _);all_goals(rcases _ with h;exact h))|fail)):P:=h
theorem ahW (h:P:=by(first|(((with_reducible apply WO.aW);exact aD;(first|exact λs=>Hv s _|exact λs=>Hv s ⟨_,_,_,_,_⟩);intros);all_goals(rcases _ with h;exact h))|fail)):P:=h
theorem abf (h:P:=by(first|(((with_reducible apply WO.aW);exact aD;exact λs=>TH s _ af;intros);all_goals(rcases _ with h;exact h))|fail)):P:=h
theorem ahX (h:P:=by(first|(((with_reducible apply WO.iZ);exact aD;exact λs hr=>JL s _ _ _ af aP hr;exact cD;intros);all_goals(rcases _ with h;exact h))|fail)):P:=h
theorem ahY (h:P:=by(first|(((with_reducible apply WO.iZ);exact aD;exact λs hr=>TI s _ _ _ af aP hr;exact cD;intros);all_goals(rcases _ with h;exact h))|fail)):P:=h
theorem TJ (h:P:=by(first|(((with_reducible apply WO.aev);exact aD;exact λs=>Md s _ af af aP;intro _ _ Ed Ee Me BF Mf acU acV _ _);all_goals(rcases _ with h;exact h))|fail)):P:=h
theorem aeW (h:P:=by(first|(((with_reducible apply WO.aW);exact aD;exact λs=>TK s _ af;intros);all_goals(rcases _ with h;exact h))|fail)):P:=h
theorem uD (h:P:=by(first|(((with_reducible apply WO.ak7);(exact Ev.tmp rfl);exact aD;(dsimp only[List.map,List.nil_append,List.append_nil,List.cons_append]));all_goals(rcases _ with h;exact h))|fail)):P:=h
theorem ahZ (h:P:=by(first|(((with_reducible apply WO.iZ);exact aD;exact λs hr=>aeX s _ _ _ aP af _ hr;exact cD;intros);all_goals(rcases _ with h;exact h))|fail)):P:=h
theorem ah0 (h:P:=by(first|(((with_reducible apply WO.iZ);exact aD;exact λs hr=>aeY s _ _ _ aP af _ hr;exact cD;intros);all_goals(rcases _ with h;exact h))|fail)):P:=h
theorem aeZ (h:P:=by(first|(((with_reducible apply WO.aW);exact aD;(first|exact λs=>Ef s _ _ af|exact λs=>Ef s ⟨_,_,_,_,_⟩ _ af);intros);all_goals(rcases _ with h;exact h))|fail)):P:=h
theorem ae0 (h:P:=by(first|(((with_reducible apply WO.vh);exact aD;exact λs=>Pn s _ af;intro _ _ agq agr _ _);all_goals(rcases _ with h;exact h))|fail)):P:=h
theorem AK (h:P:=by(first|(((with_reducible apply WO.mw);exact aD;(first|exact λs hr=>Hw s _ _ aP _ aP hr|exact λs hr=>Hw s _ _ aP ⟨_,_,_,_,_⟩ aP hr);exact ez;intros);all_goals(rcases _ with h;exact h))|fail)):P:=h
theorem abg (h:P:=by(first|(((with_reducible apply WO.tS);exact aD;(first|exact λs hr=>Eg s _ _ aP _ _ hr|exact λs hr=>Eg s _ _ aP ⟨_,_,_,_,_⟩ _ hr);exact ez;intro _ _ Hx Hy _ _);all_goals(rcases _ with h;exact h))|fail)):P:=h
theorem ah1 (h:P:=by(first|(((with_reducible apply WO.tS);exact aD;(first|exact λs hr=>vt s _ _ aP _ aP hr|exact λs hr=>vt s _ _ aP ⟨⟨_,_,_,_,_⟩,_,_⟩ aP hr);exact ez;intro _ _ ae1 ae2 _ _);all_goals(rcases _ with h;exact h))|fail)):P:=h
theorem Eh (h:P:=by(first|(((with_reducible apply WO.AL);exact aD;(first|exact λs hr=>Hz s _ _ aP _ aP hr|exact λs hr=>Hz s _ _ aP ⟨⟨_,_,_,_,_⟩,_,_⟩ aP hr);exact ez;intro _ _ Mg Mh _ _);all_goals(rcases _ with h;exact h))|fail)):P:=h
theorem XO (h:P:=by(first|(((with_reducible apply WO.aW);exact aD;exact λs=>Po s _;intros);all_goals(rcases _ with h;exact h))|fail)):P:=h
theorem Pp (h:P:=by(first|(((with_reducible apply WO.aW);exact aD;(first|exact λs=>HA s _|exact λs=>HA s ⟨_,_,_,⟨⟨_,_,_,_,_⟩,_,_⟩⟩);intros);all_goals(rcases _ with h;exact h))|fail)):P:=h
theorem ah2 (h:P:=by(first|(((with_reducible apply WO.aW);exact aD;(first|exact λs=>Ei s _|exact λs=>Ei s ⟨_,_,_,⟨⟨_,_,_,_,_⟩,_,_⟩⟩);intros);all_goals(rcases _ with h;exact h))|fail)):P:=h
theorem ae3 (h:P:=by(first|(((with_reducible apply WO.AL);exact aD;(first|exact λs hr=>Ej s _ _ aP _ aP hr|exact λs hr=>Ej s _ _ aP ⟨⟨_,_,_,_,_⟩,_,_⟩ aP hr);exact ez;intro _ _ gF gG _ _);all_goals(rcases _ with h;exact h))|fail)):P:=h
theorem TL (h:P:=by(first|(((with_reducible apply WO.tT);exact aD;(intro s hr;exact sU s hr);(exact wL.mk cD cD cD);intros);all_goals(rcases _ with h;exact h))|fail)):P:=h
theorem abh (h:P:=by(first|(((with_reducible apply WO.aaX);exact fS;exact cD;exact lT;intro _);all_goals(rcases _ with h;exact h))|fail)):P:=h
theorem ah3 (h:P:=by(first|(((with_reducible apply WO.aW);exact aD;exact λs=>XP s _ af;intros);all_goals(rcases _ with h;exact h))|fail)):P:=h
theorem rO (h:P:=by(first|(((with_reducible apply WO.tT);exact aD;(intro s hr;exact hld s _ hr);(exact wL.mk cD cD cD);intros);all_goals(rcases _ with h;exact h))|fail)):P:=h
theorem abi (h:P:=by(first|(((with_reducible apply WO.W1);exact fS;exact fS;intro _);all_goals(rcases _ with h;exact h))|fail)):P:=h
theorem ah4 (h:P:=by(first|(((with_reducible apply WO.aaW);exact fS;exact fS;exact cD;exact lT;intro _);all_goals(rcases _ with h;exact h))|fail)):P:=h
theorem TN (h:P:=by(first|(((with_reducible apply WO.aW);exact aD;exact λs=>HB s _ _ _;intros);all_goals(rcases _ with h;exact h))|fail)):P:=h
theorem ae4 (h:P:=by(first|(((with_reducible apply WO.aeF);exact fS;exact fS;exact oX;exact lT;intro _);all_goals(rcases _ with h;exact h))|fail)):P:=h
theorem ae5 (h:P:=by(first|(((with_reducible apply WO.iZ);exact aD;(intro s hr;exact TO s hr);exact cD;intros);all_goals(rcases _ with h;exact h))|fail)):P:=h
theorem ae6 (h:P:=by(first|(((with_reducible apply WO.XQ);exact aD;(intro s hr hv;exact Cb s hr hv);(exact hd);(exact hv);intros);all_goals(rcases _ with h;exact h))|fail)):P:=h
theorem alr (h:P:=by(first|(((with_reducible apply WO.aW);exact aD;(exact Oa);intros);all_goals(rcases _ with h;exact h))|fail)):P:=h
theorem ah5 (h:P:=by(first|(((with_reducible apply WO.vh);exact aD;(exact hsp);intro _ _ anx anz _ _);all_goals(rcases _ with h;exact h))|fail)):P:=h
theorem als (h:P:=by(first|(((with_reducible apply WO.ae7);exact aD;exact oX;(intro s hr hv;exact FD s _ _ hr hv);intros);all_goals(rcases _ with h;exact h))|fail)):P:=h
theorem ae8 (h:P:=by(first|(((with_reducible apply WO.ak8);exact fS;exact fS;intro _);all_goals(rcases _ with h;exact h))|fail)):P:=h
theorem TP (h:P:=by(first|(((with_reducible apply WO.ah6);exact fS;exact fS;intro _);all_goals(rcases _ with h;exact h))|fail)):P:=h
theorem abj (h:P:=by(first|(((with_reducible apply WO.tM);exact aD;(first|exact Ky|exact hqn);intro _ _ alu alv _ _);all_goals(rcases _ with h;exact h))|fail)):P:=h
theorem abk (h:P:=by(first|(((with_reducible apply WO.XL);exact fS;assumption;exact rfl;intro _);all_goals(rcases _ with h;exact h))|fail)):P:=h
theorem rv (h:P:=by(first|(((with_reducible apply WO.invoke);exact fS;(first|exact HC|exact Mi|exact JM|exact Pq|exact TQ);exact aD;(dsimp only[List.map]));all_goals(rcases _ with h;exact h))|fail)):P:=h
theorem acW (h:P:=by(first|(((with_reducible apply WO.tT);exact aD;(intro s hr;exact hrm s hr);(exact wL.mk cD cD cD);intros);all_goals(rcases _ with h;exact h))|fail)):P:=h
theorem Mj (h:P:=by(first|(((with_reducible apply WO.aW);exact aD;exact λs=>Ek s _ aP;intros);all_goals(rcases _ with h;exact h))|fail)):P:=h
theorem Mk (h:P:=by(first|(((with_reducible apply WO.aaY);exact fS;(exact HC);intro _);all_goals(rcases _ with h;exact h))|fail)):P:=h
theorem ry (h:P:=by(first|(((with_reducible apply WO.makeFunc);exact aD;exact aD;intro _);all_goals(rcases _ with h;exact h))|fail)):P:=h
theorem BG (h:P:=by(first|(((with_reducible apply WO.tT);exact aD;(intro s hr;exact vu s _ (hV.th _ af) hr);(exact wL.mk cD cD cD);intros);all_goals(rcases _ with h;exact h))|fail)):P:=h
theorem Rp (h:P:=by(first|(((with_reducible apply WO.tT);exact aD;(intro s hr;exact Wp s _ hr);(exact wL.mk cD cD cD);intros);all_goals(rcases _ with h;exact h))|fail)):P:=h
theorem ah7 (h:P:=by(first|(((with_reducible apply WO.XR);exact aD;(intro s hr;exact uA s _ hr);(exact Pr.mk (wL.mk cD cD cD) cD cD);intros);all_goals(rcases _ with h;exact h))|fail)):P:=h
theorem acX (h:P:=by(first|(((with_reducible apply WO.aW);exact aD;exact λs=>F6 s _ _ ⟨aP,aP,aP,aP⟩;intros);all_goals(rcases _ with h;exact h))|fail)):P:=h
theorem El (h:P:=by(first|(((with_reducible apply WO.mw);exact aD;(first|exact λs hr=>Rq s _ _ aP _ hr|exact λs hr=>Rq s _ _ aP ⟨⟨_,_,_,_,_⟩,_,_⟩ hr);exact ez;intros);all_goals(rcases _ with h;exact h))|fail)):P:=h
theorem acY (h:P:=by(first|(((with_reducible apply WO.aW);exact aD;exact λs=>Ps s _ _ af af;intros);all_goals(rcases _ with h;exact h))|fail)):P:=h
theorem Em (h:P:=by(first|(((with_reducible apply WO.aW);exact aD;exact λs=>Ml s _ af;intros);all_goals(rcases _ with h;exact h))|fail)):P:=h
theorem ah8 (h:P:=by(first|(((with_reducible apply WO.iZ);exact aD;exact λs hr=>uA s _ hr;exact cD;intros);all_goals(rcases _ with h;exact h))|fail)):P:=h
theorem Rr (h:P:=by(first|(((with_reducible apply WO.JN);exact aD;(intro s h1 h2;exact F7 s h1 h2);exact cD;exact cD;intros);all_goals(rcases _ with h;exact h))|fail)):P:=h
theorem HD (h:P:=by(first|(((with_reducible apply WO.aW);exact aD;exact λs=>Oa s;intros);all_goals(rcases _ with h;exact h))|fail)):P:=h
theorem acZ (h:P:=by(first|(((with_reducible apply WO.lit (α:=bE) (xs:=[_]));exact zm;exact rfl;exact rfl;intro bl _);all_goals(rcases _ with h;exact h))|fail)):P:=h
theorem ac0 (h:P:=by(first|(((with_reducible apply WO.lit (α:=bE) (xs:=[⟨_,_⟩]));exact zm;exact rfl;exact rfl;intro bl _);all_goals(rcases _ with h;exact h))|fail)):P:=h
theorem ac1 (h:P:=by(first|(((with_reducible apply WO.lit (α:=bS) (xs:=[_]));exact zm;exact rfl;exact rfl;intro bl _);all_goals(rcases _ with h;exact h))|fail)):P:=h
theorem Rs (h:P:=by(first|(((with_reducible apply WO.lit (α:=bS) (xs:=[⟨_,_,_⟩]));exact zm;exact rfl;exact rfl;intro bl _);all_goals(rcases _ with h;exact h))|fail)):P:=h
theorem BH (h:P:=by(first|(((with_reducible apply WO.ae9);exact aD;exact dU;exact lT;exact lT;(first|exact fU|assumption|(exact rT ay));(first|exact fU|assumption|(exact rT ay));exact lT;exact lT;(intro s;exact Xo s _ _ _ _ _ _ _ _ (by(first|exact fU|assumption|(exact rT ay))) (by(first|exact fU|assumption|(exact rT ay))) lT lT);intro _ _ anA anB _ _ zn zo zp zq);all_goals(rcases _ with h;exact h))|fail)):P:=h
theorem XS (h:P:=by(first|(((with_reducible apply WO.ah9);exact fS;exact fS;exact xW;exact lT;intro _);all_goals(rcases _ with h;exact h))|fail)):P:=h
theorem ac2 (h:P:=by(first|(((with_reducible apply WO.XT);exact aD;exact dU;exact oX;(intro s hr hm;exact abl s _ _ _ af _ ⟨_,_,_,_,_⟩ hr hm);intro _ _ anC _ _ am5 am6 am7);all_goals(rcases _ with h;exact h))|fail)):P:=h
theorem ac3 (h:P:=by(first|(((with_reducible apply WO.XU);exact aD;exact dU;exact oX;(intro s hr hm;exact abm s _ _ _ af _ _ hr hm);intro _ _ anD _ _ am8 am9 ana);all_goals(rcases _ with h;exact h))|fail)):P:=h
theorem ac4 (h:P:=by(first|(((with_reducible apply WO.tT);exact aD;(intro s hr;exact N4 s hr);(exact wL.mk cD cD cD);intros);all_goals(rcases _ with h;exact h))|fail)):P:=h
theorem Rt (h:P:=by(first|(((with_reducible apply WO.afa);exact fS;exact fS;exact xW;exact lT;intro _);all_goals(rcases _ with h;exact h))|fail)):P:=h
theorem HE (h:P:=by(first|(((with_reducible apply WO.mw);exact aD;exact λs hr=>wY s hr;exact ez;intros);all_goals(rcases _ with h;exact h))|fail)):P:=h
theorem XV (h:P:=by(first|(((with_reducible apply WO.aW);exact aD;exact λs=>hpc s;intros);all_goals(rcases _ with h;exact h))|fail)):P:=h
theorem Ru (h:P:=by(first|(((with_reducible apply WO.mw);exact aD;exact λs hr=>hfc s _ _ hr;exact ez;intros);all_goals(rcases _ with h;exact h))|fail)):P:=h
theorem ac5 (h:P:=by(first|(((with_reducible apply WO.nE);exact aD;exact λs=>TR s _ _ aP _ af;exact dU;intro _ _ XW _ _ aia);all_goals(rcases _ with h;exact h))|fail)):P:=h
theorem XY (h:P:=by(first|(((with_reducible apply WO.iZ);exact aD;exact λs hr=>TS s _ _ _ af hr;exact cD;intros);all_goals(rcases _ with h;exact h))|fail)):P:=h
theorem ac6 (h:P:=by(first|(((with_reducible apply WO.iZ);exact aD;exact λs hr=>TU s _ _ _ af hr;exact cD;intros);all_goals(rcases _ with h;exact h))|fail)):P:=h
theorem aib (h:P:=by(first|(((with_reducible apply WO.nE);exact aD;exact λs=>xZ s _ _ aP _ af _;exact dU;intro _ _ ags _ _ AM);all_goals(rcases _ with h;exact h))|fail)):P:=h
theorem XZ (h:P:=by(first|(((with_reducible apply WO.afb);exact aD;exact λs hr hm=>Ll s _ _ hr hm;exact dU;exact cD;intro _ _ aic _ _ En);all_goals(rcases _ with h;exact h))|fail)):P:=h
theorem Mn (h:P:=by(first|(((with_reducible apply WO.nE);exact aD;(first|exact λs=>HF s _ _ aP _ aP|exact λs=>HF s _ _ aP ⟨_,_,_,_,_⟩ aP);exact dU;intro _ _ X0 _ _ aid);all_goals(rcases _ with h;exact h))|fail)):P:=h
theorem Eo (h:P:=by(first|(((with_reducible apply WO.afc);exact aD;exact λs hr hm hv=>hlc _ s _ _ hr hm hv;exact dU;exact oX;intro _ _ Ep _ _ vv);all_goals(rcases _ with h;exact h))|fail)):P:=h
theorem Rv (h:P:=by(first|(((with_reducible apply WO.nE);exact aD;exact λs=>hwc s;exact dU;intro _ _ afd _ _ Er);all_goals(rcases _ with h;exact h))|fail)):P:=h
theorem Es (h:P:=by(first|(((with_reducible apply WO.nE);exact aD;exact λs=>TV _ s;exact dU;intro _ _ zr _ _ Mo);all_goals(rcases _ with h;exact h))|fail)):P:=h
theorem ac7 (h:P:=by(first|(((with_reducible apply WO.nE);exact aD;(first|exact λs=>Et s _ _ aP _ aP _ af|exact λs=>Et s _ _ aP ⟨⟨_,_,_,_,_⟩,_,_⟩ aP _ af);exact dU;intro _ _ aj3 _ _ aj4);all_goals(rcases _ with h;exact h))|fail)):P:=h
theorem ac8 (h:P:=by(first|(((with_reducible apply WO.mw);exact aD;(first|exact λs hr=>AN s _ _ aP _ aP _ af hr|exact λs hr=>AN s _ _ aP ⟨⟨_,_,_,_,_⟩,_,_⟩ aP _ af hr);exact ez;intros);all_goals(rcases _ with h;exact h))|fail)):P:=h
theorem ac9 (h:P:=by(first|(((with_reducible apply WO.nE);exact aD;(first|exact λs=>wb s _ _ aP _ aP _ af _|exact λs=>wb s _ _ aP ⟨⟨_,_,_,_,_⟩,_,_⟩ aP _ af _|exact λs=>wb s _ _ aP _ aP _ af ⟨_,_,_,⟨⟨_,_,_,_,_⟩,_,_⟩⟩);exact dU;intro _ _ aie _ _ aif);all_goals(rcases _ with h;exact h))|fail)):P:=h
theorem X1 (h:P:=by(first|(((with_reducible apply WO.JO);exact aD;exact uv;exact λs hr=>tU s _ _ _ aP aP _ af hr;intros);all_goals(rcases _ with h;exact h))|fail)):P:=h
theorem aih (h:P:=by(first|(((with_reducible apply WO.tS);exact aD;exact λs hr=>aii s hr;exact ez;intro _ _ rP rQ _ _);all_goals(rcases _ with h;exact h))|fail)):P:=h
theorem aij (h:P:=by(first|(((with_reducible apply WO.iZ);exact aD;exact λs hr=>Eu s _ _ _ _ (by first|omega|(simp;done)) hr;exact cD;intros);all_goals(rcases _ with h;exact h))|fail)):P:=h
theorem ada (h:P:=by(first|(((with_reducible apply WO.aW);exact aD;exact λs=>HG s _ (by rw[cO];omega);intros);all_goals(rcases _ with h;exact h))|fail)):P:=h
theorem HH (h:P:=by(first|(((with_reducible apply WO.AO);exact aD;(intro v s;exact dD _ s);exact dU;intro _ _ pN _ _);all_goals(rcases _ with h;exact h))|fail)):P:=h
theorem adb (h:P:=by(first|(((with_reducible apply WO.X2);exact aD;(intro s hr hn hm;exact alw _ _ s hr hn hm);exact dU;exact ez;exact cD;intro _ _ jJ jK _ _);all_goals(rcases _ with h;exact h))|fail)):P:=h
theorem Rw (h:P:=by(first|(((with_reducible apply WO.mw);exact aD;(first|exact λs hr=>Mp s _ _ aP _ hr|exact λs hr=>Mp s _ _ aP ⟨⟨_,_,_,_,_⟩,_,_⟩ hr);exact ez;intros);all_goals(rcases _ with h;exact h))|fail)):P:=h
theorem Rx (h:P:=by(first|(((with_reducible apply WO.AL);exact aD;exact λs hr=>FA s hr;exact ez;intro _ _ jx jy _ _);all_goals(rcases _ with h;exact h))|fail)):P:=h
theorem ade (h:P:=by(first|(((with_reducible apply WO.X2);exact aD;(intro s hr hn hm;exact hwk _ _ _ _ s hr hn hm);exact dU;exact ez;exact cD;intro _ _ jJ jK _ _);all_goals(rcases _ with h;exact h))|fail)):P:=h
theorem zt (h:P:=by(first|(((with_reducible apply WO.mw);exact aD;(first|exact λs hr=>Ew s _ _ aP _ aP hr|exact λs hr=>Ew s _ _ aP ⟨_,_,_,⟨⟨_,_,_,_,_⟩,_,_⟩⟩ aP hr);exact ez;intros);all_goals(rcases _ with h;exact h))|fail)):P:=h
theorem ux (h:P:=by(first|(((with_reducible apply WO.wc);exact aD;(intro s hr;exact Oe s hr);exact uv;intros);all_goals(rcases _ with h;exact h))|fail)):P:=h
theorem zu (h:P:=by(first|(((with_reducible apply WO.wc);exact aD;(intro s hr;exact pR s hr);exact uv;intros);all_goals(rcases _ with h;exact h))|fail)):P:=h
theorem X3 (h:P:=by(first|(((with_reducible apply WO.wc);exact aD;(intro s hr;exact sS s hr);exact uv;intros);all_goals(rcases _ with h;exact h))|fail)):P:=h
theorem BI (h:P:=by(first|(((with_reducible apply WO.Mq);exact aD;(intro s hr;exact Wp s hr);exact uv;intro _ _ AP AQ _ _);all_goals(rcases _ with h;exact h))|fail)):P:=h
theorem Ey (h:P:=by(first|(((with_reducible apply WO.aW);exact aD;exact λs=>Pt s _ af aP aP;intros);all_goals(rcases _ with h;exact h))|fail)):P:=h
theorem Mr (h:P:=by(first|(((with_reducible apply WO.iZ);exact aD;exact λs hr=>aik _ _ s hr;exact cD;intros);all_goals(rcases _ with h;exact h))|fail)):P:=h
theorem Ms (h:P:=by(first|(((with_reducible apply WO.afe);exact aD;exact oX;exact λs hr hv=>ail _ _ s hr hv;intro _ _ aff afg _ _);all_goals(rcases _ with h;exact h))|fail)):P:=h
theorem Mt (h:P:=by(first|(((with_reducible apply WO.X4);exact aD;(intro v s hr hm;exact mZ _ _ _ s hr hm);exact dU;exact cD;intro _ _ jq _ _);all_goals(rcases _ with h;exact h))|fail)):P:=h
theorem Mu (h:P:=by(first|(((with_reducible apply WO.aW);exact aD;exact λs=>hpi s;intros);all_goals(rcases _ with h;exact h))|fail)):P:=h
theorem X5 (h:P:=by(first|(((with_reducible apply WO.nE);exact aD;exact λs=>Vc _ s;exact dU;intro _ _ Mv _ _ X6);all_goals(rcases _ with h;exact h))|fail)):P:=h
theorem X7 (h:P:=by(first|(((with_reducible apply WO.xI);exact fS;exact fS;assumption;exact lT;intro _);all_goals(rcases _ with h;exact h))|fail)):P:=h
theorem X8 (h:P:=by(first|(((with_reducible apply WO.aim);exact fS;assumption;exact lT;intro _);all_goals(rcases _ with h;exact h))|fail)):P:=h
theorem BJ (h:P:=by(first|(((with_reducible apply WO.Ry);exact aD;exact dU;assumption;(intro s hr hm;exact abn s _ _ _ _ _ _ aP af af hr hm);intro _ _ nF alx aj5 abo _ _;obtain⟨Ez,rfl,aly⟩:=abo);all_goals(rcases _ with h;exact h))|fail)):P:=h
theorem adf (h:P:=by(first|(((with_reducible apply WO.Ry);exact aD;exact dU;assumption;(intro s hr hm;exact abp s _ _ _ _ _ aP af hr hm);intro _ _ alz alA aj6 abq _ _;obtain⟨alB,rfl,afh⟩:=abq);all_goals(rcases _ with h;exact h))|fail)):P:=h
theorem adg (h:P:=by(first|(((with_reducible apply WO.Ry);exact aD;exact dU;assumption;(intro s hr hm;exact abr s _ _ _ _ _ _ aP af af hr hm);intro _ _ alC alD aj7 abt _ _;obtain⟨alE,rfl,alF⟩:=abt);all_goals(rcases _ with h;exact h))|fail)):P:=h
theorem rz (h:P:=by(first|(((with_reducible apply WO.X9);exact aD;exact λs hr=>TW s _ _ aP hr;exact acP;intro _ _ ain _ _);all_goals(rcases _ with h;exact h))|fail)):P:=h
theorem EA (h:P:=by(first|(((with_reducible apply WO.wc);exact aD;(intro s hr;exact C6 s hr);exact uv;intros);all_goals(rcases _ with h;exact h))|fail)):P:=h
theorem Ya (h:P:=by(first|(((with_reducible apply WO.mw);exact aD;exact λs hr=>Mw s hr;exact ez;intros);all_goals(rcases _ with h;exact h))|fail)):P:=h
theorem Rz (h:P:=by(first|(((with_reducible apply WO.Jo);exact aD;exact λs hr=>FK _ _ s hr;exact cD;intro _ _ agt agu _ _);all_goals(rcases _ with h;exact h))|fail)):P:=h
theorem BK (h:P:=by(first|(((with_reducible apply WO.wc);exact aD;(intro s hr;(first|exact Oe s hr|exact WK s hr));exact uv;intros);all_goals(rcases _ with h;exact h))|fail)):P:=h
theorem Mx (h:P:=by(first|(((with_reducible apply WO.aW);exact aD;exact λs=>N3 s;intros);all_goals(rcases _ with h;exact h))|fail)):P:=h
theorem RA (h:P:=by(first|(((with_reducible apply WO.wc);exact aD;(intro s hr;(first|exact sS s hr|exact aio s hr));exact uv;intros);all_goals(rcases _ with h;exact h))|fail)):P:=h
theorem Yb (h:P:=by(first|(((with_reducible apply WO.Mq);exact aD;(intro s hr;(first|exact Wp s hr|exact hef s hr));exact uv;intro _ _ AP AQ _ _);all_goals(rcases _ with h;exact h))|fail)):P:=h
theorem adh (h:P:=by(first|(((with_reducible apply WO.X4);exact aD;(intro v s hr hm;(first|exact mZ _ _ _ s hr hm|exact N6 _ _ _ s hr hm|exact SJ _ _ _ s hr hm));exact dU;exact cD;intro _ _ jq _ _);all_goals(rcases _ with h;exact h))|fail)):P:=h
theorem aip (h:P:=by(first|(((with_reducible apply WO.AO);exact aD;(intro v s;exact og _ _ s);exact dU;intro _ _ w9 _ _);all_goals(rcases _ with h;exact h))|fail)):P:=h
theorem Yc (h:P:=by(first|(((with_reducible apply WO.AO);exact aD;(intro v s;exact og _ _ s);exact dU;intro _ _ F8 _ _);all_goals(rcases _ with h;exact h))|fail)):P:=h
theorem Yd (h:P:=by(first|(((with_reducible apply WO.AO);exact aD;(intro v s;exact og _ _ s);exact dU;intro _ _ F9 _ _);all_goals(rcases _ with h;exact h))|fail)):P:=h
theorem Ye (h:P:=by(first|(((with_reducible apply WO.AO);exact aD;(intro v s;exact og _ _ s);exact dU;intro _ _ Ga _ _);all_goals(rcases _ with h;exact h))|fail)):P:=h
theorem Yf (h:P:=by(first|(((with_reducible apply WO.AO);exact aD;(intro v s;exact og _ _ s);exact dU;intro _ _ Cd _ _);all_goals(rcases _ with h;exact h))|fail)):P:=h
theorem RB (h:P:=by(first|(((with_reducible apply WO.lg);exact aD;(intro s hr;exact sU s hr);exact fD;intros);all_goals(rcases _ with h;exact h))|fail)):P:=h
theorem Yg (h:P:=by(first|(((with_reducible apply WO.aW);exact aD;exact λs=>My s _ af;intros);all_goals(rcases _ with h;exact h))|fail)):P:=h
theorem adi (h:P:=by(first|(((with_reducible apply WO.lg);exact aD;(intro s hr;exact Pu s _ _ _ _ _ aP _ hr);exact fD;intros);all_goals(rcases _ with h;exact h))|fail)):P:=h
theorem adj (h:P:=by(first|(((with_reducible apply WO.lg);exact aD;(intro s hr;exact JP s _ _ _ _ _ aP hr);exact fD;intros);all_goals(rcases _ with h;exact h))|fail)):P:=h
theorem adk (h:P:=by(first|(((with_reducible apply WO.lg);exact aD;(intro s hr;exact JQ s _ _ _ _ _ aP _ hr);exact fD;intros);all_goals(rcases _ with h;exact h))|fail)):P:=h
theorem adl (h:P:=by(first|(((with_reducible apply WO.lg);exact aD;(intro s hr;exact BL s _ _ _ _ _ aP _ hr);exact fD;intros);all_goals(rcases _ with h;exact h))|fail)):P:=h
theorem Yh (h:P:=by(first|(((with_reducible apply WO.lg);exact aD;(intro s hr;exact Yi s _ _ _ _ _ aP _ hr);exact fD;intros);all_goals(rcases _ with h;exact h))|fail)):P:=h
theorem aiq (h:P:=by(first|(((with_reducible apply WO.tT);exact aD;(intro s hr;exact sU s _ hr);(exact wL.mk cD cD cD);intros);all_goals(rcases _ with h;exact h))|fail)):P:=h
theorem air (h:P:=by(first|(((with_reducible apply WO.aeA);exact fS;exact fS;exact oX;intro _);all_goals(rcases _ with h;exact h))|fail)):P:=h
theorem ais (h:P:=by(first|(((with_reducible apply WO.aW);exact aD;exact λs=>EB s _ af aP;intros);all_goals(rcases _ with h;exact h))|fail)):P:=h
theorem ait (h:P:=by(first|(((with_reducible apply WO.aez);exact fS;exact fS;exact oX;intro _);all_goals(rcases _ with h;exact h))|fail)):P:=h
theorem aiu (h:P:=by(first|(((with_reducible apply WO.ahx);exact fS;exact fS;exact fS;exact xW;intro _);all_goals(rcases _ with h;exact h))|fail)):P:=h
theorem aiv (h:P:=by(first|(((with_reducible apply WO.aey);exact fS;exact fS;exact oX;intro _);all_goals(rcases _ with h;exact h))|fail)):P:=h
theorem aiw (h:P:=by(first|(((with_reducible apply WO.ahw);exact fS;exact fS;exact fS;exact xW;intro _);all_goals(rcases _ with h;exact h))|fail)):P:=h
theorem aix (h:P:=by(first|(((with_reducible apply WO.ahy);exact fS;exact fS;exact fS;exact xW;intro _);all_goals(rcases _ with h;exact h))|fail)):P:=h
theorem RC (h:P:=by(first|(((with_reducible apply WO.aW);exact aD;(exact og);intros);all_goals(rcases _ with h;exact h))|fail)):P:=h
theorem adm (h:P:=by(first|(((with_reducible apply WO.tT);exact aD;(intro s hr;exact V5 s hr);(exact wL.mk cD cD cD);intros);all_goals(rcases _ with h;exact h))|fail)):P:=h
theorem cM (h:P:=by(first|((repeat' (first|refine' aZ|refine' av|fail));all_goals(rcases _ with h;exact h))|fail)):P:=h
theorem zb2 (h:P:=by(first|((repeat' (first|refine' aZ|refine' Od|refine' av|fail));all_goals(rcases _ with h;exact h))|fail)):P:=h
theorem aiy (h:P:=by(first|((repeat' (first|refine' aZ|((with_reducible apply WO.aW);exact aD;exact λs=>abu s _ _ _;intros)|refine' av|fail));all_goals(rcases _ with h;exact h))|fail)):P:=h
theorem Ce (h:P:=by(first|((repeat' (first|refine' aZ|refine' Hu|refine' av|fail));all_goals(rcases _ with h;exact h))|fail)):P:=h
theorem Yj (h:P:=by(first|((repeat' (first|refine' aZ|refine' ae3|refine' av|fail));all_goals(rcases _ with h;exact h))|fail)):P:=h
theorem aiz (h:P:=by(first|((repeat' (first|refine' aZ|((with_reducible apply WO.iZ);exact aD;(intro s hr;exact F7 s hr);exact cD;intros)|refine' av|fail));all_goals(rcases _ with h;exact h))|fail)):P:=h
theorem Yk (h:P:=by(first|((repeat' (first|refine' aZ|refine' alr|refine' ah5|refine' als|refine' av|fail));all_goals(rcases _ with h;exact h))|fail)):P:=h
theorem abv (h:P:=by(first|((repeat' (first|refine' aZ|refine' Mj|refine' Mk|refine' ry|refine' rv|refine' rO|refine' av|fail));all_goals(rcases _ with h;exact h))|fail)):P:=h
theorem abw (h:P:=by(first|((repeat' (first|refine' aZ|refine' Mj|refine' Mk|refine' ry|refine' rv|refine' rO|refine' BG|refine' av|fail));all_goals(rcases _ with h;exact h))|fail)):P:=h
theorem aiA (h:P:=by(first|((repeat' (first|refine' aZ|refine' Mj|refine' Mk|refine' ry|refine' rv|refine' rO|refine' BG|refine' Rp|refine' uD|refine' ah7|refine' av|fail));all_goals(rcases _ with h;exact h))|fail)):P:=h
theorem Yl (h:P:=by(first|((repeat' (first|refine' aZ|refine' rv|refine' rO|refine' ry|refine' uD|refine' BG|refine' av|fail));all_goals(rcases _ with h;exact h))|fail)):P:=h
theorem Mz (h:P:=by(first|((repeat' (first|refine' aZ|refine' rv|refine' rO|refine' ry|refine' uD|refine' BG|refine' Mk|refine' Mj|refine' acX|refine' av|fail));all_goals(rcases _ with h;exact h))|fail)):P:=h
theorem Ym (h:P:=by(first|((repeat' (first|refine' aZ|refine' rv|refine' rO|refine' ry|refine' uD|refine' BG|refine' Mk|refine' Mj|refine' acX|refine' Rp|refine' av|fail));all_goals(rcases _ with h;exact h))|fail)):P:=h
theorem RD (h:P:=by(first|((repeat' (first|refine' aZ|refine' uD|refine' ah8|refine' av|fail));all_goals(rcases _ with h;exact h))|fail)):P:=h
theorem adn (h:P:=by(first|((repeat' (first|refine' aZ|((with_reducible apply WO.aeE);exact fS;exact fS;exact oX;exact lT;intro _ a_s c_s anE)|((with_reducible apply WO.aeG);exact fS;assumption;exact xW;exact lT;intro _)|refine' ae4|refine' av|fail));all_goals(rcases _ with h;exact h))|fail)):P:=h
theorem ado (h:P:=by(first|((repeat' (first|refine' aZ|refine' rO|refine' acW|refine' acZ|refine' ac0|refine' ac1|refine' Rs|refine' BH|refine' av|fail));all_goals(rcases _ with h;exact h))|fail)):P:=h
theorem HI (h:P:=by(first|((repeat' (first|refine' aZ|refine' HE|refine' Ru|refine' XV|refine' av|fail));all_goals(rcases _ with h;exact h))|fail)):P:=h
theorem adp (h:P:=by(first|((repeat' (first|refine' aZ|((with_reducible apply WO.aiB);exact aD;exact λs=>hg s;exact dU;intros)|refine' av|fail));all_goals(rcases _ with h;exact h))|fail)):P:=h
theorem Yn (h:P:=by(first|((repeat' (first|refine' aZ|refine' XY|refine' ac6|refine' Hu|refine' aeZ|refine' aib|refine' av|fail));all_goals(rcases _ with h;exact h))|fail)):P:=h
theorem Yo (h:P:=by(first|((repeat' (first|refine' aZ|refine' Eh|refine' AK|refine' Eo|refine' av|fail));all_goals(rcases _ with h;exact h))|fail)):P:=h
theorem adq (h:P:=by(first|((repeat' (first|refine' aZ|((with_reducible apply WO.vh);exact aD;exact λs=>hR s;intro _ _ adr ads _ _)|refine' av|fail));all_goals(rcases _ with h;exact h))|fail)):P:=h
theorem Yp (h:P:=by(first|((repeat' (first|refine' aZ|refine' ac8|refine' aih|refine' aij|refine' av|fail));all_goals(rcases _ with h;exact h))|fail)):P:=h
theorem RE (h:P:=by(first|((repeat' (first|refine' aZ|refine' ux|refine' zu|refine' av|fail));all_goals(rcases _ with h;exact h))|fail)):P:=h
theorem HJ (h:P:=by(first|((repeat' (first|refine' aZ|refine' rz|refine' aip|refine' av|fail));all_goals(rcases _ with h;exact h))|fail)):P:=h
theorem sH (h:P:=by(first|((repeat' (first|refine' aZ|refine' aiq|refine' ae8|refine' ah4|refine' ah3|refine' air|refine' ais|refine' ait|refine' aiu|refine' aiv|refine' aiw|refine' abh|refine' aix|refine' abi|refine' av|fail));all_goals(rcases _ with h;exact h))|fail)):P:=h
variable {f i:Nat}
theorem JR {a b:UInt8}:(a.toNat:Int)=b.toNat↔a=b:=by rw[Int.ofNat_inj,sW]
theorem Pv (c:UInt8)(p q:aC)(h:c∉p):cut c (p++c::q)=p::cut c q:=by
 induction p with
 |nil=>simp[cut]
 |cons x p ih=>
  simp at h;rw[yw,cut,if_neg (λe=>h.1 e.symm),ih h.2]
theorem vj (c:UInt8)(p:aC)(h:c∉p):cut c p=[p]:=by
 induction p with
 |nil=>simp[cut]
 |cons x p ih=>
  simp at h;rw[cut,if_neg (λe=>h.1 e.symm),ih h.2]
theorem TX (z:aC)(h1:f<=i)(h2:i<z.length):(z.drop f).take (i+1-f)=(z.drop f).take (i-f)++[z.getD i 0]:=by
 have:i+1-f=(i-f)+1:=by omega
 rw[this,ui]
 congr 1
 rw[wP,show f+(i-f)=i by omega,a7,bc h2];rfl
theorem abx (z:aC)(h1:f<=i)(h2:i<z.length):z.drop f=(z.drop f).take (i-f)++z.getD i 0::z.drop (i+1):=by
 conv=>lhs;rw[<-yy (i-f) (z.drop f)]
 congr 1
 rw[mA,show f+(i-f)=i by omega,uQ h2,a7,bc h2];rfl
theorem vr (s:St)(z:aC)(c:UInt8)(hz:z.length<=100000):FC 210 [sv z,bv c] s [] [] λv L=>∃a k,v= .slice a (cut c z).length k/\L=[.aQ v 9 1 (ai (cut c z))]:=by
 refine aX f210 ?_;(repeat(first|refine' xX|refine' av|fail))
 refine W.loop (λk l L=>∃(i fr:Nat)(a:aS)(cp:Nat)(done:List aC),Le [(0,sv z),(1,bv c),(5,.slice a done.length cp),(6,iv fr),(7,iv i)] l/\cx [.aQ (.slice a done.length cp) 9 1 (ai done)] L/\
  k=z.length-i/\fr<=i/\i<=z.length/\done.length<=i/\cut c z=done++cut c (z.drop fr)/\c∉(z.drop fr).take (i-fr)) z.length ⟨0,0,_,_,[],bp,au,af,af,af,lT,ay,ay⟩ ?_
 rintro k l L ⟨i,fr,a,cp,done,hl,hL,rfl,h1,h2,h4,h5,h6⟩;refine W.le ?_ hl hL;clear hl hL;(repeat(first|refine' xX|refine' av|fail));refine W.cond fS ?_ ?_<;>intro h<;>simp only[bR,mQ,na,Bh,Gt,Oi,IF] at h
 ·(repeat(first|refine' xX|refine' av|fail))
  refine W.cond fS ?_ ?_<;>intro hc<;>simp only[bR,mQ,na,Bh,Gt,Oi,IF] at hc<;>rw[JR] at hc
  ·(repeat(first|refine' xX|refine' av|fail))
   refine⟨_,?_,i+1,i+1,_,_,done++[(z.drop fr).take (i-fr)],bp,au,rfl,af,af,by simp;omega,?_,ay⟩
   .omega
   .have h9:=Pv c _ (z.drop (i+1)) h6;rw[<-hc,<-abx z h1 af,hc] at h9;rw[h5,h9];simp
  ·(repeat(first|refine' xX|refine' av|fail))
   refine⟨_,?_,i+1,fr,_,_,done,bp,au,rfl,af,af,af,h5,?_⟩
   .omega
   .rw[TX z h1 af];simp[h6];exact λe=>hc e.symm
 ·(repeat(first|refine' xX|refine' av|fail))
  have hi:i=z.length:=by omega
  subst hi;have h7:cut c z=done++[z.drop fr]:=by
   rw[h5,vj]
   rwa [rT ay] at h6
  rw[h7];refine⟨cy,_,[.aQ _ 9 1 _],.tmp rfl .nil,au,_,_,rfl,rfl⟩
theorem x4 (a b c d e a' b' c' d' e':Int):fP [iv a,iv b,iv c,iv d,iv e] [iv a',iv b',iv c',iv d',iv e']=some (decide (a=a'/\b=b'/\c=c'/\d=d'/\e=e')):=by
 simp only[lu,uX,lP,bu,jB,dJ]
 congr 1
 rw[pd];simp
theorem abe (s:St)(n a b:Int):bL 70 [iv n,iv a,iv b] s [] (.bool (fM n a b)):=by refine aX f70 ?_;(refine' cM)<;>(refine' ax)<;>(first|(simp_all [gK,fM];done)|(simp_all [gK,fM];omega))
theorem XM (s:St)(n:Int):bL 193 [iv n] s [] (.bool (S5 n)):=by refine aX f193 ?_;(refine' zb2)<;>(refine' ax)<;>simp_all [gK,S5]
theorem Pw (s:St)(z:aC):bL 279 [sv z] s [] (.bool (Je z)):=by refine aX f279 ?_;(refine' zb2)<;>(refine' ax)<;>(simp only[gK,Je,fM];congr 1;rw[pd];simp;omega)
theorem xY (s:St)(p:jt):bL 143 [pv p] s [] (.bool (aK p)):=by
 refine aX f143 ?_;refine' cM;apply WO.ahl
 .exact Ev.tmp rfl
 .exact Ev.tmp rfl
 .rfl
 .exact x4 _ _ _ _ _ _ _ _ _ _
 intro _;refine' cM;refine' ax;simp only[gK,aK,bz]
 congr 1
 obtain⟨a,b,c,d,e⟩:=p;simp
theorem Mc (s:St)(p:jt):bL 142 [pv p] s [] (.bool (bB p)):=by refine aX f142 ?_;(repeat' (first|refine' aZ|((with_reducible apply WO.aW);exact aD;exact λs=>xY s ⟨_,_,_,_,_⟩;intros)|refine' zc3|refine' Od|refine' av|fail))<;>(refine' ax)<;>simp_all [gK,bB]
theorem Po (s:St)(n:Int):bL 211 [iv n] s [] (iv (cQ n)):=by refine aX f211 ?_;(refine' cM)<;>(refine' ax)<;>simp_all [gK,cQ]<;>omega
theorem Px (s:St)(n:Int):bL 262 [iv n] s [] (iv (fm n)):=by refine aX f262 ?_;(refine' cM)<;>(refine' ax)<;>simp_all [gK,fm]<;>omega
theorem Ps (s:St)(n:Int)(k:Nat)(hn:0<=n/\n<=10000)(hk:k<=10000):bL 113 [iv n,iv (k:Nat)] s [] (iv (gj n k)):=by refine aX f113 ?_;(refine' cM)<;>(refine' ax)<;>simp_all [gK,gj]<;>omega
variable {k:Nat}
theorem zv (s:St)(n e:Int)(hn:0<=n/\n<=1000000)(he:0<e/\e<=1000000):bL 209 [iv n,iv e] s [] (iv (dn n e)):=by have h1:(n+e-1).tdiv e=(n+e-1)/ e:=Vt af;have h2:0<=(n+e-1)/ e:=Int.ediv_nonneg af af;have h3:(n+e-1)/ e<=n+e-1:=Int.ediv_le_self _ af;refine aX f209 ?_;(repeat(first|refine' xX|refine' av|fail));refine' ax;simp[gK,dn,h1]
theorem Gb (s:St)(k n:Int):bL 215 [iv k,iv n] s [] (iv (fp k n)):=by
 have he:fm k=0\/fm k=12\/fm k=128:=by unfold fm;split<;>(try split)<;>simp
 refine aX f215 ?_;(repeat' (first|refine' aZ|((with_reducible apply WO.aW);exact aD;exact λs=>Px s _;intros)|refine' Od|((with_reducible apply WO.aW);exact aD;exact λs=>zv s _ _ af af;intros)|refine' av|fail))<;>(refine' ax)<;>simp_all [gK,fp,fM]<;>omega
def Py (c:UInt8):Bool:=decide (97<=c.toNat)&&decide (c.toNat<=122)
theorem EC (p:UInt8->Bool)(z:aC)(h:i<z.length):(z.take (i+1)).all p=((z.take i).all p&&p (z.getD i 0)):=by rw[ui,bc h,Gu,a7,bc h];simp
theorem afi (p:UInt8->Bool)(z:aC)(h:i<z.length)(hp:p (z.getD i 0)=false):z.all p=false:=by rw[Gv];exact⟨z.getD i 0,by rw[a7,bc h];simp,by simpa using hp⟩
theorem TH (s:St)(z:aC)(hz:z.length<=100000):bL 39 [sv z] s [] (.bool (aV z)):=by
 refine aX f39 ?_;(repeat(first|refine' xX|refine' av|fail));refine W.loop (λk l L=>∃(i:Nat),Le [(0,sv z),(3,iv i)] l/\cx [] L/\k=z.length-i/\i<=z.length/\(z.take i).all Py=true) z.length ⟨0,bp,au,af,af,ay⟩ ?_;rintro k l L ⟨i,hl,hL,rfl,h1,h2⟩;refine W.le ?_ hl hL;clear hl hL;(repeat(first|refine' xX|refine' av|fail));refine W.cond fS ?_ ?_<;>intro h<;>simp only[bR,mQ,na,Bh,Gt,Oi,IF] at h
 ·(refine' cM)
  rotate_left 1
  .refine⟨_,?_,i+1,bp,au,rfl,af,?_⟩
   .omega
   .rw[EC _ _ af,h2];simp only[Py];simp_all;omega
  all_goals
   refine' ax;(have:Py (z.getD i 0)=false:=by simp only[Py];simp_all;omega);have:=afi Py z af this;unfold Py at this;simp[gK,aV];intro h3;rw[Gv] at this;obtain⟨x,hx,h4⟩:=this;exact absurd (h3 x hx) (by simpa using h4)
 ·(repeat(first|refine' xX|refine' Od|refine' av|fail))
  refine' ax;have hi:i=z.length:=by omega
  subst hi;rw[fU] at h2;unfold Py at h2;simp only[gK,aV,h2,fM]
  congr 1;rw[pd];simp;omega
theorem aby (z:aC)(hk:k<=9)(hl:k<=z.length)(ha:(z.take k).all kP=true)(hs:k=9\/k=z.length\/kP (z.getD k 0)=false):tD z=z.take k:=by
 unfold tD;rw[fT] at ha;have h1:z.take 9=z.take k++(z.take 9).drop k:=by
  conv=>lhs;rw[<-yy k (z.take 9)]
  rw[Oj,yA hk]
 rw[h1,List.takeWhile_append_of_pos (λa h=>ha a h)];have h2:((z.take 9).drop k).takeWhile kP=[]:=by
  rcases hs with rfl|rfl|hs
  .rw[Ac (by simp;omega)];rfl
  .rw[Ac (by simp;omega)];rfl
  .rcases lq k z.length with h|h
   .rcases lq k 9 with h9|h9
    .rw[uQ (by simp;omega),List.takeWhile_cons_of_neg];rw[a7,bc h] at hs;simpa using hs
    .rw[Ac (by simp;omega)];simp
   .rw[Ac (by simp;omega)];simp
 rw[h2,gJ]
theorem ED (z:aC)(h:k<z.length):numOf (z.take (k+1))=10*numOf (z.take k)+((z.getD k 0).toNat-48):=by unfold numOf;rw[ui,List.foldl_append,bc h,a7,bc h];rfl
theorem MA (s:St)(z:aC)(hz:z.length<=100000):bL 218 [sv z] s [] (.tuple ⟨[iv (kQ z).1,iv (kQ z).2]⟩):=by
 refine aX f218 ?_;(repeat(first|refine' xX|refine' av|fail))
 refine W.bK (λk l L=>∃(i n:Nat),Le [(0,sv z),(4,iv n),(5,iv i)] l/\cx [] L/\k=9-i/\i<=z.length/\i<=9/\(z.take i).all kP=true/\n=numOf (z.take i)/\n<10^ i)
  (λl L=>Le [(0,sv z),(4,iv (numOf (tD z))),(5,iv (tD z).length)] l/\cx [] L) 9 ⟨0,0,bp,au,af,af,af,ay,by simp[numOf],ay⟩ ?_ ?_
 .rintro k l L ⟨i,n,hl,hL,rfl,h1,h2,h3,h4,h5⟩;refine W.le ?_ hl hL;clear hl hL;have h6:n<1000000000:=xi h5 (Nat.pow_le_pow_right af h2);have h7:=(z.getD i 0).toNat_lt;refine' cM
  .have hd:kP (z.getD i 0)=true:=by simp only[kP,bI,bR];omega
   refine⟨_,?_,i+1,10*n+((z.getD i 0).toNat-48),?_,au,rfl,af,af,?_,?_,?_⟩
   .omega
   .have:(((10*n+((z.getD i 0).toNat-48):Nat):Int))=10*(n:Int)+((z.getD i 0).toNat-48:Int):=by omega
    rw[this];exact bp
   .rw[EC _ _ af,h3,hd];rfl
   .rw[ED _ af,h4]
   .rw[Vq];omega
  all_goals
   have hs:i=9\/i=z.length\/kP (z.getD i 0)=false:=by
    simp only[kP,Ab,mQ,bR] at *;omega
   have hk:=aby z h2 h1 h3 hs;(have Of:(tD z).length=i:=by rw[hk,cO];omega);rw[Of,hk,<-h4];exact⟨bp,au⟩
 .rintro l L ⟨hl,hL⟩;refine ak ?_;refine W.le ?_ hl hL;have h8:(tD z).length<=z.length:=by
   unfold tD;exact gu (List.takeWhile_sublist _).length_le (by simp;omega)
  have h9:∀n,1<n->n<=z.length->z.headD 0=z.getD 0 0:=λn _ _=>by cases z<;>rfl
  (refine' cM)<;>(refine' ax)<;>simp only[gK,kQ]
  .rw[if_pos ⟨af,by rw[h9 (tD z).length af af];rw[<-sW];show _=48;omega⟩];rfl
  .rw[if_neg];rintro⟨Fx,Z7⟩;rw[h9 _ Fx af] at Z7;rw[Z7] at j5;exact j5 rfl
  .rw[if_neg];omega
theorem RF (z:aC):(tD z).length<=z.length/\(tD z).length<=9:=by unfold tD;have h:=(List.takeWhile_sublist kP (l:=z.take 9)).length_le;rw[cO] at h;omega
theorem abz (z:aC):(kQ z).2<=9/\((kQ z).2<=z.length):=by have:=RF z;unfold kQ;dsimp only;split<;>dsimp only<;>omega
def aiC (z:aC):Value:=.tuple ⟨[iv (qR z),.bool (iN z).isSome]⟩
theorem AR (s:St)(z:aC)(hz:z.length<=100000):bL 172 [sv z] s [] (aiC z):=by refine aX f172 ?_;(repeat' (first|refine' aZ|((with_reducible apply WO.aW);exact aD;exact λs=>MA s _ af;intros)|refine' av|fail))<;>(refine' ax)<;>simp only[gK,aiC,qR,iN]<;>first|(rw[if_pos af];rfl)|(rw[if_neg af];rfl)
theorem Pz (z:aC){i:Nat}(h:i<z.length)(a b:Nat):Lo (z.drop i) a b=Lo (z.drop (i+1)) ((a+(z.getD i 0).toNat+1)% 9973) ((b+(a+(z.getD i 0).toNat+1)% 9973)% 9973):=by rw[uQ h,a7,bc h];rfl
theorem MB (s:St)(z:aC)(hz:z.length<=100000):bL 263 [sv z] s [] (iv (sumOf z:Nat)):=by
 refine aX f263 ?_;(repeat(first|refine' xX|refine' av|fail))
 refine W.bK (λk l L=>∃(i a b:Nat),Le [(0,sv z),(3,iv a),(4,iv b),(5,iv i)] l/\cx [] L/\k=z.length-i/\i<=z.length/\a<9973/\b<9973/\Lo (z.drop i) a b=sumOf z)
  (λl L=>∃(a b:Nat),Le [(3,iv a),(4,iv b)] l/\cx [] L/\a<9973/\b<9973/\a*9973+b=sumOf z) z.length ⟨0,1,0,bp,au,af,af,af,af,by simp[sumOf]⟩ ?_ ?_
 .rintro k l L ⟨i,a,b,hl,hL,rfl,h1,h2,h3,h4⟩;refine W.le ?_ hl hL;clear hl hL;have h7:=(z.getD i 0).toNat_lt;have h8:((a:Int)+(z.getD i 0).toNat+1).tmod 9973=(((a+(z.getD i 0).toNat+1)% 9973:Nat):Int):=rfl;have h9:((a+(z.getD i 0).toNat+1)% 9973)<9973:=Ss _ af;refine' cM
  .refine⟨_,?_,i+1,(a+(z.getD i 0).toNat+1)% 9973,(b+(a+(z.getD i 0).toNat+1)% 9973)% 9973,bp,au,rfl,af,h9,Ss _ af,?_⟩
   .omega
   .exact(Pz z af a b).symm.trans h4
  .have hi:i=z.length:=by omega
   subst hi;refine⟨a,b,bp,au,h2,h3,?_⟩;rw[<-h4,kG];rfl
 .rintro l L ⟨a,b,hl,hL,h1,h2,h3⟩;refine ak ?_;refine W.le ?_ hl hL;refine' cM
  refine' ax;rw[<-h3];rfl
theorem gk (n:Nat):∀k,n<10^ (k+1)->(gM n).length<=k+1:=by
 induction n using Nat.strongRecOn with
 |ind n ih=>
  intro k hk;unfold gM;split
  .simp
  .cases k with
   |zero=>simp at hk;omega
   |succ k=>
    have:=ih (n/ 10) af k (by rw[Vq] at hk;omega);simp;omega
theorem RG (n:Nat)(h:n<10000000000):(gM n).length<=10:=gk n 9 h
theorem Yq (s:St)(n:Nat)(hn:n<10000000000):bL 43 [iv (n:Int)] s [] (sv (gM n)):=by
 induction n using Nat.strongRecOn generalizing s with
 |ind n ih=>
  have h1:((n:Int).tdiv 10)=((n/ 10:Nat):Int):=rfl;have h2:((n:Int).tmod 10)=((n% 10:Nat):Int):=rfl;have hd:=RG (n/ 10) af;refine aX f43 ?_;(repeat' (first|refine' aZ|((with_reducible apply WO.aW);exact aD;exact λs=>ih (n/ 10) af s af;intros)|refine' av|fail))
  ·(refine' ax)
   rw[gM,dif_pos af,show((48:Int)+n).toNat=48+n by omega];rfl
  ·(refine' ax)
   conv=>rhs;rw[gM,dif_neg af]
   simp only[gK];(have:((48:Int)+((n:Int).tmod 10)).toNat=48+n% 10:=by rw[h2];omega);rw[this]
  all_goals omega
theorem TG (s:St)(n:Int)(hn:0<=n/\n<10000000000):bL 43 [iv n] s [] (sv (dec n)):=by obtain⟨m,rfl⟩:=yC hn.1;exact Yq s m af
theorem gN (n:Int)(h:0<=n/\n<10000000000):(dec n).length<=10:=by obtain⟨m,rfl⟩:=yC h.1;exact RG m af
theorem Ef (s:St)(p:jt)(z:aC)(hz:z.length<=100000):bL 217 [pv p,sv z] s [] (.bool (fits p z)):=by refine aX f217 ?_;(repeat' (first|refine' aZ|refine' TF|refine' Hu|((with_reducible apply WO.aW);exact aD;exact λs=>MB s _ af;intros)|refine' av|fail))<;>(refine' ax)<;>simp_all [gK,fits]
theorem MC {p:jt}(h:bB p=true):(0<=p.row/\p.row<=63)/\(0<=p.di/\p.di<=900)/\(0<=p.size/\p.size<=128)/\(0<=p.sum/\p.sum<=99460728)/\(0<=p.level/\p.level<=2):=by
 simp only[bB,aK,S5,fM,mh,bI,bR,bz] at h;rcases h with h|h
 .have h:=Bf h;subst h;simp
 .omega
theorem Hv (s:St)(p:jt):bL 198 [pv p] s [] (sv (eH p)):=by
 by_cases hp:bB p=true
 .have hb:=MC hp;have d1:=gN p.row af;have d2:=gN p.di af;have d3:=gN p.size af;have d4:=gN p.sum af;have d5:=gN p.level af;refine aX f198 ?_;repeat' (first|refine' aZ|refine' TF|refine' Hu|refine' Pm|refine' av|fail)
  all_goals first|((refine' ax);simp_all [gK,eH];done)|(exfalso;simp_all;done)
 .refine aX f198 ?_;repeat' (first|refine' aZ|refine' TF|refine' Hu|refine' av|fail)
  all_goals first|((refine' ax);simp_all [gK,eH];done)|(exfalso;simp_all;done)
variable {s:aC}
theorem tf {b:Bool}(h:b=true)(k:b=false):False:=by rw[h] at k;cases k
def uE (o:Option jt):Value:=.tuple ⟨[pv (o.getD bz),.bool o.isSome]⟩
theorem oY (s:St)(a b c:Int)(z:aC)(hz:z.length<=100000):bL 254 [iv a,iv b,iv c,sv z] s [] (uE (ss a b c z)):=by refine aX f254 ?_;(repeat' (first|refine' aZ|((with_reducible apply WO.aW);exact aD;exact λs=>Pw s _;intros)|((with_reducible apply WO.aW);exact aD;exact λs=>MB s _ af;intros)|refine' TF|refine' av|fail))<;>(refine' ax)<;>simp_all [gK,ss,uE]<;>rfl
theorem zw (c:UInt8)(z:aC):∀w∈cut c z,w.length<=z.length:=by
 induction z with
 |nil=>simp[cut]
 |cons x z ih=>
  intro w hw;unfold cut at hw;split at hw
  .rcases bH.1 hw with rfl|hw
   .simp
   .have:=ih w hw;simp;omega
  .split at hw
   .simp at hw;subst hw;simp
   .rename_i h;rw[h] at ih;rcases bH.1 hw with rfl|hw
    .have:=ih _ ga;simp;omega
    .have:=ih w (iV _ hw);simp;omega
theorem vw (c:UInt8)(z:aC):(cut c z).length<=z.length+1:=by
 induction z with
 |nil=>simp[cut]
 |cons x z ih=>
  unfold cut;split
  .simp;omega
  .split
   .simp
   .rename_i h;rw[h] at ih;simp at ih⊢;omega
theorem aL {α:Type}{l:List α}(h:i<l.length)(d:α):l.getD i d∈l:=by rw[a7,bc h];simp
def Cf (s:aC):Option Int:=(iN s).map λn=>(n:Int)
theorem TY (h:(iN s).isSome=false):Cf s=none:=by unfold Cf;cases hn:iN s<;>simp_all
theorem TZ (h:(iN s).isSome=true):Cf s=some (qR s):=by unfold Cf qR;cases hn:iN s<;>simp_all
theorem T0 (z:aC):jh z=if z=[45] then some bz else if(cut 46 z).length≠5 then none else match(cut 46 z).mapM Cf with
  |none=>none
  |some q=>
   let p:jt:=⟨q.getD 0 0,q.getD 1 0,q.getD 2 0,q.getD 3 0,q.getD 4 0⟩
   if !bB p||aK p then none else some p:=by
 unfold jh;split
 .rfl
 .split
  .rename_i a b c d e h;rw[h];simp only[cU,kC,Cf,FG,List.mapM_nil];cases iN a<;>cases iN b<;>cases iN c<;>cases iN d<;>cases iN e<;>rfl
  .rename_i h;rw[if_pos];intro h5;rcases hw:cut 46 z with _|⟨a,_|⟨b,_|⟨c,_|⟨d,_|⟨e,_|⟨f,l⟩⟩⟩⟩⟩⟩<;>rw[hw] at h5<;>simp at h5
   exact h a b c d e hw
theorem wg {α β:Type}(f:α->Option β)(l:List α)(d:α)(h:i<l.length):(l.take (i+1)).mapM f=match(l.take i).mapM f with
  |none=>none
  |some q=>match f (l.getD i d) with
   |none=>none
   |some x=>some (q++[x]):=by
 rw[ui,bc h,List.mapM_append,a7,bc h];simp only[Option.toList,FG,List.mapM_nil,Option.getD];cases (l.take i).mapM f<;>cases f l[i]<;>rfl
theorem mapM_none {α β:Type}(f:α->Option β)(l:List α)(d:α)(h:i<l.length)(hf:f (l.getD i d)=none):l.mapM f=none:=by
 conv=>lhs;rw[<-yy (i+1) l]
 rw[List.mapM_append,wg f l d h,hf];cases (l.take i).mapM f<;>rfl
theorem qG {α β:Type}(f:α->Option β):∀(l:List α)(q:List β),l.mapM f=some q->q.length=l.length
 |[],q,h=>by simp at h;subst h;rfl
 |x::l,q,h=>by
  rw[FG] at h;cases hx:f x with
  |none=>rw[hx] at h;cases h
  |some y=>
   rw[hx] at h;cases hl:l.mapM f with
   |none=>rw[hl] at h;cases h
   |some r=>
    rw[hl] at h;(cases h);simp[qG f l r hl]
theorem HK (s:St)(z:aC)(hz:z.length<=100000):bL 173 [sv z] s [] (uE (jh z)):=by
 have hm:=vw 46 z;have hlw:∀i,i<(cut 46 z).length->((cut 46 z).getD i []).length<=100000:=λi hi=>gu (zw 46 z _ (aL hi _)) hz
 rw[T0];refine aX f173 ?_;repeat' (first|refine' aZ|refine' XN|refine' TF|refine' Hu|refine' av|fail)
 ·(refine' ax);simp[j5,gK,uE];rfl
 ·(refine' ax);rw[if_neg aP,if_pos af];rfl
 generalize hw:cut 46 z=w at *
 have hw5:w.length=5:=by omega
 refine W.bK (λk l L=>∃(i:Nat)(q:List Int)(a:aS)(c:Nat),Le [(2,bk ba),(4,.slice v8 w.length wa),(5,.slice a q.length c),(6,iv i)] l/\cx [.box ba (rN bz) 73 false,.aQ (.slice v8 w.length wa) 9 1 (ai w),.aQ (.slice a q.length c) 3 1 (ai q)] L/\k=5-i/\i<=5/\(w.take i).mapM Cf=some q)
  (λl L=>∃(q:List Int)(a:aS)(c:Nat),Le [(2,bk ba),(5,.slice a q.length c)] l/\cx [.box ba (rN bz) 73 false,.aQ (.slice a q.length c) 3 1 (ai q)] L/\w.mapM Cf=some q) 5 ⟨0,[],_,_,bp,au,af,af,ay⟩ ?_ ?_
 .rintro k l L ⟨i,q,a,c,hl,hL,rfl,h1,h2⟩;refine W.le ?_ hl hL;clear hl hL;have hq:=qG _ _ _ h2;rw[cO] at hq;have dz:i<w.length->(w.getD i aq.ah).length<=100000:=hlw i;(repeat' (first|refine' aZ|((with_reducible apply WO.aW);exact aD;exact λs=>AR s _ af;intros)|refine' av|fail))
  ·(refine' ax)
   have hn:Cf (w.getD i [])=none:=TY j5;rw[if_neg aP,if_neg af,mapM_none Cf w [] af hn];rfl
  .have hs:=wg Cf w [] (show i<w.length by omega);have hn:Cf (w.getD i [])=some (qR (w.getD i [])):=TZ j5;rw[h2,hn] at hs;exact⟨_,af,i+1,q++[qR (w.getD i [])],_,_,bp,au,rfl,af,hs⟩
  .have hi:i=5:=by omega
   subst hi;rw[rT af] at h2;exact⟨q,_,_,bp,au,h2⟩
 .rintro l L ⟨q,a,c,hl,hL,h1⟩;refine ak ?_;refine W.le ?_ hl hL;clear hl hL;have hq:=qG _ _ _ h1;repeat' (first|refine' aZ|refine' TF|refine' Hu|refine' av|fail)
  all_goals
   refine' ax
   rw[if_neg aP,if_neg af,h1];first
                                  |exact Eq.trans (b:=uE none) rfl (eC uE (if_pos (Gw.2 (.inl hg))).symm)
                                  |exact Eq.trans (b:=uE none) rfl (eC uE (if_pos (Gw.2 (.inr hc))).symm)
                                  |exact Eq.trans (b:=uE (some _)) rfl (eC uE (if_neg (λh=>(Gw.1 h).elim (λh=>tf h hg) (λh=>tf h hc))).symm)
end Go.Pl
