/- Lemmas of the proof. No conditions. -/
import Derived.Test.YtoiielhpadnflaaGreatDoorAh
set_option maxRecDepth 100000
set_option maxHeartbeats 4000000
set_option linter.unusedVariables false
set_option linter.unusedSimpArgs false
open Go.Proofs.Tryz
namespace Go.Proofs
open Go Go.Ev
theorem af7 (f:Nat)(fn:Func)(h:fnT.get f=some fn):prog.funcs[f]?=some fn/\∀c,fn.body=some c->(∀args w,(callFunc f args).run prog w= .ok (.enter f args) w)/\codeOk fn.ntmps c=true:=by
 have hf:f<323:=xi (T.CN _ _ _ h) (by decide+kernel);have h1:(bif Nat.ble 3 f then prog.funcs[f]? else none)=some fn:=(NP fnL hf).symm.trans h;have h2:=fT.1 fnC f (kF.2 hf);rw[h] at h2;dsimp only at h2;cases hb:Nat.ble 3 f with
 |false=>rw[hb] at h1;cases h1
 |true=>
  rw[hb] at h1;have h1:prog.funcs[f]?=some fn:=h1;refine⟨h1,λc hc=>?_⟩;rw[hc,bI] at h2;refine⟨λargs w=>?_,h2.2⟩;have h3:fn.name≠ "runtime.NumGoroutine" :=by simpa using h2.1
  simp[callFunc,h1,h3,hc,mark]
theorem ajy (t:Nat)(i:TypeInfo)(h:tyT.get t=some i):prog.info? t=some i/\∀z,i.zero=some z->∀ρ,bX ρ z=z:=by
 have hf:t<322:=xi (T.CN _ _ _ h) (by decide+kernel);have h1:prog.types[t]?=some i:=(NP tyL hf).symm.trans h;have h2:=fT.1 tyZ t (kF.2 hf);rw[h] at h2;dsimp only at h2;refine⟨?_,λz hz ρ=>?_⟩
 .unfold Tables.info?;rw[if_pos (by rw[types_size];exact hf)];exact h1
 .rw[hz] at h2;exact tA ρ z h2
theorem Tg (b:Bool){t:TypeId}(h:prog.underlying t=some (.int .i64))(a:Int)(w:World):(Instr.checkKey b 9999 t (.int .i64 a)).run prog w= .ok () w:=by show(Instr.checkKey b (9998+1) t (.int .i64 a)).run prog w= .ok () w;unfold Instr.checkKey;simp only[Sem.run_bind,run_underlying h,Result.andThen_ok];rfl
theorem Jp (b:Bool){t:TypeId}(h:prog.underlying t=some .string)(a:ByteArray)(w:World):(Instr.checkKey b 9999 t (.string a)).run prog w= .ok () w:=by show(Instr.checkKey b (9998+1) t (.string a)).run prog w= .ok () w;unfold Instr.checkKey;simp only[Sem.run_bind,run_underlying h,Result.andThen_ok];rfl
theorem af8 (b:Bool){t:TypeId}(h:prog.underlying t=some .bool)(a:Bool)(w:World):(Instr.checkKey b 9999 t (.bool a)).run prog w= .ok () w:=by show(Instr.checkKey b (9998+1) t (.bool a)).run prog w= .ok () w;unfold Instr.checkKey;simp only[Sem.run_bind,run_underlying h,Result.andThen_ok];rfl
theorem eqI {t:TypeId}(h:prog.underlying t=some (.int .i64))(a b:Int)(w:World):(Op.equalIn 9999 t (.int .i64 a) (.int .i64 b)).run prog w= .ok (a== b) w:=by refine' zaz
theorem eqS {t:TypeId}(h:prog.underlying t=some .string)(a b:ByteArray)(w:World):(Op.equalIn 9999 t (.string a) (.string b)).run prog w= .ok (a== b) w:=by refine' zaz
theorem eqB {t:TypeId}(h:prog.underlying t=some .bool)(a b:Bool)(w:World):(Op.equalIn 9999 t (.bool a) (.bool b)).run prog w= .ok (a== b) w:=by refine' zaz
theorem qK {a:Int}{y:Value}{e:Bool}(h:lP (.int .i64 a) y=some e):∃b,y= .int .i64 b/\e=yE a b:=by
 unfold lP at h;split at h
 .rename_i a' b e1;cases e1;exact⟨_,rfl,(iU h).symm⟩
 .rename_i e1;cases e1
 .rename_i e1;cases e1
 .cases h
theorem NQ {a:List UInt8}{y:Value}{e:Bool}(h:lP (.string ⟨⟨a⟩⟩) y=some e):∃b,y= .string ⟨⟨b⟩⟩/\e=gz a b:=by
 unfold lP at h;split at h
 .rename_i e1;cases e1
 .rename_i a' b e1;cases e1;exact⟨_,rfl,(iU h).symm⟩
 .rename_i e1;cases e1
 .cases h
theorem U1 {a:Bool}{y:Value}{e:Bool}(h:lP (.bool a) y=some e):∃b,y= .bool b/\e=bo a b (!b):=by
 unfold lP at h;split at h
 .rename_i e1;cases e1
 .rename_i e1;cases e1
 .rename_i a' b e1;cases e1;exact⟨_,rfl,(iU h).symm⟩
 .cases h
theorem kI {xs:aY}{ks:List Nat}(h:eV xs (0::ks)=true):∃a ys,xs= .int .i64 a::ys/\eV ys ks=true:=by
 cases xs with
 |nil=>cases h
 |cons v xs=>
  obtain⟨k,_,h1⟩:=ng h;obtain⟨a,rfl⟩:=Ap k;exact⟨a,xs,rfl,h1⟩
theorem kS {xs:aY}{ks:List Nat}(h:eV xs (1::ks)=true):∃a ys,xs= .string ⟨⟨a⟩⟩::ys/\eV ys ks=true:=by
 cases xs with
 |nil=>cases h
 |cons v xs=>
  obtain⟨k,_,h1⟩:=ng h;obtain⟨a,rfl⟩:=Aq k;exact⟨a,xs,rfl,h1⟩
theorem kB {xs:aY}{ks:List Nat}(h:eV xs (2::ks)=true):∃a ys,xs= .bool a::ys/\eV ys ks=true:=by
 cases xs with
 |nil=>cases h
 |cons v xs=>
  obtain⟨k,_,h1⟩:=ng h;obtain⟨a,rfl⟩:=xx k;exact⟨a,xs,rfl,h1⟩
theorem kN {xs:aY}(h:eV xs []=true):xs=[]:=by
 cases xs with
 |nil=>rfl
 |cons v xs=>cases h
theorem mN {ys:aY}{r:Bool}(h:fP [] ys=some r):ys=[]/\r=true:=by
 cases ys with
 |nil=>exact⟨rfl,(iU h).symm⟩
 |cons v xs=>cases h
theorem mC {x:Value}{xs ys:aY}{r:Bool}(h:fP (x::xs) ys=some r):∃y zs e q,ys=y::zs/\lP x y=some e/\fP xs zs=some q/\r=bo e q false:=by
 cases ys with
 |nil=>cases h
 |cons y ys=>
  rw[lu] at h;obtain⟨e,he,g⟩:=aF h;obtain⟨q,hq,hr⟩:=aF g;exact⟨y,ys,e,q,rfl,he,hq,(iU hr).symm⟩
theorem amo (a1:Int)(a2:Bool)(a3:List UInt8)(b1:Int)(b2:Bool)(b3:List UInt8)(w:World):(Op.equal 54 (.agg ⟨[.int .i64 a1,.bool a2,.string ⟨⟨a3⟩⟩]⟩) (.agg ⟨[.int .i64 b1,.bool b2,.string ⟨⟨b3⟩⟩]⟩)).run prog w=
  .ok (bo (yE a1 b1) (bo (bo a2 b2 (!b2)) (bo (gz a3 b3) true false) false) false) w:=by
 unfold Op.equal Op.maxDepth;simp[go_sem,Op.eqFields,bytes_beq,eqI,eqS,eqB,wO,GD];simp only[dJ,jB,eQ,Ae];repeat' split
 all_goals first|rfl|simp_all
theorem ajz (a1:Int)(a2:Bool)(a3:List UInt8)(b:Bool)(w:World):(Instr.checkKey b 10000 54 (.agg ⟨[.int .i64 a1,.bool a2,.string ⟨⟨a3⟩⟩]⟩)).run prog w= .ok () w:=by show(Instr.checkKey b (9999+1) 54 (.agg ⟨[.int .i64 a1,.bool a2,.string ⟨⟨a3⟩⟩]⟩)).run prog w= .ok () w;unfold Instr.checkKey;simp[go_sem,Tg,Jp,af8,wO,GD]
theorem Sg (xs:aY)(h0:eV xs [0,2,1]=true):∃a1 a2 a3,xs=[.int .i64 a1,.bool a2,.string ⟨⟨a3⟩⟩]:=by
 obtain⟨a1,_,rfl,h1⟩:=kI h0;obtain⟨a2,_,rfl,h2⟩:=kB h1;obtain⟨a3,_,rfl,h3⟩:=kS h2;cases kN h3
 exact⟨a1,a2,a3,rfl⟩
theorem ace (a1:Int)(a2:Bool)(a3:List UInt8)(ys:aY)(r0:Bool)(h0:fP [.int .i64 a1,.bool a2,.string ⟨⟨a3⟩⟩] ys=some r0):∃b1 b2 b3,ys=[.int .i64 b1,.bool b2,.string ⟨⟨b3⟩⟩]/\r0=bo (yE a1 b1) (bo (bo a2 b2 (!b2)) (bo (gz a3 b3) true false) false) false:=by obtain⟨_,_,_,_,rfl,e0,h1,rfl⟩:=mC h0;obtain⟨b1,rfl,rfl⟩:=qK e0;obtain⟨_,_,_,_,rfl,e1,h2,rfl⟩:=mC h1;obtain⟨b2,rfl,rfl⟩:=U1 e1;obtain⟨_,_,_,_,rfl,e2,h3,rfl⟩:=mC h2;obtain⟨b3,rfl,rfl⟩:=NQ e2;obtain⟨rfl,rfl⟩:=mN h3;exact⟨b1,b2,b3,rfl,rfl⟩
theorem amp (a1:Int)(a2:Int)(a3:Int)(a4:Int)(a5:Int)(b1:Int)(b2:Int)(b3:Int)(b4:Int)(b5:Int)(w:World):(Op.equal 73 (.agg ⟨[.int .i64 a1,.int .i64 a2,.int .i64 a3,.int .i64 a4,.int .i64 a5]⟩) (.agg ⟨[.int .i64 b1,.int .i64 b2,.int .i64 b3,.int .i64 b4,.int .i64 b5]⟩)).run prog w=
  .ok (bo (yE a1 b1) (bo (yE a2 b2) (bo (yE a3 b3) (bo (yE a4 b4) (bo (yE a5 b5) true false) false) false) false) false) w:=by
 unfold Op.equal Op.maxDepth;simp[go_sem,Op.eqFields,bytes_beq,eqI,eqS,eqB,wO,GD];simp only[dJ,jB,eQ,Ae];repeat' split
 all_goals first|rfl|simp_all
theorem ajA (a1:Int)(a2:Int)(a3:Int)(a4:Int)(a5:Int)(b:Bool)(w:World):(Instr.checkKey b 10000 73 (.agg ⟨[.int .i64 a1,.int .i64 a2,.int .i64 a3,.int .i64 a4,.int .i64 a5]⟩)).run prog w= .ok () w:=by show(Instr.checkKey b (9999+1) 73 (.agg ⟨[.int .i64 a1,.int .i64 a2,.int .i64 a3,.int .i64 a4,.int .i64 a5]⟩)).run prog w= .ok () w;unfold Instr.checkKey;simp[go_sem,Tg,Jp,af8,wO,GD]
theorem Sh (xs:aY)(h0:eV xs [0,0,0,0,0]=true):∃a1 a2 a3 a4 a5,xs=[.int .i64 a1,.int .i64 a2,.int .i64 a3,.int .i64 a4,.int .i64 a5]:=by
 obtain⟨a1,_,rfl,h1⟩:=kI h0;obtain⟨a2,_,rfl,h2⟩:=kI h1;obtain⟨a3,_,rfl,h3⟩:=kI h2;obtain⟨a4,_,rfl,h4⟩:=kI h3;obtain⟨a5,_,rfl,h5⟩:=kI h4;cases kN h5
 exact⟨a1,a2,a3,a4,a5,rfl⟩
theorem acf (a1:Int)(a2:Int)(a3:Int)(a4:Int)(a5:Int)(ys:aY)(r0:Bool)(h0:fP [.int .i64 a1,.int .i64 a2,.int .i64 a3,.int .i64 a4,.int .i64 a5] ys=some r0):∃b1 b2 b3 b4 b5,ys=[.int .i64 b1,.int .i64 b2,.int .i64 b3,.int .i64 b4,.int .i64 b5]/\r0=bo (yE a1 b1) (bo (yE a2 b2) (bo (yE a3 b3) (bo (yE a4 b4) (bo (yE a5 b5) true false) false) false) false) false:=by obtain⟨_,_,_,_,rfl,e0,h1,rfl⟩:=mC h0;obtain⟨b1,rfl,rfl⟩:=qK e0;obtain⟨_,_,_,_,rfl,e1,h2,rfl⟩:=mC h1;obtain⟨b2,rfl,rfl⟩:=qK e1;obtain⟨_,_,_,_,rfl,e2,h3,rfl⟩:=mC h2;obtain⟨b3,rfl,rfl⟩:=qK e2;obtain⟨_,_,_,_,rfl,e3,h4,rfl⟩:=mC h3;obtain⟨b4,rfl,rfl⟩:=qK e3;obtain⟨_,_,_,_,rfl,e4,h5,rfl⟩:=mC h4;obtain⟨b5,rfl,rfl⟩:=qK e4;obtain⟨rfl,rfl⟩:=mN h5;exact⟨b1,b2,b3,b4,b5,rfl,rfl⟩
theorem amq (a1:List UInt8)(a2:Int)(b1:List UInt8)(b2:Int)(w:World):(Op.equal 52 (.agg ⟨[.string ⟨⟨a1⟩⟩,.int .i64 a2]⟩) (.agg ⟨[.string ⟨⟨b1⟩⟩,.int .i64 b2]⟩)).run prog w=
  .ok (bo (gz a1 b1) (bo (yE a2 b2) true false) false) w:=by
 unfold Op.equal Op.maxDepth;simp[go_sem,Op.eqFields,bytes_beq,eqI,eqS,eqB,wO,GD];simp only[dJ,jB,eQ,Ae];repeat' split
 all_goals first|rfl|simp_all
theorem ajB (a1:List UInt8)(a2:Int)(b:Bool)(w:World):(Instr.checkKey b 10000 52 (.agg ⟨[.string ⟨⟨a1⟩⟩,.int .i64 a2]⟩)).run prog w= .ok () w:=by show(Instr.checkKey b (9999+1) 52 (.agg ⟨[.string ⟨⟨a1⟩⟩,.int .i64 a2]⟩)).run prog w= .ok () w;unfold Instr.checkKey;simp[go_sem,Tg,Jp,af8,wO,GD]
theorem Si (xs:aY)(h0:eV xs [1,0]=true):∃a1 a2,xs=[.string ⟨⟨a1⟩⟩,.int .i64 a2]:=by
 obtain⟨a1,_,rfl,h1⟩:=kS h0;obtain⟨a2,_,rfl,h2⟩:=kI h1;cases kN h2
 exact⟨a1,a2,rfl⟩
theorem acg (a1:List UInt8)(a2:Int)(ys:aY)(r0:Bool)(h0:fP [.string ⟨⟨a1⟩⟩,.int .i64 a2] ys=some r0):∃b1 b2,ys=[.string ⟨⟨b1⟩⟩,.int .i64 b2]/\r0=bo (gz a1 b1) (bo (yE a2 b2) true false) false:=by obtain⟨_,_,_,_,rfl,e0,h1,rfl⟩:=mC h0;obtain⟨b1,rfl,rfl⟩:=NQ e0;obtain⟨_,_,_,_,rfl,e1,h2,rfl⟩:=mC h1;obtain⟨b2,rfl,rfl⟩:=qK e1;obtain⟨rfl,rfl⟩:=mN h2;exact⟨b1,b2,rfl,rfl⟩
theorem yo (t:TypeId)(m:String):∀(l:List (TypeId×String×FuncId)){f:FuncId},ml t m l=some f->∃p∈l,p.1=t/\p.2.1=m/\p.2.2=f
 |[],f,h=>by cases h
 |p::l,f,h=>by
  have h:bo (Nat.beq p.1 t&&decide (p.2.1=m)) (some p.2.2) (ml t m l)=some f:=h;rw[dJ] at h;split at h
  .rename_i hb;rw[bI] at hb;exact⟨p,ga,nV hb.1,Bf hb.2,iU h⟩
  .obtain⟨q,hq,h1⟩:=yo t m l h;exact⟨q,iV _ hq,h1⟩
theorem adS:cW bf prog where
 ty t i h:=(ajy t i h).1
 fn f x h:=(af7 f x h).1
 CZ:=by kernel_rfl
 agL:=by
  rw[show bf.CZ=86 from rfl,underlying86];intro h;cases h
 eqs t xs h ys r hi w:=by
  refine' zat
  .obtain⟨rfl,rfl⟩:=h0;obtain⟨a1,a2,a3,rfl⟩:=Sg xs hk;obtain⟨b1,b2,b3,rfl,rfl⟩:=ace a1 a2 a3 ys r hi;exact⟨amo a1 a2 a3 b1 b2 b3 w,λop ox oy=>run_eqGuard_agg w op 54 ox oy _ _ eqGuardType54⟩
  .obtain⟨rfl,rfl⟩:=h0;obtain⟨a1,a2,a3,a4,a5,rfl⟩:=Sh xs hk;obtain⟨b1,b2,b3,b4,b5,rfl,rfl⟩:=acf a1 a2 a3 a4 a5 ys r hi;exact⟨amp a1 a2 a3 a4 a5 b1 b2 b3 b4 b5 w,λop ox oy=>run_eqGuard_agg w op 73 ox oy _ _ eqGuardType73⟩
  .obtain⟨rfl,rfl⟩:=h0;obtain⟨a1,a2,rfl⟩:=Si xs hk;obtain⟨b1,b2,rfl,rfl⟩:=acg a1 a2 ys r hi;exact⟨amq a1 a2 b1 b2 w,λop ox oy=>run_eqGuard_agg w op 52 ox oy _ _ eqGuardType52⟩
 keys t xs h b w:=by
  refine' zat
  .obtain⟨rfl,rfl⟩:=h0;obtain⟨a1,a2,a3,rfl⟩:=Sg xs hk;exact ajz a1 a2 a3 b w
  .obtain⟨rfl,rfl⟩:=h0;obtain⟨a1,a2,a3,a4,a5,rfl⟩:=Sh xs hk;exact ajA a1 a2 a3 a4 a5 b w
  .obtain⟨rfl,rfl⟩:=h0;obtain⟨a1,a2,rfl⟩:=Si xs hk;exact ajB a1 a2 b w
 zs t i z h hz:=(ajy t i h).2 z hz
 agM t m f h a args w:=by
  refine' zaO
 agO t m f h a w:=by
  refine' zaO
theorem U2 (c:Nat)(z:List UInt8):∀i,yK c z i=match z.findIdx? (λb=>b.toNat== c) with
  |some k=>((i+k:Nat):Int)
  |none=>-1:=by
 induction z with
 |nil=>intro i;rfl
 |cons b bs ih=>
  intro i;have h:yK c (b::bs) i=bo (Nat.beq b.toNat c) (.ofNat i) (yK c bs (i+1)):=rfl;rw[h,dJ,Bo];by_cases hb:b.toNat=c
  .simp[hb]
  .simp only[zZ,hb,pQ,ih,Ae,jN];cases bs.findIdx? (λb=>b.toNat== c) with
   |none=>rfl
   |some k=>
    show((i+1+k:Nat):Int)=((i+(k+1):Nat):Int)
    congr 1;omega
theorem find_range (c:UInt8):∀(z pre:List UInt8),(List.range' pre.length z.length).find? (λi=>(⟨⟨pre++z⟩⟩:ByteArray)[i]! == c)=(z.findIdx? (·== c)).map (·+pre.length)
 |[],pre=>by simp
 |b::z,pre=>by
  have ih:=find_range c z (pre++[b]);simp only[bn,cU,kC,mS,iL,yw,pF] at ih;rw[cU,wO,List.find?_cons,Bo];have hb:(⟨⟨pre++b::z⟩⟩:ByteArray)[pre.length]! =b:=by
   have dz:pre.length<(⟨⟨pre++b::z⟩⟩:ByteArray).size:=by
    show pre.length<(pre++b::z).length;simp
   rw[Bq (⟨⟨pre++b::z⟩⟩:ByteArray) pre.length dz];show(pre++b::z)[pre.length]'ay=b;simp
  rw[hb,ih];by_cases hbc:(b== c)=true
  .simp[hbc]
  .simp only[hbc,pQ,jN];cases z.findIdx? (·== c) with
   |none=>rfl
   |some k=>simp;omega
theorem ajC {hk:List (Nat×xr)}(hh:∀p∈hk,ni prog p.1 p.2):Wl bf prog ⟨114,268,233,99999,5,hk⟩ where
 wT:=hh
 enter f fn c h hc:=((af7 f fn h).2 c hc).1
 code f fn c h gh hc:=((af7 f fn h).2 c hc).2
 sc x w:=by
  show(callFunc 114 #[x]).run prog w=_;rw[run_callFunc_extern func114 cj cj cj (e:=Extern.AbiNoEscape.same) cj];rfl
 indexByte z c w hc:=by
  show(callFunc 268 #[.string ⟨⟨z⟩⟩,.int .u8 (.ofNat c)]).run prog w=_;rw[run_callFunc_extern func268 cj cj cj (e:=Extern.BytealgIndexByte.indexByte) cj];rw[run_indexByte_string];have h1:=find_range (UInt8.ofNat c) z [];simp only[kC,pF,xj] at h1;have h2:(z.findIdx? λb=>b.toNat== c)=z.findIdx? (·== UInt8.ofNat c):=by
   congr 1
   funext b
   rw[pd];simp only[Ae];(have Vc:(UInt8.ofNat c).toNat=c:=by simp[UInt8.toNat_ofNat,IE hc]);rw[<-sW,Vc]
  have h3:firstIdx ⟨⟨z⟩⟩ (Int.toNat (Int.ofNat c)).toUInt8=yK c z 0:=by
   rw[U2,h2];unfold firstIdx;rw[show(⟨⟨z⟩⟩:ByteArray).size=z.length from rfl,List.range_eq_range'];have h4:(Int.toNat (Int.ofNat c)).toUInt8=UInt8.ofNat c:=rfl;rw[h4,h1];cases z.findIdx? (·== UInt8.ofNat c) with
   |none=>rfl
   |some k=>simp
  rw[h3];rfl
 byte:=by kernel_rfl
 s9 fn h n w hn:=by
  obtain⟨cs,oc,hle,amr⟩:=Lib.run_makeNoZero (P:=prog) w #[3] 22 5 underlying22 n af;refine⟨cs.toList,?_,?_⟩
  .show(callFunc 233 #[.int .i64 (n:Int)]).run prog w=_;rw[run_callFunc_extern func233 cj cj cj (e:=Extern.BytealgMakeNoZero.makeNoZero #[3] #[22]) cj,oc];rfl
  .exact amr (gu hn bT)
 look fn h b o n c a k g i z w hi hv:=by
  have h0:bf.fn.get 99999=none:=by kernel_rfl
  have h:bf.fn.get 99999=some fn:=h;rw[h0] at h;cases h
end Go.Proofs
namespace Go.Ev
open Go Go.Sort Go.Proofs
variable {k:Nat}
theorem B1 {α:Type}{enc:α->aY}(hp:0<k)(hk:∀x,(enc x).length=k):∀(l:List α)(t:Nat),(l.flatMap enc)[t]?=(l[t/ k]?).bind λx=>(enc x)[t% k]?
 |[],t=>by simp
 |x::l,t=>by
  rw[js];by_cases ht:t<k
  .rw[wB (by rw[hk];exact ht),Nat.div_eq_of_lt ht,IE ht];rfl
  .obtain⟨u,rfl⟩:∃u,t=u+k:=⟨t-k,af⟩;rw[Ad (by rw[hk];omega),hk,Nat.add_sub_cancel,B1 hp hk l u,Nat.add_div_right _ hp,Nat.add_mod_right];rfl
theorem iI {α:Type}{enc:α->aY}(hk:∀x,(enc x).length=k):∀l:List α,(l.flatMap enc).length=l.length*k
 |[]=>by simp
 |x::l=>by rw[js,bn,hk,iI hk l,cU,Nat.succ_mul];omega
theorem Fk {α:Type}[Inhabited α]{enc:α->aY}(hp:0<k)(hk:∀x,(enc x).length=k)(l:List α):flatK enc k l.toArray=(l.flatMap enc).toArray:=by
 apply ext_get!
 .rw[size_flatK];simp[iI hk]
 .intro t ht;rw[size_flatK] at ht;have ht':t<l.length*k:=ht;rw[get_flatK _ _ _ _ ht];have hd:t/ k<l.length:=(Nat.div_lt_iff_lt_mul hp).2 ht';have h1:=B1 hp hk l t;rw[bc hd] at h1;have hm:t% k<(enc l[t/ k]).length:=by rw[hk];exact Ss _ hp
  have h2:(l.flatMap enc)[t]?=some (enc l[t/ k])[t% k]:=h1.trans (bc hm);obtain⟨h3,h4⟩:=sV.1 h2;rw[show(l.flatMap enc).toArray[t]! =(l.flatMap enc)[t] from Bq (l.flatMap enc).toArray t (by simpa using h3),h4];rw[show(l.toArray)[t/ k]! =l[t/ k] from Bq l.toArray _ (by simpa using hd)];exact Bq (enc l[t/ k]) _ hm
theorem Gp (o:Nat)(new c aE:aY)(h:o+new.length<=c.length):putCells id o new.toArray ⟨c++aE⟩=⟨c.take o++new++c.drop (o+new.length)++aE⟩:=by
 apply wC;unfold putCells;rw[Array.toList_mapIdx];apply Sq;intro j;rw[List.getElem?_mapIdx];show Option.map _ (c++aE)[j]?=(c.take o++new++c.drop (o+new.length)++aE)[j]?;have iX:new.toArray.size=new.length:=rfl;have lQ:(c.take o).length=o:=by rw[cO];omega
 have ur:(c.take o++new).length=o+new.length:=by rw[bn,lQ]
 have hl3:(c.take o++new++c.drop (o+new.length)).length=c.length:=by rw[bn,ur,eP];omega
 by_cases h3:j<c.length
 .rw[wB h3,wB (by rw[hl3];exact h3)];by_cases h1:j<o
  .rw[wB (by rw[ur];omega),wB (by rw[lQ];exact h1),ID,if_pos h1,bc h3];show some (if o<=j/\j<o+new.toArray.size then _ else c[j])=_;rw[if_neg af]
  .by_cases h2:j<o+new.length
   .rw[wB (by rw[ur];exact h2),Ad (by rw[lQ];omega),lQ,bc h3,bc af];show some (if o<=j/\j<o+new.toArray.size then id new.toArray[j-o]! else c[j])=_;rw[if_pos ⟨af,by rw[iX];exact h2⟩];exact eC some (Bq new.toArray (j-o) (by rw[iX];omega))
   .rw[Ad (by rw[ur];omega),ur,wP,show o+new.length+(j-(o+new.length))=j by omega,bc h3];show some (if o<=j/\j<o+new.toArray.size then _ else c[j])=_;rw[if_neg (by rw[iX];omega)]
 .rw[Ad af,Ad (by rw[hl3];omega),hl3];cases hr:aE[j-c.length]? with
  |none=>rfl
  |some x=>
   show some (if o<=j/\j<o+new.toArray.size then _ else x)=_;rw[if_neg (by rw[iX];omega)]
theorem Qm {α:Type}[Inhabited α]{enc:α->aY}(hp:0<k)(hk:∀x,(enc x).length=k){w:World}{cr o m:Nat}{l:List α}{os:Array Obj}{c aE:aY}{e:TypeId}{fr:Nat×Nat}(hb:w.heap[cr]?=some (.cells ⟨c++aE⟩ e fr))(ho:o+l.length*k<=c.length):
  (sortWorldK enc k w cr o m l.toArray os).heap[cr]?=some (.cells ⟨c.take o++l.flatMap enc++c.drop (o+l.length*k)++aE⟩ e fr)/\Fr w (sortWorldK enc k w cr o m l.toArray os) λr=>r=cr:=by
 have dz:cr<w.heap.size:=(uK.1 hb).1;have ZL:(sortWorldK enc k w cr o m l.toArray os).heap=w.heap.modify cr (onCells (putCells id o (flatK enc k l.toArray)))++os:=rfl;have hl:=iI hk l;refine⟨?_,rfl,rfl,rfl,?_,λr hr gh=>?_⟩
 .rw[ZL,aaf (by rw[Array.size_modify];exact dz),Ol,if_pos rfl,hb,Fk hp hk];show some (onCells _ (.cells ⟨c++aE⟩ e fr))=_;show some (Obj.cells (putCells id o (l.flatMap enc).toArray ⟨c++aE⟩) e fr)=_;rw[Gp o _ c aE (by rw[hl];exact ho),hl]
 .rw[ZL,Array.size_append,Array.size_modify];omega
 .rw[ZL,aaf (by rw[Array.size_modify];exact hr),Ol,if_neg (λh=>gh h.symm)]
theorem NR {α:Type}[Inhabited α]{P:Program}{f g k:Nat}{dec:aY->Option (List α)}{enc:α->aY}{sort:List α->List α}{apart:List α->Bool}(hp:0<k)(hk:∀x,(enc x).length=k)(afY:∀cs l,dec cs=some l->cs=l.flatMap enc)(hg:∀x,∀v∈enc x,∀ρ,bX ρ v=v)(cX:∀l,(sort l).length=l.length)
  (H:∀(cr off cap:Nat)(l:List α)(w:World),apart l=true->HoldsK enc k w cr off l.toArray->cr<w.heap.size->l.length<=1000000->kM P f #[.slice (some ⟨cr,off,none⟩) l.length cap,.func (.func g) #[] #[]] w λv w'=>v= .tuple #[]/\∃m os,w'=sortWorldK enc k w cr off m (sort l).toArray os):ni P f (Lp g k dec enc sort apart):=by
 intro args s v s' h;unfold Lp at h;split at h
 rotate_left
 .cases h
 rename_i b o n cap g';obtain⟨h1,h⟩:=bq h;obtain⟨c,e,u,hb,h⟩:=mo h;obtain⟨h2,h⟩:=bq h;obtain⟨l,h3,h⟩:=aF h;obtain⟨h4,h⟩:=bq h;have h:=aJ h;simp only[cw] at h;obtain⟨rfl,rfl⟩:=h;rw[bI,bI] at h1;rw[bI] at h4;have hgg:=nV h1.1.1;subst hgg;have QS:n<=1000000:=mR h1.2;have hln:=nV h4.2;subst hln;have h2:o+l.length*k<=c.length:=mR h2;have qm:=afY _ _ h3;have gL:∀l:List α,∀v∈l.flatMap enc,∀ρ,bX ρ v=v:=λl v hv ρ=>by
  obtain⟨x,_,hx⟩:=px.1 hv;exact hg x v hx ρ
 have hbn:(s.aU b).heap.get b≠none:=by rw[gB,hb];exact Option.some_ne_none _
 have Z5:aH s ((s.aU b).put b (some (.cells (c.take o++(sort l).flatMap enc++c.drop (o+l.length*k)) e u))):=(aH.aU s b).trans (aH.put _ _ _ hbn);refine⟨Z5,λY A ρ w gi wF an5 hl=>?_⟩;obtain⟨x',r,rfl,hx,hr⟩:=hl.iM;obtain⟨y',r2,rfl,hy,mG⟩:=hr.iM;have:r2=[]:=mj (by simpa using mG.length);subst this;have xy:y'= .func (.func g) ⟨[]⟩ ⟨[]⟩:=by rw[<-hy.self];simp
 rw[hx.fR,xy];have hYb:Y b:=wF.cV b (fh _ _ _);obtain⟨hA,c',aE,fr,r1,r2,r3,r4,r5,r6⟩:=wF.st.row hYb hb;have NS:(c'.drop o).take (l.length*k)=l.flatMap enc:=by
  have h5:=((r2.drop o).take (l.length*k)).self;rw[<-h5,qm];exact(yx λx hx=>gL l x hx ρ).trans (List.map_id _)
 have hH:HoldsK enc k w (ρ b).1 o l.toArray:=by
  intro j hj;rw[size_flatK] at hj;have hj':j<l.length*k:=hj;have yV:o+j<c'.length:=by rw[r3];omega
  refine⟨?_,?_⟩
  .rw[vI r1,wB yV,Fk hp hk];have h6:(c'.drop o).take (l.length*k)=l.flatMap enc:=NS;have h7:((c'.drop o).take (l.length*k))[j]?=c'[o+j]?:=by rw[ID,if_pos hj',wP]
   rw[<-h7,h6];(have Z8:j<(l.flatMap enc).length:=by rw[iI hk];exact hj');rw[bc Z8];exact eC some (Bq (l.flatMap enc).toArray j Z8).symm
  .obtain⟨lo,hi⟩:=fr;show(match w.heap[(ρ b).1]? with|some (.cells _ _ (lo,hi))=>decide (lo<=o+j)&&decide (o+j<hi)|_=>false)=false;rw[r1];rw[Ab,mQ,mQ];rcases r4 with h8|h8
   .simp only[cw] at h8;omega
   .rw[bn] at h8;dsimp only at h8;omega
 refine(H _ _ _ l w h4.1 hH (uK.1 r1).1 QS).mono λv' w' ⟨hv,m,os,hw⟩=>?_
 subst hv hw;have Rg:=cX l;have N8:o+(sort l).length*k<=c'.length:=by rw[Rg,r3];exact h2
 obtain⟨s1,s2⟩:=Qm (m:=m) (l:=sort l) (os:=os) hp hk r1 N8;refine⟨ρ,VR.ground λρ=>by simp,Good.bh (o':=.cells (c.take o++(sort l).flatMap enc++c.drop (o+l.length*k)) e u) wF.st wF.dI hYb hb (λd=>?_) ?_ ?_ s1 ?_ s2⟩
 .rw[qZ,gB]
 .rw[dY,bQ]
 .exact ix _ _ _
 .have pJ:(c.take o++(sort l).flatMap enc++c.drop (o+l.length*k)).length=c.length:=by
   rw[bn,bn,cO,eP,iI hk,Rg];omega
  refine⟨_,aE,fr,by rw[Rg],?_,λhu=>?_,λhu=>?_⟩
  .exact((r2.take o).append (λeb _=>(yx λx hx=>gL _ x hx eb).trans (List.map_id _))).append (r2.drop _)
  .rw[pJ];exact r5 hu
  .rw[pJ];exact r6 hu
end Go.Ev
namespace Go.Proofs
open Go Go.Shelf Go.RowKit Go.Lib Go.Sort Go.Ev
set_option maxHeartbeats 1000000 in
theorem ach (x y:Pl.bE)(W:World):Calls prog 138 #[.agg (qv x).toArray,.agg (qv y).toArray] W λe w'=>e= .returned (.int .i64 (Lib.compareBytes x.ag y.ag))/\∃q os',w'=grow (W.drewN q) os':=by
 have Qn:=λW'=>Any.strings_Compare acd ⟨⟨x.ag⟩⟩ ⟨⟨y.ag⟩⟩ W'
 change ∀W',Calls prog 129 _ _ _ at Qn;change Calls prog 138 #[.agg #[.string ⟨⟨x.ag⟩⟩,.int .i64 x.id],.agg #[.string ⟨⟨y.ag⟩⟩,.int .i64 y.id]] W _;generalize Lib.compareBytes x.ag y.ag=r at Qn⊢
 go_enter func138,ntmps138
 go_wp2_with (go_at_call 129;refine(Qn _).mono ?_;rintro e w' ⟨rfl,rfl⟩)
 go_ret
 exact⟨rfl,0,_,by rw[alloc_eq_grow,alloc_eq_grow,grow_grow];rfl⟩
set_option maxHeartbeats 1000000 in
theorem aci (x y:Pl.bS)(W:World):Calls prog 140 #[.agg (qw x).toArray,.agg (qw y).toArray] W λe w'=>e= .returned (.int .i64 (Lib.compareInt x.id y.id))/\∃q os',w'=grow (W.drewN q) os':=by
 have Qn:=λW'=>AnyG.cmp_Compare_int af6 x.id y.id W'
 change ∀W',Calls prog 54 _ _ _ at Qn;change Calls prog 140 #[.agg #[.int .i64 x.id,.bool x.aN,.string ⟨⟨x.a8⟩⟩],.agg #[.int .i64 y.id,.bool y.aN,.string ⟨⟨y.a8⟩⟩]] W _;generalize Lib.compareInt x.id y.id=r at Qn⊢
 go_enter func140,ntmps140
 go_wp2_with (go_at_call 54;refine(Qn _).mono ?_;rintro e w' ⟨rfl,rfl⟩)
 go_ret
 exact⟨rfl,0,_,by rw[alloc_eq_grow,alloc_eq_grow,grow_grow];rfl⟩
theorem af9:∀a b:List UInt8,Lib.compareBytes a b=Ay a b
 |[],[]=>rfl
 |[],_::_=>rfl
 |_::_,[]=>rfl
 |x::a,y::b=>by
  have ih:=af9 a b;unfold Ay at ih⊢;unfold Lib.compareBytes;rw[Pl.qy,Pl.qy,ih];by_cases h1:x.toNat<y.toNat
  .rw[if_pos (Sp.2 h1),if_pos h1];rfl
  .rw[if_neg (λh=>h1 (Sp.1 h)),if_neg h1];by_cases h2:y.toNat<x.toNat
   .rw[if_pos (Sp.2 h2),if_pos h2,if_neg h1,if_pos h2];rfl
   .rw[if_neg (λh=>h2 (Sp.1 h)),if_neg h2,if_neg h2,if_neg h1]
theorem ltF (x y:Pl.bE):ltOf (λx y:Pl.bE=>Lib.compareBytes x.ag y.ag) x y=Pl.bO x.ag y.ag:=by
 show decide (Lib.compareBytes x.ag y.ag<0)=_;rw[af9];unfold Ay;cases h:Pl.bO x.ag y.ag with
 |true=>rfl
 |false=>cases h2:Pl.bO y.ag x.ag<;>rfl
theorem ltT (x y:Pl.bS):ltOf (λx y:Pl.bS=>Lib.compareInt x.id y.id) x y=decide (x.id<y.id):=by
 unfold ltOf Lib.compareInt;by_cases h1:x.id<y.id
 .simp[h1]
 .by_cases h2:y.id<x.id<;>simp[h1,h2]
theorem ams:SWO (ltOf λx y:Pl.bE=>Lib.compareBytes x.ag y.ag) where
 irrefl x:=by rw[ltF];exact Pl.kb _
 trans x y z h1 h2:=by rw[ltF] at *;exact Pl.eT _ _ _ h1 h2
 ntrans x y z h1 h2:=by
  rw[ltF] at *
  cases h3:Pl.bO y.ag x.ag with
  |false=>rw[Pl.lD _ _ h1 h3];exact h2
  |true=>
   cases h4:Pl.bO x.ag z.ag with
   |false=>rfl
   |true=>rw[Pl.eT _ _ _ h3 h4] at h2;cases h2
theorem amt:SWO (ltOf λx y:Pl.bS=>Lib.compareInt x.id y.id) where
 irrefl x:=by rw[ltT];simp
 trans x y z h1 h2:=by rw[ltT] at *;simp at *;omega
 ntrans x y z h1 h2:=by rw[ltT] at *;simp at *;omega
instance an6:Inhabited Pl.bE:=⟨⟨[],0⟩⟩
instance an7:Inhabited Pl.bS:=⟨⟨0,false,[]⟩⟩
theorem Sj {α:Type}[Inhabited α]{l:List α}{d:Array α}(h:PermIn 0 l.toArray.size l.toArray d):d.size=l.length/\d.toList.Perm l:=by obtain⟨h1,_,h2⟩:=h;have h1:d.size=l.length:=h1;refine⟨h1,?_⟩;rw[show(d.extract 0 l.toArray.size)=d by rw[show l.toArray.size=d.size from h1.symm];exact Array.extract_size,show l.toArray.extract 0 l.toArray.size=l.toArray from Array.extract_size] at h2;exact h2
theorem Sk {α:Type}[Inhabited α]{d:Array α}{n:Nat}(hn:d.size=n){lt:α->α->Bool}(h:SortedIn lt 0 n d):d.toList.Pairwise λx y=>lt y x=false:=by rw[uk];intro i j hi hj nI;have fb:i<d.size:=hi;have hj':j<d.size:=hj;have:=h i j (iK _) nI af;rw[Bq d i fb,Bq d j hj'] at this;exact this
theorem Ba {α β:Type}{key:α->β}{R S:α->α->Prop}:∀{l:List α},(l.map key).Nodup->l.Pairwise R->(∀x y,R x y->key x≠key y->S x y)->l.Pairwise S
 |[],_,_,_=>Vy
 |x::l,hn,hp,h=>by
  obtain⟨h1,h2⟩:=yB.1 hn;obtain⟨h3,h4⟩:=jP.1 hp;exact jP.2 ⟨λy hy=>h x y (h3 y hy) λe=>h1 (by rw[e];exact List.mem_map_of_mem hy),Ba h2 h4 h⟩
theorem acj {l:List Pl.bE}(ha:xD l=true){d:Array Pl.bE}(hp:PermIn 0 l.toArray.size l.toArray d)(hs:SortedIn (ltOf λx y:Pl.bE=>Lib.compareBytes x.ag y.ag) 0 l.toArray.size d):d=(jV l).toArray:=by
 obtain⟨h1,h2⟩:=Sj hp;have hn:(l.map (·.ag)).Nodup:=Bf ha;have GW:(d.toList.map (·.ag)).Nodup:=(h2.map _).nodup_iff.2 hn;have h3:=Sk (n:=l.toArray.size) h1 hs;have h4:Pl.l5 d.toList:=Ba (key:=λx:Pl.bE=>x.ag) GW h3 λx y Vk gh=>by
  rw[ltF] at Vk;cases h5:Pl.bO x.ag y.ag with
  |true=>rfl
  |false=>exact absurd (Pl.lD _ _ h5 Vk) gh
 have:=Pl.ya d.toList (jV l) h4 (Pl.tY l hn) λx=>by rw[Pl.ki];exact h2.mem_iff
 rw[<-this]
theorem ack {l:List Pl.bS}(ha:xE l=true){d:Array Pl.bS}(hp:PermIn 0 l.toArray.size l.toArray d)(hs:SortedIn (ltOf λx y:Pl.bS=>Lib.compareInt x.id y.id) 0 l.toArray.size d):d=(jW l).toArray:=by
 obtain⟨h1,h2⟩:=Sj hp;have hn:(l.map (·.id)).Nodup:=Bf ha;have GW:(d.toList.map (·.id)).Nodup:=(h2.map _).nodup_iff.2 hn;have h3:=Sk (n:=l.toArray.size) h1 hs;have h4:Pl.ik d.toList:=Ba (key:=λx:Pl.bS=>x.id) GW h3 λx y Vk gh=>by
  rw[ltT,mQ] at Vk;omega
 have:=Pl.yb d.toList (jW l) h4 (Pl.tZ l hn) λx=>by rw[Pl.kj];exact h2.mem_iff
 rw[<-this]
theorem Iy (x:Pl.bE):∀l,(wH x l).length=l.length+1
 |[]=>rfl
 |y::l=>by
  unfold wH;split
  .rfl
  .rw[cU,Iy x l,cU]
theorem Fl:∀l,(jV l).length=l.length
 |[]=>rfl
 |x::l=>by
  show(wH x (jV l)).length=_;rw[Iy,Fl l,cU]
theorem Iz (x:Pl.bS):∀l,(wI x l).length=l.length+1
 |[]=>rfl
 |y::l=>by
  unfold wI;split
  .rfl
  .rw[cU,Iz x l,cU]
theorem Fm:∀l,(jW l).length=l.length
 |[]=>rfl
 |x::l=>by
  show(wI x (jW l)).length=_;rw[Iz,Fm l,cU]
theorem acm:∀(cs:aY)(l:List Pl.bE),S6 cs=some l->cs=l.flatMap qv:=by
 intro cs
 fun_induction S6 cs with
 |case1=>intro l h;cases h;rfl
 |case2 z i cs ih=>
  refine' za0
 |case3=>intro l h;cases h
theorem acn:∀(cs:aY)(l:List Pl.bS),S7 cs=some l->cs=l.flatMap qw:=by
 intro cs
 fun_induction S7 cs with
 |case1=>intro l h;cases h;rfl
 |case2 i b z cs ih=>
  refine' za0
 |case3=>intro l h;cases h
theorem aco (x:Pl.bE):∀v∈qv x,∀ρ,bX ρ v=v:=λv hv ρ=>by
 simp only[qv,bH,iS,jb] at hv;rcases hv with rfl|rfl<;>simp[bX]
theorem acp (x:Pl.bS):∀v∈qw x,∀ρ,bX ρ v=v:=λv hv ρ=>by
 simp only[qw,bH,iS,jb] at hv;rcases hv with rfl|rfl|rfl<;>simp[bX]
theorem amu (x:Pl.bE):∀v∈qv x,v.oneCell'=true:=λv hv=>by
 simp only[qv,bH,iS,jb] at hv;rcases hv with rfl|rfl<;>rfl
theorem amv (x:Pl.bS):∀v∈qw x,v.oneCell'=true:=λv hv=>by
 simp only[qw,bH,iS,jb] at hv;rcases hv with rfl|rfl|rfl<;>rfl
theorem U3:ni prog 137 (Wu 138):=NR bT (λ_=>rfl) acm aco Fl λcr off cap l w ha hH hb hl=>by
 have h:=AnyQ.slices_SortFunc jV 2 isAgg52 sizeOf52 qv (λ_=>rfl) amu (λx y=>Lib.compareBytes x.ag y.ag) ams 138 #[] cr off cap l.toArray w (λargs w=>call138 args w) (λm os dk hs x y=>ach x y _) hH hb (by show l.length<_;omega);change Calls prog 137 _ _ _ at h;refine .inr ⟨137,_,w,call137 _ w,h.mono λe w' ⟨he,d',m,os,hp,hs,hw⟩=>⟨_,he,rfl,m,os,?_⟩⟩;rw[hw,acj ha hp hs]
theorem U4:ni prog 139 (Wv 140):=NR bT (λ_=>rfl) acn acp Fm λcr off cap l w ha hH hb hl=>by
 have h:=AnyQ.slices_SortFunc jW 3 isAgg54 sizeOf54 qw (λ_=>rfl) amv (λx y=>Lib.compareInt x.id y.id) amt 140 #[] cr off cap l.toArray w (λargs w=>call140 args w) (λm os dk hs x y=>aci x y _) hH hb (by show l.length<_;omega);change Calls prog 139 _ _ _ at h;refine .inr ⟨139,_,w,call139 _ w,h.mono λe w' ⟨he,d',m,os,hp,hs,hw⟩=>⟨_,he,rfl,m,os,?_⟩⟩;rw[hw,ack ha hp hs]
theorem NT {w w':World}(h:Below w.heap.size w w'):Fr w w' λ_=>False:=⟨h.os,h.tape,h.output,h.size,λr hr _=>h.block r hr⟩
theorem Bb (z:ByteArray)(ρ:ig):bX ρ (.string z)= .string z:=by simp[bX]
theorem NU:ni prog 185 Dy:=zl λargs s v s' h=>by
 unfold Dy at h;split at h
 rotate_left
 .cases h
 rename_i a b;have h:=aJ h;simp only[cw] at h;obtain⟨rfl,rfl⟩:=h;refine⟨rfl,λρ=>qj _ _ _,λx hx ρ=>?_,λw=>?_⟩
 .simp only[bH,iS,jb] at hx;rcases hx with rfl|rfl<;>exact Bb _ _
 .have h1:=Any.bytealg_CompareString acb ⟨⟨a⟩⟩ ⟨⟨b⟩⟩ w;change Calls prog 185 _ _ _ at h1;refine .inr ⟨185,_,w,call185 _ w,h1.mono λe w' ⟨he,hw⟩=>⟨_,he,?_,by rw[hw];exact Fr.refl _ _⟩⟩;exact eC (Value.int .i64) (af9 a b)
theorem ZM (z:List UInt8):∀n,Lib.repeatL z n=yY z n
 |0=>rfl
 |n+1=>by unfold Lib.repeatL yY;rw[ZM z n]
theorem Qo:ni prog 84 Jj:=zl λargs s v s' h=>by
 unfold Jj at h;split at h
 rotate_left
 .cases h
 rename_i z n;obtain⟨h0,h⟩:=bq h;have h:=aJ h;simp only[cw] at h;obtain⟨rfl,rfl⟩:=h;rw[bI] at h0;have h1:z.length*n<=1000000:=mR h0.1;have h2:n<=1000000:=mR h0.2;refine⟨rfl,λρ=>Bb _ _,λx hx ρ=>?_,λw=>?_⟩
 .simp only[bH,iS,jb] at hx;rcases hx with rfl|rfl
  .exact Bb _ _
  .exact qj _ _ _
 .have h3:=Any.strings_Repeat zV Tryz.zW ⟨⟨z⟩⟩ n w af (by show z.length*n<=_;omega);change Calls prog 84 _ _ _ at h3;refine .inr ⟨84,_,w,call84 _ w,h3.mono λe w' ⟨he,hw⟩=>⟨_,he,?_,NT hw⟩⟩;rw[show Lib.repeatL (⟨⟨z⟩⟩:ByteArray).data.toList n=yY z n from ZM z n]
theorem IA:ni prog 177 Dz:=zl λargs s v s' h=>by
 unfold Dz at h;split at h
 rotate_left
 .cases h
 rename_i z c;obtain⟨h0,h⟩:=bq h;have h:=aJ h;simp only[cw] at h;obtain⟨rfl,rfl⟩:=h;have hc:c<256:=mR h0;refine⟨rfl,λρ=>qj _ _ _,λx hx ρ=>?_,λw=>?_⟩
 .simp only[bH,iS,jb] at hx;rcases hx with rfl|rfl
  .exact Bb _ _
  .exact qj _ _ _
 .refine .inl ⟨_,w,?_,rfl,Fr.refl _ _⟩;rw[run_callFunc_extern func177 cj cj cj (e:=Extern.BytealgCount.count) cj,run_countString];have Vc:(UInt8.ofNat c).toNat=c:=by simp[IE hc]
  have h4:(Int.toNat (Int.ofNat c)).toUInt8=UInt8.ofNat c:=rfl;have h5:Lib.countByte z (UInt8.ofNat c)=dX (z.filter λb=>Nat.beq b.toNat c):=by
   unfold Lib.countByte;rw[c8,List.count_eq_length_filter]
   congr 1
   apply List.filter_congr;intro b _;rw[pd];simp only[Ae,zZ];rw[<-sW,Vc]
  show Result.andThen (Result.ok _ w) _=_;rw[h4];show Result.ok (Next.value (.int .i64 ((Lib.countByte z (UInt8.ofNat c):Nat):Int))) w=_;rw[h5];rfl
theorem mixed:prog.follows .mixedOrders=true:=by kernel_rfl
theorem aga:∀p∈[((177:Nat),Dz)],ni prog p.1 p.2:=λp hp=>by
 simp only[bH,iS,jb] at hp;subst hp;exact IA
theorem nu:dK prog (oP bf aeS 100000 [] 200):=Dv adS (ajC aga) mixed 100000 (tab:=[]) (λe he=>by cases he) 200
theorem runs {f:Nat}{args:aY}{v:Value}(h:Xv f args v=true)(hv:∀ρ,bX ρ v=v)(ha:∀x∈args,∀ρ,bX ρ x=x)(w:World):kM prog f ⟨args⟩ w λv' w'=>v'=v/\Fr w w' λ_=>False:=by
 unfold Xv at h;split at h
 .rename_i u s1 hc;have:=OR _ _ h;subst this;exact run_pure nu (cC _) hc hv ha w
 .cases h
theorem Fo:ni prog 80 ve:=zl λargs s v s' h=>by
 unfold ve at h;split at h
 rotate_left
 .cases h
 rename_i z;obtain⟨h0,h⟩:=bq h;have h:=aJ h;simp only[cw] at h;obtain⟨rfl,rfl⟩:=h;have ha:∀x∈[S z],∀ρ,bX ρ x=x:=λx hx ρ=>by rw[fJ.1 hx];exact Bb _ _
 exact⟨rfl,λρ=>Bb _ _,ha,runs (fT.1 ahP z (Bf h0)) (λρ=>Bb _ _) ha⟩
theorem Fq (z:List UInt8):∀l:List (List UInt8),Lib.join l z=kW z l
 |[]=>rfl
 |[x]=>by
  show(([x]:List (List UInt8)).intersperse z).flatten=x;simp
 |x::y::l=>by
  have ih:=Fq z (y::l);show((x::y::l).intersperse z).flatten=x++(z++kW z (y::l));rw[<-ih];show(x::z::(y::l).intersperse z).flatten=x++(z++((y::l).intersperse z).flatten);rw[List.flatten_cons,List.flatten_cons]
theorem acq:∀(cs:aY)(l:List Pl.aC),OT cs=some l->cs=l.map λz=>.string ⟨⟨z⟩⟩:=by
 intro cs
 fun_induction OT cs with
 |case1=>intro l h;cases h;rfl
 |case2 z cs ih=>
  refine' za0
 |case3=>intro l h;cases h
theorem ZN:ni prog 231 (Ww 9):=by
 intro args s v s' h;unfold Ww at h;split at h
 rotate_left
 .cases h
 rename_i b o n cap z;obtain⟨c,e,u,hb,h⟩:=mo h;obtain⟨h1,h⟩:=bq h;obtain⟨l,h3,h⟩:=aF h;obtain⟨h4,h⟩:=bq h;have h:=aJ h;simp only[cw] at h;obtain⟨rfl,rfl⟩:=h;rw[bI,bI,bI] at h1;obtain⟨⟨⟨k1,k2⟩,k3⟩,k4⟩:=h1;have k1:o+n<=c.length:=mR k1;have k3:1<=n:=mR k3;have k4:n<=1000:=mR k4;have h4:(kW z l).length<=1000000:=mR h4;have qm:=acq _ _ h3;have hln:l.length=n:=by
  have:=eC List.length qm;rw[cO,eP,uI] at this;omega
 refine⟨aH.aU s b,λY A ρ w gi wF gL hl=>?_⟩;obtain⟨x',r,rfl,hx,hr⟩:=hl.iM;obtain⟨y',r2,rfl,hy,mG⟩:=hr.iM;have:r2=[]:=mj (by simpa using mG.length);subst this;have xy:y'= .string ⟨⟨z⟩⟩:=by rw[<-hy.self];exact Bb _ _
 rw[hx.fR,xy];have hYb:Y b:=wF.cV b (fQ s b);obtain⟨hA,c',aE,fr,r1,r2,r3,r4,r5,r6⟩:=wF.st.row hYb hb;have NS:(c'.drop o).take n=l.map λz=>.string ⟨⟨z⟩⟩:=by
  have h5:=((r2.drop o).take n).self;rw[<-h5,qm];exact(yx λx hx=>by
   obtain⟨q,_,rfl⟩:=lp.1 hx;exact Bb _ _).trans (List.map_id _)
 have qk:∀(j:Nat)(q:List UInt8),l[j]?=some q->w.cell? ⟨(ρ b).1,o+j,none⟩=some (.string ⟨⟨q⟩⟩):=λj q hj=>by
  have hjn:j<n:=by rw[<-hln];exact(sV.1 hj).1
  have h7:((c'.drop o).take n)[j]?=c'[o+j]?:=by rw[ID,if_pos hjn,wP]
  rw[vI r1,wB (by rw[r3];omega),<-h7,NS,wD,hj];rfl
 have u3:n<=de (ρ b) cap:=by
  unfold de;rw[mh,bI,bI,bI] at k2;rcases k2 with⟨k5,k6⟩|⟨⟨k5,k6⟩,k7⟩
  .have k5:cap<dS:=mR k5;rw[if_neg af];exact mR k6
  .have k5:dS<=cap:=mR k5;have k6:=nV k6;have k7:=nV k7;subst k7;rw[if_pos k5,<-k6];have k8:prog.cellsOf 9=1:=by kernel_rfl
   cases u with
   |true=>
    have:=(r5 rfl).2.1;rw[k8] at this;omega
   |false=>
    have:=(r6 rfl).2;omega
 have hbk:(ρ b).1<w.heap.size:=(uK.1 r1).1;have Jt:∀(v':Value)(w':World),v'= .string ⟨⟨kW z l⟩⟩->(Fr w w' λ_=>False)->pg prog Y A ρ s (s.aU b) w (.string ⟨⟨kW z l⟩⟩) v' w':=λv' w' e hf=>by
  subst e;exact⟨ρ,VR.ground λρ=>Bb _ _,Good.aaF wF.st wF.dI (bQ _ _) (gB _ _) hf⟩
 subst hln;by_cases h2:2<=l.length
 .have hj:(l.map λz=>(⟨⟨z⟩⟩:ByteArray)).map (·.data.toList)=l:=by rw[List.map_map];exact List.map_id _
  have h6:=Any.strings_Join_many Sf Tryz.rF (ρ b).1 o (de (ρ b) cap) (l.map λz=>⟨⟨z⟩⟩) ⟨⟨z⟩⟩ w (λj x hj=>by
   rw[wD] at hj;obtain⟨q,h8,rfl⟩:=Option.map_eq_some_iff.1 hj;exact qk j q h8) hbk (by rw[uI];exact h2) (by rw[uI];omega) (by rw[uI];exact u3) (by
   rw[hj,Fq];exact gu h4 bT)
  rw[hj,Fq,uI] at h6;change Calls prog 231 _ _ _ at h6;exact .inr ⟨231,_,w,call231 _ w,h6.mono λe w' ⟨he,hw⟩=>⟨_,he,Jt _ _ rfl (NT hw)⟩⟩
 .obtain⟨q,rfl⟩:∃q,l=[q]:=by
   cases l with
   |nil=>simp at k3
   |cons q l=>cases l with
    |nil=>exact⟨q,rfl⟩
    |cons _ _=>simp at h2
  have h6:=Any.strings_Join_one Sf Tryz.rF (ρ b).1 o (de (ρ b) cap) ⟨⟨q⟩⟩ ⟨⟨z⟩⟩ w (qk 0 q rfl);change Calls prog 231 _ _ _ at h6;exact .inr ⟨231,_,w,call231 _ w,h6.mono λe w' ⟨he,hw⟩=>⟨_,he,Jt _ _ rfl (by rw[hw];exact Fr.refl _ _)⟩⟩
end Go.Proofs
namespace Go.Proofs
open Go Go.Ev Go.Pl
def j7:aY:=Ha.map λn=>.int .u64 (.ofNat n)
def dg3 (n:Nat):List UInt8:=if n<10 then [UInt8.ofNat (48+n)] else if n<100 then [UInt8.ofNat (48+n/ 10),UInt8.ofNat (48+n% 10)] else [UInt8.ofNat (48+n/ 10/ 10),UInt8.ofNat (48+n/ 10% 10),UInt8.ofNat (48+n% 10)]
theorem agb {n:Nat}(h:n<1000):gM n=dg3 n:=by
 unfold dg3;by_cases h1:n<10
 .rw[if_pos h1,Pg.rk h1]
 .rw[if_neg h1,Pg.vW h1];by_cases h2:n<100
  .rw[if_pos h2,Pg.rk af];rfl
  .rw[if_neg h2,Pg.vW (n:=n/ 10) af,Pg.rk (n:=n/ 10/ 10) af];rfl
noncomputable def stT:St:=⟨T.set 5 T.nil 4 (some (.nW [(0,j7)])),16,0,0⟩
noncomputable def Ft (n:Nat):Bool:=match oP bf aeS 100000 [] 200 69 [.int .i64 (.ofNat n)] stT with
 |some (u,s1)=>Dt u (S (dg3 n))&&!s1.wr.testBit 4
 |none=>false
theorem ajD:(List.range 100).all Ft=true:=by kernel_rfl
theorem ajE:((List.range 50).all λn=>Ft (n+100))=true:=by kernel_rfl
theorem ajF:((List.range 50).all λn=>Ft (n+150))=true:=by kernel_rfl
theorem acr {n:Nat}(h:n<=199):Ft n=true:=by
 by_cases h1:n<100
 .exact fT.1 ajD n (kF.2 h1)
 .by_cases h2:n<150
  .have:=fT.1 ajE (n-100) (kF.2 af)
   rwa [show n-100+100=n by omega] at this
  .have:=fT.1 ajF (n-150) (kF.2 af)
   rwa [show n-150+150=n by omega] at this
end Go.Proofs
namespace Go.Proofs
open Go Go.Shelf Go.RowKit Go.Lib Go.Sort Go.Ev
theorem ZO:∀(l:List Nat)(c:aY),QY l c=true->c=l.map λn=>.int .u64 (.ofNat n):=by
 intro l c
 fun_induction QY l c with
 |case1=>intro _;rfl
 |case2 n l m c ih=>
  intro h;rw[bI] at h;rw[ih h.2,nV h.1];rfl
 |case3=>intro h;cases h
theorem ZP {o:gv}(h:Hb o=true):o= .nW [(0,j7)]:=by
 unfold Hb at h;split at h
 .rw[ZO _ _ h];rfl
 .cases h
theorem Dx (b:Nat):stT.heap.get b=if b=4 then some (.nW [(0,j7)]) else none:=by show(T.set 5 (T.nil:T gv) 4 (some (.nW [(0,j7)]))).get b=_;rw[T.vF 5 _ _ _ _ bT,T.get_nil]
theorem yp (ρ:ig):j7.map (bX ρ)=j7:=by unfold j7;rw[List.map_map];exact yx λn _=>qj _ _ _
theorem ZQ {n:Nat}(hn:n<=199)(w:World)(hw:∃aE t fr,w.heap[4]?=some (.cells ⟨j7++aE⟩ t fr)):kM prog 69 #[.int .i64 (.ofNat n)] w λv' w'=>v'= .string ⟨⟨Pl.dec (.ofNat n)⟩⟩/\Fr w w' λ_=>False:=by
 have h:=acr hn;unfold Ft at h;split at h
 rotate_left
 .cases h
 rename_i u s1 hc;rw[bI] at h;have:=OR _ _ h.1;subst this;have mZ:=h.2;obtain⟨aE,t,fr,hw⟩:=hw;obtain⟨hg,hk⟩:=nu _ _ _ _ _ hc;have aa8:∀(A:Nat->Prop)(ρ:ig),LR A ρ j7 j7:=λA ρ eb _=>yp eb
 have jz:eX prog (λb=>In s1.cV b) (λi=>i<16) (λi=>(i,0)) stT.heap.get w:=by
  refine⟨λb o _ h=>?_,λb b' o o' _ _ h h' _=>?_⟩
  .rw[Dx] at h;split at h
   .cases h
    rename_i hb;subst hb;exact⟨bT,_,hw,_,_,_,rfl,λp hp=>by
     rw[fJ] at hp;subst hp;exact⟨[],j7,aE,rfl,rfl,aa8 _ _⟩⟩
   .cases h
  .rw[Dx] at h h';split at h
   .split at h'
    .omega
    .cases h'
   .cases h
 have:=hk (λb=>In s1.cV b) (λi=>i<16) (λi=>(i,0)) w [.int .i64 (.ofNat n)] ⟨λi hi=>hi,λb hb=>by
  rw[Dx,if_neg (by have:16<=b:=hb;omega)],λb hb=>hb,jz⟩ (λg hg=>⟨hg,rfl⟩) (λeb _=>rfl)
 refine this.mono λv' w' ⟨eb,h1,hG⟩=>⟨?_,hG.eN.os,hG.eN.tape,hG.eN.output,hG.eN.size,λr hr _=>hG.eN.block r hr ?_⟩
 .rw[<-h1.self];show bX eb (Value.string ⟨⟨dg3 n⟩⟩)= .string ⟨⟨Pl.gM n⟩⟩;rw[Bb];rw[agb af]
 .rintro⟨b,o,hb,_,h3,h4⟩;rw[Dx] at h3;split at h3
  .rename_i e;subst e;rw[show s1.wr.testBit 4=true from hb] at mZ;cases mZ
  .cases h3
theorem ZR:ni prog 69 (Wx 4):=by
 intro args s v s' h;unfold Wx at h;split at h
 rotate_left
 .cases h
 rename_i n;obtain⟨h0,h⟩:=bq h;obtain⟨o,ho,h⟩:=aF h;obtain⟨h1,h⟩:=bq h;have h:=aJ h;simp only[cw] at h;obtain⟨rfl,rfl⟩:=h;have hn:n<=199:=mR h0;obtain rfl:=ZP h1;refine⟨aH.aU s 4,λY A ρ w gi wF gL hl=>?_⟩;have:=hl.ground (λx hx ρ=>by rw[fJ.1 hx];exact qj _ _ _);subst this;obtain⟨_,x,hx,cs,t,fr,rfl,hw⟩:=wF.st.kK 4 _ (wF.cV 4 (fQ s 4)) ho;obtain⟨pre,c',aE,rfl,Tf,hr⟩:=hw _ ga;obtain rfl:=mj Tf;have tg:c'=j7:=by rw[<-hr.self];exact yp _
 subst tg;rw[(gL 4 bT).2] at hx;exact(ZQ hn w ⟨aE,t,fr,hx⟩).mono λv' w' ⟨h1,hf⟩=>by
  subst h1;exact⟨ρ,VR.ground λρ=>Bb _ _,Good.aaF wF.st wF.dI (bQ _ _) (gB _ _) hf⟩
theorem agc:∀p∈bw.wT,ni prog p.1 p.2:=λp hp=>by
 simp only[bw,bH,iS,jb] at hp;rcases hp with rfl|rfl|rfl|rfl|rfl|rfl|rfl|rfl
 .exact U3
 .exact U4
 .exact NU
 .exact Qo
 .exact Fo
 .exact IA
 .exact ZN
 .exact ZR
theorem ajG:Wl bf prog bw:=ajC agc
end Go.Proofs
namespace Go.Pl
open Go Go.Ev Go.Lg Go.Proofs
def dq (x:bE):aC:=x.ag++[32]++dec x.id++[10]
def eR (x:bS):aC:=dec x.id++(if x.aN then [32,100] else [32,102]++dec (x.a8.length:Nat)++[32]++x.a8)++[10]
def Flat.a8 (f:Flat):aC:=f.ad.flatMap dq++f.ae.flatMap eR
theorem lj {α:Type}(g:α->aC)(m:Nat):∀(l:List α),(∀x∈l,(g x).length<=m)->(l.flatMap g).length<=l.length*m
 |[],_=>iK _
 |x::l,h=>by
  rw[js,bn,cU,lU];have h1:=h x ga;have h2:=lj g m l λy hy=>h y (iV _ hy)
  omega
theorem lK {α:Type}(g:α->aC){l:List α}{i:Nat}(hi:i<l.length)(d:α):(l.take (i+1)).flatMap g=(l.take i).flatMap g++g (l.getD i d):=by rw[ui,bc hi,wQ,a7,bc hi];simp
theorem iI {α:Type}(g:α->aC):∀l:List α,(l.flatMap g).length=(l.map λx=>(g x).length).sum
 |[]=>rfl
 |x::l=>by rw[js,bn,iI g l,xg,Bp]
theorem zX {α:Type}(g:α->aC){l l':List α}(h:l.Perm l'):(l.flatMap g).length=(l'.flatMap g).length:=by rw[iI,iI,(h.map _).sum_nat]
theorem yq (x:bE):0<(dq x).length:=by unfold dq;simp only[bn,cU];omega
variable {f:Flat}
theorem amw (h:kE f)(hf:RY f):Kg f.ad f.ae:=
 ⟨h.sn,h.st,by have:=hf.nl;omega,by have:=hf.tl;omega,λx hx=>by have:=(hf.nm x hx).1.1;omega,λz hz=>by
   obtain⟨i,hi⟩:=lV.1 ((h.ld0 z).1 hz);rw[h.uc hi];exact(h.nm i (h.J6 hi).1).1,λx hx=>by have:=hf.nm x hx;omega⟩
theorem kE.ajH (h:kE f)(hN:∀x∈f.ad,uy x.ag):gH f:=by
 have hp:=h.g.p;have hl:=h.amn;refine⟨hl,hp.tl.2,λx hx=>?_,λx hx=>?_⟩
 .obtain⟨y,hy,e⟩:=hp.th x hx;have h1:=(hp.tx y hy).1;have hNx:=hN x hx;obtain⟨j,hj,rfl⟩:=jO hx;have h2:=h.ajw j j (cC _) hj;rw[show f.ad.getD j cR=f.ad[j] by rw[a7,bc hj];rfl] at h2;exact⟨⟨af,h2.2,hNx⟩,af,af⟩
 .have h1:=hp.tx x hx;exact⟨h1.1.1,af,h1.2.2⟩
theorem gH.P (h:gH f):∀x∈f.ad,uy x.ag:=λx hx=>(h.nm x hx).1.2.2
structure PlO (f:Flat):Prop where
 ok:kE f
 pn:∀x∈f.ad,uy x.ag
theorem PlO.D (h:PlO f):gH f:=h.ok.ajH h.pn
theorem ajI (h:PlO f):DoV f.ad f.ae yh:=
 ⟨amw h.ok h.D.e,λx hx=>by have:=h.D.th x hx;omega,bT,bT,λh0 hk=>(by rcases hk with hk|hk<;>cases hk),λh1 h2=>(wy h.ok h1 h2).2.2.1,λh1 h2=>(wy h.ok h1 h2).2.2.2,λh1 h2=>UN (wy h.ok h1 h2).1,λh1 h2=>UO (wy h.ok h1 h2).2.1⟩
theorem acs (h:PlO f):PlO (o9 f yh).1/\((o9 f yh).1=f\/((o9 f yh).1.a8≠f.a8/\(o9 f yh).1.ad≠f.ad)):=by
 have hz:yh.ag∈Ev.dL:=by decide
 have hy:yh.to∈Ev.dL:=by decide
 unfold o9;rw[if_pos Kd];by_cases h0:mM f.ad f.ae yh=0
 .rw[if_pos h0];refine⟨⟨af5 h.ok Kd hz hy h0,ajx h.ok h.pn Kd hz hy h0⟩,.inr ?_⟩;have hJ:AX f.ad f.ae yh=(f.ad++[⟨yh.ag,Ci f.ae 16 0⟩],f.ae++[⟨Ci f.ae 16 0,decide (yh.kind=2),[]⟩]):=if_pos (.inl rfl);constructor
  .intro e;have e:=eC List.length e;unfold RQ Flat.a8 at e;rw[hJ] at e;dsimp only at e;rw[bn,bn,zX dq (ug _),zX eR (yk _),wQ,wQ,bn,bn] at e;have h1:=yq ⟨yh.ag,Ci f.ae 16 0⟩;rw[js,bn] at e;omega
  .intro e;have e:=eC List.length e;unfold RQ at e;rw[hJ] at e;dsimp only at e;rw[(ug _).length_eq,bn] at e;simp at e
 .rw[if_neg h0];exact⟨h,.inl rfl⟩
variable {E:iq}{X:fY}{Γ:qN}{l:Kn}{L R:dy}{K:KO}{g:FuncId}{xs:List Operand}{ts:Array TypeId}{vs:aY}{s:St}{b c:Nat}{a p:aS}{z w:aC}{r:Value}{x y:It}
abbrev Qp (b:Nat)(p:aS)(a:aS)(c:Nat)(z:aC):dy:=[.box b [.pointer p,.slice a z.length c] 86 false,.aQ (.slice a z.length c) 5 1 (ai z)]
theorem WO.acu {v:Value}{e:TypeId}(hx:jY l xs [bk b])(hp:nM [.box b [.pointer p,v] e false] L R)(h:∀s,fA E X g [bk b] s [.box b [.pointer p,v] e false] [] λR L=>R= .tuple ⟨[]⟩/\L=[.box b [bk b,v] e false])(k:∀m m',iY L m->m<=m'->K (.tuple ⟨[]⟩) (.box b [bk b,v] e false::R) m m' (mV [] [.box b [.pointer p,v] e false] m m') (mW [.box b [.pointer p,v] e false] m m')):WC E X Γ l g xs ts L K:=
 WO.call (Lm:=[.box b [.pointer p,v] e false]) (R:=R) (A:=[]) hx hp.cT (λs hi b hb=>by cases hb) (λs hi=>h s) (by rintro r' L' m m' ho hm ⟨rfl,rfl⟩;exact k m m' ho hm)
abbrev ZS (E:iq)(X:fY)(g:FuncId)(vs:aY)(s:St)(b:Nat)(p a:aS)(c:Nat)(z w:aC)(r:Value):Prop:=fA E X g vs s (Qp b p a c z) [] λR L=>R=r/\∃a' c',(c'=0\/c'=dS)/\L=Qp b (iJ b) a' c' (z++w)
theorem Ko (s:St)(b:Nat)(p:aS)(v:Value)(hp:p=none\/p=some ⟨b,0,none⟩):FC 68 [bk b] s [.box b [.pointer p,v] 86 false] [] λR L=>R= .tuple ⟨[]⟩/\L=[.box b [bk b,v] 86 false]:=by
 rcases hp with rfl|rfl
 .refine aX f68 ?_;(repeat' (first|refine' aZ|refine' abi|((with_reducible apply WO.ady (t:=84) (t2:=162) (u:=86));(exact cj);(exact cj);(exact bT);exact fS;exact oX;(exact Nat.succ_pos _);intro _)|((with_reducible apply WO.aW);exact aD;(intro s;exact abV (fn:=f114) cj rfl bT rfl);intros)|((with_reducible apply WO.adz (t:=162) (t2:=84) (u:=86));(exact rfl);(exact cj);(exact cj);exact fS;exact oX;(exact rfl);intro _)|((with_reducible apply WO.adA (t:=84) (u:=86));(exact cj);exact fS;exact fS;intro _)|refine' av|fail))
  all_goals try refine nU
  all_goals exact⟨cy,_,_,bY,au,rfl,rfl⟩
 .refine aX f68 ?_;(repeat' (first|refine' aZ|refine' abi|((with_reducible apply WO.ady (t:=84) (t2:=162) (u:=86));(exact cj);(exact cj);(exact bT);exact fS;exact oX;(exact Nat.succ_pos _);intro _)|((with_reducible apply WO.aW);exact aD;(intro s;exact abV (fn:=f114) cj rfl bT rfl);intros)|((with_reducible apply WO.adz (t:=162) (t2:=84) (u:=86));(exact rfl);(exact cj);(exact cj);exact fS;exact oX;(exact rfl);intro _)|((with_reducible apply WO.adA (t:=84) (u:=86));(exact cj);exact fS;exact fS;intro _)|refine' av|fail))
  all_goals try refine nU
  all_goals exact⟨cy,_,_,bY,au,rfl,rfl⟩
theorem qL (s:St)(b:Nat)(p a:aS)(c:Nat)(z w:aC)(hp:p=none\/p=some ⟨b,0,none⟩)(hc:c=0\/c=dS)(hl:z.length+w.length<=1000000):ZS bf bw 33 [bk b,sv w] s b p a c z w (.tuple ⟨[iv (w.length:Nat),.nilIface]⟩):=by
 refine aX f33 ?_;dsimp only[Qp];(repeat' (first|refine' aZ|((with_reducible apply WO.acu);exact aD;exact dU;(intro s;exact Ko s _ _ _ hp);intros)|((with_reducible apply WO.abG);(exact λ_=>rfl);exact fS;exact fS;exact XG;exact lT;intro _ _ amx amy _ _ _ ajJ)|refine' av|fail));all_goals try refine nU
 all_goals exact⟨cy,_,_,bY,au,rfl,amx,amy,ajJ.elim (λh=>h▸hc) .inr,rfl⟩
theorem Qq (s:St)(b:Nat)(p a:aS)(z:aC)(h0:0<z.length)(hn:z.length<=1000000):FC 35 [bk b] s (Qp b p a dS z) [] λR L=>R=sv z/\L=[]:=by
 refine aX f35 ?_;dsimp only[Qp];(repeat' (first|refine' aZ|((with_reducible apply WO.T4);exact fS;exact oX;exact lT;intro _)|((with_reducible apply WO.T5 (e:=5));(exact λ_=>rfl);(exact cj);exact fS;exact fS;exact XG;exact lT;exact lT;intro _)|refine' av|fail));all_goals try refine nU
 all_goals exact⟨cy,_,_,bY,au,rfl,rfl⟩
theorem Bc (s:St)(n:Int)(h0:0<=n)(h1:n<=199)(hr:yg s):bL 34 [iv n] s [4] (sv (dec n)):=by
 have hd:R6 ⟨s,([]:dy).flatMap It.cr,[4]⟩:=R6.of hr ay;have hw:fM n 0 999999999=true:=by unfold fM;simp;omega
 have hwi:∀s,bL 21 [iv n,iv 0,iv 999999999] s [] (.bool true):=λs=>hw▸HB s n 0 999999999
 refine aX f34 ?_;(repeat' (first|refine' aZ|((with_reducible apply WO.aW);exact aD;(exact hwi);intros)|((with_reducible apply WO.Kc);exact aD;assumption;(intro s h;exact abZ s _ af af h);intros)|refine' av|fail));all_goals try refine cI
 all_goals refine' ax
 all_goals rfl
variable {Q:B9}{cd:Code}{n e sz:Nat}{a':aS}{cs:aY}
theorem WO.Qr (hx:jY l xs vs)(hp:nM (Qp b p a c z) L R)(h:∀s,ZS E X g vs s b p a c z w r)(k:∀m m' a' c',(c'=0\/c'=dS)->iY L m->m<=m'->K r (Qp b (iJ b) a' c' (z++w)++R) m m' (mV [] (Qp b p a c z) m m') (mW (Qp b p a c z) m m')):WC E X Γ l g xs ts L K:=
 WO.call (Lm:=Qp b p a c z) (R:=R) (A:=[]) hx hp.cT (λs hi b hb=>by cases hb) (λs hi=>h s) (by rintro r' L' m m' ho hm ⟨rfl,a',c',hc,rfl⟩;exact k m m' a' c' hc ho hm)
theorem WO.agd (hx:jY l xs vs)(hp:nM (Qp b p a c z) L R)(h:∀s,fA E X g vs s (Qp b p a c z) [] λR L=>R=r/\L=[])(k:∀m m',iY L m->m<=m'->K r R m m' (mV [] (Qp b p a c z) m m') (mW (Qp b p a c z) m m')):WC E X Γ l g xs ts L K:=
 WO.call (Lm:=Qp b p a c z) (R:=R) (A:=[]) hx hp.cT (λs hi b hb=>by cases hb) (λs hi=>h s) (by rintro r' L' m m' ho hm ⟨rfl,rfl⟩;exact k m m' ho hm)
theorem W.age (hm:It.aQ (.slice a n c) e sz cs∈L)(h0:0<n)(h:c≠0->W E X Γ cd l L Q):W E X Γ cd l L Q:=λtm s h1 h2=>h (by
 rintro rfl;rcases h2.it _ hm with⟨h3,_⟩|⟨b,n',k',w,aE,h3,_,_,h4⟩
 .have:=(Value.slice.inj h3).2.1;omega
 .cases h3
  rcases h4 with⟨h5,_⟩|⟨h5,_⟩
  .omega
  .exact absurd h5 bT) tm s h1 h2
theorem W.agf (e sz:Nat)(h:W E X Γ cd l (.aQ (eM) e sz []::L) Q):W E X Γ cd l L Q:=λtm s h1 h2=>h tm s h1 ⟨h2.fr,h2.le,λx hx=>(bH.1 hx).elim (λe=>e▸ .inl ⟨rfl,rfl⟩) (h2.it x),λx hx b hb=>(bH.1 hx).elim (λe=>by subst e;cases hb) λhx=>h2.lt x hx b hb,h2.nd,h2.cV,h2.wr,h2.top,h2.y1⟩
theorem WO.wA (hx:jY l xs vs)(hd:R6 Γ)(h:∀s,yg s->eU s a a' f->l7 E X g vs s (qV a a'++[4]) r)(hh:Hs Γ L a a' f)(k:∀m m',iY L m->m<=m'->K r L m m' (mV (qV a a'++[4]) [] m m') (mW [] m m')):WC E X Γ l g xs ts L K:=
 WO.nu hx (λs hi=>⟨λb hb=>by
   rcases eW.1 hb with hb|hb
   .rcases eW.1 hb with hb|hb
    .exact(hh.n.row hi).2 b hb
    .exact(hh.t.row hi).2 b hb
   .rw[fJ] at hb;subst hb;exact(hd.row hi).2,h s (hd.row hi).1 ⟨(hh.n.row hi).1,(hh.t.row hi).1⟩⟩) k
theorem ZT (s:St)(a:aS)(c:Nat)(a':aS)(c':Nat)(f:Flat)(hf:gH f)(h0:0<f.ad.length)(hg:yg s)(hr:eU s a a' f):bL 13 [vD a c a' c' f] s (qV a a'++[4]) (sv f.a8):=by
 refine' zaB
 have hdg:R6 ⟨s,([]:dy).flatMap It.cr,qV a a'++[4]⟩:=R6.of hg ay;have amz:=hg.lt;have pJ:=hf.nl;have qM:=hf.tl;have hnb:∀x∈f.ad,(dq x).length<=1000:=λx hx=>by
  have h1:=hf.nm x hx;have h2:=gN x.id af;have h3:=h1.1.1;unfold dq;simp only[bn,cU,kC];omega
 refine' zaL
 have hN:=lj dq 1000 f.ad hnb;have hNp:0<(f.ad.flatMap dq).length:=by
  cases hn:f.ad with
  |nil=>rw[hn] at h0;cases h0
  |cons x l=>
   have:=yq x;rw[js,bn];omega
 refine aX f13 ?_;refine' cM;all_goals try refine cI
 refine W.agf 5 1 ?_;refine W.bK (λm l L=>∃(i b1 b3:Nat)(p az:aS)(cz:Nat),Le [(1,bk b1),(3,bk b3),(9,.slice a f.ad.length c),(10,iv (f.ad.length:Int)),(11,iv (i:Int))] l/\cx [.box b1 (qb a c f.ad a' c' f.ae) 26 false,.box b3 [.pointer p,.slice az ((f.ad.take i).flatMap dq).length cz] 86 false,.aQ (.slice az ((f.ad.take i).flatMap dq).length cz) 5 1 (ai ((f.ad.take i).flatMap dq))] L/\m=f.ad.length-i/\i<=f.ad.length/\(p=none\/p=some ⟨b3,0,none⟩)/\(cz=0\/cz=dS))
                         (λl L=>∃(b1 b3:Nat)(p az:aS)(cz:Nat),Le [(1,bk b1),(3,bk b3)] l/\cx [.box b1 (qb a c f.ad a' c' f.ae) 26 false,.box b3 [.pointer p,.slice az (f.ad.flatMap dq).length cz] 86 false,.aQ (.slice az (f.ad.flatMap dq).length cz) 5 1 (ai (f.ad.flatMap dq))] L/\(p=none\/p=some ⟨b3,0,none⟩)/\(cz=0\/cz=dS)) _ ⟨0,_,_,none,none,0,bp,au,rfl,af,.inl rfl,.inl rfl⟩ ?_ ?_
 .rintro m l L ⟨i,b1,b3,p,az,cz,hl,hL,rfl,g1,hp,hc⟩;refine W.le ?_ hl hL;clear hl hL;by_cases hi:i<f.ad.length
  .have hx:=hf.nm _ (aL hi aq.ah);have h3:=hx.1.1;have hle:=lj dq 1000 (f.ad.take i) λx hx=>hnb x (B2 hx)
   have N4:(f.ad.take i).length<=144:=by rw[cO];omega
   have agh:((f.ad.take i).flatMap dq).length<=144000:=gu hle (wE 1000 N4);have Dc:=gN (f.ad.getD i aq.ah).id af;have Lh:(f.ad.take (i+1)).flatMap dq=(f.ad.take i).flatMap dq++((f.ad.getD i aq.ah).ag++[32]++dec (f.ad.getD i aq.ah).id++[10]):=by
    rw[lK dq hi aq.ah];rfl
   refine' zai;(all_goals try refine cI);all_goals refine' zaQ
  .have fb:i=f.ad.length:=by omega
   subst fb;rw[fU];refine' cM;(all_goals try refine cI);all_goals exact⟨_,_,p,az,cz,bp,au,hp,aP⟩
 .rintro l L ⟨b1,b3,p,az,cz,hl,hL,hp,hc⟩;refine ak ?_;refine W.le ?_ hl hL;clear hl hL;refine' cM
  all_goals try refine cI
  refine W.bK (λm l L=>∃(i b1 b3:Nat)(p az:aS)(cz:Nat),Le [(1,bk b1),(3,bk b3),(26,.slice a' f.ae.length c'),(27,iv (f.ae.length:Int)),(28,iv (i:Int))] l/\cx [.box b1 (qb a c f.ad a' c' f.ae) 26 false,.box b3 [.pointer p,.slice az (f.ad.flatMap dq++(f.ae.take i).flatMap eR).length cz] 86 false,.aQ (.slice az (f.ad.flatMap dq++(f.ae.take i).flatMap eR).length cz) 5 1 (ai (f.ad.flatMap dq++(f.ae.take i).flatMap eR))] L/\m=f.ae.length-i/\i<=f.ae.length/\(p=none\/p=some ⟨b3,0,none⟩)/\(cz=0\/cz=dS))
   (λl L=>∃(b3:Nat)(p az:aS)(cz:Nat),Le [(3,bk b3)] l/\cx [.box b3 [.pointer p,.slice az f.a8.length cz] 86 false,.aQ (.slice az f.a8.length cz) 5 1 (ai f.a8)] L/\(cz=0\/cz=dS)) _ ⟨0,_,_,p,az,cz,bp,by(rw[List.take_zero,py,gJ];exact au),rfl,af,hp,hc⟩ ?_ ?_
  .rintro m l L ⟨i,b1,b3,p,az,cz,hl,hL,rfl,g1,hp,hc⟩;refine W.le ?_ hl hL;clear hl hL;by_cases hi:i<f.ae.length
   .have hx:=hf.th _ (aL hi aq.ah);have hle:=lj eR 10000 (f.ae.take i) λx hx=>htb x (B2 hx)
    (have N4:(f.ae.take i).length<=16:=by rw[cO];omega);have agh:((f.ae.take i).flatMap eR).length<=160000:=gu hle (wE 10000 N4);have Dc:=gN (f.ae.getD i aq.ah).id af;have amA:=gN ((f.ae.getD i aq.ah).a8.length:Nat) af;have hNN:(f.ad.flatMap dq).length<=144000:=by omega
    cases vu:(f.ae.getD i aq.ah).aN with
    |true=>
     have Lh:f.ad.flatMap dq++(f.ae.take (i+1)).flatMap eR=(f.ad.flatMap dq++(f.ae.take i).flatMap eR)++dec (f.ae.getD i aq.ah).id++[32,100,10]:=by
      rw[lK eR hi aq.ah];unfold eR;rw[vu,if_pos rfl];simp only[iL];rfl
     refine' zai;(all_goals try refine nU);all_goals refine' zaQ
    |false=>
     have Lh:f.ad.flatMap dq++(f.ae.take (i+1)).flatMap eR=(f.ad.flatMap dq++(f.ae.take i).flatMap eR)++dec (f.ae.getD i aq.ah).id++([32,102]++dec ((f.ae.getD i aq.ah).a8.length:Nat)++[32]++(f.ae.getD i aq.ah).a8++[10]):=by
      rw[lK eR hi aq.ah];unfold eR;rw[vu,if_neg iB];simp only[iL]
     refine' zai;(all_goals try refine nU);all_goals refine' zaQ
   .have fb:i=f.ae.length:=by omega
    subst fb;rw[fU];refine' cM;(all_goals try refine cI);all_goals exact⟨_,p,az,cz,bp,au,aP⟩
  .rintro l L ⟨b3,p,az,cz,hl,hL,hc⟩;refine ak ?_;refine W.le ?_ hl hL;clear hl hL;have hT:=lj eR 10000 f.ae htb;have hT2:f.ae.length*10000<=160000:=wE 10000 qM;have hN2:f.ad.length*1000<=144000:=wE 1000 pJ;have Vn:0<f.a8.length:=by unfold Flat.a8;rw[bn];omega
   (have lQ:f.a8.length<=1000000:=by unfold Flat.a8;rw[bn];omega);refine W.age (a:=az) (n:=f.a8.length) (c:=cz) (by exact iV _ ga) Vn λgh=>?_
   obtain rfl:=hc.resolve_left gh;generalize f.a8=z at *
   (repeat' (first|refine' aZ|((with_reducible apply WO.agd);exact aD;exact dU;(intro s;exact Qq s _ _ _ _ aP aP);intros)|refine' av|fail));(all_goals refine' ax);all_goals rfl
theorem zY (s:St)(a:aS)(c:Nat)(a':aS)(c':Nat)(f:Flat)(hf:gH f)(h0:Ul f=true->0<f.ad.length)(hg:yg s)(hr:eU s a a' f):bL 5 [vD a c a' c' f] s (qV a a'++[4]) (sv (if Ul f=true then f.a8 else [])):=by
 refine' zaB;have hdg:R6 ⟨s,([]:dy).flatMap It.cr,qV a a'++[4]⟩:=R6.of hg ay;have Kq:∀s,eU s a a' f->bL 9 [vD a c a' c' f] s (qV a a') (.bool (Ul f)):=λs hr=>yd s a c a' c' f hf.e hr
 cases gd:Ul f with
 |true=>
  rw[gd] at Kq;have vu:=Kq;have Cb:∀s,yg s->eU s a a' f->bL 13 [vD a c a' c' f] s (qV a a'++[4]) (sv f.a8):=λs hg hr=>ZT s a c a' c' f hf (h0 gd) hg hr
  rw[if_pos rfl];generalize f.a8=z at *
  refine aX f5 ?_;(repeat' (first|refine' aZ|((with_reducible apply WO.lg);exact aD;(intro s hr;exact vu s hr);exact fD;intros)|((with_reducible apply WO.wA);exact aD;assumption;(intro s hg hr;exact Cb s hg hr);exact fD;intros)|refine' av|fail));all_goals try refine cI
  all_goals refine' ax
  all_goals rfl
 |false=>
  rw[gd] at Kq;have vu:=Kq;rw[if_neg iB];refine aX f5 ?_;(repeat' (first|refine' aZ|((with_reducible apply WO.lg);exact aD;(intro s hr;exact vu s hr);exact fD;intros)|refine' av|fail));all_goals try refine cI
  all_goals refine' ax
  all_goals rfl
theorem Qs (s:St)(a:aS)(c:Nat)(a':aS)(c':Nat)(f:Flat)(hf:gH f)(hr:eU s a a' f):bL 15 [vD a c a' c' f] s (qV a a') (sv f.a8):=by
 have pL:=iw.n hr;have sj:=iw.t hr;have pJ:=hf.nl;have qM:=hf.tl;have hnb:∀x∈f.ad,(dq x).length<=1000:=λx hx=>by
  have h1:=hf.nm x hx;have h2:=gN x.id af;have h3:=h1.1.1;unfold dq;simp only[bn,cU,kC];omega
 refine' zaL;have hN:=lj dq 1000 f.ad hnb;refine aX f15 ?_;refine' cM;all_goals try refine cI
 refine W.bK (λm l L=>∃(i b1:Nat),Le [(1,bk b1),(3,sv ((f.ad.take i).flatMap dq)),(4,iv (i:Int))] l/\cx [.box b1 (qb a c f.ad a' c' f.ae) 26 false] L/\m=f.ad.length-i/\i<=f.ad.length)
  (λl L=>∃(b1:Nat),Le [(1,bk b1),(3,sv (f.ad.flatMap dq))] l/\cx [.box b1 (qb a c f.ad a' c' f.ae) 26 false] L) _ ⟨0,_,bp,au,rfl,af⟩ ?_ ?_
 .rintro m l L ⟨i,b1,hl,hL,rfl,g1⟩;refine W.le ?_ hl hL;clear hl hL;by_cases hi:i<f.ad.length
  .have hx:=hf.nm _ (aL hi aq.ah);have h3:=hx.1.1;have hle:=lj dq 1000 (f.ad.take i) λx hx=>hnb x (B2 hx)
   have N4:(f.ad.take i).length<=1000:=by rw[cO];omega
   have agh:((f.ad.take i).flatMap dq).length<=1000000:=gu hle (wE 1000 N4);have Dc:=gN (f.ad.getD i aq.ah).id af;have Lh:(f.ad.take (i+1)).flatMap dq=(f.ad.take i).flatMap dq++(f.ad.getD i aq.ah).ag++[32]++dec (f.ad.getD i aq.ah).id++[10]:=by
    rw[lK dq hi aq.ah];unfold dq;simp only[iL]
   (repeat' (first|refine' aZ|refine' Pm|refine' av|fail));(all_goals try refine cI);all_goals exact⟨_,af,i+1,_,by(rw[Lh];exact bp),au,rfl,af⟩
  .have fb:i=f.ad.length:=by omega
   subst fb;rw[fU];refine' cM;(all_goals try refine cI);all_goals exact⟨_,bp,au⟩
 .rintro l L ⟨b1,hl,hL⟩;refine ak ?_;refine W.le ?_ hl hL;clear hl hL;refine' cM
  all_goals try refine cI
  refine W.bK (λm l L=>∃(i b1:Nat),Le [(1,bk b1),(3,sv (f.ad.flatMap dq++(f.ae.take i).flatMap eR)),(5,iv (i:Int))] l/\cx [.box b1 (qb a c f.ad a' c' f.ae) 26 false] L/\m=f.ae.length-i/\i<=f.ae.length)
   (λl L=>Le [(3,sv f.a8)] l/\cx [] L) _ ⟨0,_,by(rw[List.take_zero,py,gJ];exact bp),au,rfl,af⟩ ?_ ?_
  .rintro m l L ⟨i,b1,hl,hL,rfl,g1⟩;refine W.le ?_ hl hL;clear hl hL;by_cases hi:i<f.ae.length
   .have hx:=hf.th _ (aL hi aq.ah);have hle:=lj eR 10000 (f.ae.take i) λx hx=>htb x (B2 hx)
    (have N4:(f.ae.take i).length<=1000:=by rw[cO];omega);have agh:((f.ae.take i).flatMap eR).length<=10000000:=gu hle (wE 10000 N4);have Dc:=gN (f.ae.getD i aq.ah).id af;have amA:=gN ((f.ae.getD i aq.ah).a8.length:Nat) af;have hNN:(f.ad.flatMap dq).length<=1000000:=by omega
    cases vu:(f.ae.getD i aq.ah).aN with
    |true=>
     have Lh:f.ad.flatMap dq++(f.ae.take (i+1)).flatMap eR=f.ad.flatMap dq++(f.ae.take i).flatMap eR++dec (f.ae.getD i aq.ah).id++[32,100]++[10]:=by
      rw[lK eR hi aq.ah];unfold eR;rw[vu,if_pos rfl];simp only[iL]
     refine' zaZ
    |false=>
     have Lh:f.ad.flatMap dq++(f.ae.take (i+1)).flatMap eR=f.ad.flatMap dq++(f.ae.take i).flatMap eR++dec (f.ae.getD i aq.ah).id++[32,102]++dec ((f.ae.getD i aq.ah).a8.length:Nat)++[32]++(f.ae.getD i aq.ah).a8++[10]:=by
      rw[lK eR hi aq.ah];unfold eR;rw[vu,if_neg iB];simp only[iL]
     refine' zaZ
   .have fb:i=f.ae.length:=by omega
    subst fb;rw[fU];refine' cM;(all_goals try refine cI);all_goals exact⟨bp,au⟩
  .rintro l L ⟨hl,hL⟩;refine ak ?_;refine W.le ?_ hl hL;clear hl hL;refine' cM
   (all_goals refine' ax);all_goals rfl
theorem Kr (s:St)(a:aS)(c:Nat)(a':aS)(c':Nat)(f:Flat)(hf:gH f)(hr:eU s a a' f):bL 6 [vD a c a' c' f] s (qV a a') (sv (if f.ok=true then f.a8 else [])):=by
 have pL:=iw.n hr;have sj:=iw.t hr;have Kq:∀s,eU s a a' f->bL 14 [vD a c a' c' f] s (qV a a') (.bool f.ok):=λs hr=>Gi s a c a' c' f hf.s hr
 have Cb:∀s,eU s a a' f->bL 15 [vD a c a' c' f] s (qV a a') (sv f.a8):=λs hr=>Qs s a c a' c' f hf hr
 cases gd:f.ok with
 |true=>
  rw[gd] at Kq;have vu:=Kq;rw[if_pos rfl];generalize f.a8=z at *
  refine aX f6 ?_;(repeat' (first|refine' aZ|((with_reducible apply WO.lg);exact aD;(intro s hr;exact vu s hr);exact fD;intros)|((with_reducible apply WO.lg);exact aD;(intro s hr;exact Cb s hr);exact fD;intros)|refine' av|fail));all_goals try refine cI
  all_goals refine' ax
  all_goals rfl
 |false=>
  rw[gd] at Kq;have vu:=Kq;rw[if_neg iB];refine aX f6 ?_;(repeat' (first|refine' aZ|((with_reducible apply WO.lg);exact aD;(intro s hr;exact vu s hr);exact fD;intros)|refine' av|fail));all_goals try refine cI
  all_goals refine' ax
  all_goals rfl
theorem U5 (s:St)(a:aS)(c:Nat)(a2:aS)(c2:Nat)(p q:List bE)(hp:p.length<=100000)(hq:q.length<=100000)(hr:bM s a p.length 2 (ai p))(mG:bM s a2 q.length 2 (ai q)):bL 25 [.slice a p.length c,.slice a2 q.length c2] s (aj a++aj a2) (.bool (decide (p=q))):=by
 refine' zaA
 .refine aX f25 ?_;refine' cM
  all_goals try refine cI
  refine' zah
  .rintro m l L ⟨i,lQ,hL,rfl,h1,h2⟩;refine W.le ?_ lQ hL;clear lQ hL;by_cases hi:i<p.length
   .have tp:i<q.length:=by omega
    by_cases hb:p.getD i aq.ah=q.getD i aq.ah
    .have he:(!decide (p.getD i aq.ah=q.getD i aq.ah))=false:=by rw[du hb];rfl
     (repeat' (first|refine' aZ|((with_reducible apply WO.afN);exact fS;exact fS;intro _)|refine' av|fail));(all_goals try refine nU);all_goals refine' zav
    .have he:(!decide (p.getD i aq.ah=q.getD i aq.ah))=true:=by rw[ec hb];rfl
     (repeat' (first|refine' aZ|((with_reducible apply WO.afN);exact fS;exact fS;intro _)|refine' av|fail));(all_goals try refine nU);refine' zaM
   ·(refine' cM)
    (all_goals try refine cI);all_goals exact⟨bp,au,λj hj=>h2 j af⟩
  .rintro l L ⟨lQ,hL,h2⟩;refine ak ?_;refine W.le ?_ lQ hL;clear lQ hL;have e:decide (p=q)=true:=du (List.ext_getElem hl λj h3 h4=>by
    have:=h2 j h3
    rwa [a7,a7,bc h3,bc h4] at this)
   rw[e];refine' cM;(all_goals refine' ax);all_goals rfl
 .have e:decide (p=q)=false:=ec λh=>hl (eC List.length h)
  rw[e];refine aX f25 ?_;refine' cM;all_goals try refine cI
  all_goals refine' ax
  all_goals rfl
theorem U6 (s:St)(a:aS)(c:Nat)(a2:aS)(c2:Nat)(p q:gD)(hp:p.length<=100000)(hq:q.length<=100000)(hr:bM s a p.length 3 (ai p))(mG:bM s a2 q.length 3 (ai q)):bL 26 [.slice a p.length c,.slice a2 q.length c2] s (aj a++aj a2) (.bool (decide (p=q))):=by
 refine' zaA
 .refine aX f26 ?_;refine' cM
  all_goals try refine cI
  refine' zah
  .rintro m l L ⟨i,lQ,hL,rfl,h1,h2⟩;refine W.le ?_ lQ hL;clear lQ hL;by_cases hi:i<p.length
   .have tp:i<q.length:=by omega
    by_cases hb:p.getD i aq.ah=q.getD i aq.ah
    .have he:(!decide (p.getD i aq.ah=q.getD i aq.ah))=false:=by rw[du hb];rfl
     (repeat' (first|refine' aZ|((with_reducible apply WO.ajd);exact fS;exact fS;intro _)|refine' av|fail));(all_goals try refine nU);all_goals refine' zav
    .have he:(!decide (p.getD i aq.ah=q.getD i aq.ah))=true:=by rw[ec hb];rfl
     (repeat' (first|refine' aZ|((with_reducible apply WO.ajd);exact fS;exact fS;intro _)|refine' av|fail));(all_goals try refine nU);refine' zaM
   ·(refine' cM)
    (all_goals try refine cI);all_goals exact⟨bp,au,λj hj=>h2 j af⟩
  .rintro l L ⟨lQ,hL,h2⟩;refine ak ?_;refine W.le ?_ lQ hL;clear lQ hL;have e:decide (p=q)=true:=du (List.ext_getElem hl λj h3 h4=>by
    have:=h2 j h3
    rwa [a7,a7,bc h3,bc h4] at this)
   rw[e];refine' cM;(all_goals refine' ax);all_goals rfl
 .have e:decide (p=q)=false:=ec λh=>hl (eC List.length h)
  rw[e];refine aX f26 ?_;refine' cM;all_goals try refine cI
  all_goals refine' ax
  all_goals rfl
theorem Ks (s:St)(a:aS)(c:Nat)(a':aS)(c':Nat)(b:aS)(d:Nat)(b':aS)(d':Nat)(f g:Flat)(l1:f.ad.length<=1000)(l2:f.ae.length<=1000)(l3:g.ad.length<=1000)(l4:g.ae.length<=1000)(h1:eU s a a' f)(h2:eU s b b' g):
  bL 10 [vD a c a' c' f,vD b d b' d' g] s ((aj a++aj a')++(aj b++aj b')) (.bool (decide (f.ad=g.ad)&&decide (f.ae=g.ae))):=by
 have hd1:=Rd.of (A:=(aj a++aj a')++(aj b++aj b')) h1.n λ_ hb=>cA _ (cA _ hb)
 have OP:=Rd.of (A:=(aj a++aj a')++(aj b++aj b')) h1.t λ_ hb=>cA _ (dt _ hb)
 have hd3:=Rd.of (A:=(aj a++aj a')++(aj b++aj b')) h2.n λ_ hb=>dt _ (cA _ hb)
 have hd4:=Rd.of (A:=(aj a++aj a')++(aj b++aj b')) h2.t λ_ hb=>dt _ (dt _ hb)
 have he1:=λs h1 h2=>U5 s a c b d f.ad g.ad af af h1 h2
 have he2:=λs h1 h2=>U6 s a' c' b' d' f.ae g.ae af af h1 h2
 generalize decide (f.ad=g.ad)=r1 at *
 generalize decide (f.ae=g.ae)=r2 at *
 cases r1
 .refine aX f10 ?_;(repeat' (first|refine' aZ|((with_reducible apply WO.JN);exact aD;(intro s h1 h2;exact he1 s h1 h2);exact cD;exact cD;intros)|refine' av|fail))
  all_goals try refine nU
  all_goals refine' ax
  all_goals rfl
 .refine aX f10 ?_;(repeat' (first|refine' aZ|((with_reducible apply WO.JN);exact aD;(intro s h1 h2;exact he1 s h1 h2);exact cD;exact cD;intros)|((with_reducible apply WO.JN);exact aD;(intro s h1 h2;exact he2 s h1 h2);exact cD;exact cD;intros)|refine' av|fail))
  all_goals try refine nU
  all_goals refine' ax
  all_goals rfl
theorem NV (s:St)(a:aS)(c:Nat)(p:List aC)(z:aC)(hp:p.length<=1000)(hn:∀x∈p,z≠x)(hr:bM s a p.length 1 (ai p)):bL 73 [.slice a p.length c,sv z] s (aj a) (iv (-1)):=by
 have hd:=Rd.of hr (A:=aj a) λb hb=>hb
 refine aX f73 ?_;refine' cM;all_goals try refine cI
 refine W.bK (λm l L=>∃(i:Nat),Le [(0,.slice a p.length c),(1,sv z),(7,iv (p.length:Int)),(8,iv (i:Int))] l/\cx [] L/\m=p.length-i/\i<=p.length)
  (λl L=>Le [] l/\cx [] L) _ ⟨0,bp,au,rfl,af⟩ ?_ ?_
 .rintro m l L ⟨i,lQ,hL,rfl,h1⟩;refine W.le ?_ lQ hL;clear lQ hL;by_cases hi:i<p.length
  .have hb:=hn _ (aL hi aq.ah);refine' cM
   (all_goals try refine nU);all_goals exact⟨_,af,i+1,bp,au,rfl,af⟩
  ·(refine' cM)
   (all_goals try refine cI);all_goals exact⟨bp,au⟩
 .rintro l L ⟨lQ,hL⟩;refine ak ?_;refine W.le ?_ lQ hL;clear lQ hL;refine' cM
  all_goals refine' ax
  all_goals rfl
end Go.Pl
