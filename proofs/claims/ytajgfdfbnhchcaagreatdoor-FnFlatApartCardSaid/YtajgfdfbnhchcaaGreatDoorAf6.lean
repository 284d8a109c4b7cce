/- Lemmas of the proof. No conditions. -/
import Derived.Test.YtajgfdfbnhchcaaGreatDoorAf5
set_option maxRecDepth 100000
set_option maxHeartbeats 4000000
set_option linter.unusedVariables false
set_option linter.unusedSimpArgs false
open Go.Proofs.Tryz
namespace Go.Proofs
open Go.Shelf
def Tryz.Ns:Go.Shelf.Ren:=⟨λ|213=>81|265=>125|n=>n,λ|9=>9|3=>3|n=>n,λ|n=>n⟩
theorem Tryz.abN:Go.Proofs.Lays.n213 Tryz.prog Tryz.Ns:={
 mixed:=by kernel_rfl
 f213:=Tryz.func81.trans (fI some cV)
 f265:=Tryz.func125.trans (fI some cV)
 t3:=Tryz.underlying3
 a3:=Tryz.isAgg3
 z3:=Tryz.sizeOf3
 v3:=Tryz.zeroValue3
 t9:=Tryz.underlying9
 a9:=Tryz.isAgg9
 z9:=Tryz.sizeOf9
 v9:=Tryz.zeroValue9}
def Tryz.Nt:Go.Shelf.Ren:=⟨λ|106=>44|213=>81|265=>125|n=>n,λ|9=>9|3=>3|n=>n,λ|n=>n⟩
theorem Tryz.abO:Go.Proofs.Lays.n106 Tryz.prog Tryz.Nt:={
 mixed:=by kernel_rfl
 f106:=Tryz.func44.trans (fI some cV)
 f213:=Tryz.func81.trans (fI some cV)
 f265:=Tryz.func125.trans (fI some cV)
 t3:=Tryz.underlying3
 a3:=Tryz.isAgg3
 z3:=Tryz.sizeOf3
 v3:=Tryz.zeroValue3
 t9:=Tryz.underlying9
 a9:=Tryz.isAgg9
 z9:=Tryz.sizeOf9
 v9:=Tryz.zeroValue9}
def Tryz.PV:Go.Shelf.Ren:=⟨λ|5=>66|7=>101|n=>n,λ|22=>3|3=>3|4=>4|n=>n,λ|n=>n⟩
theorem Tryz.afF:Go.Proofs.SlLaysC2.n5 Tryz.prog Tryz.PV:={
 mixed:=by kernel_rfl
 f5:=⟨Tryz.f66.name,by decide,Tryz.func66.trans (fI some cV)⟩
 f7:=⟨Tryz.f101.name,by decide,Tryz.func101.trans (fI some cV)⟩
 t3:=Tryz.underlying3
 a3:=Tryz.isAgg3
 z3:=Tryz.sizeOf3
 v3:=Tryz.zeroValue3
 t4:=Tryz.underlying4
 a4:=Tryz.isAgg4
 z4:=Tryz.sizeOf4
 v4:=Tryz.zeroValue4
 t22:=Tryz.underlying3
 a22:=Tryz.isAgg3
 z22:=Tryz.sizeOf3
 v22:=Tryz.zeroValue3}
def Tryz.BG:Go.Shelf.Ren:=⟨λ|105=>87|212=>127|99=>128|165=>129|166=>130|170=>131|169=>132|263=>179|264=>180|206=>142|240=>181|241=>182|276=>214|277=>215|n=>n,λ|9=>9|3=>3|4=>4|20=>20|0=>0|46=>132|109=>165|5=>5|72=>169|76=>173|51=>217|146=>218|53=>220|148=>221|70=>167|37=>22|75=>172|127=>223|164=>246|80=>175|n=>n,λ|n=>n⟩
theorem Tryz.zQ:Go.Proofs.Lays.n105 Tryz.prog Tryz.BG:={
 mixed:=by kernel_rfl
 f99:=Tryz.func128.trans (fI some cV)
 f105:=Tryz.func87.trans (fI some cV)
 f165:=Tryz.func129.trans (fI some cV)
 f166:=Tryz.func130.trans (fI some cV)
 f169:=Tryz.func132.trans (fI some cV)
 f170:=Tryz.func131.trans (fI some cV)
 f206:=Tryz.func142.trans (fI some cV)
 f212:=Tryz.func127.trans (fI some cV)
 f240:=Tryz.func181.trans (fI some cV)
 f241:=Tryz.func182.trans (fI some cV)
 f263:=Tryz.func179.trans (fI some cV)
 f264:=Tryz.func180.trans (fI some cV)
 f276:=Tryz.func214.trans (fI some cV)
 f277:=Tryz.func215.trans (fI some cV)
 t0:=Tryz.underlying0
 a0:=Tryz.isAgg0
 z0:=Tryz.sizeOf0
 v0:=Tryz.zeroValue0
 t3:=Tryz.underlying3
 a3:=Tryz.isAgg3
 z3:=Tryz.sizeOf3
 v3:=Tryz.zeroValue3
 t4:=Tryz.underlying4
 a4:=Tryz.isAgg4
 z4:=Tryz.sizeOf4
 v4:=Tryz.zeroValue4
 t5:=Tryz.underlying5
 a5:=Tryz.isAgg5
 z5:=Tryz.sizeOf5
 v5:=Tryz.zeroValue5
 t9:=Tryz.underlying9
 a9:=Tryz.isAgg9
 z9:=Tryz.sizeOf9
 v9:=Tryz.zeroValue9
 t20:=Tryz.underlying20
 a20:=Tryz.isAgg20
 z20:=Tryz.sizeOf20
 v20:=Tryz.zeroValue20
 t37:=Tryz.underlying22
 a37:=Tryz.isAgg22
 z37:=Tryz.sizeOf22
 v37:=Tryz.zeroValue22
 t46:=Tryz.underlying132
 a46:=Tryz.isAgg132
 z46:=Tryz.sizeOf132
 v46:=Tryz.zeroValue132
 t51:=Tryz.underlying217
 a51:=Tryz.isAgg217
 z51:=Tryz.sizeOf217
 v51:=Tryz.zeroValue217
 t53:=Tryz.underlying220
 a53:=Tryz.isAgg220
 z53:=Tryz.sizeOf220
 v53:=Tryz.zeroValue220
 t70:=Tryz.underlying167
 a70:=Tryz.isAgg167
 z70:=Tryz.sizeOf167
 v70:=Tryz.zeroValue167
 t72:=Tryz.underlying169
 a72:=Tryz.isAgg169
 z72:=Tryz.sizeOf169
 v72:=Tryz.zeroValue169
 t75:=Tryz.underlying172
 a75:=Tryz.isAgg172
 z75:=Tryz.sizeOf172
 v75:=Tryz.zeroValue172
 t76:=Tryz.underlying173
 a76:=Tryz.isAgg173
 z76:=Tryz.sizeOf173
 v76:=Tryz.zeroValue173
 t109:=Tryz.underlying165
 a109:=Tryz.isAgg165
 z109:=Tryz.sizeOf165
 v109:=Tryz.zeroValue165
 t127:=Tryz.underlying223
 a127:=Tryz.isAgg223
 z127:=Tryz.sizeOf223
 v127:=Tryz.zeroValue223
 t146:=Tryz.underlying218
 a146:=Tryz.isAgg218
 z146:=Tryz.sizeOf218
 v146:=Tryz.zeroValue218
 t148:=Tryz.underlying221
 a148:=Tryz.isAgg221
 z148:=Tryz.sizeOf221
 v148:=Tryz.zeroValue221
 t164:=Tryz.underlying246
 a164:=Tryz.isAgg246
 z164:=Tryz.sizeOf246
 v164:=Tryz.zeroValue246}
theorem Tryz.zR:Builder.Extra Tryz.prog Tryz.BG:={
 sizeBuilder:=by kernel_rfl
 liesBuilder:=by kernel_rfl
 t5:=Tryz.zQ.t5
 a5:=Tryz.zQ.a5
 z5:=Tryz.zQ.z5
 v5:=Tryz.zQ.v5
 infoByte:=by kernel_rfl
 cellsByte:=by kernel_rfl
 sizeByte:=by kernel_rfl
 neB5:=by decide}
def Tryz.Ur:Go.Shelf.Ren:=⟨λ|6=>135|15=>184|14=>183|28=>224|29=>225|20=>216|21=>217|22=>218|23=>219|24=>220|25=>221|26=>222|27=>223|46=>251|47=>252|48=>253|49=>254|50=>255|57=>266|n=>n,λ|22=>23|24=>39|25=>179|3=>3|39=>132|0=>0|53=>217|55=>220|4=>4|46=>251|45=>250|50=>31|5=>5|9=>9|66=>271|70=>275|76=>288|77=>191|n=>n,λ|n=>n⟩
theorem Tryz.gT:Go.Proofs.SlLaysF0.n6 Tryz.prog Tryz.Ur:={
 mixed:=by kernel_rfl
 f6:=⟨Tryz.f135.name,by decide,Tryz.func135.trans (fI some cV)⟩
 f14:=⟨Tryz.f183.name,by decide,Tryz.func183.trans (fI some cV)⟩
 f15:=Tryz.func184.trans (fI some cV)
 f20:=⟨Tryz.f216.name,by decide,Tryz.func216.trans (fI some cV)⟩
 f21:=⟨Tryz.f217.name,by decide,Tryz.func217.trans (fI some cV)⟩
 f22:=⟨Tryz.f218.name,by decide,Tryz.func218.trans (fI some cV)⟩
 f23:=⟨Tryz.f219.name,by decide,Tryz.func219.trans (fI some cV)⟩
 f24:=⟨Tryz.f220.name,by decide,Tryz.func220.trans (fI some cV)⟩
 f25:=⟨Tryz.f221.name,by decide,Tryz.func221.trans (fI some cV)⟩
 f26:=⟨Tryz.f222.name,by decide,Tryz.func222.trans (fI some cV)⟩
 f27:=⟨Tryz.f223.name,by decide,Tryz.func223.trans (fI some cV)⟩
 f28:=Tryz.func224.trans (fI some cV)
 f29:=Tryz.func225.trans (fI some cV)
 f46:=⟨Tryz.f251.name,by decide,Tryz.func251.trans (fI some cV)⟩
 f47:=Tryz.func252.trans (fI some cV)
 f48:=Tryz.func253.trans (fI some cV)
 f49:=⟨Tryz.f254.name,by decide,Tryz.func254.trans (fI some cV)⟩
 f50:=⟨Tryz.f255.name,by decide,Tryz.func255.trans (fI some cV)⟩
 f57:=⟨Tryz.f266.name,by decide,Tryz.func266.trans (fI some cV)⟩
 t0:=Tryz.underlying0
 a0:=Tryz.isAgg0
 z0:=Tryz.sizeOf0
 v0:=Tryz.zeroValue0
 t3:=Tryz.underlying3
 a3:=Tryz.isAgg3
 z3:=Tryz.sizeOf3
 v3:=Tryz.zeroValue3
 t4:=Tryz.underlying4
 a4:=Tryz.isAgg4
 z4:=Tryz.sizeOf4
 v4:=Tryz.zeroValue4
 t5:=Tryz.underlying5
 a5:=Tryz.isAgg5
 z5:=Tryz.sizeOf5
 v5:=Tryz.zeroValue5
 t9:=Tryz.underlying9
 a9:=Tryz.isAgg9
 z9:=Tryz.sizeOf9
 v9:=Tryz.zeroValue9
 t22:=Tryz.underlying23
 a22:=Tryz.isAgg23
 z22:=Tryz.sizeOf23
 v22:=Tryz.zeroValue23
 t25:=Tryz.underlying179
 a25:=Tryz.isAgg179
 z25:=Tryz.sizeOf179
 v25:=Tryz.zeroValue179
 t39:=Tryz.underlying132
 a39:=Tryz.isAgg132
 z39:=Tryz.sizeOf132
 v39:=Tryz.zeroValue132
 t45:=Tryz.underlying250
 a45:=Tryz.isAgg250
 z45:=Tryz.sizeOf250
 v45:=Tryz.zeroValue250
 t46:=Tryz.underlying251
 a46:=Tryz.isAgg251
 z46:=Tryz.sizeOf251
 v46:=Tryz.zeroValue251
 t50:=Tryz.underlying31
 a50:=Tryz.isAgg31
 z50:=Tryz.sizeOf31
 v50:=Tryz.zeroValue31
 t53:=Tryz.underlying217
 a53:=Tryz.isAgg217
 z53:=Tryz.sizeOf217
 v53:=Tryz.zeroValue217
 t55:=Tryz.underlying220
 a55:=Tryz.isAgg220
 z55:=Tryz.sizeOf220
 v55:=Tryz.zeroValue220
 t66:=Tryz.underlying271
 a66:=Tryz.isAgg271
 z66:=Tryz.sizeOf271
 v66:=Tryz.zeroValue271
 t70:=Tryz.underlying275
 a70:=Tryz.isAgg275
 z70:=Tryz.sizeOf275
 v70:=Tryz.zeroValue275
 t76:=Tryz.underlying288
 a76:=Tryz.isAgg288
 z76:=Tryz.sizeOf288
 v76:=Tryz.zeroValue288
 t77:=Tryz.underlying191
 a77:=Tryz.isAgg191
 z77:=Tryz.sizeOf191
 v77:=Tryz.zeroValue191}
def Tryz.Us:Go.Shelf.Ren:=⟨λ|6=>137|15=>184|14=>185|28=>224|29=>225|20=>226|21=>227|22=>228|23=>229|24=>230|25=>231|26=>232|27=>233|46=>256|47=>252|48=>253|49=>257|50=>258|57=>267|n=>n,λ|22=>24|24=>61|25=>181|3=>3|39=>132|0=>0|53=>217|55=>220|4=>4|46=>251|45=>250|50=>31|5=>5|9=>9|66=>271|70=>275|76=>288|77=>191|n=>n,λ|n=>n⟩
theorem Tryz.gZ:Go.Proofs.SlLaysF0.n6 Tryz.prog Tryz.Us:={
 mixed:=by kernel_rfl
 f6:=⟨Tryz.f137.name,by decide,Tryz.func137.trans (fI some cV)⟩
 f14:=⟨Tryz.f185.name,by decide,Tryz.func185.trans (fI some cV)⟩
 f15:=Tryz.func184.trans (fI some cV)
 f20:=⟨Tryz.f226.name,by decide,Tryz.func226.trans (fI some cV)⟩
 f21:=⟨Tryz.f227.name,by decide,Tryz.func227.trans (fI some cV)⟩
 f22:=⟨Tryz.f228.name,by decide,Tryz.func228.trans (fI some cV)⟩
 f23:=⟨Tryz.f229.name,by decide,Tryz.func229.trans (fI some cV)⟩
 f24:=⟨Tryz.f230.name,by decide,Tryz.func230.trans (fI some cV)⟩
 f25:=⟨Tryz.f231.name,by decide,Tryz.func231.trans (fI some cV)⟩
 f26:=⟨Tryz.f232.name,by decide,Tryz.func232.trans (fI some cV)⟩
 f27:=⟨Tryz.f233.name,by decide,Tryz.func233.trans (fI some cV)⟩
 f28:=Tryz.func224.trans (fI some cV)
 f29:=Tryz.func225.trans (fI some cV)
 f46:=⟨Tryz.f256.name,by decide,Tryz.func256.trans (fI some cV)⟩
 f47:=Tryz.func252.trans (fI some cV)
 f48:=Tryz.func253.trans (fI some cV)
 f49:=⟨Tryz.f257.name,by decide,Tryz.func257.trans (fI some cV)⟩
 f50:=⟨Tryz.f258.name,by decide,Tryz.func258.trans (fI some cV)⟩
 f57:=⟨Tryz.f267.name,by decide,Tryz.func267.trans (fI some cV)⟩
 t0:=Tryz.underlying0
 a0:=Tryz.isAgg0
 z0:=Tryz.sizeOf0
 v0:=Tryz.zeroValue0
 t3:=Tryz.underlying3
 a3:=Tryz.isAgg3
 z3:=Tryz.sizeOf3
 v3:=Tryz.zeroValue3
 t4:=Tryz.underlying4
 a4:=Tryz.isAgg4
 z4:=Tryz.sizeOf4
 v4:=Tryz.zeroValue4
 t5:=Tryz.underlying5
 a5:=Tryz.isAgg5
 z5:=Tryz.sizeOf5
 v5:=Tryz.zeroValue5
 t9:=Tryz.underlying9
 a9:=Tryz.isAgg9
 z9:=Tryz.sizeOf9
 v9:=Tryz.zeroValue9
 t22:=Tryz.underlying24
 a22:=Tryz.isAgg24
 z22:=Tryz.sizeOf24
 v22:=Tryz.zeroValue24
 t25:=Tryz.underlying181
 a25:=Tryz.isAgg181
 z25:=Tryz.sizeOf181
 v25:=Tryz.zeroValue181
 t39:=Tryz.underlying132
 a39:=Tryz.isAgg132
 z39:=Tryz.sizeOf132
 v39:=Tryz.zeroValue132
 t45:=Tryz.underlying250
 a45:=Tryz.isAgg250
 z45:=Tryz.sizeOf250
 v45:=Tryz.zeroValue250
 t46:=Tryz.underlying251
 a46:=Tryz.isAgg251
 z46:=Tryz.sizeOf251
 v46:=Tryz.zeroValue251
 t50:=Tryz.underlying31
 a50:=Tryz.isAgg31
 z50:=Tryz.sizeOf31
 v50:=Tryz.zeroValue31
 t53:=Tryz.underlying217
 a53:=Tryz.isAgg217
 z53:=Tryz.sizeOf217
 v53:=Tryz.zeroValue217
 t55:=Tryz.underlying220
 a55:=Tryz.isAgg220
 z55:=Tryz.sizeOf220
 v55:=Tryz.zeroValue220
 t66:=Tryz.underlying271
 a66:=Tryz.isAgg271
 z66:=Tryz.sizeOf271
 v66:=Tryz.zeroValue271
 t70:=Tryz.underlying275
 a70:=Tryz.isAgg275
 z70:=Tryz.sizeOf275
 v70:=Tryz.zeroValue275
 t76:=Tryz.underlying288
 a76:=Tryz.isAgg288
 z76:=Tryz.sizeOf288
 v76:=Tryz.zeroValue288
 t77:=Tryz.underlying191
 a77:=Tryz.isAgg191
 z77:=Tryz.sizeOf191
 v77:=Tryz.zeroValue191}
end Go.Proofs
namespace Go.Proofs
open Go Go.Ev
def T.lim {α:Type}:T α->Nat
 |.nil=>0
 |.node _ l r=>max 1 (max (2*T.lim l) (2*T.lim r+1))
theorem T.Cz {α:Type}:∀(t:T α)(n:Nat)(x:α),t.get n=some x->n<T.lim t
 |.nil,n,x,h=>by rw[T.get_nil] at h;cases h
 |.node v l r,n,x,h=>by
  rw[T.oH] at h;unfold T.lim;split at h
  .omega
  .split at h
   .have:=T.Cz l _ x h;omega
   .have:=T.Cz r _ x h;omega
theorem Nu {β:Type}{g h:Nat->β}{N:Nat}(e:(List.range N).map g=(List.range N).map h){n:Nat}(hn:n<N):g n=h n:=by
 have:=fI (λl=>l[n]?) e;simpa[BK,RL hn] using this
theorem fnL:(List.range 291).map fnT.get=(List.range 291).map (λf=>bif Nat.ble 3 f then prog.funcs[f]? else none):=by kernel_rfl
theorem fnC:((List.range 291).all λf=>match fnT.get f with|some fn=>!(fn.name== "runtime.NumGoroutine")&&(match fn.body with|some c=>codeOk fn.ntmps c|none=>true)|none=>true)=true:=by kernel_rfl
theorem tyL:(List.range 304).map tyT.get=(List.range 304).map (λt=>prog.types[t]?):=by kernel_rfl
theorem tyZ:((List.range 304).all λt=>match tyT.get t with|some i=>(match i.zero with|some z=>l6 z|none=>true)|none=>true)=true:=by kernel_rfl
theorem afG (f:Nat)(fn:Func)(h:fnT.get f=some fn):prog.funcs[f]?=some fn/\∀c,fn.body=some c->(∀args w,(callFunc f args).run prog w= .ok (.enter f args) w)/\codeOk fn.ntmps c=true:=by
 have hf:f<291:=yb (T.Cz _ _ _ h) (by decide+kernel);have h1:(bif Nat.ble 3 f then prog.funcs[f]? else none)=some fn:=(Nu fnL hf).symm.trans h;have h2:=gQ.1 fnC f (lS.2 hf);rw[h] at h2;dsimp only at h2;cases hb:Nat.ble 3 f with
 |false=>rw[hb] at h1;cases h1
 |true=>
  rw[hb] at h1;have h1:prog.funcs[f]?=some fn:=h1;refine⟨h1,λc hc=>?_⟩;rw[hc,bU] at h2;refine⟨λargs w=>?_,h2.2⟩;have h3:fn.name≠ "runtime.NumGoroutine" :=by simpa using h2.1
  simp[callFunc,h1,h3,hc,mark]
theorem ajk (t:Nat)(i:TypeInfo)(h:tyT.get t=some i):prog.info? t=some i/\∀z,i.zero=some z->∀ρ,bY ρ z=z:=by
 have hf:t<304:=yb (T.Cz _ _ _ h) (by decide+kernel);have h1:prog.types[t]?=some i:=(Nu tyL hf).symm.trans h;have h2:=gQ.1 tyZ t (lS.2 hf);rw[h] at h2;dsimp only at h2;refine⟨?_,λz hz ρ=>?_⟩
 .unfold Tables.info?;rw[if_pos (by rw[types_size];exact hf)];exact h1
 .rw[hz] at h2;exact tj ρ z h2
theorem SJ (b:Bool){t:TypeId}(h:prog.underlying t=some (.int .i64))(a:Int)(w:World):(Instr.checkKey b 9999 t (.int .i64 a)).run prog w= .ok () w:=by
 show(Instr.checkKey b (9998+1) t (.int .i64 a)).run prog w= .ok () w;unfold Instr.checkKey;simp only[Sem.run_bind,run_underlying h,Result.andThen_ok];rfl
theorem K8 (b:Bool){t:TypeId}(h:prog.underlying t=some .string)(a:ByteArray)(w:World):(Instr.checkKey b 9999 t (.string a)).run prog w= .ok () w:=by
 show(Instr.checkKey b (9998+1) t (.string a)).run prog w= .ok () w;unfold Instr.checkKey;simp only[Sem.run_bind,run_underlying h,Result.andThen_ok];rfl
theorem afH (b:Bool){t:TypeId}(h:prog.underlying t=some .bool)(a:Bool)(w:World):(Instr.checkKey b 9999 t (.bool a)).run prog w= .ok () w:=by
 show(Instr.checkKey b (9998+1) t (.bool a)).run prog w= .ok () w;unfold Instr.checkKey;simp only[Sem.run_bind,run_underlying h,Result.andThen_ok];rfl
theorem eqI {t:TypeId}(h:prog.underlying t=some (.int .i64))(a b:Int)(w:World):(Op.equalIn 9999 t (.int .i64 a) (.int .i64 b)).run prog w= .ok (a== b) w:=by
 refine' zaA
theorem eqS {t:TypeId}(h:prog.underlying t=some .string)(a b:ByteArray)(w:World):(Op.equalIn 9999 t (.string a) (.string b)).run prog w= .ok (a== b) w:=by
 refine' zaA
theorem eqB {t:TypeId}(h:prog.underlying t=some .bool)(a b:Bool)(w:World):(Op.equalIn 9999 t (.bool a) (.bool b)).run prog w= .ok (a== b) w:=by
 refine' zaA
theorem qD {a:Int}{y:Value}{e:Bool}(h:lO (.int .i64 a) y=some e):∃b,y= .int .i64 b/\e=yl a b:=by
 unfold lO at h;split at h
 .rename_i a' b e1;cases e1;exact⟨_,rfl,(j6 h).symm⟩
 .rename_i e1;cases e1
 .rename_i e1;cases e1
 .cases h
theorem Nv {a:List UInt8}{y:Value}{e:Bool}(h:lO (.string ⟨⟨a⟩⟩) y=some e):∃b,y= .string ⟨⟨b⟩⟩/\e=gp a b:=by
 unfold lO at h;split at h
 .rename_i e1;cases e1
 .rename_i a' b e1;cases e1;exact⟨_,rfl,(j6 h).symm⟩
 .rename_i e1;cases e1
 .cases h
theorem Ut {a:Bool}{y:Value}{e:Bool}(h:lO (.bool a) y=some e):∃b,y= .bool b/\e=bo a b (!b):=by
 unfold lO at h;split at h
 .rename_i e1;cases e1
 .rename_i e1;cases e1
 .rename_i a' b e1;cases e1;exact⟨_,rfl,(j6 h).symm⟩
 .cases h
theorem kI {xs:aQ}{ks:List Nat}(h:eV xs (0::ks)=true):∃a ys,xs= .int .i64 a::ys/\eV ys ks=true:=by
 cases xs with
 |nil=>cases h
 |cons v xs=>
  obtain⟨k,_,h1⟩:=mX h;obtain⟨a,rfl⟩:=Af k;exact⟨a,xs,rfl,h1⟩
theorem kS {xs:aQ}{ks:List Nat}(h:eV xs (1::ks)=true):∃a ys,xs= .string ⟨⟨a⟩⟩::ys/\eV ys ks=true:=by
 cases xs with
 |nil=>cases h
 |cons v xs=>
  obtain⟨k,_,h1⟩:=mX h;obtain⟨a,rfl⟩:=Ag k;exact⟨a,xs,rfl,h1⟩
theorem kB {xs:aQ}{ks:List Nat}(h:eV xs (2::ks)=true):∃a ys,xs= .bool a::ys/\eV ys ks=true:=by
 cases xs with
 |nil=>cases h
 |cons v xs=>
  obtain⟨k,_,h1⟩:=mX h;obtain⟨a,rfl⟩:=xg k;exact⟨a,xs,rfl,h1⟩
theorem kN {xs:aQ}(h:eV xs []=true):xs=[]:=by
 cases xs with
 |nil=>rfl
 |cons v xs=>cases h
theorem mN {ys:aQ}{r:Bool}(h:fO [] ys=some r):ys=[]/\r=true:=by
 cases ys with
 |nil=>exact⟨rfl,(j6 h).symm⟩
 |cons v xs=>cases h
theorem mC {x:Value}{xs ys:aQ}{r:Bool}(h:fO (x::xs) ys=some r):∃y zs e q,ys=y::zs/\lO x y=some e/\fO xs zs=some q/\r=bo e q false:=by
 cases ys with
 |nil=>cases h
 |cons y ys=>
  rw[lz] at h;obtain⟨e,he,g⟩:=aC h;obtain⟨q,hq,hr⟩:=aC g;exact⟨y,ys,e,q,rfl,he,hq,(j6 hr).symm⟩
theorem alX (a1:Int)(a2:Bool)(a3:List UInt8)(b1:Int)(b2:Bool)(b3:List UInt8)(w:World):(Op.equal 61 (.agg ⟨[.int .i64 a1,.bool a2,.string ⟨⟨a3⟩⟩]⟩) (.agg ⟨[.int .i64 b1,.bool b2,.string ⟨⟨b3⟩⟩]⟩)).run prog w=
  .ok (bo (yl a1 b1) (bo (bo a2 b2 (!b2)) (bo (gp a3 b3) true false) false) false) w:=by
 unfold Op.equal Op.maxDepth;simp[go_sem,Op.eqFields,bytes_beq,eqI,eqS,eqB,wv,Gk];simp only[dO,jH,eR,zZ];repeat' split
 all_goals first|rfl|simp_all
theorem ajl (a1:Int)(a2:Bool)(a3:List UInt8)(b:Bool)(w:World):(Instr.checkKey b 10000 61 (.agg ⟨[.int .i64 a1,.bool a2,.string ⟨⟨a3⟩⟩]⟩)).run prog w= .ok () w:=by
 show(Instr.checkKey b (9999+1) 61 (.agg ⟨[.int .i64 a1,.bool a2,.string ⟨⟨a3⟩⟩]⟩)).run prog w= .ok () w;unfold Instr.checkKey;simp[go_sem,SJ,K8,afH,wv,Gk]
theorem RC (xs:aQ)(h0:eV xs [0,2,1]=true):∃a1 a2 a3,xs=[.int .i64 a1,.bool a2,.string ⟨⟨a3⟩⟩]:=by
 obtain⟨a1,_,rfl,h1⟩:=kI h0;obtain⟨a2,_,rfl,h2⟩:=kB h1;obtain⟨a3,_,rfl,h3⟩:=kS h2;cases kN h3
 exact⟨a1,a2,a3,rfl⟩
theorem abP (a1:Int)(a2:Bool)(a3:List UInt8)(ys:aQ)(r0:Bool)(h0:fO [.int .i64 a1,.bool a2,.string ⟨⟨a3⟩⟩] ys=some r0):∃b1 b2 b3,ys=[.int .i64 b1,.bool b2,.string ⟨⟨b3⟩⟩]/\r0=bo (yl a1 b1) (bo (bo a2 b2 (!b2)) (bo (gp a3 b3) true false) false) false:=by
 obtain⟨_,_,_,_,rfl,e0,h1,rfl⟩:=mC h0;obtain⟨b1,rfl,rfl⟩:=qD e0;obtain⟨_,_,_,_,rfl,e1,h2,rfl⟩:=mC h1;obtain⟨b2,rfl,rfl⟩:=Ut e1;obtain⟨_,_,_,_,rfl,e2,h3,rfl⟩:=mC h2;obtain⟨b3,rfl,rfl⟩:=Nv e2;obtain⟨rfl,rfl⟩:=mN h3;exact⟨b1,b2,b3,rfl,rfl⟩
theorem alY (a1:Int)(a2:Int)(a3:Int)(a4:Int)(a5:Int)(b1:Int)(b2:Int)(b3:Int)(b4:Int)(b5:Int)(w:World):(Op.equal 83 (.agg ⟨[.int .i64 a1,.int .i64 a2,.int .i64 a3,.int .i64 a4,.int .i64 a5]⟩) (.agg ⟨[.int .i64 b1,.int .i64 b2,.int .i64 b3,.int .i64 b4,.int .i64 b5]⟩)).run prog w=
  .ok (bo (yl a1 b1) (bo (yl a2 b2) (bo (yl a3 b3) (bo (yl a4 b4) (bo (yl a5 b5) true false) false) false) false) false) w:=by
 unfold Op.equal Op.maxDepth;simp[go_sem,Op.eqFields,bytes_beq,eqI,eqS,eqB,wv,Gk];simp only[dO,jH,eR,zZ];repeat' split
 all_goals first|rfl|simp_all
theorem ajm (a1:Int)(a2:Int)(a3:Int)(a4:Int)(a5:Int)(b:Bool)(w:World):(Instr.checkKey b 10000 83 (.agg ⟨[.int .i64 a1,.int .i64 a2,.int .i64 a3,.int .i64 a4,.int .i64 a5]⟩)).run prog w= .ok () w:=by
 show(Instr.checkKey b (9999+1) 83 (.agg ⟨[.int .i64 a1,.int .i64 a2,.int .i64 a3,.int .i64 a4,.int .i64 a5]⟩)).run prog w= .ok () w;unfold Instr.checkKey;simp[go_sem,SJ,K8,afH,wv,Gk]
theorem RD (xs:aQ)(h0:eV xs [0,0,0,0,0]=true):∃a1 a2 a3 a4 a5,xs=[.int .i64 a1,.int .i64 a2,.int .i64 a3,.int .i64 a4,.int .i64 a5]:=by
 obtain⟨a1,_,rfl,h1⟩:=kI h0;obtain⟨a2,_,rfl,h2⟩:=kI h1;obtain⟨a3,_,rfl,h3⟩:=kI h2;obtain⟨a4,_,rfl,h4⟩:=kI h3;obtain⟨a5,_,rfl,h5⟩:=kI h4;cases kN h5
 exact⟨a1,a2,a3,a4,a5,rfl⟩
theorem abQ (a1:Int)(a2:Int)(a3:Int)(a4:Int)(a5:Int)(ys:aQ)(r0:Bool)(h0:fO [.int .i64 a1,.int .i64 a2,.int .i64 a3,.int .i64 a4,.int .i64 a5] ys=some r0):∃b1 b2 b3 b4 b5,ys=[.int .i64 b1,.int .i64 b2,.int .i64 b3,.int .i64 b4,.int .i64 b5]/\r0=bo (yl a1 b1) (bo (yl a2 b2) (bo (yl a3 b3) (bo (yl a4 b4) (bo (yl a5 b5) true false) false) false) false) false:=by
 obtain⟨_,_,_,_,rfl,e0,h1,rfl⟩:=mC h0;obtain⟨b1,rfl,rfl⟩:=qD e0;obtain⟨_,_,_,_,rfl,e1,h2,rfl⟩:=mC h1;obtain⟨b2,rfl,rfl⟩:=qD e1;obtain⟨_,_,_,_,rfl,e2,h3,rfl⟩:=mC h2;obtain⟨b3,rfl,rfl⟩:=qD e2;obtain⟨_,_,_,_,rfl,e3,h4,rfl⟩:=mC h3;obtain⟨b4,rfl,rfl⟩:=qD e3;obtain⟨_,_,_,_,rfl,e4,h5,rfl⟩:=mC h4;obtain⟨b5,rfl,rfl⟩:=qD e4;obtain⟨rfl,rfl⟩:=mN h5;exact⟨b1,b2,b3,b4,b5,rfl,rfl⟩
theorem alZ (a1:List UInt8)(a2:Int)(b1:List UInt8)(b2:Int)(w:World):(Op.equal 39 (.agg ⟨[.string ⟨⟨a1⟩⟩,.int .i64 a2]⟩) (.agg ⟨[.string ⟨⟨b1⟩⟩,.int .i64 b2]⟩)).run prog w=
  .ok (bo (gp a1 b1) (bo (yl a2 b2) true false) false) w:=by
 unfold Op.equal Op.maxDepth;simp[go_sem,Op.eqFields,bytes_beq,eqI,eqS,eqB,wv,Gk];simp only[dO,jH,eR,zZ];repeat' split
 all_goals first|rfl|simp_all
theorem ajn (a1:List UInt8)(a2:Int)(b:Bool)(w:World):(Instr.checkKey b 10000 39 (.agg ⟨[.string ⟨⟨a1⟩⟩,.int .i64 a2]⟩)).run prog w= .ok () w:=by
 show(Instr.checkKey b (9999+1) 39 (.agg ⟨[.string ⟨⟨a1⟩⟩,.int .i64 a2]⟩)).run prog w= .ok () w;unfold Instr.checkKey;simp[go_sem,SJ,K8,afH,wv,Gk]
theorem RE (xs:aQ)(h0:eV xs [1,0]=true):∃a1 a2,xs=[.string ⟨⟨a1⟩⟩,.int .i64 a2]:=by
 obtain⟨a1,_,rfl,h1⟩:=kS h0;obtain⟨a2,_,rfl,h2⟩:=kI h1;cases kN h2
 exact⟨a1,a2,rfl⟩
theorem abR (a1:List UInt8)(a2:Int)(ys:aQ)(r0:Bool)(h0:fO [.string ⟨⟨a1⟩⟩,.int .i64 a2] ys=some r0):∃b1 b2,ys=[.string ⟨⟨b1⟩⟩,.int .i64 b2]/\r0=bo (gp a1 b1) (bo (yl a2 b2) true false) false:=by
 obtain⟨_,_,_,_,rfl,e0,h1,rfl⟩:=mC h0;obtain⟨b1,rfl,rfl⟩:=Nv e0;obtain⟨_,_,_,_,rfl,e1,h2,rfl⟩:=mC h1;obtain⟨b2,rfl,rfl⟩:=qD e1;obtain⟨rfl,rfl⟩:=mN h2;exact⟨b1,b2,rfl,rfl⟩
theorem x6 (t:TypeId)(m:String):∀(l:List (TypeId×String×FuncId)){f:FuncId},mc t m l=some f->∃p∈l,p.1=t/\p.2.1=m/\p.2.2=f
 |[],f,h=>by cases h
 |p::l,f,h=>by
  have h:bo (Nat.beq p.1 t&&decide (p.2.1=m)) (some p.2.2) (mc t m l)=some f:=h;rw[dO] at h;split at h
  .rename_i hb;rw[bU] at hb;exact⟨p,iV,o7 hb.1,yg hb.2,j6 h⟩
  .obtain⟨q,hq,h1⟩:=x6 t m l h;exact⟨q,lu _ hq,h1⟩
theorem ado:cS a8 prog where
 ty t i h:=(ajk t i h).1
 fn f x h:=(afG f x h).1
 U3:=by kernel_rfl
 agb:=by
  rw[show a8.U3=169 from rfl,underlying169];intro h;cases h
 eqs t xs h ys r hi w:=by
  refine' zav
  .obtain⟨rfl,rfl⟩:=h0;obtain⟨a1,a2,a3,rfl⟩:=RC xs hk;obtain⟨b1,b2,b3,rfl,rfl⟩:=abP a1 a2 a3 ys r hi;exact⟨alX a1 a2 a3 b1 b2 b3 w,λop ox oy=>run_eqGuard_agg w op 61 ox oy _ _ eqGuardType61⟩
  .obtain⟨rfl,rfl⟩:=h0;obtain⟨a1,a2,a3,a4,a5,rfl⟩:=RD xs hk;obtain⟨b1,b2,b3,b4,b5,rfl,rfl⟩:=abQ a1 a2 a3 a4 a5 ys r hi;exact⟨alY a1 a2 a3 a4 a5 b1 b2 b3 b4 b5 w,λop ox oy=>run_eqGuard_agg w op 83 ox oy _ _ eqGuardType83⟩
  .obtain⟨rfl,rfl⟩:=h0;obtain⟨a1,a2,rfl⟩:=RE xs hk;obtain⟨b1,b2,rfl,rfl⟩:=abR a1 a2 ys r hi;exact⟨alZ a1 a2 b1 b2 w,λop ox oy=>run_eqGuard_agg w op 39 ox oy _ _ eqGuardType39⟩
 keys t xs h b w:=by
  refine' zav
  .obtain⟨rfl,rfl⟩:=h0;obtain⟨a1,a2,a3,rfl⟩:=RC xs hk;exact ajl a1 a2 a3 b w
  .obtain⟨rfl,rfl⟩:=h0;obtain⟨a1,a2,a3,a4,a5,rfl⟩:=RD xs hk;exact ajm a1 a2 a3 a4 a5 b w
  .obtain⟨rfl,rfl⟩:=h0;obtain⟨a1,a2,rfl⟩:=RE xs hk;exact ajn a1 a2 b w
 zs t i z h hz:=(ajk t i h).2 z hz
 agc t m f h a args w:=by
  refine' zaN
 agd t m f h a w:=by
  refine' zaN
theorem Uu (c:Nat)(z:List UInt8):∀i,RR c z i=match z.findIdx? (λb=>b.toNat== c) with
  |some k=>((i+k:Nat):Int)
  |none=>-1:=by
 induction z with
 |nil=>intro i;rfl
 |cons b bs ih=>
  intro i;have h:RR c (b::bs) i=bo (Nat.beq b.toNat c) (.ofNat i) (RR c bs (i+1)):=rfl;rw[h,dO,Qc];by_cases hb:b.toNat=c
  .simp[hb]
  .simp only[CA,hb,pg,ih,zZ,jQ];cases bs.findIdx? (λb=>b.toNat== c) with
   |none=>rfl
   |some k=>
    show((i+1+k:Nat):Int)=((i+(k+1):Nat):Int)
    congr 1;omega
theorem find_range (c:UInt8):∀(z pre:List UInt8),(List.range' pre.length z.length).find? (λi=>(⟨⟨pre++z⟩⟩:ByteArray)[i]! == c)=(z.findIdx? (·== c)).map (·+pre.length)
 |[],pre=>by simp
 |b::z,pre=>by
  have ih:=find_range c z (pre++[b]);simp only[bJ,cY,mJ,nF,kG,BI,pT] at ih;rw[cY,wv,List.find?_cons,Qc];have hb:(⟨⟨pre++b::z⟩⟩:ByteArray)[pre.length]! =b:=by
   have du:pre.length<(⟨⟨pre++b::z⟩⟩:ByteArray).size:=by
    show pre.length<(pre++b::z).length;simp
   rw[A6 (⟨⟨pre++b::z⟩⟩:ByteArray) pre.length du];show(pre++b::z)[pre.length]'(by simp)=b;simp
  rw[hb,ih];by_cases hbc:(b== c)=true
  .simp[hbc]
  .simp only[hbc,pg,jQ];cases z.findIdx? (·== c) with
   |none=>rfl
   |some k=>simp;omega
theorem ajo {hk:List (Nat×xc)}(hh:∀p∈hk,mY prog p.1 p.2):VK a8 prog ⟨214,259,215,99999,5,hk⟩ where
 wD:=hh
 enter f fn c h hc:=((afG f fn h).2 c hc).1
 code f fn c h fK hc:=((afG f fn h).2 c hc).2
 sa x w:=by
  show(callFunc 214 #[x]).run prog w=_;rw[run_callFunc_extern func214 cV cV cV (e:=Extern.AbiNoEscape.same) cV];rfl
 indexByte z c w hc:=by
  show(callFunc 259 #[.string ⟨⟨z⟩⟩,.int .u8 (.ofNat c)]).run prog w=_;rw[run_callFunc_extern func259 cV cV cV (e:=Extern.BytealgIndexByte.indexByte) cV];rw[run_indexByte_string];have h1:=find_range (UInt8.ofNat c) z [];simp only[mJ,pT,wY] at h1;have h2:(z.findIdx? λb=>b.toNat== c)=z.findIdx? (·== UInt8.ofNat c):=by
   congr 1
   funext b
   rw[oZ];simp only[zZ];have Qm:(UInt8.ofNat c).toNat=c:=by simp[UInt8.toNat_ofNat,Ic hc]
   rw[<-w6,Qm]
  have h3:firstIdx ⟨⟨z⟩⟩ (Int.toNat (Int.ofNat c)).toUInt8=RR c z 0:=by
   rw[Uu,h2];unfold firstIdx;rw[show(⟨⟨z⟩⟩:ByteArray).size=z.length from rfl,List.range_eq_range'];have h4:(Int.toNat (Int.ofNat c)).toUInt8=UInt8.ofNat c:=rfl;rw[h4,h1];cases z.findIdx? (·== UInt8.ofNat c) with
   |none=>rfl
   |some k=>simp
  rw[h3];rfl
 byte:=by kernel_rfl
 sW fn h n w hn:=by
  obtain⟨cs,nV,hle,al0⟩:=Lib.run_makeNoZero (P:=prog) w #[3] 22 5 underlying22 n ag;refine⟨cs.toList,?_,?_⟩
  .show(callFunc 215 #[.int .i64 (n:Int)]).run prog w=_;rw[run_callFunc_extern func215 cV cV cV (e:=Extern.BytealgMakeNoZero.makeNoZero #[3] #[22]) cV,nV];rfl
  .exact al0 (ik hn (by decide))
 look fn h b o n c a k g i z w hi hv:=by
  have h0:a8.fn.get 99999=none:=by kernel_rfl
  have h:a8.fn.get 99999=some fn:=h;rw[h0] at h;cases h
end Go.Proofs
namespace Go.Ev
open Go Go.Sort Go.Proofs
section
variable {k:Nat}
theorem BH {α:Type}{enc:α->aQ}(hp:0<k)(hk:∀x,(enc x).length=k):∀(l:List α)(t:Nat),(l.flatMap enc)[t]?=(l[t/ k]?).bind λx=>(enc x)[t% k]?
 |[],t=>by simp
 |x::l,t=>by
  rw[mo];by_cases ht:t<k
  .rw[wZ (by rw[hk];exact ht),Nat.div_eq_of_lt ht,Ic ht];rfl
  .obtain⟨u,rfl⟩:∃u,t=u+k:=⟨t-k,ag⟩;rw[zY (by rw[hk];omega),hk,Nat.add_sub_cancel,BH hp hk l u,Nat.add_div_right _ hp,Nat.add_mod_right];rfl
theorem oY {α:Type}{enc:α->aQ}(hk:∀x,(enc x).length=k):∀l:List α,(l.flatMap enc).length=l.length*k
 |[]=>by simp
 |x::l=>by rw[mo,bJ,hk,oY hk l,cY,Nat.succ_mul];omega
theorem E6 {α:Type}[Inhabited α]{enc:α->aQ}(hp:0<k)(hk:∀x,(enc x).length=k)(l:List α):flatK enc k l.toArray=(l.flatMap enc).toArray:=by
 apply ext_get!
 .rw[size_flatK];simp[oY hk]
 .intro t ht;rw[size_flatK] at ht;have ht':t<l.length*k:=ht;rw[get_flatK _ _ _ _ ht];have hd:t/ k<l.length:=(Nat.div_lt_iff_lt_mul hp).2 ht';have h1:=BH hp hk l t;rw[bd hd] at h1;have hm:t% k<(enc l[t/ k]).length:=by rw[hk];exact RM _ hp
  have h2:(l.flatMap enc)[t]?=some (enc l[t/ k])[t% k]:=h1.trans (bd hm);obtain⟨h3,h4⟩:=ug.1 h2;rw[show(l.flatMap enc).toArray[t]! =(l.flatMap enc)[t] from A6 (l.flatMap enc).toArray t (by simpa using h3),h4];rw[show(l.toArray)[t/ k]! =l[t/ k] from A6 l.toArray _ (by simpa using hd)];exact A6 (enc l[t/ k]) _ hm
theorem F1 (o:Nat)(new c aO:aQ)(h:o+new.length<=c.length):putCells id o new.toArray ⟨c++aO⟩=⟨c.take o++new++c.drop (o+new.length)++aO⟩:=by
 apply wg;unfold putCells;rw[Array.toList_mapIdx];apply UU;intro j;rw[List.getElem?_mapIdx];show Option.map _ (c++aO)[j]?=(c.take o++new++c.drop (o+new.length)++aO)[j]?;have iW:new.toArray.size=new.length:=rfl;have sS:(c.take o).length=o:=by rw[cZ];omega
 have tZ:(c.take o++new).length=o+new.length:=by rw[bJ,sS]
 have hl3:(c.take o++new++c.drop (o+new.length)).length=c.length:=by rw[bJ,tZ,gd];omega
 by_cases h3:j<c.length
 .rw[wZ h3,wZ (by rw[hl3];exact h3)];by_cases h1:j<o
  .rw[wZ (by rw[tZ];omega),wZ (by rw[sS];exact h1),J9,if_pos h1,bd h3];show some (if o<=j/\j<o+new.toArray.size then _ else c[j])=_;rw[if_neg ag]
  .by_cases h2:j<o+new.length
   .rw[wZ (by rw[tZ];exact h2),zY (by rw[sS];omega),sS,bd h3,bd ag];show some (if o<=j/\j<o+new.toArray.size then id new.toArray[j-o]! else c[j])=_;rw[if_pos ⟨ag,by rw[iW];exact h2⟩];exact fI some (A6 new.toArray (j-o) (by rw[iW];omega))
   .rw[zY (by rw[tZ];omega),tZ,yh,show o+new.length+(j-(o+new.length))=j by omega,bd h3];show some (if o<=j/\j<o+new.toArray.size then _ else c[j])=_;rw[if_neg (by rw[iW];omega)]
 .rw[zY ag,zY (by rw[hl3];omega),hl3];cases hr:aO[j-c.length]? with
  |none=>rfl
  |some x=>
   show some (if o<=j/\j<o+new.toArray.size then _ else x)=_;rw[if_neg (by rw[iW];omega)]
end
section
variable {k:Nat}
theorem PW {α:Type}[Inhabited α]{enc:α->aQ}(hp:0<k)(hk:∀x,(enc x).length=k){w:World}{aY o m:Nat}{l:List α}{os:Array Obj}{c aO:aQ}{e:TypeId}{fr:Nat×Nat}(hb:w.heap[aY]?=some (.cells ⟨c++aO⟩ e fr))(ho:o+l.length*k<=c.length):
  (sortWorldK enc k w aY o m l.toArray os).heap[aY]?=some (.cells ⟨c.take o++l.flatMap enc++c.drop (o+l.length*k)++aO⟩ e fr)/\Fr w (sortWorldK enc k w aY o m l.toArray os) λr=>r=aY:=by
 have du:aY<w.heap.size:=(yc.1 hb).1;have Zl:(sortWorldK enc k w aY o m l.toArray os).heap=w.heap.modify aY (onCells (putCells id o (flatK enc k l.toArray)))++os:=rfl;have hl:=oY hk l;refine⟨?_,rfl,rfl,rfl,?_,λr hr fK=>?_⟩
 .rw[Zl,ZL (by rw[Array.size_modify];exact du),NQ,if_pos rfl,hb,E6 hp hk];show some (onCells _ (.cells ⟨c++aO⟩ e fr))=_;show some (Obj.cells (putCells id o (l.flatMap enc).toArray ⟨c++aO⟩) e fr)=_;rw[F1 o _ c aO (by rw[hl];exact ho),hl]
 .rw[Zl,Array.size_append,Array.size_modify];omega
 .rw[Zl,ZL (by rw[Array.size_modify];exact hr),NQ,if_neg (λh=>fK h.symm)]
theorem Nw {α:Type}[Inhabited α]{P:Program}{f g k:Nat}{dec:aQ->Option (List α)}{enc:α->aQ}{sort:List α->List α}{apart:List α->Bool}(hp:0<k)(hk:∀x,(enc x).length=k)(aeT:∀cs l,dec cs=some l->cs=l.flatMap enc)(hg:∀x,∀v∈enc x,∀ρ,bY ρ v=v)(c8:∀l,(sort l).length=l.length)
  (H:∀(aY off cap:Nat)(l:List α)(w:World),apart l=true->HoldsK enc k w aY off l.toArray->aY<w.heap.size->l.length<=1000000->lP P f #[.slice (some ⟨aY,off,none⟩) l.length cap,.func (.func g) #[] #[]] w λv w'=>v= .tuple #[]/\∃m os,w'=sortWorldK enc k w aY off m (sort l).toArray os):mY P f (KW g k dec enc sort apart):=by
 intro args s v s' h;unfold KW at h;split at h
 rotate_left
 .cases h
 rename_i b o n cap g';obtain⟨h1,h⟩:=bp h;obtain⟨c,e,u,hb,h⟩:=mW h;obtain⟨h2,h⟩:=bp h;obtain⟨l,h3,h⟩:=aC h;obtain⟨h4,h⟩:=bp h;have h:=aG h;simp only[cx] at h;obtain⟨rfl,rfl⟩:=h;rw[bU,bU] at h1;rw[bU] at h4;have hgg:=o7 h1.1.1;subst hgg;have Qr:n<=1000000:=qF h1.2;have hln:=o7 h4.2;subst hln;have h2:o+l.length*k<=c.length:=qF h2;have vv:=aeT _ _ h3;have gL:∀l:List α,∀v∈l.flatMap enc,∀ρ,bY ρ v=v:=λl v hv ρ=>by
  obtain⟨x,_,hx⟩:=ph.1 hv;exact hg x v hx ρ
 have hbn:(s.aV b).heap.get b≠none:=by rw[jc,hb];exact Option.some_ne_none _
 have Zt:aF s ((s.aV b).put b (some (.cells (c.take o++(sort l).flatMap enc++c.drop (o+l.length*k)) e u))):=(aF.aV s b).trans (aF.put _ _ _ hbn);refine⟨Zt,λY A ρ w gH Sm aow hl=>?_⟩;obtain⟨x',r,rfl,hx,hr⟩:=hl.jE;obtain⟨y',r2,rfl,hy,nG⟩:=hr.jE;have:r2=[]:=mT (by simpa using nG.length);subst this;have yA:y'= .func (.func g) ⟨[]⟩ ⟨[]⟩:=by rw[<-hy.self];simp
 rw[hx.fY,yA];have hYb:Y b:=Sm.cO b (fe _ _ _);obtain⟨hA,c',aO,fr,r1,r2,r3,r4,r5,r6⟩:=Sm.st.row hYb hb;have Zm:(c'.drop o).take (l.length*k)=l.flatMap enc:=by
  have h5:=((r2.drop o).take (l.length*k)).self;rw[<-h5,vv];exact(Fl λx hx=>gL l x hx ρ).trans (List.map_id _)
 have hH:HoldsK enc k w (ρ b).1 o l.toArray:=by
  intro j hj;rw[size_flatK] at hj;have Zy:j<l.length*k:=hj;have yG:o+j<c'.length:=by rw[r3];omega
  refine⟨?_,?_⟩
  .rw[yz r1,wZ yG,E6 hp hk];have h6:(c'.drop o).take (l.length*k)=l.flatMap enc:=Zm;have h7:((c'.drop o).take (l.length*k))[j]?=c'[o+j]?:=by rw[J9,if_pos Zy,yh]
   rw[<-h7,h6];have Zv:j<(l.flatMap enc).length:=by rw[oY hk];exact Zy
   rw[bd Zv];exact fI some (A6 (l.flatMap enc).toArray j Zv).symm
  .obtain⟨lo,hi⟩:=fr;show(match w.heap[(ρ b).1]? with|some (.cells _ _ (lo,hi))=>decide (lo<=o+j)&&decide (o+j<hi)|_=>false)=false;rw[r1];rw[zX,mb,mb];rcases r4 with h8|h8
   .simp only[cx] at h8;omega
   .rw[bJ] at h8;dsimp only at h8;omega
 refine(H _ _ _ l w h4.1 hH (yc.1 r1).1 Qr).mono λv' w' ⟨hv,m,os,hw⟩=>?_
 subst hv hw;have Q7:=c8 l;have NG:o+(sort l).length*k<=c'.length:=by rw[Q7,r3];exact h2
 obtain⟨s1,s2⟩:=PW (m:=m) (l:=sort l) (os:=os) hp hk r1 NG;refine⟨ρ,VR.ground λρ=>by simp,Good.bf (o':=.cells (c.take o++(sort l).flatMap enc++c.drop (o+l.length*k)) e u) Sm.st Sm.eh hYb hb (λd=>?_) ?_ ?_ s1 ?_ s2⟩
 .rw[qU,jc]
 .rw[dZ,cw]
 .exact je _ _ _
 .have nC:(c.take o++(sort l).flatMap enc++c.drop (o+l.length*k)).length=c.length:=by
   rw[bJ,bJ,cZ,gd,oY hk,Q7];omega
  refine⟨_,aO,fr,by rw[Q7],?_,λhu=>?_,λhu=>?_⟩
  .exact((r2.take o).append (λeI _=>(Fl λx hx=>gL _ x hx eI).trans (List.map_id _))).append (r2.drop _)
  .rw[nC];exact r5 hu
  .rw[nC];exact r6 hu
end
end Go.Ev
namespace Go.Proofs
open Go Go.Shelf Go.RowKit Go.Lib Go.Sort Go.Ev
set_option maxHeartbeats 1000000 in
theorem abS (x y:Pl.a6)(W:World):Calls prog 136 #[.agg (qf x).toArray,.agg (qf y).toArray] W λe w'=>e= .returned (.int .i64 (Lib.compareBytes x.af y.af))/\∃q os',w'=grow (W.drewN q) os':=by
 have PX:=λW'=>Any.strings_Compare abO ⟨⟨x.af⟩⟩ ⟨⟨y.af⟩⟩ W'
 change ∀W',Calls prog 44 _ _ _ at PX;change Calls prog 136 #[.agg #[.string ⟨⟨x.af⟩⟩,.int .i64 x.id],.agg #[.string ⟨⟨y.af⟩⟩,.int .i64 y.id]] W _;generalize Lib.compareBytes x.af y.af=r at PX⊢
 go_enter func136,ntmps136
 go_wp2_with (go_at_call 44;refine(PX _).mono ?_;rintro e w' ⟨rfl,rfl⟩)
 go_ret
 exact⟨rfl,0,_,by rw[alloc_eq_grow,alloc_eq_grow,grow_grow];rfl⟩
set_option maxHeartbeats 1000000 in
theorem abT (x y:Pl.bC)(W:World):Calls prog 138 #[.agg (qg x).toArray,.agg (qg y).toArray] W λe w'=>e= .returned (.int .i64 (Lib.compareInt x.id y.id))/\∃q os',w'=grow (W.drewN q) os':=by
 have PX:=λW'=>AnyG.cmp_Compare_int afF x.id y.id W'
 change ∀W',Calls prog 66 _ _ _ at PX;change Calls prog 138 #[.agg #[.int .i64 x.id,.bool x.aD,.string ⟨⟨x.aW⟩⟩],.agg #[.int .i64 y.id,.bool y.aD,.string ⟨⟨y.aW⟩⟩]] W _;generalize Lib.compareInt x.id y.id=r at PX⊢
 go_enter func138,ntmps138
 go_wp2_with (go_at_call 66;refine(PX _).mono ?_;rintro e w' ⟨rfl,rfl⟩)
 go_ret
 exact⟨rfl,0,_,by rw[alloc_eq_grow,alloc_eq_grow,grow_grow];rfl⟩
theorem afI:∀a b:List UInt8,Lib.compareBytes a b=Ap a b
 |[],[]=>rfl
 |[],_::_=>rfl
 |_::_,[]=>rfl
 |x::a,y::b=>by
  have ih:=afI a b;unfold Ap at ih⊢;unfold Lib.compareBytes;rw[Pl.qu,Pl.qu,ih];by_cases h1:x.toNat<y.toNat
  .rw[if_pos (RJ.2 h1),if_pos h1];rfl
  .rw[if_neg (λh=>h1 (RJ.1 h)),if_neg h1];by_cases h2:y.toNat<x.toNat
   .rw[if_pos (RJ.2 h2),if_pos h2,if_neg h1,if_pos h2];rfl
   .rw[if_neg (λh=>h2 (RJ.1 h)),if_neg h2,if_neg h2,if_neg h1]
theorem ltF (x y:Pl.a6):ltOf (λx y:Pl.a6=>Lib.compareBytes x.af y.af) x y=Pl.bL x.af y.af:=by
 show decide (Lib.compareBytes x.af y.af<0)=_;rw[afI];unfold Ap;cases h:Pl.bL x.af y.af with
 |true=>rfl
 |false=>cases h2:Pl.bL y.af x.af<;>rfl
theorem ltT (x y:Pl.bC):ltOf (λx y:Pl.bC=>Lib.compareInt x.id y.id) x y=decide (x.id<y.id):=by
 unfold ltOf Lib.compareInt;by_cases h1:x.id<y.id
 .simp[h1]
 .by_cases h2:y.id<x.id<;>simp[h1,h2]
theorem al1:SWO (ltOf λx y:Pl.a6=>Lib.compareBytes x.af y.af) where
 irrefl x:=by rw[ltF];exact Pl.kh _
 trans x y z h1 h2:=by rw[ltF] at *;exact Pl.eU _ _ _ h1 h2
 ntrans x y z h1 h2:=by
  rw[ltF] at *
  cases h3:Pl.bL y.af x.af with
  |false=>rw[Pl.lI _ _ h1 h3];exact h2
  |true=>
   cases h4:Pl.bL x.af z.af with
   |false=>rfl
   |true=>rw[Pl.eU _ _ _ h3 h4] at h2;cases h2
theorem al2:SWO (ltOf λx y:Pl.bC=>Lib.compareInt x.id y.id) where
 irrefl x:=by rw[ltT];simp
 trans x y z h1 h2:=by rw[ltT] at *;simp at *;omega
 ntrans x y z h1 h2:=by rw[ltT] at *;simp at *;omega
instance aox:Inhabited Pl.a6:=⟨⟨[],0⟩⟩
instance aoy:Inhabited Pl.bC:=⟨⟨0,false,[]⟩⟩
theorem RF {α:Type}[Inhabited α]{l:List α}{d:Array α}(h:PermIn 0 l.toArray.size l.toArray d):d.size=l.length/\d.toList.Perm l:=by
 obtain⟨h1,_,h2⟩:=h;have h1:d.size=l.length:=h1;refine⟨h1,?_⟩;rw[show(d.extract 0 l.toArray.size)=d by rw[show l.toArray.size=d.size from h1.symm];exact Array.extract_size,show l.toArray.extract 0 l.toArray.size=l.toArray from Array.extract_size] at h2;exact h2
theorem RG {α:Type}[Inhabited α]{d:Array α}{n:Nat}(hn:d.size=n){lt:α->α->Bool}(h:SortedIn lt 0 n d):d.toList.Pairwise λx y=>lt y x=false:=by
 rw[tV];intro i j hi hj mR;have fE:i<d.size:=hi;have Zy:j<d.size:=hj;have:=h i j (iJ _) mR ag;rw[A6 d i fE,A6 d j Zy] at this;exact this
theorem AU {α β:Type}{key:α->β}{R S:α->α->Prop}:∀{l:List α},(l.map key).Nodup->l.Pairwise R->(∀x y,R x y->key x≠key y->S x y)->l.Pairwise S
 |[],_,_,_=>P9
 |x::l,hn,hp,h=>by
  obtain⟨h1,h2⟩:=uA.1 hn;obtain⟨h3,h4⟩:=jS.1 hp;exact jS.2 ⟨λy hy=>h x y (h3 y hy) λe=>h1 (by rw[e];exact List.mem_map_of_mem hy),AU h2 h4 h⟩
theorem abU {l:List Pl.a6}(ha:xm l=true){d:Array Pl.a6}(hp:PermIn 0 l.toArray.size l.toArray d)(hs:SortedIn (ltOf λx y:Pl.a6=>Lib.compareBytes x.af y.af) 0 l.toArray.size d):d=(gT l).toArray:=by
 obtain⟨h1,h2⟩:=RF hp;have hn:(l.map (·.af)).Nodup:=yg ha;have GC:(d.toList.map (·.af)).Nodup:=(h2.map _).nodup_iff.2 hn;have h3:=RG (n:=l.toArray.size) h1 hs;have h4:Pl.kE d.toList:=AU (key:=λx:Pl.a6=>x.af) GC h3 λx y UM fK=>by
  rw[ltF] at UM;cases h5:Pl.bL x.af y.af with
  |true=>rfl
  |false=>exact absurd (Pl.lI _ _ h5 UM) fK
 have:=Pl.qw d.toList (gT l) h4 (Pl.og l hn) λx=>by rw[Pl.iA];exact h2.mem_iff
 rw[<-this]
theorem abV {l:List Pl.bC}(ha:xn l=true){d:Array Pl.bC}(hp:PermIn 0 l.toArray.size l.toArray d)(hs:SortedIn (ltOf λx y:Pl.bC=>Lib.compareInt x.id y.id) 0 l.toArray.size d):d=(gZ l).toArray:=by
 obtain⟨h1,h2⟩:=RF hp;have hn:(l.map (·.id)).Nodup:=yg ha;have GC:(d.toList.map (·.id)).Nodup:=(h2.map _).nodup_iff.2 hn;have h3:=RG (n:=l.toArray.size) h1 hs;have h4:Pl.gi d.toList:=AU (key:=λx:Pl.bC=>x.id) GC h3 λx y UM fK=>by
  rw[ltT,mb] at UM;omega
 have:=Pl.tK d.toList (gZ l) h4 (Pl.qy l hn) λx=>by rw[Pl.jo];exact h2.mem_iff
 rw[<-this]
theorem Ia (x:Pl.a6):∀l,(wj x l).length=l.length+1
 |[]=>rfl
 |y::l=>by
  unfold wj;split
  .rfl
  .rw[cY,Ia x l,cY]
theorem E7:∀l,(gT l).length=l.length
 |[]=>rfl
 |x::l=>by
  show(wj x (gT l)).length=_;rw[Ia,E7 l,cY]
theorem Ib (x:Pl.bC):∀l,(wk x l).length=l.length+1
 |[]=>rfl
 |y::l=>by
  unfold wk;split
  .rfl
  .rw[cY,Ib x l,cY]
theorem E8:∀l,(gZ l).length=l.length
 |[]=>rfl
 |x::l=>by
  show(wk x (gZ l)).length=_;rw[Ib,E8 l,cY]
theorem abW:∀(cs:aQ)(l:List Pl.a6),Ss cs=some l->cs=l.flatMap qf:=by
 intro cs
 fun_induction Ss cs with
 |case1=>intro l h;cases h;rfl
 |case2 z i cs ih=>
  intro l h;obtain⟨l2,h1,rfl⟩:=Option.map_eq_some_iff.1 h;rw[ih l2 h1];rfl
 |case3=>intro l h;cases h
theorem abX:∀(cs:aQ)(l:List Pl.bC),Su cs=some l->cs=l.flatMap qg:=by
 intro cs
 fun_induction Su cs with
 |case1=>intro l h;cases h;rfl
 |case2 i b z cs ih=>
  intro l h;obtain⟨l2,h1,rfl⟩:=Option.map_eq_some_iff.1 h;rw[ih l2 h1];rfl
 |case3=>intro l h;cases h
theorem abY (x:Pl.a6):∀v∈qf x,∀ρ,bY ρ v=v:=λv hv ρ=>by
 simp only[qf,bR,iR,iY] at hv;rcases hv with rfl|rfl<;>simp[bY]
theorem abZ (x:Pl.bC):∀v∈qg x,∀ρ,bY ρ v=v:=λv hv ρ=>by
 simp only[qg,bR,iR,iY] at hv;rcases hv with rfl|rfl|rfl<;>simp[bY]
theorem al3 (x:Pl.a6):∀v∈qf x,v.oneCell'=true:=λv hv=>by
 simp only[qf,bR,iR,iY] at hv;rcases hv with rfl|rfl<;>rfl
theorem al4 (x:Pl.bC):∀v∈qg x,v.oneCell'=true:=λv hv=>by
 simp only[qg,bR,iR,iY] at hv;rcases hv with rfl|rfl|rfl<;>rfl
theorem Uv:mY prog 135 (VT 136):=Nw (by decide) (λ_=>rfl) abW abY E7 λaY off cap l w ha hH hb hl=>by
 have h:=AnyQ.slices_SortFunc gT 2 isAgg39 sizeOf39 qf (λ_=>rfl) al3 (λx y=>Lib.compareBytes x.af y.af) al1 136 #[] aY off cap l.toArray w (λargs w=>call136 args w) (λm os dk hs x y=>abS x y _) hH hb (by show l.length<_;omega);change Calls prog 135 _ _ _ at h;refine .inr ⟨135,_,w,call135 _ w,h.mono λe w' ⟨he,d',m,os,hp,hs,hw⟩=>⟨_,he,rfl,m,os,?_⟩⟩;rw[hw,abU ha hp hs]
theorem Uw:mY prog 137 (VU 138):=Nw (by decide) (λ_=>rfl) abX abZ E8 λaY off cap l w ha hH hb hl=>by
 have h:=AnyQ.slices_SortFunc gZ 3 isAgg61 sizeOf61 qg (λ_=>rfl) al4 (λx y=>Lib.compareInt x.id y.id) al2 138 #[] aY off cap l.toArray w (λargs w=>call138 args w) (λm os dk hs x y=>abT x y _) hH hb (by show l.length<_;omega);change Calls prog 137 _ _ _ at h;refine .inr ⟨137,_,w,call137 _ w,h.mono λe w' ⟨he,d',m,os,hp,hs,hw⟩=>⟨_,he,rfl,m,os,?_⟩⟩;rw[hw,abV ha hp hs]
theorem Zn {w w':World}(h:Below w.heap.size w w'):Fr w w' λ_=>False:=⟨h.os,h.tape,h.output,h.size,λr hr _=>h.block r hr⟩
theorem JX (z:ByteArray)(ρ:fB):bY ρ (.string z)= .string z:=by simp[bY]
theorem Nx:mY prog 81 Df:=sq λargs s v s' h=>by
 unfold Df at h;split at h
 rotate_left
 .cases h
 rename_i a b;have h:=aG h;simp only[cx] at h;obtain⟨rfl,rfl⟩:=h;refine⟨rfl,λρ=>yx _ _ _,λx hx ρ=>?_,λw=>?_⟩
 .simp only[bR,iR,iY] at hx;rcases hx with rfl|rfl<;>exact JX _ _
 .have h1:=Any.bytealg_CompareString abN ⟨⟨a⟩⟩ ⟨⟨b⟩⟩ w;change Calls prog 81 _ _ _ at h1;refine .inr ⟨81,_,w,call81 _ w,h1.mono λe w' ⟨he,hw⟩=>⟨_,he,?_,by rw[hw];exact Fr.refl _ _⟩⟩;exact fI (Value.int .i64) (afI a b)
theorem Zo (z:List UInt8):∀n,Lib.repeatL z n=yL z n
 |0=>rfl
 |n+1=>by unfold Lib.repeatL yL;rw[Zo z n]
theorem PY:mY prog 87 IW:=sq λargs s v s' h=>by
 unfold IW at h;split at h
 rotate_left
 .cases h
 rename_i z n;obtain⟨h0,h⟩:=bp h;have h:=aG h;simp only[cx] at h;obtain⟨rfl,rfl⟩:=h;rw[bU] at h0;have h1:z.length*n<=1000000:=qF h0.1;have h2:n<=1000000:=qF h0.2;refine⟨rfl,λρ=>JX _ _,λx hx ρ=>?_,λw=>?_⟩
 .simp only[bR,iR,iY] at hx;rcases hx with rfl|rfl
  .exact JX _ _
  .exact yx _ _ _
 .have h3:=Any.strings_Repeat zQ Tryz.zR ⟨⟨z⟩⟩ n w ag (by show z.length*n<=_;omega);change Calls prog 87 _ _ _ at h3;refine .inr ⟨87,_,w,call87 _ w,h3.mono λe w' ⟨he,hw⟩=>⟨_,he,?_,Zn hw⟩⟩;rw[show Lib.repeatL (⟨⟨z⟩⟩:ByteArray).data.toList n=yL z n from Zo z n]
theorem Ux:mY prog 188 IX:=sq λargs s v s' h=>by
 unfold IX at h;split at h
 rotate_left
 .cases h
 rename_i z c;obtain⟨h0,h⟩:=bp h;have h:=aG h;simp only[cx] at h;obtain⟨rfl,rfl⟩:=h;have hc:c<256:=qF h0;refine⟨rfl,λρ=>yx _ _ _,λx hx ρ=>?_,λw=>?_⟩
 .simp only[bR,iR,iY] at hx;rcases hx with rfl|rfl
  .exact JX _ _
  .exact yx _ _ _
 .refine .inl ⟨_,w,?_,rfl,Fr.refl _ _⟩;rw[run_callFunc_extern func188 cV cV cV (e:=Extern.BytealgCount.count) cV,run_countString];have Qm:(UInt8.ofNat c).toNat=c:=by simp[Ic hc]
  have h4:(Int.toNat (Int.ofNat c)).toUInt8=UInt8.ofNat c:=rfl;have h5:Lib.countByte z (UInt8.ofNat c)=ek (z.filter λb=>Nat.beq b.toNat c):=by
   unfold Lib.countByte;rw[dh,List.count_eq_length_filter]
   congr 1
   apply List.filter_congr;intro b _;rw[oZ];simp only[zZ,CA];rw[<-w6,Qm]
  show Result.andThen (Result.ok _ w) _=_;rw[h4];show Result.ok (Next.value (.int .i64 ((Lib.countByte z (UInt8.ofNat c):Nat):Int))) w=_;rw[h5];rfl
theorem mixed:prog.follows .mixedOrders=true:=by kernel_rfl
theorem afJ:∀p∈[((188:Nat),IX)],mY prog p.1 p.2:=λp hp=>by
 simp only[bR,iR,iY] at hp;subst hp;exact Ux
theorem ub:dP prog (q9 a8 agB 100000 [] 200):=Dd ado (ajo afJ) mixed 100000 (tab:=[]) (λe he=>by cases he) 200
theorem runs {f:Nat}{args:aQ}{v:Value}(h:KX f args v=true)(hv:∀ρ,bY ρ v=v)(ha:∀x∈args,∀ρ,bY ρ x=x)(w:World):lP prog f ⟨args⟩ w λv' w'=>v'=v/\Fr w w' λ_=>False:=by
 unfold KX at h;split at h
 .rename_i u s1 hc;have:=VM _ _ h;subst this;exact run_pure ub (cA _) hc hv ha w
 .cases h
theorem PZ:mY prog 13 IY:=sq λargs s v s' h=>by
 unfold IY at h;split at h
 rotate_left
 .cases h
 rename_i z;obtain⟨h0,h⟩:=bp h;have h:=aG h;simp only[cx] at h;obtain⟨rfl,rfl⟩:=h;have ha:∀x∈[S z],∀ρ,bY ρ x=x:=λx hx ρ=>by rw[gR.1 hx];exact JX _ _
 exact⟨rfl,λρ=>vr _ _,ha,runs (gQ.1 agC z (yg h0)) (λρ=>vr _ _) ha⟩
theorem E9:mY prog 85 uT:=sq λargs s v s' h=>by
 unfold uT at h;split at h
 rotate_left
 .cases h
 rename_i z;obtain⟨h0,h⟩:=bp h;have h:=aG h;simp only[cx] at h;obtain⟨rfl,rfl⟩:=h;have ha:∀x∈[S z],∀ρ,bY ρ x=x:=λx hx ρ=>by rw[gR.1 hx];exact JX _ _
 exact⟨rfl,λρ=>JX _ _,ha,runs (gQ.1 agD z (yg h0)) (λρ=>JX _ _) ha⟩
theorem F2:mY prog 12 xp:=sq λargs s v s' h=>by
 unfold xp at h;split at h
 rotate_left
 .cases h
 rename_i z t;obtain⟨h0,h⟩:=bp h;have h:=aG h;simp only[cx] at h;obtain⟨rfl,rfl⟩:=h;obtain⟨h1,h2,h3,h4⟩:=yg h0;have ha:∀x∈[S z,S t],∀ρ,bY ρ x=x:=λx hx ρ=>by
  simp only[bR,iR,iY] at hx;rcases hx with rfl|rfl<;>exact JX _ _
 have h5:=gQ.1 agE z h1;rw[h3,Ie,Bool.false_or] at h5;have h6:=gQ.1 h5 t h2;rw[h4,Ie,Bool.false_or] at h6;exact⟨rfl,λρ=>vr _ _,ha,runs h6 (λρ=>vr _ _) ha⟩
theorem afK:∀p∈bj.wD,mY prog p.1 p.2:=λp hp=>by
 simp only[bj,bR,iR,iY] at hp;rcases hp with rfl|rfl|rfl|rfl|rfl|rfl|rfl
 .exact Uv
 .exact Uw
 .exact Nx
 .exact PY
 .exact PZ
 .exact E9
 .exact F2
theorem ajs:VK a8 prog bj:=ajo afK
end Go.Proofs
namespace Go.Proofs
open Go Go.Ev Go.Lg
section
variable {f k b i:Nat}{w:World}{cs:aQ}
theorem ab0 {s:St}{vs Cf:aQ}{ρ:fB}{Al:List Nat}(hC:Pl.bP f vs s Al (.bool true))(hn:16<=s.next)(hw0:s.wr=0)(kK:∀b,s.next<=b->s.heap.get b=none)
  (jw:fb prog (λ_=>True) (λi=>i<s.next) ρ s.heap.get w)(hg:∀g,g<16->(ρ g).1=g)(hV:LR (λi=>i<s.next) ρ vs Cf):lP prog f ⟨Cf⟩ w λr w'=>r= .bool true/\Fr w w' λ_=>False:=by
 obtain⟨r,s',⟨N,hN⟩,L',hI,rfl,_⟩:=hC (λ_ h=>by cases h) (λ_ h=>by cases h) CE;have hc:=hN N (cA _) N (cA _);have hCC:=Dd ado ajs mixed N (tab:=[]) (λe he=>by cases he) N;obtain⟨Zt,hk⟩:=hCC _ _ _ _ _ hc;have:=hk (λb=>In s'.cO b) (λi=>i<s.next) ρ w Cf ⟨λi hi=>hi,kK,λb hb=>hb,jw.sub λ_ _=>trivial⟩ (λg ZV=>⟨ag,hg g ZV⟩) hV;refine this.mono λr w' ⟨eI,h1,hG⟩=>⟨h1.sY,hG.fQ.os,hG.fQ.tape,hG.fQ.output,hG.fQ.size,λr hr _=>hG.fQ.block r hr ?_⟩
 rintro⟨b,o,h2,_,h3,_⟩;rcases hI.wr b h2 with h4|h4|h4
 .rw[show(ij.s0 ⟨s,([]:bE).flatMap It.aY,Al⟩).wr=0 from hw0] at h4;simp[In] at h4
 .cases h4
 .have h5:s.next<=b:=h4
  rw[kK b h5] at h3;cases h3
theorem ab1 {n:Int}(h:(Lit.int .u8 n).wf=true):((UInt8.ofNat n.toNat).toNat:Int)=n:=by
 simp[Lit.wf,IntKind.has,IntKind.min,IntKind.max,IntKind.bits,IntKind.signed] at h;have:(UInt8.ofNat n.toNat).toNat=n.toNat% 256:=rfl;rw[this];omega
abbrev d8:UInt8:=ak.ah (α:=UInt8)
abbrev P0 (w:World)(v:Value):Prop:=v= .slice none 0 0\/∃(b o n c:Nat)(zs:List Int),v= .slice (some ⟨b,o,none⟩) n c/\n<=zs.length/\n<=c/\c<eH/\(∀z∈zs,(Lit.int .u8 z).wf=true)/\∀i,i<zs.length->w.cell? ((⟨b,o,none⟩:Addr).add i)=some (.int .u8 (zs.getD i 0))
inductive al5 (w:World)(v:Value):Prop where
 |empty (b c:Nat) (hu:c<eH) (h:∀k,∃a,(∀j∈aj a,j=k)/\∀N ρ,k<N->(ρ k).1=b->VR (λi=>i<N) ρ (.slice a 0 c) v)
 |bytes (b o c:Nat) (code:Pl.aA) (cs:aQ) (t:TypeId) (fr:Nat×Nat) (h:v= .slice (some ⟨b,o,none⟩) code.length c) (h0:0<code.length) (hc:code.length<=c) (hu:c<eH) (hb:w.heap[b]?=some (.cells ⟨cs⟩ t fr)) (nJ:∀i,i<code.length->cs[o+i]?=some (bv (code.getD i d8)))
theorem P2 {ρ:fB}{N:Nat}(hk:k<N)(hb:(ρ k).1=b)(o n c:Nat)(hu:c<eH):VR (λi=>i<N) ρ (.slice (some ⟨k,o,none⟩) n c) (.slice (some ⟨b,o,none⟩) n c):=λeI e=>by
 rw[eE,e k hk,fw hu,hb]
theorem P0.c {v:Value}(hv:P0 w v):al5 w v:=by
 rcases hv with rfl|⟨b,o,n,c,zs,rfl,hn,hc,hu,hz,tX⟩
 .exact .empty 0 0 (by decide) λk=>⟨none,λj h=>by simp[aj] at h,λN ρ _ _=>VR.ground (by simp)⟩
 by_cases h0:n=0
 .subst h0;exact .empty b c hu λk=>⟨some ⟨k,o,none⟩,λj h=>by simpa[aj] using h,λN ρ hk hb=>P2 hk hb _ _ _ hu⟩
 have uG:((zs.take n).map λz=>UInt8.ofNat z.toNat).length=n:=by rw[ux,cZ];omega
 have hbv:∀i,i<n->bv (((zs.take n).map λz=>UInt8.ofNat z.toNat).getD i d8)= .int .u8 (zs.getD i 0):=λi hi=>by
  rw[aR,BK,J9,if_pos hi,aR,bd (show i<zs.length by omega)];show Value.int .u8 ((UInt8.ofNat (zs[i]).toNat).toNat:Int)= .int .u8 zs[i];rw[ab1 (hz _ (qS _))]
 have hx:=tX 0 ag;simp only[Addr.add,if_true,World.cell?] at hx;split at hx
 rotate_left
 .cases hx
 rename_i cs t fr hblk;obtain⟨cs⟩:=cs;have nJ:∀i,i<zs.length->cs[o+i]?=some (.int .u8 (zs.getD i 0)):=λi hi=>by
  have:=tX i hi;rw[<-this];by_cases ru:i=0
  .subst ru;simp[Addr.add,World.cell?,hblk]
  .simp[Addr.add,World.cell?,hblk,ru]
 exact .bytes b o c ((zs.take n).map λz=>UInt8.ofNat z.toNat) cs t fr (by rw[uG]) ag ag hu hblk λi hi=>by
  rw[uG] at hi;rw[hbv i hi,nJ i ag]
theorem Uy {o:Nat}{code:Pl.aA}(hi:i<code.length)(l:List (Nat×aQ)):∃p,yk ((o,code.map bv)::l) (o+i)=some p/\p.2[o+i-p.1]?=some (bv (code.getD i d8)):=by
 refine⟨(o,code.map bv),?_,?_⟩
 .show bo (Nat.ble o (o+i)&&Nat.ble (Nat.succ (o+i-o)) (code.map bv).length) _ _=_;rw[dO,if_pos];rw[bU,lR,lR,ux];omega
 .show(code.map bv)[o+i-o]?=_;rw[show o+i-o=i by omega,BK,aR,bd hi];rfl
theorem al6 {o o2:Nat}{code l3:Pl.aA}(h1:∀i,i<code.length->cs[o+i]?=some (bv (code.getD i d8)))(h2:∀i,i<l3.length->cs[o2+i]?=some (bv (l3.getD i d8)))(hi:i<l3.length):∃p,yk [(o,code.map bv),(o2,l3.map bv)] (o2+i)=some p/\p.2[o2+i-p.1]?=some (bv (l3.getD i d8)):=by
 by_cases hw:o<=o2+i/\o2+i-o<code.length
 .refine⟨(o,code.map bv),?_,?_⟩
  .show bo (Nat.ble o (o2+i)&&Nat.ble (Nat.succ (o2+i-o)) (code.map bv).length) _ _=_;rw[dO,if_pos];rw[bU,lR,lR,ux];omega
  .show(code.map bv)[o2+i-o]?=_;rw[<-h2 i hi,show cs[o2+i]?=cs[o+(o2+i-o)]? by rw[show o+(o2+i-o)=o2+i by omega],h1 _ hw.2,BK,aR,bd hw.2];rfl
 .obtain⟨p,h3,h4⟩:=Uy (o:=o2) hi [];refine⟨p,?_,h4⟩;show bo (Nat.ble o (o2+i)&&Nat.ble (Nat.succ (o2+i-o)) (code.map bv).length) _ _=_;rw[dO,if_neg]
  .exact h3
  .rw[bU,lR,lR,ux];omega
theorem JY {o:Nat}{code:Pl.aA}(h0:0<code.length)(h:∀i,i<code.length->cs[o+i]?=some (bv (code.getD i d8)))(A:Nat->Prop)(ρ:fB):∃pre c' aO,cs=pre++(c'++aO)/\pre.length=o/\LR A ρ (code.map bv) c':=by
 have c8:o+code.length<=cs.length:=by
  have:=(ug.1 (h (code.length-1) ag)).1;omega
 have Zm:(cs.drop o).take code.length=code.map bv:=by
  apply UU;intro i;by_cases hi:i<code.length
  .rw[J9,if_pos hi,yh,h i hi,BK,aR,bd hi];rfl
  .rw[rT (by rw[cZ];omega),rT (by rw[ux];omega)]
 refine⟨cs.take o,(cs.drop o).take code.length,(cs.drop o).drop code.length,?_,by rw[cZ];omega,?_⟩
 .rw[yd,yd]
 .rw[Zm];exact λeI _=>(Fl λy hy=>by
   obtain⟨u,_,rfl⟩:=kO.1 hy;simp).trans (List.map_id _)
theorem wb {s:St}{k o:Nat}{ws:List (Nat×aQ)}{code:Pl.aA}(du:k<s.next)(h:s.heap.get k=some (.uh ws))(hw:∀i,i<code.length->∃p,yk ws (o+i)=some p/\p.2[o+i-p.1]?=some (bv (code.getD i d8))):Pl.pH s (some ⟨k,o,none⟩) code:=
 ⟨λb hb=>by simp[aj] at hb;omega,λ_=>⟨k,o,ws,rfl,h,hw⟩⟩
noncomputable abbrev S2 (o1 o2:Option (List (Nat×aQ))):St:=⟨T.set 18 (T.set 18 T.nil 16 (o1.map .uh)) 17 (o2.map .uh),18,0,0⟩
abbrev R2 (p q:Nat):fB:=λi=>if i=16 then(p,0) else if i=17 then(q,0) else(i,0)
theorem Ny (o1 o2:Option (List (Nat×aQ)))(m:Nat):(S2 o1 o2).heap.get m=if m=17 then o2.map .uh else if m=16 then o1.map .uh else none:=by
 show(T.set 18 (T.set 18 (T.nil:T gF) 16 (o1.map .uh)) 17 (o2.map .uh)).get m=_;rw[T.Iq 18 _ _ _ _ (by decide),T.Iq 18 _ _ _ _ (by decide),T.get_nil]
theorem ab2 {o1 o2:Option (List (Nat×aQ))}{a:aK}(hk:k<18)(l:∀j∈aj a,j=k):Pl.pH (S2 o1 o2) a []:=⟨λb hb=>by have:=l b hb;show b<18;omega,λh=>by cases h⟩
abbrev afL (w:World)(ρ:fB)(b:Nat)(ws:List (Nat×aQ)):Prop:=∃cs t fr,w.heap[b]?=some (.cells ⟨cs⟩ t fr)/\∀x∈ws,∃pre c' aO,cs=pre++(c'++aO)/\pre.length=x.1/\LR (λi=>i<18) ρ x.2 c'
theorem ob1 {ρ:fB}{b o:Nat}{code:Pl.aA}{t:TypeId}{fr:Nat×Nat}(hb:w.heap[b]?=some (.cells ⟨cs⟩ t fr))(h0:0<code.length)(h:∀i,i<code.length->cs[o+i]?=some (bv (code.getD i d8))):∀ws,some [(o,code.map bv)]=some ws->afL w ρ b ws:=λws e=>by
 cases e
 exact⟨cs,t,fr,hb,λp hp=>by rw[gR] at hp;subst hp;exact JY h0 h _ ρ⟩
theorem al7 (hL:∀(s:St)(a:aK)(code:Pl.aA)(c:Nat)(a2:aK)(more:Pl.aA)(c2:Nat),Pl.pH s a code->Pl.M1 code.length c->Pl.pH s a2 more->Pl.M1 more.length c2->Pl.bP f [.slice a code.length c,.slice a2 more.length c2] s (aj a++aj a2) (.bool true))
  (w:World)(v1 v2:Value)(h1:P0 w v1)(h2:P0 w v2):lP prog f ⟨[v1,v2]⟩ w λr w'=>r= .bool true/\Fr w w' λ_=>False:=by
 have gen:∀(o1 o2:Option (List (Nat×aQ)))(p q:Nat)(a1 a2:aK)(c1 c2:Nat)(x1 x2:Pl.aA),(∀ws,o1=some ws->afL w (R2 p q) p ws)->(∀ws,o2=some ws->afL w (R2 p q) q ws)->(∀ws,o1=some ws->∀ws',o2=some ws'->p≠q)->Pl.pH (S2 o1 o2) a1 x1->Pl.pH (S2 o1 o2) a2 x2->Pl.M1 x1.length c1->Pl.M1 x2.length c2->VR (λi=>i<18) (R2 p q) (.slice a1 x1.length c1) v1->VR (λi=>i<18) (R2 p q) (.slice a2 x2.length c2) v2->lP prog f ⟨[v1,v2]⟩ w λr w'=>r= .bool true/\Fr w w' λ_=>False:=λo1 o2 p q a1 a2 c1 c2 x1 x2 f1 f2 hd hr1 nG s1 s2 r1 r2=>by
  have k:∀i o,(S2 o1 o2).heap.get i=some o->(i=17/\∃ws,o2=some ws/\gF.uh ws=o)\/(i=16/\∃ws,o1=some ws/\gF.uh ws=o):=λi o h=>by
   rw[Ny] at h;split at h
   .exact .inl ⟨‹_›,Option.map_eq_some_iff.1 h⟩
   split at h
   .exact .inr ⟨‹_›,Option.map_eq_some_iff.1 h⟩
   cases h
  refine ab0 (s:=S2 o1 o2) (ρ:=R2 p q) (hL _ a1 x1 c1 a2 x2 c2 hr1 s1 nG s2) (by show 16<=18;omega) rfl (λb h=>?_) ⟨λi o _ h=>?_,λi i' o o' _ _ h h' e=>?_⟩ (λg hg=>?_) (LR.cons r1 (LR.cons r2 LR.nil))
  .have h:18<=b:=h;rw[Ny,if_neg ag,if_neg ag]
  .rcases k i o h with⟨rfl,ws,e,rfl⟩|⟨rfl,ws,e,rfl⟩
   .obtain⟨cs,t,fr,hb,hw⟩:=f2 ws e;exact⟨by show 17<18;omega,_,hb,cs,t,fr,rfl,hw⟩
   .obtain⟨cs,t,fr,hb,hw⟩:=f1 ws e;exact⟨by show 16<18;omega,_,hb,cs,t,fr,rfl,hw⟩
  .rcases k i o h with⟨rfl,ws,g,_⟩|⟨rfl,ws,g,_⟩<;>rcases k i' o' h' with⟨rfl,ws',g',_⟩|⟨rfl,ws',g',_⟩
   .rfl
   .exact absurd (show q=p from e).symm (hd _ g' _ g)
   .exact absurd (show p=q from e) (hd _ g _ g')
   .rfl
  .simp only[R2,show ¬g=16 by omega,show ¬g=17 by omega,pg]
 rcases h1.c with⟨b1,c1,u1,k1⟩|⟨b1,o1,c1,x1,cs1,t1,fr1,rfl,n1,m1,u1,BQ,ab3⟩<;>rcases h2.c with⟨b2,c2,u2,k2⟩|⟨b2,o2,c2,x2,cs2,t2,fr2,rfl,n2,m2,u2,KN,OI⟩
 .obtain⟨a1,l1,r1⟩:=k1 16;obtain⟨a2,l2,r2⟩:=k2 17;exact gen none none b1 b2 a1 a2 c1 c2 [] [] (λ_ h=>by cases h) (λ_ h=>by cases h) (λ_ h=>by cases h) (ab2 (by decide) l1) (ab2 (by decide) l2) ⟨iJ _,u1⟩ ⟨iJ _,u2⟩ (r1 18 _ (by decide) rfl) (r2 18 _ (by decide) rfl)
 .obtain⟨a1,l1,r1⟩:=k1 16;exact gen none (some [(o2,x2.map bv)]) b1 b2 a1 (some ⟨17,o2,none⟩) c1 c2 [] x2 (λ_ h=>by cases h) (ob1 KN n2 OI) (λ_ h=>by cases h) (ab2 (by decide) l1) (wb (by show 17<18;omega) (by rw[Ny];rfl) λi hi=>Uy hi []) ⟨iJ _,u1⟩ ⟨m2,u2⟩ (r1 18 _ (by decide) rfl) (P2 (by decide) rfl _ _ _ u2)
 .obtain⟨a2,l2,r2⟩:=k2 17;exact gen (some [(o1,x1.map bv)]) none b1 b2 (some ⟨16,o1,none⟩) a2 c1 c2 x1 [] (ob1 BQ n1 ab3) (λ_ h=>by cases h) (λ_ _ _ h=>by cases h) (wb (by show 16<18;omega) (by rw[Ny];rfl) λi hi=>Uy hi []) (ab2 (by decide) l2) ⟨m1,u1⟩ ⟨iJ _,u2⟩ (P2 (by decide) rfl _ _ _ u1) (r2 18 _ (by decide) rfl)
 .by_cases hbb:b1=b2
  .subst hbb;rw[BQ] at KN;cases KN
   exact gen (some [(o1,x1.map bv),(o2,x2.map bv)]) none b1 0 (some ⟨16,o1,none⟩) (some ⟨16,o2,none⟩) c1 c2 x1 x2 (λws e=>by
    cases e
    exact⟨_,_,_,BQ,λp hp=>by
     rcases bR.1 hp with rfl|hp
     .exact JY n1 ab3 _ _
     .rw[gR] at hp;subst hp;exact JY n2 OI _ _⟩) (λ_ h=>by cases h) (λ_ _ _ h=>by cases h) (wb (by show 16<18;omega) (by rw[Ny];rfl) λi hi=>Uy hi _) (wb (by show 16<18;omega) (by rw[Ny];rfl) λi hi=>al6 ab3 OI hi) ⟨m1,u1⟩ ⟨m2,u2⟩ (P2 (by decide) rfl _ _ _ u1) (P2 (by decide) rfl _ _ _ u2)
  .exact gen (some [(o1,x1.map bv)]) (some [(o2,x2.map bv)]) b1 b2 (some ⟨16,o1,none⟩) (some ⟨17,o2,none⟩) c1 c2 x1 x2 (ob1 BQ n1 ab3) (ob1 KN n2 OI) (λ_ _ _ _=>hbb) (wb (by show 16<18;omega) (by rw[Ny];rfl) λi hi=>Uy hi []) (wb (by show 17<18;omega) (by rw[Ny];rfl) λi hi=>Uy hi []) ⟨m1,u1⟩ ⟨m2,u2⟩ (P2 (by decide) rfl _ _ _ u1) (P2 (by decide) rfl _ _ _ u2)
end
end Go.Proofs
