/- Lemmas of the proof. No conditions. -/
import Derived.Test.YtajgfdfbnhchcaaGreatDoorBe2
set_option maxRecDepth 100000
set_option maxHeartbeats 4000000
set_option linter.unusedVariables false
set_option linter.unusedSimpArgs false
open Go.Proofs.Tryz
namespace Go.Pl
open Go Go.Ev Go.Lg Go.Proofs
theorem Sc (s:St)(o:Op)(h1:o.af.length<=90000)(h2:o.to.length<=90000)(h3:o.bq.length<=90000):bF 25 [ov o] s [] (.bool (ik o)):=by
 refine' zar
 generalize ik o=r at *
 refine aT f25 ?_;repeat' (first|refine' aW|refine' Ow|refine' aeC|refine' av|fail)
 all_goals refine' zaE
 all_goals(rw[e];simp_all [gL,fV];try omega)
theorem Ft {z:az}(hp:aP z=true)(hn:aF z≠[]):(Fs.base z).length<=1000:=by have:=Pg.Ke hp hn;unfold aU at this;simp only[bO,bQ] at this;omega
theorem IA (s:St)(b:Nat)(v:SA)(st:au)(t:cB)(h:dA 50000 st)(ht:ek t)(pr:Pg.FS st t)(z:az)(hz:z.length<=90000)(hp:aP z=true)(kind:Int)(hk:kind=1\/kind=2):
  mJ bh bw 113 [bg b,sv z,iv kind] s b v ⟨st,t,false⟩ (Fs.make ⟨st,t,false⟩ z kind).1 (iv (Fs.make ⟨st,t,false⟩ z kind).2):=by
 have tz:dA 100000 st:=h.mono ag;have mE:Fs.make ⟨st,t,false⟩ z kind=if 0<(Fs.bI ⟨st,t,false⟩ z).2 then(⟨st,t,false⟩,(Fs.bI ⟨st,t,false⟩ z).2) else
   match vb st t with
   |none=>(⟨st,t,false⟩,6)
   |some id=>if 12<=(Fs.bM ⟨st,t,false⟩ (Fs.bI ⟨st,t,false⟩ z).1).length then(⟨st,t,false⟩,6) else((Fs.bk (Fs.put ⟨st,t,false⟩ id ⟨kind,1,0,fh⟩) (Fs.bI ⟨st,t,false⟩ z).1 (gz (Fs.bM ⟨st,t,false⟩ (Fs.bI ⟨st,t,false⟩ z).1) ⟨Fs.base z,id⟩)),0):=rfl
 have Az:∀s,lN s b v ⟨st,t,false⟩->bF 154 [bg b,sv z] s (ub b v) (.tuple ⟨[iv (Fs.bI ⟨st,t,false⟩ z).1,iv (Fs.bI ⟨st,t,false⟩ z).2]⟩):=λs hr=>Fk s b v _ tz ht z hz hp hr
 have Mh:∀s,cS s v st->bF 155 [fK v st,tv t] s (iO v) (iv (H3 (vb st t))):=λs hr=>PX s v st tz t ht hr
 obtain⟨G,l0,q0,hF,hG⟩:=pr;by_cases hc:0<(Fs.bI ⟨st,t,false⟩ z).2
 .rw[if_pos hc] at mE;rw[mE];generalize Fs.bI ⟨st,t,false⟩ z=fr at *
  refine aT f113 ?_;dsimp only[ko,eQ];repeat' (first|refine' aW|refine' Ee|refine' av|fail)
  all_goals try exact pJ
  refine mR (v':=v) bG bu ar rfl
 .obtain⟨at_,e,e1,e2,e3,e4,e5,e6,e7⟩:=Pg.sW hF hp hc;have jJ:Fs.bM ⟨st,t,false⟩ (at_:Int)=e.es:=Pg.mb hF false e4 e5;have nJ:at_<16:=(hF.lt e4).2;have heb:=vC ⟨st,t,false⟩ (at_:Int);have PU:=Ft hp e2;rw[if_neg hc,e1,jJ] at mE;rw[e1] at Az;rw[jJ] at heb;have ajw:=heb.1;have Wu:∀s,lN s b v ⟨st,t,false⟩->eU bh bw 156 [bg b,iv at_] s (ub b v) 200 e.es:=λs hr=>by
   refine' zbe
  have qY:(Fs.bI ⟨st,t,false⟩ z).2<=0:=by omega
  generalize(Fs.bI ⟨st,t,false⟩ z).2=fc at *
  cases hid:vb st t with
  |none=>
   rw[hid] at mE Mh;simp only at mE;rw[mE];refine aT f113 ?_;dsimp only[ko,eQ];(repeat' (first|refine' aW|refine' Ee|refine' XG|refine' BJ|refine' av|fail));all_goals refine' zaA
  |some id=>
   obtain⟨adB,_⟩:=Pg.Ff hF hid;rw[hid] at mE Mh;simp only at mE;have Mh:∀s,cS s v st->bF 155 [fK v st,tv t] s (iO v) (iv id):=Mh;by_cases AD:12<=e.es.length
   .rw[if_pos AD] at mE;rw[mE];refine aT f113 ?_;dsimp only[ko,eQ];repeat' (first|refine' aW|refine' Ee|refine' XG|refine' BJ|refine' av|fail)
    (all_goals try refine cj);all_goals refine mR (v':=v) bG bu ar rfl
   .rw[if_neg AD] at mE;have Cc:∀a c s,bH s a e.es.length 2 (ai e.es)->eU bh bw 159 [.slice a e.es.length c,.agg ⟨[sv (Fs.base z),iv id]⟩] s (aj a) 200 (gz e.es ⟨Fs.base z,id⟩):=λa c s hr=>vY s a c e.es ⟨Fs.base z,id⟩ ag hr
    have lV:=Aa (x:=⟨Fs.base z,id⟩) heb ⟨PU,by show(0:Int)<=(id:Int);omega,by show(id:Int)<=1000;omega⟩;have dM:∀(dL:SA) s,mJ bh bw 157 [bg b,iv id,.agg ⟨[iv kind,.int .i64 1,cr,cr,cr,cr,cr,cr,cr,cr]⟩] s b dL ⟨st,t,false⟩ (Fs.put ⟨st,t,false⟩ id ⟨kind,1,0,fh⟩) (.tuple ⟨[]⟩):=λdL s=>sS s b dL ⟨st,t,false⟩ (h.mono ag) ht id adB ⟨kind,1,0,fh⟩
    have Cz:sY 50030 (Fs.put ⟨st,t,false⟩ id ⟨kind,1,0,fh⟩):=sY.put (n:=50000) ⟨h,ht⟩ ag _;generalize Fs.put ⟨st,t,false⟩ id ⟨kind,1,0,fh⟩=f1 at *
    generalize gz e.es ⟨Fs.base z,id⟩=w6 at *
    refine' zas;rw[mE];refine aT f113 ?_;dsimp only[ko,eQ];(repeat' (first|refine' aW|refine' Ee|refine' XG|refine' BJ|refine' Ec|refine' Rz|refine' HD|refine' Me|refine' av|fail));all_goals refine' zaF
theorem UO (s:St)(b:Nat)(v:SA)(st:au)(t:cB)(h:dA 50000 st)(ht:ek t)(pr:Pg.FS st t)(z:az)(hz:z.length<=90000)(hp:aP z=true)(to:az)(hzt:to.length<=90000)(uF:aP to=true):
  mJ bh bw 115 [bg b,sv z,sv to] s b v ⟨st,t,false⟩ (Fs.link ⟨st,t,false⟩ z to).1 (iv (Fs.link ⟨st,t,false⟩ z to).2):=by
 have tz:dA 100000 st:=h.mono ag;have mE:Fs.link ⟨st,t,false⟩ z to=if Fs.di ⟨st,t,false⟩ z<0 then(⟨st,t,false⟩,2) else if(Fs.node ⟨st,t,false⟩ (Fs.di ⟨st,t,false⟩ z)).kind≠1 then(⟨st,t,false⟩,4) else if 0<(Fs.bI ⟨st,t,false⟩ to).2 then(⟨st,t,false⟩,(Fs.bI ⟨st,t,false⟩ to).2) else
   if 9<=(Fs.node ⟨st,t,false⟩ (Fs.di ⟨st,t,false⟩ z)).bK\/12<=(Fs.bM ⟨st,t,false⟩ (Fs.bI ⟨st,t,false⟩ to).1).length then(⟨st,t,false⟩,6) else
   ((Fs.bk (Fs.put ⟨st,t,false⟩ (Fs.di ⟨st,t,false⟩ z) {Fs.node ⟨st,t,false⟩ (Fs.di ⟨st,t,false⟩ z) with bK:=(Fs.node ⟨st,t,false⟩ (Fs.di ⟨st,t,false⟩ z)).bK+1}) (Fs.bI ⟨st,t,false⟩ to).1 (gz (Fs.bM ⟨st,t,false⟩ (Fs.bI ⟨st,t,false⟩ to).1) ⟨Fs.base to,Fs.di ⟨st,t,false⟩ z⟩)),0):=rfl
 have Az:∀s,lN s b v ⟨st,t,false⟩->bF 154 [bg b,sv to] s (ub b v) (.tuple ⟨[iv (Fs.bI ⟨st,t,false⟩ to).1,iv (Fs.bI ⟨st,t,false⟩ to).2]⟩):=λs hr=>Fk s b v _ tz ht to hzt uF hr
 have Xy:∀s,lN s b v ⟨st,t,false⟩->bF 161 [bg b,sv z] s (ub b v) (iv (Fs.di ⟨st,t,false⟩ z)):=λs hr=>qg s b v ⟨st,t,false⟩ tz ht z hz hp hr
 obtain⟨G,l0,q0,hF,hG⟩:=pr;by_cases h1:Fs.di ⟨st,t,false⟩ z<0
 .rw[if_pos h1] at mE;rw[mE];generalize Fs.di ⟨st,t,false⟩ z=w at *
  refine aT f115 ?_;dsimp only[ko,eQ];repeat' (first|refine' aW|refine' uv|refine' av|fail)
  all_goals try exact pJ
  refine mR (v':=v) bG bu ar rfl
 .rw[if_neg h1] at mE;obtain⟨k,e1,e2⟩:=Pg.iF hF h1;obtain⟨ei,re⟩:=Pg.jy hG e2;have hk:k<16:=(hF.lt re).2;have Ch:Fs.node ⟨st,t,false⟩ (k:Int)=ei.n:=by rw[Pg.ny hF,re];rfl
  rw[e1,Ch] at mE;rw[e1] at Xy;have nN:∀s,lN s b v ⟨st,t,false⟩->bF 162 [bg b,iv k] s (ub b v) (nv ei.n):=λs hr=>by rw[<-Ch];exact tT s b v ⟨st,t,false⟩ tz ht k ag hr
  have MK: -1000<=ei.n.bK/\ei.n.bK<=1000:=by
   have:=Pg.lh ((hF.at_ k).some re).2.ok;omega
  clear h1 e1;by_cases h2:ei.n.kind≠1
  .rw[if_pos h2] at mE;rw[mE];refine aT f115 ?_;dsimp only[ko,eQ];refine' RD
   (all_goals first|(exfalso;omega;done)|(exfalso;exact h2 aL)|skip);all_goals refine mR (v':=v) bG bu ar rfl
  .rw[if_neg h2] at mE;have h2:ei.n.kind=1:=by simpa using h2
   by_cases hc:0<(Fs.bI ⟨st,t,false⟩ to).2
   .rw[if_pos hc] at mE;rw[mE];generalize Fs.bI ⟨st,t,false⟩ to=fr at *
    refine aT f115 ?_;dsimp only[ko,eQ];(repeat' (first|refine' aW|refine' uv|refine' zq|refine' Ee|refine' av|fail));all_goals refine' zaA
   .obtain⟨at_,e,f1,f2,f3,f4,f5,f6,f7⟩:=Pg.sW hF uF hc;have jJ:Fs.bM ⟨st,t,false⟩ (at_:Int)=e.es:=Pg.mb hF false f4 f5;have nJ:at_<16:=(hF.lt f4).2;have heb:=vC ⟨st,t,false⟩ (at_:Int);have PU:=Ft uF f2;rw[if_neg hc,f1,jJ] at mE;rw[f1] at Az;rw[jJ] at heb;have ajw:=heb.1;have Wu:∀s,lN s b v ⟨st,t,false⟩->eU bh bw 156 [bg b,iv at_] s (ub b v) 200 e.es:=λs hr=>by
     refine' zbe
    have qY:(Fs.bI ⟨st,t,false⟩ to).2<=0:=by omega
    generalize(Fs.bI ⟨st,t,false⟩ to).2=fc at *
    by_cases AD:9<=ei.n.bK\/12<=e.es.length
    .rw[if_pos AD] at mE;rw[mE];refine aT f115 ?_;dsimp only[ko,eQ];repeat' (first|refine' aW|refine' uv|refine' zq|refine' Ee|refine' BJ|refine' av|fail)
     (all_goals try refine cj);all_goals refine mR (v':=v) bG bu ar rfl
    .rw[if_neg AD] at mE;have Cc:∀a c s,bH s a e.es.length 2 (ai e.es)->eU bh bw 159 [.slice a e.es.length c,.agg ⟨[sv (Fs.base to),iv k]⟩] s (aj a) 200 (gz e.es ⟨Fs.base to,k⟩):=λa c s hr=>vY s a c e.es ⟨Fs.base to,k⟩ ag hr
     have lV:=Aa (x:=⟨Fs.base to,k⟩) heb ⟨PU,by show(0:Int)<=(k:Int);omega,by show(k:Int)<=1000;omega⟩;have dM:∀(dL:SA) s,mJ bh bw 157 [bg b,iv k,nv {ei.n with bK:=ei.n.bK+1}] s b dL ⟨st,t,false⟩ (Fs.put ⟨st,t,false⟩ k {ei.n with bK:=ei.n.bK+1}) (.tuple ⟨[]⟩):=λdL s=>sS s b dL ⟨st,t,false⟩ (h.mono ag) ht k hk _
     have Cz:sY 50030 (Fs.put ⟨st,t,false⟩ k {ei.n with bK:=ei.n.bK+1}):=sY.put (n:=50000) ⟨h,ht⟩ ag _;generalize Fs.put ⟨st,t,false⟩ k {ei.n with bK:=ei.n.bK+1}=f1 at *
     generalize gz e.es ⟨Fs.base to,k⟩=w6 at *
     refine' zas;rw[mE];refine aT f115 ?_;dsimp only[ko,eQ];(repeat' (first|refine' aW|refine' uv|refine' zq|refine' Ee|refine' BJ|refine' Ec|refine' Rz|refine' HD|refine' Me|refine' av|fail));all_goals refine' zaF
variable {E:ig}{X:fR}{Γ:qV}{l:Kn}{L:bZ}{K:KO}{g:FuncId}{xs:List Operand}{ts:Array TypeId}{vs:a6}{v:SA}{f:Fs}
section
variable {b:Nat}
theorem WO.Zr {α:Type}{sz:Nat}{enc:ak α sz}{e:TypeId}{p:List α}(hx:kA l xs vs)(h:∀v s,lN s b v f->eU E X g vs s (ub b v) e p)(hh:LP Γ L b v f)(k:∀m m' a c,jX L m->m<=m'->K (.slice a p.length c) (.aQ (.slice a p.length c) e sz (ai (sz:=sz) p)::L) m m' (FtR (ub b v) [] m m') (FtW [] m m')):WC E X Γ l g xs ts L K:=WO.RU hx hh (h v) k
end
end Go.Pl
