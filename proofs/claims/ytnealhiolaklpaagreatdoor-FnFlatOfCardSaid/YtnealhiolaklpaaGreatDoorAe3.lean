/- Lemmas of the proof. No conditions. -/
import Derived.Test.YtnealhiolaklpaaGreatDoorAe2
set_option maxRecDepth 100000
set_option maxHeartbeats 4000000
set_option linter.all false
open Bool renaming false->U,true->J
open Option renaming none->O,some->C
open List renaming length->Y
open Go.Value renaming slice->H,bool->M,int->I
open Go.Proofs.Tryz
open Nat (beq ble mul)
open Go.Result (andThen_ok)
open Go.Sem (run_bind)
open Go.Region (binds)
open List (replicate)
open Int (toNat)
open Go.Builtin (firstCells)
open Go.Instr (checkKey)
namespace Go.Pl
open Go Go.Ev Go.Lg Go.Proofs
def UU (s:St)(b:Nat)(v:SA)(st:ae)(t:bt)(h:cZ 50000 st)(ht:ee t)(B:Pg.FS st t)(z:aw)(V:Y z<=90000)(T:bQ z=J)(dF:aw)(D:Y dF<=90000)(m:bQ dF=J):
  mK aZ aW 117 [bk b,sv z,sv dF] s b v ⟨st,t,U⟩ (Fs.link ⟨st,t,U⟩ z dF).1 (iv (Fs.link ⟨st,t,U⟩ z dF).2):=by
 have GS:cZ 100000 st:=h.mono aa;have d:Fs.link ⟨st,t,U⟩ z dF=if Fs.dh ⟨st,t,U⟩ z<0 then(⟨st,t,U⟩,2) else if(Fs.node ⟨st,t,U⟩ (Fs.dh ⟨st,t,U⟩ z)).kind≠1 then(⟨st,t,U⟩,4) else if 0<(Fs.dk ⟨st,t,U⟩ dF).2 then(⟨st,t,U⟩,(Fs.dk ⟨st,t,U⟩ dF).2) else
   if 9<=(Fs.node ⟨st,t,U⟩ (Fs.dh ⟨st,t,U⟩ z)).aX\/12<=Y (Fs.aY ⟨st,t,U⟩ (Fs.dk ⟨st,t,U⟩ dF).1) then(⟨st,t,U⟩,6) else
   ((Fs.bz (Fs.put ⟨st,t,U⟩ (Fs.dh ⟨st,t,U⟩ z) {Fs.node ⟨st,t,U⟩ (Fs.dh ⟨st,t,U⟩ z) with aX:=(Fs.node ⟨st,t,U⟩ (Fs.dh ⟨st,t,U⟩ z)).aX+1}) (Fs.dk ⟨st,t,U⟩ dF).1 (gO (Fs.aY ⟨st,t,U⟩ (Fs.dk ⟨st,t,U⟩ dF).1) ⟨Fs.base dF,Fs.dh ⟨st,t,U⟩ z⟩)),0):=rfl
 have Z3:∀s,lC s b v ⟨st,t,U⟩->bM 171 [bk b,sv dF] s (sT b v) (.tuple ⟨[iv (Fs.dk ⟨st,t,U⟩ dF).1,iv (Fs.dk ⟨st,t,U⟩ dF).2]⟩):=λs hr=>Ed s b v _ GS ht dF D m hr;have hfd:∀s,lC s b v ⟨st,t,U⟩->bM 178 [bk b,sv z] s (sT b v) (iv (Fs.dh ⟨st,t,U⟩ z)):=λs hr=>pr s b v ⟨st,t,U⟩ GS ht z V T hr;obtain⟨G,l0,X,g,K⟩:=B;by_cases u:Fs.dh ⟨st,t,U⟩ z<0
 .rw[ai u] at d;rw[d];generalize Fs.dh ⟨st,t,U⟩ z=w at *
  refine a8 f117 ?_;dsimp only[kE,db];repeat' first|refine' tk|refine' zK|fail
  refine oM (v':=v) bK bH ak rfl
 rw[af u] at d;obtain⟨k,y,F⟩:=Pg.iX g u;obtain⟨f,l⟩:=Pg.jE K F;have Q:k<16:=(g.lt l).2;have mU:Fs.node ⟨st,t,U⟩ (k:Int)=f.n:=by rw[Pg.nw g,l];rfl
 rw[y,mU] at d;rw[y] at hfd;have IW:∀s,lC s b v ⟨st,t,U⟩->bM 179 [bk b,iv k] s (sT b v) (nv f.n):=λs hr=>by rw[<-mU];exact sO s b v ⟨st,t,U⟩ GS ht k aa hr
 have S: -1000<=f.n.aX/\f.n.aX<=1000:=by have:=Pg.ef ((g.bD k).some l).2.ok;omega
 clear u y;by_cases r:f.n.kind≠1
 .rw[ai r] at d;rw[d];refine a8 f117 ?_;dsimp only[kE,db];refine' Sl;(all_goals first|(exfalso;omega;done)|(exfalso;exact r aT)|skip);all_goals refine oM (v':=v) bK bH ak rfl
 rw[af r] at d;have r:f.n.kind=1:=by simpa using r
 by_cases hc:0<(Fs.dk ⟨st,t,U⟩ dF).2
 .rw[ai hc] at d;rw[d];generalize Fs.dk ⟨st,t,U⟩ dF=fr at *
  refine a8 f117 ?_;dsimp only[kE,db];(repeat' first|refine' tk|refine' yC|refine' DK|refine' cY|fail);all_goals refine oM (v':=v) bK bH ak rfl
 obtain⟨bD,e,f1,f2,f3,f4,f5,f6,f7⟩:=Pg.rT g m hc;have qA:Fs.aY ⟨st,t,U⟩ (bD:Int)=e.es:=Pg.mg g U f4 f5;have rK:bD<16:=(g.lt f4).2;have i:=uT ⟨st,t,U⟩ (bD:Int);have A:=Ei m f2;rw[af hc,f1,qA] at d;rw[f1] at Z3;rw[qA] at i;have E:=i.1;have hen:∀s,lC s b v ⟨st,t,U⟩->eD aZ aW 173 [bk b,iv bD] s (sT b v) 100 e.es:=λs hr=>by refine' zaX
 have N:(Fs.dk ⟨st,t,U⟩ dF).2<=0:=by omega
 generalize(Fs.dk ⟨st,t,U⟩ dF).2=fc at *
 by_cases o:9<=f.n.aX\/12<=Y e.es
 .rw[ai o] at d;rw[d];refine a8 f117 ?_;dsimp only[kE,db];repeat' first|refine' tk|refine' yC|refine' DK|refine' AI|refine' cY|fail
  all_goals refine oM (v':=v) bK bH ak rfl
 rw[af o] at d;have Td:∀a c s,bJ s a (Y e.es) 2 (ab e.es)->eD aZ aW 176 [H a (Y e.es) c,.agg ⟨[sv (Fs.base dF),iv k]⟩] s (ah a) 100 (gO e.es ⟨Fs.base dF,k⟩):=λa c s hr=>vt s a c e.es ⟨Fs.base dF,k⟩ aa hr;have hab:=yO (x:=⟨Fs.base dF,k⟩) i ⟨A,by show(0:Int)<=(k:Int);omega,by show(k:Int)<=1000;omega⟩;have wQ:∀(VX:SA) s,mK aZ aW 174 [bk b,iv k,nv {f.n with aX:=f.n.aX+1}] s b VX ⟨st,t,U⟩ (Fs.put ⟨st,t,U⟩ k {f.n with aX:=f.n.aX+1}) (.tuple ⟨[]⟩):=λVX s=>sa s b VX ⟨st,t,U⟩ (h.mono aa) ht k Q _;have Lh:sb 50030 (Fs.put ⟨st,t,U⟩ k {f.n with aX:=f.n.aX+1}):=sb.put (n:=50000) ⟨h,ht⟩ aa _;generalize Fs.put ⟨st,t,U⟩ k {f.n with aX:=f.n.aX+1}=f1 at *
 generalize gO e.es ⟨Fs.base dF,k⟩=es2 at *
 refine' zam;rw[d];refine a8 f117 ?_;dsimp only[kE,db];(repeat' first|refine' tk|refine' yC|refine' DK|refine' AI|refine' DJ|refine' Si|refine' HC|refine' Mu|refine' cY|fail);all_goals refine' zaI
variable {E:hJ}{X:fb}{Γ:ng}{l:Kn}{L:cq}{K:KO}{g:FuncId}{xs:List Operand}{ts:Array TypeId}{vs:aV}{v:SA}{f:Fs}{b:Nat}
def Ng {α:Type}{sz:Nat}{enc:au α sz}{e:TypeId}{p:List α}(j:iu l xs vs)(h:∀v s,lC s b v f->eD E X g vs s (sT b v) e p)(i:Mc Γ L b v f)(k:∀m d a c,gk L m->m<=d->K (H a (Y p) c) (.aU (H a (Y p) c) e sz (ab (sz:=sz) p)::L) m d (iI (sT b v) [] m d) (iJ [] m d)):WC E X Γ l g xs ts L K:=D9 j i (h v) k
end Go.Pl
