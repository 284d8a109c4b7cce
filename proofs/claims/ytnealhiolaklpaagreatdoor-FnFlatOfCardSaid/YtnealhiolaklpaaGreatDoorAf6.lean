/- Lemmas of the proof. No conditions. -/
import Derived.Test.YtnealhiolaklpaaGreatDoorAf5
set_option maxRecDepth 100000
set_option maxHeartbeats 4000000
set_option linter.all false
open Bool renaming false->U,true->J
open Option renaming none->O,some->C
open List renaming length->Y
open Go.Value renaming slice->H,bool->M,int->I
open Go.Proofs.Tryz
open Nat (beq ble mul)
open Go.Result (andThen_ok)
open Go.Sem (run_bind)
open Go.Region (binds)
open List (replicate)
open Int (toNat)
open Go.Builtin (firstCells)
open Go.Instr (checkKey)
namespace Go.Pl
open Go Go.Ev Go.Lg Go.Proofs
variable {l:Kn}{L:cq}{xs:List Operand}{st:ae}{p:List (Option dX)}{r:Bool}{x:Operand}{t e:TypeId}{k i:Int}{n:Nat}{P:B0}
def Q4 (s:St)(P:B0)(Q:s4 P)(hr:l9 s P):bM 87 [.pointer (C ⟨P.bf,0,O⟩)] s (nD P) (.bool (Vt (Pg.fF P.st P.t))):=by
 refine' zaY;have NU:=F1.bx;have hgw:=Pg.Q2 ((Pg.gN _ _).1 Q.tab).1 Q.acd;have aeF:=(Pg.oh ((Pg.gN _ _).1 Q.tab).1).2;have hnG:Y P.G=Y (Pg.bI P.st P.t):=by rw[<-Q.bj,fH]
 have hGm:Y P.G=Y (P.G.map dR):=by rw[fH]
 have hrp:VZ ⟨s,([]:cq).flatMap It.bC,nD P⟩ P.aN (P.G.map dR):=⟨F1.nr⟩;have Vo:¬Pg.Gd (Pg.fF P.st P.t)->Vt (Pg.fF P.st P.t)=U:=λh=>by
  cases hb:Vt (Pg.fF P.st P.t) with
  |false=>rfl
  |true=>exact absurd (s3.1 hb) h
 generalize hGr:Pg.fF P.st P.t=Gr at hgw Vo;generalize hA:nD P=A at F1 NU hrp;refine a8 f87 ?_;(repeat' first|refine' AG|(apply pP;intro bm _)|refine' qgb|fail);refine W.aeE λw0=>?_;refine W.bu (λm l L=>∃(done todo:List Nat)(d:Nat->Nat)(f:List (Int×Int))(z S Z:Nat)(V:aP)(T:fa),Le [(0,.pointer (C ⟨P.bf,0,O⟩)),(3,.map (C z)),(4,H V (Y (todo.map λn:Nat=>(n:Int))) Z)] l/\cb [.iC z (VT f),.iC S T] L/\m=16-Y done/\(todo=[]\/QF 3 S V Z T (todo.map λn:Nat=>(n:Int)))/\Pg.BI Gr done todo d/\(∀j:Nat,(cO f (j:Int)).getD 0=(d j:Int))/\∀j:Nat,d j<=12*Y done)
  (λl L=>∃(done:List Nat)(d:Nat->Nat)(f:List (Int×Int))(z:Nat),Le [(0,.pointer (C ⟨P.bf,0,O⟩)),(3,.map (C z))] l/\cb [.iC z (VT f)] L/\Pg.BI Gr done [] d/\∀j:Nat,(cO f (j:Int)).getD 0=(d j:Int)) _ ⟨[],[0],λ_=>0,[],bm,bl,1,C ⟨bl,0,O⟩,.cells [iv 0] 3 w0,bd,ak,rfl,.inr (QF.lit 0 w0),Pg.BI.start hgw,λj=>rfl,λj=>jl _⟩ ?_ ?_
 rintro m l L ⟨done,todo,d,f,z,S,Z,V,T,Bk,hL,rfl,hq0,B,u,N⟩;refine' cP;have hdl:=B.len hgw;cases todo with
 |nil=>refine' eR;(all_goals refine' zay);all_goals exact⟨done,d,f,z,bd,ak,B,u⟩
 |cons k todo=>
  have w:QF 3 S V Z T ((k:Int)::todo.map λn:Nat=>(n:Int)):=hq0.resolve_left aq;have hkd:Pg.jQ Gr k:=B.dir k aq;obtain⟨a1,c1,es,hg1,GZ,ai3⟩:=Q.Zt (k:=k) (by rwa[hGr]);rw[hGr] at GZ;(have aeG:(cO P.M (k:Int)).getD (O,0,[])=(a1,c1,es):=by rw[hg1];rfl);obtain⟨hel,hee⟩:=E9 ai3;have hen:Rd ⟨s,([]:cq).flatMap It.bC,A⟩ a1 (Y es) 2 (ab es):=F1.en (vA hg1);(have RM:Y ((k::todo).map λn:Nat=>(n:Int))=Y todo+1:=by simp);simp only[fS] at hdl;(repeat' first|refine' AG|(apply ace;exact bN;(exact w);exact bN;intro _ aj5 ai4)|(apply Zy;exact bN;(exact ai4);exact kD;intro _)|(apply xx;(exact F1);(exact aeG);(exact(by kernel_rfl));(exact(by kernel_rfl));(intro k;exact rfl);(exact(by kernel_rfl));exact bN;exact bN;intro _)|refine' qgb|fail);refine W.bu (λm l L=>∃(i:Nat)(todo:List Nat)(d:Nat->Nat)(f:List (Int×Int))(z S Z:Nat)(V:aP)(T:fa),Le [(0,.pointer (C ⟨P.bf,0,O⟩)),(3,.map (C z)),(25,H a1 (Y es) c1),(26,iv (Y es:Int)),(27,iv (i:Int)),(4,H V (Y ((k:Int)::todo.map (λn:Nat=>(n:Int)))) Z)] l/\cb [.iC z (VT f),.iC S T] L/\m=Y es-i/\i<=Y es/\QF 3 S V Z T ((k:Int)::todo.map (λn:Nat=>(n:Int)))/\Pg.BJ Gr done k todo (es.take i) d/\(∀j:Nat,(cO f (j:Int)).getD 0=(d j:Int))/\Y todo<=16+i/\∀j:Nat,d j<=12*Y done+i)
   (λl L=>∃(todo:List Nat)(d:Nat->Nat)(f:List (Int×Int))(z S Z:Nat)(V:aP)(T:fa),Le [(0,.pointer (C ⟨P.bf,0,O⟩)),(3,.map (C z)),(4,H V (Y ((k:Int)::todo.map (λn:Nat=>(n:Int)))) Z)] l/\cb [.iC z (VT f),.iC S T] L/\QF 3 S V Z T ((k:Int)::todo.map (λn:Nat=>(n:Int)))/\Pg.BJ Gr done k todo es d/\(∀j:Nat,(cO f (j:Int)).getD 0=(d j:Int))/\∀j:Nat,d j<=12*Y done+12) _ ⟨0,todo,d,f,z,S,Z,V,T,bd,ak,rfl,aa,w,B.first,u,aa,λj=>by have:=N j;omega⟩ ?_ ?_
  ·(have hdn:Y done<=16:=by omega);clear u B w hq0 hdl RM N;rintro m l L ⟨i,todo,d,f,z,S,Z,V,T,Bk,hL,rfl,hi0,w,D,u,RM,N⟩;refine' cP;by_cases hi:i<Y es;have hem:=a7 (show i<Y es by omega) au.ad;obtain⟨_,ai5,ai6⟩:=hee _ hem;have ZX:=dS es au.ad hi;(have Sc:Pg.aY Gr k=es.take i++(es.getD i au.ad)::es.drop (i+1):=by rw[GZ,<-qg es au.ad hi,vC]);obtain⟨j,hj⟩:=tI (show 0<=(es.getD i au.ad).id by omega);(have F:(es.getD i au.ad).id.toNat=j:=by rw[hj];rfl);(have hj0:j≠0:=by omega);have aeH:=u j;rw[<-hj] at aeH;have aj6:=N j;(have ag3:∀j',Pg.bump d j j'<=12*Y done+(i+1):=λj'=>by have:=N j';unfold Pg.bump;split<;>omega);cases hnj:(Pg.bI P.st P.t).getD j O with
   |none=>(have Z8:=λs hr=>E8 (p:=Pg.bI P.st P.t) (i:=(es.getD i au.ad).id) (by rwa[hj,Bb]) s P.aN P.kN P.G Q.bj aeF hr);rw[Vo (D.none Sc (by rw[F,<-hGr];exact s4.Kr.1 hnj))];(repeat' first|refine' AG|(apply oe;exact aj;(exact F1.mU);(exact Z8);intros)|refine' qgy|fail)
   |some n=>
    have Z8:=λs hr=>E7 (p:=Pg.bI P.st P.t) (i:=(es.getD i au.ad).id) (n:=n) (by rwa[hj,Bb]) s P.aN P.kN P.G Q.bj aeF hr;have hgj:∃r,Gr j=C r/\r.n=n:=⟨_,by rw[<-hGr];exact Pg.og hnj,rfl⟩;(have hmu:∀j':Nat,(cO (ig f (es.getD i au.ad).id ((cO f (es.getD i au.ad).id).getD 0+1)) (j':Int)).getD 0=(Pg.bump d j j':Int):=λj'=>by rw[lu];unfold Pg.bump;by_cases h:j'=j;rw[ai aa,ai h,lI,aeH,h];omega;rw[af aa,af h];exact u j');(have hgu:(cO (ig f (es.getD i au.ad).id ((cO f (es.getD i au.ad).id).getD 0+1)) (es.getD i au.ad).id).getD 0=(d j:Int)+1:=by rw[lu,ai rfl,lI,aeH]);generalize haw:ig f (es.getD i au.ad).id ((cO f (es.getD i au.ad).id).getD 0+1)=ml2 at hmu hgu;by_cases Lq:n.kind=2
    ·(have hdj:Pg.jQ Gr j:=by obtain⟨r,h1,h2⟩:=hgj;exact⟨r,h1,by rwa[h2]⟩);by_cases hm1:1<d j+1
     .rw[Vo (D.ag0 hgw Sc (by rwa[F]) aa (by rwa[F]))];(repeat' first|refine' AG|(apply oe;exact aj;(exact F1.mU);(exact Z8);intros)|refine' HG|refine' Sk|((with_reducible apply gb (α:=Int) (xs:=[_]));exact nI;exact rfl;exact rfl;intro bl _)|((with_reducible apply Kq (e:=3));exact bN;(exact w);exact bN;exact Bn;exact ax;(simp only[fH,fS] at *;omega);intro _ _ aeI aeJ aeK aeL Zz _ _)|refine' gL|fail);(all_goals first|(exfalso;omega;done)|contradiction|(exfalso;rw[haw] at *;omega;done)|skip);(all_goals first|((refine' aC);rfl;done)|skip);(all_goals skip);all_goals skip
     (repeat' first|refine' AG|(apply oe;exact aj;(exact F1.mU);(exact Z8);intros)|refine' HG|refine' Sk|((with_reducible apply gb (α:=Int) (xs:=[_]));exact nI;exact rfl;exact rfl;intro bl _)|((with_reducible apply Kq (e:=3));exact bN;(exact w);exact bN;exact Bn;exact ax;(simp only[fH,fS] at *;omega);intro _ _ aeI aeJ aeK aeL Zz _ _)|refine' gL|fail);(all_goals first|(exfalso;omega;done)|contradiction|(exfalso;rw[haw] at *;omega;done)|skip);(all_goals first|exact⟨_,aa,i+1,todo++[j],Pg.bump d j,ml2,z,aeI,aeK,aeJ,aeL,by(rw[qR,<-jk,List.map_singleton,<-hj];exact bd),by(rw[<-haw];exact ak),rfl,aa,by(rwa[qR,<-jk,List.map_singleton,<-hj]),by(rw[ZX];have:=D.Zt (e:=(es.getD i au.ad)) (by rwa[F]) aa (by rwa[F]);rwa[F] at this),hmu,by(rw[dB,vJ];omega),ag3⟩|skip);(all_goals skip);all_goals skip
    (have hdj:¬Pg.jQ Gr j:=by rintro⟨r,h1,h2⟩;obtain⟨r',h3,h4⟩:=hgj;rw[h1] at h3;cases h3;rw[h4] at h2;exact Lq h2);(repeat' first|refine' AG|(apply oe;exact aj;(exact F1.mU);(exact Z8);intros)|refine' HG|refine' Sk|((with_reducible apply gb (α:=Int) (xs:=[_]));exact nI;exact rfl;exact rfl;intro bl _)|((with_reducible apply Kq (e:=3));exact bN;(exact w);exact bN;exact Bn;exact ax;(simp only[fH,fS] at *;omega);intro _ _ aeI aeJ aeK aeL Zz _ _)|refine' gL|fail);(all_goals first|(exfalso;omega;done)|contradiction|(exfalso;rw[haw] at *;omega;done)|skip);all_goals exact⟨_,aa,i+1,todo,Pg.bump d j,ml2,z,S,Z,V,T,bd,by(rw[<-haw];exact ak),rfl,aa,w,by(rw[ZX];have:=D.file (e:=(es.getD i au.ad)) (by rw[F];exact⟨_,hgj.choose_spec.1⟩) (by rwa[F]);rwa[F] at this),hmu,aa,ag3⟩
   (have hi:i=Y es:=by omega);rw[hi,lG] at D;refine' iK;all_goals exact⟨todo,d,f,z,S,Z,V,T,bd,ak,w,D,u,λj=>by have:=N j;omega⟩
  clear u B w hq0 RM N;rintro l L ⟨todo,d,f,z,S,Z,V,T,Bk,hL,w,D,u,N⟩;(repeat(first|(with_reducible first|refine aJ ?_|refine eZ ?_|refine gG ?_)));refine' cP;rw[<-GZ] at D;have B:=D.bW;have ab5:=B.len hgw;rw[dB,vJ] at ab5;(repeat' first|refine' AG|(apply acf;exact bN;(exact w);exact bN;exact kD;intro _ ai7 ai8 ai9)|refine' qgb|fail);all_goals exact⟨16-Y (done++[k]),by(rw[dB,vJ];omega),done++[k],todo,d,f,z,S,ai8,ai7,T,bd,ak,rfl,ai9.imp (λh=>by simpa using h) id,B,u,λj=>by(have:=N j;rw[dB,vJ];omega)⟩
 rintro l L ⟨done,d,f,z,Bk,hL,B,u⟩;refine' gh;have Vu:=B.fin hgw;refine' iK;refine W.bu (λm l L=>∃(i:Nat),Le [(3,.map (C z)),(65,H P.aN (Y P.G) P.kN),(66,iv (Y P.G:Int)),(67,iv (i:Int))] l/\cb [.iC z (VT f)] L/\m=Y P.G-i/\i<=Y P.G/\∀j e,j<i->j≠0->Gr j=C e->((d j:Nat):Int)=e.n.aX)
  (λl L=>Pg.Gd Gr) _ ⟨0,bd,ak,rfl,aa,λj e hj=>absurd hj (Nat.not_lt_zero j)⟩ ?_ ?_
 .rintro m l L ⟨i,Bk,hL,rfl,hi0,WH⟩;refine' cP;by_cases hi:i<Y P.G;(have hiG:i<Y (P.G.map dR):=by omega);have ag4:=u i;(have acg:(P.G.map dR).getD i O=dR (P.G.getD i O):=by rw[eX,eX,mP];cases P.G[i]?<;>rfl);(have Rh:(Pg.bI P.st P.t).getD i O=(P.G.getD i O).map Prod.snd:=by rw[<-Q.bj,eX,eX,mP];cases P.G[i]?<;>rfl);cases hg:P.G.getD i O with
  |none=>rw[hg] at acg Rh;have VV:(P.G.map dR).getD i O=O:=acg;(have hgn:Gr i=O:=by rw[<-hGr];exact s4.Kr.1 Rh);(repeat' first|refine' AG|(apply s7;exact bN;exact bN;assumption;(exact hiG);(exact hGm);intro _)|(apply uZ;exact bN;assumption;(exact hiG);(exact VV);intro _)|(apply yi;exact bN;exact bN;intro _)|refine' HG|refine' gL|fail);(all_goals refine' zay);all_goals exact⟨_,aa,i+1,bd,ak,rfl,aa,λj e hj h0 he=>by rcases(by omega:j<i\/j=i) with hj|rfl;exact WH j e hj h0 he;rw[hgn] at he;cases he⟩
  |some x=>
   obtain⟨bi,n⟩:=x;rw[hg] at acg Rh;have VV:(P.G.map dR).getD i O=C ⟨bi,0,O⟩:=acg;have hdn:Rd ⟨s,([]:cq).flatMap It.bC,A⟩ (ko bi) 1 10 (jg n):=F1.nd (by rw[<-hg];exact gX O hi);(have hgn:Gr i=C ⟨n,if n.kind=2 then(bc P.st n).getD [] else [],[]⟩:=by rw[<-hGr];exact Pg.og Rh);have IW:i≠0->(d i:Int)≠n.aX->Vt Gr=U:=λh1 h2=>Vo λhx=>h2 (Vu.1 hx i _ h1 hgn);(have aja:(i=0\/(d i:Int)=n.aX)->∀j e,j<i+1->j≠0->Gr j=C e->((d j:Nat):Int)=e.n.aX:=λhor j e hj h0 he=>by rcases(by omega:j<i\/j=i) with hj|rfl;exact WH j e hj h0 he;rw[hgn] at he;cases he;exact hor.resolve_left h0);clear Rh hg;(repeat' first|refine' AG|(apply s7;exact bN;exact bN;assumption;(exact hiG);(exact hGm);intro _)|(apply uZ;exact bN;assumption;(exact hiG);(exact VV);intro _)|(apply yi;exact bN;exact bN;intro _)|refine' HG|refine' gL|fail);(all_goals refine' zay);all_goals first
    |(rw[IW aa (by rw[<-ag4];assumption)]
      refine' aC
      rfl)
    |exact⟨_,aa,i+1,bd,ak,rfl,aa,aja (by first|exact .inl aa|exact .inr (by rw[<-ag4];assumption))⟩
  have hi:i=Y P.G:=by omega
  have hgd:Pg.Gd Gr:=Vu.2 λj e h0 he=>by obtain Lp|Rh:=jc j (Y P.G);exact WH j e aa h0 he;(have:Gr j=O:=by rw[<-hGr];exact s4.Kr.1 (by rw[eX,mQ aa];rfl));rw[this] at he;cases he
  refine' iK;all_goals exact hgd
 rintro l L hgd;refine aJ ?_;rw[s3.2 hgd];refine' qcy
end Go.Pl
