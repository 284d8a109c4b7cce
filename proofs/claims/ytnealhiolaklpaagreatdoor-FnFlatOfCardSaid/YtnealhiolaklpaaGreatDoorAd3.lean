/- Lemmas of the proof. No conditions. -/
import Derived.Test.YtnealhiolaklpaaGreatDoorAd2
set_option maxRecDepth 100000
set_option maxHeartbeats 4000000
set_option linter.all false
open Bool renaming false->U,true->J
open Option renaming none->O,some->C
open List renaming length->Y
open Go.Value renaming slice->H,bool->M,int->I
open Go.Proofs.Tryz
open Nat (beq ble mul)
open Go.Result (andThen_ok)
open Go.Sem (run_bind)
open Go.Region (binds)
open List (replicate)
open Int (toNat)
open Go.Builtin (firstCells)
open Go.Instr (checkKey)
namespace Go.Pl
open Go Go.Ev Go.Lg Go.Proofs
variable {L:cq}{st:ae}{q:cc}{n:Int}{v:SA}{i:Nat}{level:Int}{was stays out:cc}
def yK (s:St)(v:SA)(st:ae)(h:cZ 90000 st)(t:bt)(ht:aQ t.bU=J)(a:aP)(c:Nat)(lv:cc)(hlv:Y lv=16)(many:Int)(hmn:0<=many/\many<=16)(hr:bJ s a (Y lv) 5 (ab lv))(hm:∀b∈ah a,b∉(db v st).flatMap It.bC)(hsv:tg s a (Y lv) c 31 5):
  eS aZ aW 73 [eg v st,tv t,H a (Y lv) c,iv many] s (ah a) v st (iG st t lv many).1 (iG st t lv many).2.isSome (Yw (iG st t lv many).2):=by
 have hd:Rd ⟨s,(db v st).flatMap It.bC,ah a⟩ a (Y lv) 5 (ab lv):=⟨hr,λb hb=>hb,hm⟩;have h1:cZ 100000 st:=h.mono aa;have hin:=MU (st:=st) ht;have hdd:=Pg.eE many;have N:iG st t lv many=match iQ t (bR many) (bR many).toNat 1 (lv.take many.toNat) st [] with
  |(x,O)=>(x,O)
  |(x,C (stays,l))=>(dA ((fV st t).filter λp=>!(stays.contains p)) x,C ⟨l.headD bp,bR many,many⟩):=rfl
 generalize hLV:iQ t (bR many) (bR many).toNat 1 (lv.take many.toNat) st []=LV at N;have hL4:Y (lv.take many.toNat)<=4^ (bR many).toNat/\Y (lv.take many.toNat)<=16:=by rw[de,hlv];unfold bR;split;simp;omega;split<;>simp<;>omega
 refine a8 f73 ?_;dsimp only[db] at hd⊢;(repeat' first|refine' XT|(apply n3;exact aj;(first|exact λs hr=>DW s _ _ aT _ hr|exact λs hr=>DW s _ _ aT ⟨⟨_,_,_,_,_⟩,_,_⟩ hr);exact dO;intro _ _ ae2 ae3 _ _)|refine' eI|fail);generalize hD:bR many=D at *
 refine W.bu (λk l L=>∃(n:Nat)(level:Int)(x:ae)(ll stays:cc)(o:aP)(B:Nat)(u:aP)(F:Nat)(w:aP)(co d G f g:Nat),Le [(3,iv many),(4,bk d),(5,bk G),(8,bk f),(9,bk g),(11,iv D),(12,H w (Y (fV st t)) co),(13,H o (Y ll) B),(14,H u (Y stays) F),(15,iv level)] l/\cb (.aU (H o (Y ll) B) 31 5 (ab ll):: .aU (H u (Y stays) F) 31 5 (ab stays):: .aU (H w (Y (fV st t)) co) 31 5 (ab (fV st t)):: .box d (lL v x) 29 U:: .box G (eN t) 33 U:: .box f Z4 29 U:: .box g Z5 33 U::db v x) L/\k=n/\level=D+1-n/\n<=D.toNat/\Y ll<=4^ n/\Y ll<=16/\Y stays<=8*(2-n)/\cZ (90000+8*(2-n)) x/\LV=iQ t D n level ll x stays)
  (λl L=>∃(x:ae)(ll stays:cc)(o:aP)(B:Nat)(u:aP)(F:Nat)(w:aP)(co d G f g:Nat),Le [(3,iv many),(4,bk d),(5,bk G),(8,bk f),(9,bk g),(11,iv D),(12,H w (Y (fV st t)) co),(13,H o (Y ll) B),(14,H u (Y stays) F)] l/\cb (.aU (H o (Y ll) B) 31 5 (ab ll):: .aU (H u (Y stays) F) 31 5 (ab stays):: .aU (H w (Y (fV st t)) co) 31 5 (ab (fV st t)):: .box d (lL v x) 29 U:: .box G (eN t) 33 U:: .box f Z4 29 U:: .box g Z5 33 U::db v x) L/\Y stays<=16/\Y ll<=16/\cZ 90016 x/\LV=(x,C (stays,ll))) D.toNat ⟨D.toNat,1,st,[]++lv.take many.toNat,[],_,_,_,_,_,_,_,_,_,_,bd,ak,rfl,aa,fG _,by simpa using hL4.1,by simpa using hL4.2,aq,h.mono aa,hLV.symm⟩ ?_ ?_
 rintro k l L ⟨n,level,x,ll,stays,o,B,u,F,w,co,d,G,f,g,hl,hL,hk,ajX,hnD,hl4,ajY,FA,hx,aeh⟩;refine' cP;subst hk;have hx1:cZ 100000 x:=hx.mono aa;cases k with
 |zero=>refine' OP;exact⟨x,ll,stays,_,_,_,_,_,_,_,_,_,_,bd,ak,aa,aa,hx.mono aa,aeh⟩
 |succ n=>
  (have hDD:D=1\/D=2:=by omega);have hwl:=UI (st:=x) (t:=t) (level:=level) hDD;(repeat' first|(apply n3;exact aj;(first|exact λs hr=>MQ s _ _ aT _ _ _ hr|exact λs hr=>MQ s _ _ aT ⟨⟨_,_,_,_,_⟩,_,_⟩ _ _ hr);exact dO;intro _ _ ahr ahs _ _)|refine' zK|fail);refine W.bu (λk l L=>∃(j:Nat)(p:cc)(o:aP)(B:Nat)(u:aP)(F:Nat)(a3:aP)(c3:Nat)(T:aP)(V:Nat)(w:aP)(co d G f g:Nat),Le [(3,iv many),(4,bk d),(5,bk G),(8,bk f),(9,bk g),(11,iv D),(12,H w (Y (fV st t)) co),(13,H o (Y p) B),(14,H u (Y stays) F),(15,iv level),(16,H a3 (Y (jj x t D level)) c3),(17,H T (Y ([]:cc)) V)] l/\cb (.aU (H o (Y p) B) 31 5 (ab p):: .aU (H u (Y stays) F) 31 5 (ab stays):: .aU (H a3 (Y (jj x t D level)) c3) 31 5 (ab (jj x t D level)):: .aU (H T (Y ([]:cc)) V) 31 5 (ab ([]:cc)):: .aU (H w (Y (fV st t)) co) 31 5 (ab (fV st t)):: .box d (lL v x) 29 U:: .box G (eN t) 33 U:: .box f Z4 29 U:: .box g Z5 33 U::db v x) L/\k=4-j/\p=ll++cX j/\j<=3/\∀i,i<j->(Y ll+i)% 4≠0)
   (λl L=>∃(o:aP)(B:Nat)(u:aP)(F:Nat)(a3:aP)(c3:Nat)(T:aP)(V:Nat)(w:aP)(co d G f g:Nat),Le [(3,iv many),(4,bk d),(5,bk G),(8,bk f),(9,bk g),(11,iv D),(12,H w (Y (fV st t)) co),(13,H o (Y (fD ll)) B),(14,H u (Y stays) F),(15,iv level),(16,H a3 (Y (jj x t D level)) c3),(17,H T (Y ([]:cc)) V)] l/\cb (.aU (H o (Y (fD ll)) B) 31 5 (ab (fD ll)):: .aU (H u (Y stays) F) 31 5 (ab stays):: .aU (H a3 (Y (jj x t D level)) c3) 31 5 (ab (jj x t D level)):: .aU (H T (Y ([]:cc)) V) 31 5 (ab ([]:cc)):: .aU (H w (Y (fV st t)) co) 31 5 (ab (fV st t)):: .box d (lL v x) 29 U:: .box G (eN t) 33 U:: .box f Z4 29 U:: .box g Z5 33 U::db v x) L) 4 ⟨0,ll,_,_,_,_,_,_,_,_,_,_,_,_,_,_,bd,ak,rfl,by simp[cX],aa,by intro i hi;omega⟩ ?_ ?_
  rintro k l L ⟨j,p,o,B,u,F,a3,c3,T,V,w,co,d,G,f,g,hl,hL,rfl,hp,hj,Z⟩;refine' cP;(have OM:Y p=Y ll+j:=by rw[hp,dB];simp[cX]);(have htm:((Y p:Int)).tmod 4=((Y p% 4:Nat):Int):=by rw[Int.tmod_eq_emod_of_nonneg aa];omega);refine' eR;(have GX:Y p% 4≠0:=by omega);(have hj3:j<3\/j=3:=by omega);(have hj2:j<=2:=by obtain h|h:=hj3;omega;exfalso;have h0:=Z 0;have h1:=Z 1;have h2:=Z 2;omega);refine⟨_,?_,j+1,p++[bp],_,_,_,_,_,_,_,_,_,_,_,_,_,_,bd,ak,rfl,?_,aa,?_⟩;omega;rw[hp,iD];congr 1;rw[show [bp]=cX 1 from rfl];simp only[cX,List.replicate_append_replicate];intro i hi;by_cases hij:i=j;subst hij;omega;exact Z i aa;(have he:p=fD ll:=by rw[hp];unfold fD;congr 2;have h0:=Z 0;have h1:=Z 1;have h2:=Z 2;omega);subst he;exact⟨_,_,_,_,_,_,_,_,_,_,_,_,_,_,bd,ak⟩;rintro l L ⟨o,B,u,F,a3,c3,T,V,w,co,d,G,f,g,hl,hL⟩;refine' gh;obtain⟨hP1,hP2,hP3⟩:=AM ll;generalize hPe:fD ll=P at *
  generalize hWe:jj x t D level=ow at *
  refine' eR;refine W.bu (λk l L=>∃(i:Nat)(y:ae)(m out:cc)(o:aP)(B:Nat)(u:aP)(F:Nat)(a3:aP)(c3:Nat)(T:aP)(V:Nat)(w:aP)(co d G f g:Nat),Le [(3,iv many),(4,bk d),(5,bk G),(8,bk f),(9,bk g),(11,iv D),(12,H w (Y (fV st t)) co),(13,H o (Y P) B),(14,H u (Y m) F),(15,iv level),(16,H a3 (Y ow) c3),(17,H T (Y out) V),(18,iv i)] l/\cb (.aU (H o (Y P) B) 31 5 (ab P):: .aU (H u (Y m) F) 31 5 (ab m):: .aU (H a3 (Y ow) c3) 31 5 (ab ow):: .aU (H T (Y out) V) 31 5 (ab out):: .aU (H w (Y (fV st t)) co) 31 5 (ab (fV st t)):: .box d (lL v y) 29 U:: .box G (eN t) 33 U:: .box f Z4 29 U:: .box g Z5 33 U::db v y) L/\k=Y P-4*i/\4*i<=Y P/\Y out=i/\Y m<=Y stays+i/\cZ (90000+8*(1-n)+i) y/\kn level P ow x stays []=kn level (P.drop (4*i)) (ow.drop i) y m out)
   (λl L=>∃(y:ae)(m out:cc)(u:aP)(F:Nat)(T:aP)(V:Nat)(w:aP)(co d G f g:Nat),Le [(3,iv many),(4,bk d),(5,bk G),(8,bk f),(9,bk g),(11,iv D),(12,H w (Y (fV st t)) co),(14,H u (Y m) F),(15,iv level),(17,H T (Y out) V)] l/\cb (.aU (H u (Y m) F) 31 5 (ab m):: .aU (H T (Y out) V) 31 5 (ab out):: .aU (H w (Y (fV st t)) co) 31 5 (ab (fV st t)):: .box d (lL v y) 29 U:: .box G (eN t) 33 U:: .box f Z4 29 U:: .box g Z5 33 U::db v y) L/\4*Y out=Y P/\Y m<=Y stays+4/\cZ (90000+8*(1-n)+4) y/\kn level P ow x stays []=(y,C (m,out))) (Y P) ⟨0,x,stays,[],_,_,_,_,_,_,_,_,_,_,_,_,_,_,bd,ak,aa,aa,rfl,aa,hx.mono aa,rfl⟩ ?_ ?_
  rintro k l L ⟨i,y,m,out,o,B,u,F,a3,c3,T,V,w,co,d,G,f,g,hl,hL,rfl,hi4,hol,hsl,hy,hg⟩;refine' cP;have hy1:cZ 100000 y:=hy.mono aa;(have afL:4^ (n+1)=4*4^ n:=by rw[qm,GH]);(have hPl:Y P<=4*4^ n/\Y P<=16:=by omega);(have ajZ:Y m<=100:=by omega);(have aj0:Y out<=100:=by omega);by_cases hi:4*i<Y P;(have aiF:4*i+4<=Y P:=by omega);(have hiw:i<Y ow:=by obtain hn|hn:=tG n;subst hn;have:=hwl.1 aa;have:4*4^ 0=4:=rfl;omega;have:=hwl.2.1 aa;omega);generalize hl4:(P.drop ((i:Int)*4).toNat).take ((((i:Int)+1)*4).toNat-((i:Int)*4).toNat)=l4;(have ags:l4=(P.drop (4*i)).take 4:=by rw[<-hl4];congr 1;omega;congr 1;omega);(have aei:Y l4=4:=by rw[ags,de,fq];omega);have hgs:=MV (level:=level) (L:=P) (was:=ow) (st:=y) (stays:=m) (out:=out) (i:=i) aiF hiw;rw[<-ags] at hgs;have Te:=Yv (level:=level) (old:=ow.getD i au.ad) hy aei;cases abr:Pf y l4 level (ow.getD i au.ad) with
  |none=>(have Z3:uR y l4 level (ow.getD i au.ad)=(y,bp,U):=by unfold uR;rw[abr]);(have hfn:∀s a c,bJ s a (Y l4) 5 (ab l4)->(∀b∈ah a,b∉(db v y).flatMap It.bC)->eS aZ aW 135 [eg v y,H a (Y l4) c,iv level,pv (ow.getD i au.ad)] s (ah a) v y y U (wrV bp U):=λs a c hr hm=>by have:=MT s v y hy1 a c l4 aei level (ow.getD i au.ad) hr hm;rwa[Z3] at this);subst hl4;rw[abr] at hgs;(have aiG:LV=(y,O):=by rw[aeh,iQ,hPe,hWe,hg,hgs]);rw[aiG] at N;rw[N];(repeat' first|refine' X0|refine' zK|fail);obtain rfl:=DB rfl;refine' fg;rfl;exact λ_=>rfl
  |some r=>
   obtain⟨z,p⟩:=r;(have Z3:uR y l4 level (ow.getD i au.ad)=(z,p,J):=by unfold uR;rw[abr]);(have hfn:∀s a c,bJ s a (Y l4) 5 (ab l4)->(∀b∈ah a,b∉(db v y).flatMap It.bC)->eS aZ aW 135 [eg v y,H a (Y l4) c,iv level,pv (ow.getD i au.ad)] s (ah a) v y z U (wrV p J):=λs a c hr hm=>by have:=MT s v y hy1 a c l4 aei level (ow.getD i au.ad) hr hm;rwa[Z3] at this);subst hl4;rw[abr] at hgs;rw[Z3] at Te;by_cases hpw:p=ow.getD i au.ad
   .have aiH:=gZ hpw;(repeat' first|refine' X0|refine' zK|fail);obtain rfl:=DB rfl;refine⟨_,?_,i+1,z,m++[p],out++[p],_,_,_,_,_,_,_,_,_,_,_,_,_,_,bd,ak,rfl,aa,by simp[hol],by rw[dB,vJ];omega,Te.1,?_⟩;omega;rw[hg,hgs];simp only;rw[ai hpw]
   have aiH:=kX hpw;(repeat' first|refine' X0|refine' zK|fail);obtain rfl:=DB rfl;refine⟨_,?_,i+1,z,m,out++[p],_,_,_,_,_,_,_,_,_,_,_,_,_,_,bd,ak,rfl,aa,by simp[hol],aa,Te.1,?_⟩;omega;rw[hg,hgs];simp only;rw[af hpw]
  (have hi':4*i=Y P:=by omega);have Z0:P.drop (4*i)=[]:=xC aa;rw[Z0,DX rfl] at hg;refine' OP;exact⟨y,m,out,_,_,_,_,_,_,_,_,_,_,bd,ak,aa,aa,hy.mono aa,hg⟩;rintro l L ⟨y,m,out,u,F,T,V,w,co,d,G,f,g,hl,hL,hol,hsl,hy,hg⟩;refine' gh;(have afL:4^ (n+1)=4*4^ n:=by rw[qm,GH]);refine' eR;refine⟨_,?_,n,level+1,y,out,m,_,_,_,_,_,_,_,_,_,_,bd,ak,rfl,aa,aa,?_,aa,aa,hy.mono aa,?_⟩;omega;omega;rw[aeh,iQ,hPe,hWe,hg]
 rintro l L ⟨x,ll,stays,o,B,u,F,w,co,d,G,f,g,hl,hL,FA,hll,hx,agt⟩;refine' gh;have hx1:cZ 100000 x:=hx.mono aa;rw[agt] at N;simp only at N;rw[N];clear N agt hLV;generalize hOe:fV st t=old at *
 refine' eR;refine W.bu (λk l L=>∃(i:Nat)(y:ae)(v':SA)(o:aP)(B:Nat)(u:aP)(F:Nat)(w:aP)(co d f g:Nat),Le [(3,iv many),(4,bk d),(8,bk f),(9,bk g),(11,iv D),(12,H w (Y old) co),(13,H o (Y ll) B),(14,H u (Y stays) F),(22,iv i)] l/\cb (.aU (H o (Y ll) B) 31 5 (ab ll):: .aU (H u (Y stays) F) 31 5 (ab stays):: .aU (H w (Y old) co) 31 5 (ab old):: .box d (lL v' y) 29 U:: .box f Z4 29 U:: .box g Z5 33 U::db v' y) L/\k=Y old-i/\i<=Y old/\cZ (90016+i) y/\dA (old.filter λp=>!(stays.contains p)) x=dA ((old.drop i).filter λp=>!(stays.contains p)) y)
  (λl L=>∃(y:ae)(v':SA)(o:aP)(B:Nat)(d f g:Nat),Le [(3,iv many),(4,bk d),(8,bk f),(9,bk g),(11,iv D),(13,H o (Y ll) B)] l/\cb (.aU (H o (Y ll) B) 31 5 (ab ll):: .box d (lL v' y) 29 U:: .box f Z4 29 U:: .box g Z5 33 U::db v' y) L/\dA (old.filter λp=>!(stays.contains p)) x=y) (Y old) ⟨0,x,v,_,_,_,_,_,_,_,_,_,bd,ak,aa,aa,hx,rfl⟩ ?_ ?_
 rintro k l L ⟨i,y,v',o,B,u,F,w,co,d,f,g,hl,hL,rfl,hi,hy,Q⟩;refine' cP;have hy1:cZ 100000 y:=hy.mono aa;by_cases hi2:i<Y old
 .have hpo:aQ (old.getD i au.ad)=J:=hin.2 _ (a7 hi2 _);rw[drop_cons hi2,vN] at Q;refine' OP;refine W.bu (λk l L=>∃(j:Nat)(kept:Bool)(o:aP)(B:Nat)(u:aP)(F:Nat)(w:aP)(co d f g:Nat),Le [(3,iv many),(4,bk d),(8,bk f),(9,bk g),(11,iv D),(12,H w (Y old) co),(13,H o (Y ll) B),(14,H u (Y stays) F),(22,iv i),(23,M kept),(24,iv j)] l/\cb (.aU (H o (Y ll) B) 31 5 (ab ll):: .aU (H u (Y stays) F) 31 5 (ab stays):: .aU (H w (Y old) co) 31 5 (ab old):: .box d (lL v' y) 29 U:: .box f Z4 29 U:: .box g Z5 33 U::db v' y) L/\k=Y stays-j/\j<=Y stays/\kept=(stays.take j).contains (old.getD i au.ad))
   (λl L=>∃(o:aP)(B:Nat)(u:aP)(F:Nat)(w:aP)(co d f g:Nat),Le [(3,iv many),(4,bk d),(8,bk f),(9,bk g),(11,iv D),(12,H w (Y old) co),(13,H o (Y ll) B),(14,H u (Y stays) F),(22,iv i),(23,M (stays.contains (old.getD i au.ad)))] l/\cb (.aU (H o (Y ll) B) 31 5 (ab ll):: .aU (H u (Y stays) F) 31 5 (ab stays):: .aU (H w (Y old) co) 31 5 (ab old):: .box d (lL v' y) 29 U:: .box f Z4 29 U:: .box g Z5 33 U::db v' y) L) (Y stays) ⟨0,U,_,_,_,_,_,_,_,_,_,bd,ak,aa,aa,rfl⟩ ?_ ?_
  rintro k l L ⟨j,kept,o,B,u,F,w,co,d,f,g,hl,hL,rfl,hj,S⟩;refine' cP;have e:=λh:j<Y stays=>dS stays au.ad h;refine' eR;refine⟨_,?_,j+1,_,_,_,_,_,_,_,_,_,_,bd,ak,rfl,aa,?_⟩;omega;rw[e aa,HU,<-S,hg];rfl;refine⟨_,?_,j+1,J,_,_,_,_,_,_,_,_,_,bd,ak,rfl,aa,?_⟩;omega;rw[e aa,HU,<-S,sN];rfl;(have hj':j=Y stays:=by omega);subst hj';rw[lG] at S;subst S;exact⟨_,_,_,_,_,_,_,_,_,bd,ak⟩;rintro l L ⟨o,B,u,F,w,co,d,f,g,hl,hL⟩;refine' gh;(repeat' first|refine' Mo|refine' eI|fail);rw[ai hc] at Q;refine⟨_,?_,i+1,_,_,_,_,_,_,_,_,_,_,_,bd,ak,rfl,aa,hy.free hpo,Q⟩;omega;rw[af (by rw[hc];simp)] at Q;refine⟨_,?_,i+1,y,v',_,_,_,_,_,_,_,_,_,bd,ak,rfl,aa,hy.mono aa,Q⟩;omega
 have hi':i=Y old:=by omega
 subst hi';rw[re] at Q;refine' OP;exact⟨y,v',_,_,_,_,_,bd,ak,Q⟩;rintro l L ⟨y,v',o,B,d,f,g,hl,hL,Q⟩;refine' gh;rw[Q];refine' eR;rw[show ll.headD bp=ll.getD 0 au.ad from by cases ll<;>rfl];refine' fg;rfl;intro hc;cases hc;have hl0:ll=[]:=jG aa;subst hl0;refine' fg;rfl;intro hc;cases hc
variable {bB:ae}{p:fm}
section
variable {n:Nat}
structure Kp (st bB:ae):Prop where
 g:bB.aS=st.aS
 d:bB.bL=st.bL
 t:bB.dm=st.dm
 k:bB.iz=st.iz
 s:bB.same=st.same
def Kp.refl (st:ae):Kp st st:=⟨rfl,rfl,rfl,rfl,rfl⟩
def Kp.trans {a b c:ae}(h:Kp a b)(k:Kp b c):Kp a c:=⟨k.g.trans h.g,k.d.trans h.d,k.t.trans h.t,k.k.trans h.k,k.s.trans h.s⟩
def Kp.eg {st bB:ae}(h:Kp st bB)(v:SA):eg v bB=eg v st:=by unfold Go.Pl.eg lL;rw[h.g,h.d,h.t,h.k,h.s]
def MW {st bB:ae}{s:aw}{level:Int}(h:bz st s level=C (bB,p)):Kp st bB:=by unfold Go.Pl.bz at h;split at h;cases h;split at h;cases h;cases h;exact⟨rfl,rfl,rfl,rfl,rfl⟩
def abt {st bB:ae}{l:cc}{level:Int}{old p:fm}(h:cZ n st)(a:Y l=4)(hf:Pf st l level old=C (bB,p)):cZ (n+1) bB/\Kp st bB/\aQ p=J:=by unfold Pf at hf;split at hf;cases hf;exact⟨h.mono aa,Kp.refl _,cx⟩;simp only at hf;split at hf;rename_i hc;cases hf;simp only[ep,gv] at hc;refine⟨h.mono aa,Kp.refl _,?_⟩;have:=hc.1.2;simp[fits] at this;exact this.1.1.1;have:=h.bz (by have:=xh a;omega) hf;exact⟨this.1,MW hf,this.2.1⟩
def DY {level:Int}:∀(k:Nat){L was:cc}{st:ae}{stays out:cc}{n:Nat},Y L=4*k->cZ n st->(∀p∈out,aQ p=J)->
  cZ (n+k) (kn level L was st stays out).1/\Kp st (kn level L was st stays out).1/\∀r,(kn level L was st stays out).2=C r->Y r.2=Y out+k/\∀p∈r.2,aQ p=J
 |0,L,was,st,stays,out,n,f,h,g=>by have:L=[]:=jG aa;rw[DX this];exact⟨h,Kp.refl _,λr hr=>by cases hr;exact⟨rfl,g⟩⟩
 |k+1,L,was,st,stays,out,n,f,h,g=>by
  match L,f with
  |a::b::c::d::L,f=>
   rw[kn];cases hf:Pf st [a,b,c,d] level (was.headD bp) with
   |none=>exact⟨h.mono aa,Kp.refl _,λr hr=>by cases hr⟩
   |some x=>
    obtain⟨st1,p⟩:=x;obtain⟨j,l,m⟩:=abt h rfl hf;simp only;obtain⟨o,s,t⟩:=DY k (L:=L) (was:=was.tail) (stays:=if p=was.headD bp then stays++[p] else stays) (out:=out++[p]) (by simp at f;omega) j (λq e=>by obtain e|e:=cG.1 e;exact g q e;(have:q=p:=by simpa using e);rwa[this])
    refine⟨by rwa[show n+(k+1)=n+1+k by omega],l.trans s,λr hr=>?_⟩;obtain⟨u,w⟩:=t r hr;exact⟨by rw[u];simp;omega,w⟩
def DZ {t:bt}{depth:Int}:∀(m:Nat){level:Int}{l:cc}{st:ae}{stays:cc}{n:Nat},Y l<=16->cZ n st->(∀p∈l,aQ p=J)->
  cZ (n+m*5) (iQ t depth m level l st stays).1/\Kp st (iQ t depth m level l st stays).1/\∀r,(iQ t depth m level l st stays).2=C r->∀p∈r.2,aQ p=J
 |0,level,l,st,stays,n,hl,h,j=>by rw[iQ];exact⟨h,Kp.refl _,λr hr=>by cases hr;exact j⟩
 |m+1,level,l,st,stays,n,hl,h,j=>by rw[iQ];obtain⟨w,x,y⟩:=AM l;obtain⟨a,b,d⟩:=DY (level:=level) (Y (fD l)/ 4) (L:=fD l) (was:=jj st t depth level) (st:=st) (stays:=stays) (out:=[]) aa h aq;rcases g:kn level (fD l) (jj st t depth level) st stays [] with⟨st1,_|⟨c,o⟩⟩;rw[g] at a b;exact⟨a.mono aa,b,λr hr=>by cases hr⟩;rw[g] at a b d;obtain⟨e,f⟩:=d _ rfl;simp only at a b e f⊢;obtain⟨k,s,u⟩:=DZ m (t:=t) (depth:=depth) (level:=level+1) (stays:=c) (by simp at e;omega) (a.mono (show _<=n+5 by omega)) f;exact⟨k.mono aa,b.trans s,u⟩
def vu {t:bt}{st:ae}{lv:cc}{many:Int}(h:cZ n st)(ht:aQ t.bU=J)(hl:Y lv=16)(r:∀p∈lv,aQ p=J)(hm:0<=many/\many<=16):
  cZ (n+20) (iG st t lv many).1/\((iG st t lv many).2=O->Kp st (iG st t lv many).1)/\∀f,(iG st t lv many).2=C f->ee f/\f.many=many:=by
 have hd:=Pg.eE many;obtain⟨c,g,k⟩:=DZ (t:=t) (depth:=bR many) (bR many).toNat (level:=1) (l:=lv.take many.toNat) (st:=st) (stays:=[]) (by rw[de];omega) h (λp a=>r p (An a));obtain⟨o,j⟩:=MU (st:=st) ht;have d:iG st t lv many=match iQ t (bR many) (bR many).toNat 1 (lv.take many.toNat) st [] with
  |(x,O)=>(x,O)
  |(x,C (stays,l))=>(dA ((fV st t).filter λp=>!(stays.contains p)) x,C ⟨l.headD bp,bR many,many⟩):=rfl
 rw[d];rcases e:iQ t (bR many) (bR many).toNat 1 (lv.take many.toNat) st [] with⟨x,_|⟨stays,l⟩⟩;rw[e] at c g;exact⟨c.mono aa,λ_=>g,λf b=>by cases b⟩;rw[e] at c g k;simp only at c g⊢;have hf:=KW (λp=>!(stays.contains p)) (fV st t);have m:=cZ.dA (st:=x) ((fV st t).filter λp=>!(stays.contains p)) c (λp a=>j p (Ad.1 a).1);refine⟨m.mono aa,λhc=>(by cases hc),λf b=>?_⟩;cases b;refine⟨⟨?_,hm,hd⟩,rfl⟩;cases l with
 |nil=>exact(by decide:aQ bp=J)
 |cons p l=>exact k _ rfl p aq
end
def yL (t:bt)(ok:Bool):Value->Value:=λV=>.tuple ⟨[V,tv t,M ok]⟩
def pW (s:St)(v:SA)(st:ae)(h:cZ 80000 st)(t:bt)(ht:ee t)(k:Nat)(hk:k<16)(z:aw)(hz:Y z<=3000):
  eS aZ aW 29 [eg v st,tv t,iv k,sv z] s [] v st (lh st t k z).1 (lh st t k z).2.2 (yL (lh st t k z).2.1 (lh st t k z).2.2):=by
 have h1:cZ 100000 st:=h.mono aa;have Z:cZ 90000 st:=h.mono aa;have m:=ht.rt;obtain⟨_,hw,B⟩:=qK (st:=st) ht;have hmn:=ht.mn;have hpo:aQ ((cv st t).getD k au.ad)=J:=B _ (a7 aa _);have d:lh st t k z=if b0 st ((cv st t).getD k au.ad)=z/\(max t.many ((k:Int)+1))=t.many then(st,t,J) else
   match(if b0 st ((cv st t).getD k au.ad)=z then C (st,((cv st t).getD k au.ad)) else Jc st z) with
   |none=>(st,t,U)
   |C (st1,p)=>match iG st1 t ((cv st t).set k p) (max t.many ((k:Int)+1)) with
    |(fB,O)=>(fB,fC,U)
    |(fB,C t2)=>(if p=((cv st t).getD k au.ad) then fB else free fB ((cv st t).getD k au.ad),t2,J):=rfl
 by_cases D:b0 st ((cv st t).getD k au.ad)=z;have F:decide ((dD st ((cv st t).getD k au.ad)).getD []=z)=J:=gZ D;have hAn:(!decide ((dD st ((cv st t).getD k au.ad)).getD []=z))=U:=by rw[F];rfl
 by_cases hB:(max t.many ((k:Int)+1))=t.many
 .have hBd:=gZ hB;rw[d,ai ⟨D,hB⟩];refine a8 f29 ?_;dsimp only[db];(repeat' first|refine' Du|refine' zD|refine' eI|fail);refine' fg;rfl;intro hc;cases hc
 have hBd:=kX hB;rw[af (λV=>hB V.2),ai D] at d;simp only at d;have u:=hpo;have G:(!decide (((cv st t).getD k au.ad)=((cv st t).getD k au.ad)))=U:=by simp
 have j:∀q∈((cv st t).set k ((cv st t).getD k au.ad)),aQ q=J:=λq w=>by obtain w|rfl:=oN w;exact B q w;exact u
 (have g:Y ((cv st t).set k ((cv st t).getD k au.ad))=16:=by rwa[mV]);have e:=vu (t:=t) (lv:=((cv st t).set k ((cv st t).getD k au.ad))) (many:=(max t.many ((k:Int)+1))) Z m g j aa;rcases f:iG st t ((cv st t).set k ((cv st t).getD k au.ad)) (max t.many ((k:Int)+1)) with⟨fB,o⟩;have hlc:∀(l:SA) s a c,bJ s a (Y (cv st t)) 5 (ab ((cv st t).set k ((cv st t).getD k au.ad)))->(∀b∈ah a,b∉(db l st).flatMap It.bC)->tg s a (Y (cv st t)) c 31 5->eS aZ aW 73 [eg l st,tv t,H a (Y (cv st t)) c,iv (max t.many ((k:Int)+1))] s (ah a) l st fB o.isSome (Yw o):=λl s a c hr hm hv=>by have:=yK s l st Z t m a c ((cv st t).set k ((cv st t).getD k au.ad)) g (max t.many ((k:Int)+1)) aa (by rwa[mV]) hm (by rwa[mV]);rwa[f,mV] at this
 rw[f] at d e;cases o with
 |none=>simp only at d;rw[d];refine a8 f29 ?_;dsimp only[db];refine' Yi;refine' fg;rfl;exact λ_=>uI rfl
 |some t2=>simp only at d e;rw[ai trivial] at d;rw[d];refine a8 f29 ?_;dsimp only[db];refine' Yi;refine' fg;rfl;intro hc;cases hc
 have F:decide ((dD st ((cv st t).getD k au.ad)).getD []=z)=U:=kX D;have hAn:(!decide ((dD st ((cv st t).getD k au.ad)).getD []=z))=J:=by rw[F];rfl
 rw[af (λV=>D V.1),af D] at d;by_cases N:z=[];subst N;have hzd:(!decide (([]:aw)=[]))=U:=by simp
 (have u:aQ bp=J:=by decide);(have Q:¬bp=((cv st t).getD k au.ad):=λV=>D (by rw[<-V];rfl));have G:(!decide (bp=((cv st t).getD k au.ad)))=J:=by rw[kX Q];rfl
 have d:lh st t k []=match iG st t ((cv st t).set k bp) (max t.many ((k:Int)+1)) with
  |(fB,O)=>(fB,fC,U)
  |(fB,C t2)=>(if bp=((cv st t).getD k au.ad) then fB else free fB ((cv st t).getD k au.ad),t2,J):=d
 have j:∀q∈((cv st t).set k bp),aQ q=J:=λq w=>by obtain w|rfl:=oN w;exact B q w;exact u
 (have g:Y ((cv st t).set k bp)=16:=by rwa[mV]);have e:=vu (t:=t) (lv:=((cv st t).set k bp)) (many:=(max t.many ((k:Int)+1))) Z m g j aa;rcases f:iG st t ((cv st t).set k bp) (max t.many ((k:Int)+1)) with⟨fB,o⟩;have hlc:∀(l:SA) s a c,bJ s a (Y (cv st t)) 5 (ab ((cv st t).set k bp))->(∀b∈ah a,b∉(db l st).flatMap It.bC)->tg s a (Y (cv st t)) c 31 5->eS aZ aW 73 [eg l st,tv t,H a (Y (cv st t)) c,iv (max t.many ((k:Int)+1))] s (ah a) l st fB o.isSome (Yw o):=λl s a c hr hm hv=>by have:=yK s l st Z t m a c ((cv st t).set k bp) g (max t.many ((k:Int)+1)) aa (by rwa[mV]) hm (by rwa[mV]);rwa[f,mV] at this
 rw[f] at d e;cases o with
 |none=>simp only at d;rw[d];refine a8 f29 ?_;dsimp only[db];refine' Yi;refine' fg;rfl;exact λ_=>uI rfl
 |some t2=>simp only at d e;rw[af Q] at d;have T:cZ 100000 fB:=e.1.mono aa;rw[d];refine a8 f29 ?_;dsimp only[db];(repeat' first|refine' Du|refine' zD|refine' DC|refine' Mo|refine' eI|fail);refine' fg;rfl;intro hc;cases hc
 have hzd:(!decide (z=([]:aw)))=J:=by simp[N]
 have hpP:Jc st z=bz st z 0:=by unfold Jc;rw[af N]
 rw[hpP] at d;cases x:bz st z 0 with
 |none=>
  have hwc:∀s,eS aZ aW 72 [eg v st,sv z,iv 0] s [] v st st U (wrV bp U):=λs=>by have:=xf s v st h1 z hz 0;rw[show wr st z 0=(st,bp,U) by unfold wr;rw[x]] at this;exact this
  rw[x] at d;simp only at d;rw[d];refine a8 f29 ?_;dsimp only[db];(repeat' first|refine' Du|refine' zD|refine' Sg|refine' eI|fail);obtain rfl:=DE rfl;refine' fg;rfl;exact λ_=>rfl
 |some r=>
  obtain⟨st1,p⟩:=r;have hwc:∀s,eS aZ aW 72 [eg v st,sv z,iv 0] s [] v st st1 U (wrV p J):=λs=>by have:=xf s v st h1 z hz 0;rw[show wr st z 0=(st1,p,J) by unfold wr;rw[x]] at this;exact this
  obtain⟨GS,u,_⟩:=h.bz hz x;have S:cZ 90000 st1:=GS.mono aa;rw[x] at d;simp only at d;have j:∀q∈((cv st t).set k p),aQ q=J:=λq w=>by obtain w|rfl:=oN w;exact B q w;exact u
  (have g:Y ((cv st t).set k p)=16:=by rwa[mV]);have e:=vu (t:=t) (lv:=((cv st t).set k p)) (many:=(max t.many ((k:Int)+1))) S m g j aa;rcases f:iG st1 t ((cv st t).set k p) (max t.many ((k:Int)+1)) with⟨fB,o⟩;have hlc:∀(l:SA) s a c,bJ s a (Y (cv st t)) 5 (ab ((cv st t).set k p))->(∀b∈ah a,b∉(db l st1).flatMap It.bC)->tg s a (Y (cv st t)) c 31 5->eS aZ aW 73 [eg l st1,tv t,H a (Y (cv st t)) c,iv (max t.many ((k:Int)+1))] s (ah a) l st1 fB o.isSome (Yw o):=λl s a c hr hm hv=>by have:=yK s l st1 S t m a c ((cv st t).set k p) g (max t.many ((k:Int)+1)) aa (by rwa[mV]) hm (by rwa[mV]);rwa[f,mV] at this
  rw[f] at d e;cases o with
  |none=>simp only at d;rw[d];refine a8 f29 ?_;dsimp only[db];(repeat' first|refine' Du|refine' zD|refine' Sg|refine' DC|refine' eI|fail);refine' fg;rfl;exact λ_=>(uI rfl).trans (DE rfl)
  |some t2=>
   simp only at d e;by_cases y:p=((cv st t).getD k au.ad)
   ·(have G:(!decide (p=((cv st t).getD k au.ad)))=U:=by rw[gZ y];rfl);rw[ai y] at d;rw[d];refine a8 f29 ?_;dsimp only[db];(repeat' first|refine' Du|refine' zD|refine' Sg|refine' DC|refine' eI|fail);refine' fg;rfl;intro hc;cases hc
   (have G:(!decide (p=((cv st t).getD k au.ad)))=J:=by rw[kX y];rfl);rw[af y] at d;have T:cZ 100000 fB:=e.1.mono aa;rw[d];refine a8 f29 ?_;dsimp only[db];(repeat' first|refine' Du|refine' zD|refine' Sg|refine' DC|refine' Mo|refine' eI|fail);refine' fg;rfl;intro hc;cases hc
def aiI (t:bt)(ok:Bool):Value->Value:=λV=>.tuple ⟨[V,tv t,M ok]⟩
end Go.Pl
