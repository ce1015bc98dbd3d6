/- DiffsApply: the condition of the reference's carry holds, whole.
  Conditions: none. -/
import Derived.Test.YtcjhhnoaoldcmaaGreatT6
set_option linter.all false
set_option maxRecDepth 10000
namespace Go.D
open Go Go.Xe Go.Sx
open Go.C36 (row)
variable {l:List a8}
def GW {i:Int}{c:a8}(h:l[i.toNat]? =some c):isT c (cI (rows l) i 0) (cS (rows l) i 1) (cS (rows l) i 2) (cL (rows l) i 3) (cS (rows l) i 4) (cL (rows l) i 5):=by simp only[cI,cS,cL,B4 h,H9];exact⟨rfl,rfl,rfl,rfl,rfl,rfl⟩
theorem setT6 {i:Int}{c r:a8}(hc:l[i.toNat]? =some c){k2:Int}{t2 y2:Str}{a2:Sx.Rows}{b:Str}{a:Sx.Rows}(hr:isT r k2 t2 y2 a2 b a):Sx.setAt (Sx.setAt (Sx.setAt (Sx.setAt (Sx.setAt (Sx.setAt (rows l) i 0 (.int k2)) i 1 (.str t2)) i 2 (.str y2)) i 3 (.lst a2)) i 4 (.str b)) i 5 (.lst a)=rows (l.set i.toNat r):=by
 obtain⟨rfl,rfl,rfl,rfl,rfl,rfl⟩:=hr;have hlt:=(JO.1 hc).1;refine List.ext_getElem? fun j=>?_;simp only[Sx.setAt,List.getElem?_modify];by_cases hj:j=i.toNat
 ·subst hj;simp only[rows,KL,hc,KG,List.getElem?_set_self hlt,H9 c,H9 r,LB,Option.map_eq_map,List.set]
 ·grind
theorem vcRca_ok (n:Nat):vcRca n:=by
 unfold vcRca;rintro k t y a x c w P nm v i o k' t' y' a' x' c' Q ⟨⟨⟨m,hm,hN⟩,⟨s,hs,hB⟩,p,rfl⟩,I⟩;obtain⟨rfl,rfl,rfl,rfl,rfl,rfl⟩:=hm;obtain⟨rfl,rfl,rfl,rfl,rfl,rfl,rfl,rfl,rfl,rfl,rfl,rfl⟩:=hs;have T:isT m m.k m.t m.y (m.a.map Att.row) m.x (rows m.c):=⟨rfl,rfl,rfl,rfl,rfl,rfl⟩
 have S:isS s s.w (s.p.map row) s.n s.v s.i s.o s.t.k s.t.t s.t.y (s.t.a.map Att.row) s.t.x (rows s.t.c):=⟨rfl,rfl,rfl,rfl,rfl,rfl,rfl,rfl,rfl,rfl,rfl,rfl⟩
 have X:ln (p.map row)=(p.length:Int):=by simp[ln]
 have lc:ln (rows m.c)=(m.c.length:Int):=by simp[ln,rows]
 have la:ln (m.a.map Att.row)=(m.a.length:Int):=by simp[ln]
 have G:=hN.c;have O:=hN.a;have rel:∀ {k2:Int} {t2 y2:Str} {a2:Sx.Rows} {W:Str} {K:Sx.Rows} {e:Int} (r:a8),isT r k2 t2 y2 a2 W K->Ans (if R9 s=0 then dJ s m p else .error (R9 s)) k2 t2 y2 a2 W K e->M1 [.int m.k,.str m.t,.str m.y,.lst (m.a.map Att.row),.str m.x,.lst (rows m.c),.int s.w,.lst (s.p.map row),.str s.n,.str s.v,.int s.i,.int s.o,.int s.t.k,.str s.t.t,.str s.t.y,.lst (s.t.a.map Att.row),.str s.t.x,.lst (rows s.t.c),.lst (p.map row)] [.int k2,.str t2,.str y2,.lst a2,.str W,.lst K,.int e]:=fun r hr h=>⟨⟨r,hr⟩,fun m' s' p' ad ae hp'=>by rw[mD T ad,rc ae S,<-ku hp'];exact h⟩
 refine⟨⟨s,S,hB⟩,fun _ e he=>?_⟩;have he:e=R9 s:=he s S;subst he;refine⟨fun hf=>?_,fun hf=>⟨⟨s,S,hB⟩,fun _ e2 H=>⟨rel m T ?_,fun _=>trivial⟩⟩⟩
 rotate_left
 ·have H:e2=R9 s:=H s S;rw[Kg hf];exact H
 rw [Ki hf] at rel;refine⟨fun hp=>?_,fun hp=>?_⟩
 ·obtain⟨i,p',rfl⟩:∃i p',p=i::p':=by
   cases p with
   |nil=>rw[X]at hp;simp at hp|cons i p'=>exact⟨i,p',rfl⟩
  have ci:cI ((i::p').map row) 0 0=i:=rfl;have L:i<0\/(m.c.length:Int)<=i->dJ s m (i::p')= .error 11:=fun h=>by
   unfold dJ;rcases h with h|h
   ·rw[Kg (by omega)]
   ·by_cases h0:0<=i
    ·rw[Ki h0,LQ (by omega)]
    ·rw[Kg h0]
  rw[ci];refine⟨hp,fun _=>⟨fun h0=>⟨rel m T (by rw[L (.inl h0)];rfl),fun _=>trivial⟩,fun h0=>⟨fun h1=>?_,fun h1=>⟨rel m T (by rw[L (.inr (by rw[lc]at h1;omega))];rfl),fun _=>trivial⟩⟩⟩⟩;rw[lc]at h1;obtain⟨c,hc⟩:=Sx.get_at (show 0<=i by omega) h1;have kc:=GW hc;have pp:Sx.part ((i::p').map row) 1 (ln ((i::p').map row)+ -1)=p'.map row:=by
   rw[X,ED];have e:(((i::p').length:Int)+ -1).toNat=p'.length:=by simp only[KE];omega
   rw[e];show(p'.take p'.length).map row=_;rw[List.take_length]
  have ec:dJ s m (i::p')=match dJ s c p' with
    | .ok c'=>.ok (uU m i.toNat c')| .error e=>.error e:=by
   conv=>lhs;unfold dJ
   rw[Ki (by omega),hc];simp only;cases hx:dJ s c p'<;>simp only[hx]
  rw[pp,X,lc];refine⟨h0,fun _=>⟨h1,fun _=>⟨by simp only[KE];omega,fun _=>⟨by omega,fun _=>⟨⟨⟨⟨c,kc,G.2 c (JV hc)⟩,⟨s,S,hB⟩,p',rfl⟩,?_⟩,fun _ k2 t2 y2 a2 W K e ⟨⟨r,hr⟩,B⟩=>?_⟩⟩⟩⟩⟩
  ·have I:((i::p').map row).length<n+1:=I;show(p'.map row).length<n;simp only[KM,KE]at I;omega
  ·have z:=B c s p' kc S rfl;rw[Ki hf]at z;have hl:=G.1;refine⟨by omega,fun _=>⟨h0,fun _=>⟨h1,fun _=>⟨h1,fun _=>⟨by omega,fun _=>⟨rfl,fun _=>⟨?_,fun _=>trivial⟩⟩⟩⟩⟩⟩⟩;rw[setT6 hc hr];refine rel (uU m i.toNat r) ⟨rfl,rfl,rfl,rfl,rfl,rfl⟩ ?_;rw[ec];cases E:dJ s c p' with
   |ok c'=>rw[E]at z;obtain⟨e0,ab⟩:=z;rw[<-mD hr ab];exact⟨e0,rfl,rfl,rfl,rfl,rfl,rfl⟩
   |error e'=>rw[E]at z;exact z
 ·have hp0:p=[]:=by
   cases p with
   |nil=>rfl|cons i p'=>rw[X]at hp;simp only[KE]at hp;omega
  subst hp0;have ec:dJ s m []=H3 m s:=by unfold dJ;rfl
  rw [ec] at rel;have err:∀e:Int,H3 m s= .error e->Ans (H3 m s) m.k m.t m.y (m.a.map Att.row) m.x (rows m.c) e:=fun e h=>by rw[h];rfl
  refine⟨fun Z=>⟨⟨s.t,rfl,rfl,rfl,rfl,rfl,rfl⟩,fun _ e he=>⟨rel s.t ⟨rfl,rfl,rfl,rfl,rfl,rfl⟩ ?_,fun _=>trivial⟩⟩,fun Z=>⟨fun hk=>?_,fun hk=>⟨rel m T (err 1 ?_),fun _=>trivial⟩⟩⟩
  ·have he:=he s.t ⟨rfl,rfl,rfl,rfl,rfl,rfl⟩;unfold H3;rw[Ki Z];by_cases f:z7 s.t
   ·rw[Ki f];exact⟨he.1.2 f,rfl,rfl,rfl,rfl,rfl,rfl⟩
   ·rw[Kg f];exact he.2.resolve_left fun h=>f (he.1.1 h)
  rotate_left
  ·unfold H3;rw[Kg Z,Ki];intro h;exact hk (by by_cases h3:s.w=3<;>by_cases h2:m.k=2<;>simp_all)
  have ac:s.w=3↔m.k=2:=by by_cases h3:s.w=3<;>by_cases h2:m.k=2<;>simp_all
  have en:H3 m s=if s.w=3 then(if A9 s.v=true then .ok (xr m s.v)else .error 14)else if s.w=1 then(if z8 m.a s.n then .ok (Y4 m (E8 m.a (q8 m.a s.n)))else .error 11)
   else if s.w=2 then(if¬(j8 s.n=true/\A9 s.v=true)\/(z8 m.a s.n=false/\8<=m.a.length)then .error 14 else .ok (Y4 m (fy m.a s)))else H2 m s:=by
   unfold H3;rw[Kg Z,Kg (fun h=>h ac)]
  have fa:=Dw O.1 s.n;have al:m.a.length<=1000:=by have:=O.2;omega
  have C:nj [.lst (m.a.map Att.row),.str s.n]:=⟨m.a,rfl,al⟩
  have q:∀k:Int,dX [.lst (m.a.map Att.row),.str s.n,.str s.v,.int k,.int s.w] [.int 0,.lst [],.bool (decide (s.w=1))]:=fun k=>pinv.2 ⟨KZ _,by omega,rfl,rfl⟩;refine⟨fun F=>⟨C,fun _ k j=>?_⟩,fun F=>⟨fun J=>⟨C,fun _ k u=>?_⟩,fun J=>⟨fun Y=>⟨trivial,fun _ b hb=>?_⟩,fun Y=>?_⟩⟩⟩
  ·
   have j:k=hC m.a s.n:=j m.a rfl;rw[fa]at j;have M:H3 m s=if z8 m.a s.n=true then .ok (Y4 m (E8 m.a (q8 m.a s.n)))else .error 11:=by rw[en,Kg (by omega),Ki F]
   refine⟨fun A=>⟨F,fun _=>⟨rel m T (err 11 ?_),fun _=>trivial⟩⟩,fun A=>⟨fun J=>by omega,fun _=>?_⟩⟩
   ·have:¬z8 m.a s.n=true:=fun h=>by rw[Ki h]at j;omega
    rw[M,Kg this]
   ·have g:z8 m.a s.n=true:=Classical.byContradiction fun h=>by rw[Kg h]at j;omega
    rw[Ki g]at j;unfold vcRca5;refine⟨q k,fun _=>rca2 al fun R U=>?_⟩;obtain⟨a,ha,_⟩:=dP g;have hlt:=(JO.1 ha).1;rw[show decide (s.w=1)=true from decide_eq_true F,j,xa hlt,Ki rfl]at U;subst U;refine rel (Y4 m (E8 m.a (q8 m.a s.n))) ⟨rfl,rfl,rfl,rfl,rfl,rfl⟩ ?_;rw[M,Ki g];exact⟨rfl,rfl,rfl,rfl,rfl,rfl,rfl⟩
  ·
   have u:k=hC m.a s.n:=u m.a rfl;rw[fa]at u;have N:H3 m s=if¬(j8 s.n=true/\A9 s.v=true)\/(z8 m.a s.n=false/\8<=m.a.length)then .error 14 else .ok (Y4 m (fy m.a s)):=by rw[en,Kg (by omega),Kg F,Ki J]
   have d1:decide (s.w=1)=false:=Ll F;have d:¬(j8 s.n=true/\A9 s.v=true)\/(z8 m.a s.n=false/\8<=m.a.length)->vcRca3 n m.k m.t m.y (m.a.map Att.row) m.x (rows m.c) s.w (s.p.map row) s.n s.v s.i s.o s.t.k s.t.t s.t.y (s.t.a.map Att.row) s.t.x (rows s.t.c) ([].map row):=fun h=>⟨rel m T (err 14 (by rw[N,Ki h])),fun _=>trivial⟩
   have D:¬(¬(j8 s.n=true/\A9 s.v=true)\/(z8 m.a s.n=false/\8<=m.a.length))->vcRca2 n (m.a.map Att.row) s.n s.v k s.w m.k m.t m.y m.x (rows m.c) (s.p.map row) s.i s.o s.t.k s.t.t s.t.y (s.t.a.map Att.row) s.t.x (rows s.t.c) ([].map row):=fun h=>rca2 al fun R U=>by rw[d1,xb k u]at U;subst U;refine rel (Y4 m (fy m.a s)) ⟨rfl,rfl,rfl,rfl,rfl,rfl⟩ ?_;rw[N,Kg h];exact⟨rfl,rfl,rfl,rfl,rfl,rfl,rfl⟩
   refine⟨fun A=>⟨F,fun _=>⟨J,fun _=>⟨trivial,fun _ b hb=>?_⟩⟩⟩,fun A=>⟨J,fun _=>⟨trivial,fun _=>?_⟩⟩⟩
   ·have g:z8 m.a s.n=false:=by
     cases h:z8 m.a s.n with
     |false=>rfl|true=>rw[Ki h]at u;omega
    have hb:b=j8 s.n:=hb;subst hb;refine⟨fun hn=>⟨trivial,fun _ b2 hb2=>?_⟩,fun hn=>d (.inl fun h=>hn h.1)⟩;have hb2:b2=A9 s.v:=hb2;subst hb2;rw[la];refine⟨fun f=>⟨A,fun _=>⟨fun h8=>d (.inr ⟨g,by omega⟩),fun h8=>⟨q k,fun _=>D ?_⟩⟩⟩,fun f=>d (.inl fun h=>f h.2)⟩;rintro (h|h)
    ·exact h ⟨hn,f⟩
    ·omega
   ·have g:z8 m.a s.n=true:=Classical.byContradiction fun h=>by rw[Kg h]at u;omega
    unfold vcRca4;intro b hb;have hb:b=j8 s.n:=hb;subst hb;refine⟨fun hn=>⟨trivial,fun _ b2 hb2=>?_⟩,fun hn=>d (.inl fun h=>hn h.1)⟩;have hb2:b2=A9 s.v:=hb2;subst hb2;refine⟨fun f=>⟨A,fun _=>⟨q k,fun _=>D ?_⟩⟩,fun f=>d (.inl fun h=>f h.2)⟩;rintro (h|h)
    ·exact h ⟨hn,f⟩
    ·rw[g]at h;cases h.1
  ·have hb:b=A9 s.v:=hb;subst hb;refine⟨fun f=>⟨rel (xr m s.v) ⟨rfl,rfl,rfl,rfl,rfl,rfl⟩ ?_,fun _=>trivial⟩,fun f=>⟨rel m T (err 14 ?_),fun _=>trivial⟩⟩
   ·rw[en,Ki Y,Ki f];exact⟨rfl,rfl,rfl,rfl,rfl,rfl,rfl⟩
   ·rw[en,Ki Y,Kg f]
  ·have V:s.w=4\/s.w=5\/s.w=6:=by
    unfold R9 at hf;by_cases h:s.w<1\/7<s.w
    ·rw[Ki h]at hf;omega
    ·omega
   have aa:H3 m s=H2 m s:=by rw[en,Kg Y,Kg F,Kg J]
   refine⟨⟨⟨m,T,by have:=G.1;omega⟩,s,S,V⟩,fun _ k2 t2 y2 a2 W K e ⟨⟨r,hr⟩,B⟩=>⟨rel r hr ?_,fun _=>trivial⟩⟩;rw[aa];exact B m s T S
end Go.D
