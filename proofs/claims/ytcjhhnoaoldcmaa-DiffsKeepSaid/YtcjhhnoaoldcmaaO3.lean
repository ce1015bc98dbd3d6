/- DiffsKeep: what keeps of itself is itself; the conditions of place, Keep and the law hold.
  Conditions: none. -/
import Derived.Test.YtcjhhnoaoldcmaaN9
import Derived.Test.YtcjhhnoaoldcmaaO2
set_option linter.unusedVariables false
set_option linter.unusedSimpArgs false
noncomputable section
namespace Go.D
open Go Go.Xe Go.Sx
open Go.C36 (row j8 lis)
theorem leftF_none {oc:List Tree}{m:List Int}:∀ {n:Nat},(∀i:Nat,i<n->(i:Int)∈m)->leftF oc m n=[]
 |0,_=>rfl
 |n+1,h=>by
  unfold leftF
  rw[bC3 (h n (by omega)),leftF_none fun i hi=>h i (by omega)]
  rfl
variable {s:Tree}
theorem alone_keys (h:Alone s):Keys (s.c.map Tree.y):=by
 rcases h with⟨_,_,_,_,_,h⟩| ⟨_,_,_,_,_,_,_,_,h⟩
 ·rw[h];exact List.Pairwise.nil
 ·exact h
theorem keepT_self :∀(d:Nat) (t:Tree),t.size<=d->AllA t->keepT t t=t
 |0,t,h,_=>by have:=size_pos t;omega
 |d+1,t,h,l=>by
  have f:=(AllA_iff t).1 l
  have hm:=mtch_self (alone_keys f.1)
  rw[keepT_eq]
  have k:leftF t.c (mtch t.c t.c) t.c.length=[]:=leftF_none fun i hi=>by rw[hm];exact range_mem hi
  have g:keepL t.c t.c (mtch t.c t.c)=t.c:=by
   refine List.ext_getElem? fun j=>?_
   by_cases hj:j<t.c.length
   ·have hs:=bB3 hj
    rw[keepL_get hs,hs]
    have e:(mtch t.c t.c).getD j (-1)=(j:Int):=by rw[hm,bD2,bF1,List.getElem?_range hj];rfl
    have e':t.c.getD j noT=t.c[j]:=by rw[bD2,hs];rfl
    rw[e,bC3 (by omega),bE2,e']
    congr 1
    refine keepT_self d _ ?_ (AllAs_mem f.2 hs)
    rw[size_def]at h
    obtain⟨a,b,e⟩:=List.append_of_mem (List.getElem_mem hj)
    generalize t.c[j]=x at e⊢
    have g:t.c=(a++ [x])++b:=by rw[e];simp
    rw[g,sizes_app,sizes_app,one_s]at h
    omega
   ·rw[bJ9 (by rw[keepL_len];omega),bJ9 (by omega)]
  rw[k,g,bI5]
  cases t;rfl
variable {r:Tree}
theorem keepR_self (a:Valid s)(h:KeepR s s r):r=s:=by
 have:=keepT_self _ s (bC4 _) a.1
 rcases h with⟨_,_,h⟩| ⟨h,h'⟩
 ·rw[h,this]
 ·exact h'
variable {s':Tree}
theorem keepR_fun {d:Tree}(h:KeepR s s' r)(h':KeepR s s' d):r=d:=by
 rcases h with⟨a,b,c⟩| ⟨a,c⟩<;>rcases h' with⟨a',b',c'⟩| ⟨a',c'⟩
 ·rw[c,c']
 ·exact absurd ⟨a,b⟩ a'
 ·exact absurd ⟨a',b'⟩ a
 ·rw[c,c']
theorem keepR_valid (a:Valid s')(h:KeepR s s' r):Valid r:=by
 rcases h with⟨_,h,e⟩| ⟨_,e⟩
 ·rw[e];exact h
 ·rw[e];exact a
theorem keepT_k (t o:Tree):(keepT t o).k=t.k/\(keepT t o).t=t.t/\(keepT t o).y=t.y:=by rw[keepT_eq];exact⟨rfl,rfl,rfl⟩
theorem keepR_c (h:KeepR s s' r){j:Nat}{c:Tree}(hj:s'.c[j]? =some c):∃d,r.c[j]? =some d/\d.k=c.k/\d.t=c.t/\d.y=c.y:=by
 rcases h with⟨_,_,e⟩| ⟨_,e⟩
 ·subst e
  rw[keepT_eq]
  show∃d,(keepL s'.c s.c (mtch s.c s'.c)++leftF s.c (mtch s.c s'.c) s.c.length)[j]? =some d/\_
  have hl:=(bA4.1 hj).1
  rw[bB0 (by rw[keepL_len];exact hl),keepL_get hj]
  refine⟨_,rfl,?_⟩
  split
  ·exact keepT_k _ _
  ·exact⟨rfl,rfl,rfl⟩
 ·rw[e];exact⟨c,hj,rfl,rfl,rfl⟩
theorem keepR_len (h:KeepR s s' r):s'.c.length<=r.c.length:=by
 rcases h with⟨_,_,e⟩| ⟨_,e⟩
 ·rw[e,keepT_eq]
  show _<=(keepL s'.c s.c (mtch s.c s'.c)++leftF s.c (mtch s.c s'.c) s.c.length).length
  rw[bC8,keepL_len]
  omega
 ·rw[e];exact bC4 _
theorem vcPlc_ok :vcPlc:=by
 unfold vcPlc
 intro M n d
 have d:ln M<=1000:=d
 have inj:∀ {l m:List Int},l.map row=m.map row->l=m:=fun h=>(List.map_inj_right (fun a b h=>by simpa [row]using h)).1 h
 have i0:ixnInv [.lst M,.int n] [.int 0]:=⟨bG4 _,by simp[ln],fun l hl=>by simp⟩
 refine⟨i0,fun _ j hj=>?_⟩
 obtain⟨g,i,f⟩:=hj
 have cell:∀m:List Int,M=m.map row->j<ln M->m[j.toNat]? =some (cI M j 0):=fun m hm hlt=>by
  subst hm
  rw[cI_row]
  simp only[ln,bC0]at hlt
  exact getD_at g hlt
 refine⟨fun hlt=>⟨by omega,fun _=>⟨hlt,fun _=>⟨fun he=>⟨fun m hm=>?_,fun _=>trivial⟩,fun c=>?_⟩⟩⟩,fun hge=>⟨fun m hm=>?_,fun _=>trivial⟩⟩
 ·have:=cell m hm hlt
  rw[he]at this
  exact⟨fun h=>by omega,fun h=>absurd (bB1 this) h⟩
 ·refine⟨⟨by omega,by omega⟩,fun _=>⟨⟨by omega,by omega,fun m hm=>?_⟩,fun _=>⟨?_,fun _=>trivial⟩⟩⟩
  ·have e:(j+1).toNat=j.toNat+1:=by omega
   rw[e,List.take_add_one,cell m hm hlt]
   simp only[Option.toList_some,bD8,bG5,not_or]
   exact⟨f m hm,fun e=>c e.symm⟩
  ·show(_:Nat)<_
   simp only[ixnMu,slMu,ln]at*
   omega
 ·refine⟨fun _=>?_,fun _=>rfl⟩
  have:=f m hm
  rwa[bF0 (by subst hm;simp only[ln,bC0]at hge;omega)]at this
theorem vcRke_ok :vcRke:=by
 unfold vcRke
 rintro _ _ _ _ _ _ _ _ _ _ _ _ ⟨⟨s,⟨rfl,rfl,rfl,rfl,rfl,rfl⟩,f⟩,s',⟨rfl,rfl,rfl,rfl,rfl,rfl⟩,e⟩
 have P:rktPre [.int s.k,.str s.t,.str s.y,.lst (s.a.map Att.row),.str s.x,.lst (rows s.c),.int s'.k,.str s'.t,.str s'.y,.lst (s'.a.map Att.row),.str s'.x,.lst (rows s'.c)]:=⟨⟨s,⟨rfl,rfl,rfl,rfl,rfl,rfl⟩,f⟩,s',⟨rfl,rfl,rfl,rfl,rfl,rfl⟩,e⟩
 have no:¬(fit s s'/\Valid (keepT s' s))->rkeRel [.int s.k,.str s.t,.str s.y,.lst (s.a.map Att.row),.str s.x,.lst (rows s.c),.int s'.k,.str s'.t,.str s'.y,.lst (s'.a.map Att.row),.str s'.x,.lst (rows s'.c)] [.int s'.k,.str s'.t,.str s'.y,.lst (s'.a.map Att.row),.str s'.x,.lst (rows s'.c)]:=by
  intro h u g d b
  rw[isT_self]at d b
  subst d;subst b
  exact⟨_,.inr ⟨h,rfl⟩,rfl,rfl,rfl,rfl,rfl,rfl⟩
 refine⟨fun h1=>⟨fun h2=>⟨P,fun _ k t y a x c hr=>?_⟩,fun h2=>⟨no fun h=>h2 h.1.2,fun _=>trivial⟩⟩,fun h1=>⟨no fun h=>h1 h.1.1,fun _=>trivial⟩⟩
 have hr:=hr s s' ⟨rfl,rfl,rfl,rfl,rfl,rfl⟩ ⟨rfl,rfl,rfl,rfl,rfl,rfl⟩
 refine⟨⟨_,hr⟩,fun _ n hn=>?_⟩
 have hn:=(hn _ hr).1
 refine⟨fun h0=>⟨fun u g d b=>?_,fun _=>trivial⟩,fun h0=>⟨no fun h=>h0 (hn.2 h.2),fun _=>trivial⟩⟩
 rw[isT_self]at d b
 subst d;subst b
 exact⟨_,.inl ⟨⟨h1,h2⟩,hn.1 h0,rfl⟩,hr⟩
theorem vcDkp_ok :vcDkp:=by
 unfold vcDkp
 rintro R O E S Q F ⟨p1,p2,U,V,W,X⟩
 refine⟨⟨p1,p2,U⟩,fun _ k t y a x c ⟨hs,B⟩=>⟨⟨V,W,X⟩,fun _ k' t' y' a' x' c' ⟨f,g⟩=>?_⟩⟩
 generalize ofN R O E=s at hs B
 generalize ofN S Q F=s' at f g
 have P:dckPre [.int k,.str t,.str y,.lst a,.str x,.lst c,.int k',.str t',.str y',.lst a',.str x',.lst c']:=⟨⟨s,hs,B⟩,s',f,g⟩
 have un:∀ {k:Int} {t y:Str} {a:Sx.Rows} {x:Str} {c:Sx.Rows} {u v:Tree},isT u k t y a x c->isT v k t y a x c->u=v:=fun h h'=>by
  obtain⟨rfl,rfl,rfl,rfl,rfl,rfl⟩:=h
  rw[isT_self]at h'
  exact h'.symm
 refine⟨P,fun _ k2 t2 y2 a2 x2 m e hk=>?_⟩
 obtain⟨e0,u,u',r,q1,q2,p,l⟩:=hk
 cases un q1 hs
 cases un q2 f
 refine⟨fun _=>⟨P,fun _ k3 t3 y3 a3 x3 c3 hr=>?_⟩,fun h=>absurd e0 h⟩
 obtain⟨r',M,A⟩:=hr _ _ q1 q2
 cases keepR_fun p M
 refine⟨⟨⟨_,l⟩,_,A⟩,fun _ n hn=>?_⟩
 have hn:=(hn _ _ l A).1 ⟨keepR_valid g p,rfl⟩
 refine⟨fun h=>by omega,fun _=>?_⟩
 have l1:ln m=(r.c.length:Int):=by rw[l.2.2.2.2.2];simp[ln]
 have l2:ln c'=(s'.c.length:Int):=by rw[f.2.2.2.2.2];simp[ln]
 have N:=keepR_len p
 refine⟨fun h=>by omega,fun _=>⟨⟨bG4 _,by omega⟩,fun _ i ⟨i0,i1⟩=>⟨fun hi=>?_,fun _=>?_⟩⟩⟩
 ·obtain⟨cc,hc⟩:=Sx.get_at (T:=s'.c) i0 (by omega)
  obtain⟨d,hd,J,K,L⟩:=keepR_c p hc
  have z1:cI m i 0=cI c' i 0:=by rw[l.2.2.2.2.2,f.2.2.2.2.2];unfold cI;rw[cell_rows hd,cell_rows hc,Go.D.t0,Go.D.t0];exact J
  have z2:cS m i 1=cS c' i 1:=by rw[l.2.2.2.2.2,f.2.2.2.2.2];unfold cS;rw[cell_rows hd,cell_rows hc,Go.D.t1,Go.D.t1];exact K
  have z3:cS m i 2=cS c' i 2:=by rw[l.2.2.2.2.2,f.2.2.2.2.2];unfold cS;rw[cell_rows hd,cell_rows hc,Go.D.t2,Go.D.t2];exact L
  have o:¬i<0:=by omega
  have z:i<ln m:=by omega
  have G:I64 (i+1):=⟨by omega,by have:s'.c.length<=16:=(alone_c ((AllA_iff _).1 g.1).1).1;omega⟩
  have H:lwInv [.lst c'] [.int (i+1)]:=⟨by omega,by omega⟩
  have I:lwMu [.lst c'] [.int (i+1)]<lwMu [.lst c'] [.int i]:=by simp only[lwMu,slMu,ln]at*;omega
  refine⟨o,fun _=>⟨z,fun _=>⟨o,fun _=>⟨hi,fun _=>⟨fun _=>⟨fun _=>⟨o,fun _=>⟨z,fun _=>⟨o,fun _=>⟨hi,fun _=>⟨fun _=>⟨G,fun _=>⟨H,fun _=>⟨I,fun _=>trivial⟩⟩⟩,fun h=>absurd z3 h⟩⟩⟩⟩⟩,fun h=>absurd z2 h⟩,fun h=>absurd z1 h⟩⟩⟩⟩⟩
 ·refine⟨⟨⟨_,f,g⟩,_,f,g⟩,fun _ k4 t4 y4 a4 x4 c4 e4 w=>?_⟩
  obtain⟨q,v,v',r4,Y,Z,w3,C⟩:=w
  cases un Y f
  cases un Z f
  cases keepR_self g w3
  refine⟨fun _=>⟨⟨⟨_,C⟩,_,f⟩,fun _ n4 j=>?_⟩,fun h=>absurd q h⟩
  have j:=(j _ _ C f).1 ⟨g,rfl⟩
  refine⟨fun _=>⟨rfl,fun _ b hb=>⟨?_,fun _=>trivial⟩⟩,fun h=>absurd j h⟩
  have hb: [Dat.bool b]=[.bool true]:=hb
  simp only[bG9,Dat.bool.injEq,bH2]at hb
  exact hb
end Go.D
