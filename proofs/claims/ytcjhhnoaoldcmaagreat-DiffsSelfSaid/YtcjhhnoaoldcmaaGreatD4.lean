/- The writer of a diff: the conditions of Compare, attrs.Diff, put and own hold.
  Conditions: none. -/
import Derived.Test.YtcjhhnoaoldcmaaGreatD2
import Derived.Test.YtcjhhnoaoldcmaaGreatD3
set_option linter.unusedVariables false
set_option linter.unusedSimpArgs false
namespace Go.D
open Go Go.Xe Go.Sx
open Go.C36 (row j0 lis cLong cRlong longPre longRel rlongPre rlongRel)
theorem vcCmp_ok :vcCmp:=by
 unfold vcCmp
 intro a b _
 have e:∀x y,Op.bytesLess x y=lt x y:=fun _ _=>rfl
 simp only[Nd,cmpRel,e,bM4,bL4,bJ5,not_true_eq_false,false_implies,bL9]
 refine⟨fun h=>by simp[h],fun h=>⟨h,fun _=>⟨fun h2=>?_,fun h2=>?_⟩⟩⟩
 ·subst h2;simp[h]
 ·have h:lt a b=false:=by simpa using h
  simp[h,h2]
variable {l:List Att}{i:Int}
theorem at_len (h0:0<=i)(h:i<(l.length:Int)):∃x,l[i.toNat]? =some x:=⟨_,bG3 (by omega)⟩
theorem cS_att {x:Att}(h:l[i.toNat]? =some x):cS (l.map Att.row) i 0=x.n/\cS (l.map Att.row) i 1=x.v:=by
 unfold cS v5
 simp only[bI2,bK1,h]
 exact⟨rfl,rfl⟩
def MJ (a b:List Att)(i k:Int)(O:Sx.Rows):Prop:=0<=i/\i<=(a.length:Int)/\0<=k/\k<=(b.length:Int)/\ln O<=i+k/\(adf a b).map Ed.row=O++(adf (a.drop i.toNat) (b.drop k.toNat)).map Ed.row
variable {O:Sx.Rows}
theorem mer_inv {a b:List Att}{k:Int}:merInv [.lst (a.map Att.row),.lst (b.map Att.row)] [.int i,.int k,.lst O]↔MJ a b i k O:=by
 simp only[merInv,MJ,ln,bH0]
 constructor
 ·rintro ⟨h0,h1,h2,h3,h4,c⟩
  exact⟨h0,h1,h2,h3,h4,c a b rfl rfl⟩
 ·rintro ⟨h0,h1,h2,h3,h4,c⟩
  refine⟨h0,h1,h2,h3,h4,fun a' b' d e=>?_⟩
  rw[<-at_inj d,<-at_inj e];exact c
section
variable {a b:List Att}{i k:Int}{O:Sx.Rows}{x y:Att}
theorem mj_drop (h:MJ a b i k O)(hx:a[i.toNat]? =some x)(hc:k=(b.length:Int)\/ ∃y,b[k.toNat]? =some y/\lt x.n y.n=true):MJ a b (i+1) k (O++ [[.str x.n,.bool true,.str []]]):=by
 obtain⟨h0,h1,h2,h3,h4,c⟩:=h
 have:=(bF4.1 hx).1
 refine⟨by omega,by omega,h2,h3,by simp only[ln,bH8,List.length_singleton]at h4⊢;omega,?_⟩
 rw[c,Sx.drop_at hx,j8 h0,bG5]
 congr 1
 rcases hc with rfl| ⟨y,hy,hl⟩
 ·rw[show b.drop (b.length:Int).toNat=[]from List.drop_eq_nil_of_le (by omega)]
  conv=>lhs;rw[adf]
  rfl
 ·rw[Sx.drop_at hy]
  conv=>lhs;rw[adf]
  rw[bH3 hl];rfl
theorem mj_set (h:MJ a b i k O)(hy:b[k.toNat]? =some y)(hc:i=(a.length:Int)\/ ∃x,a[i.toNat]? =some x/\lt x.n y.n=false/\x.n≠y.n):MJ a b i (k+1) (O++ [[.str y.n,.bool false,.str y.v]]):=by
 obtain⟨h0,h1,h2,h3,h4,c⟩:=h
 have:=(bF4.1 hy).1
 refine⟨h0,h1,by omega,by omega,by simp only[ln,bH8,List.length_singleton]at h4⊢;omega,?_⟩
 rw[c,Sx.drop_at hy,j8 h2,bG5]
 congr 1
 rcases hc with rfl| ⟨x,hx,hl,hn⟩
 ·rw[show a.drop (a.length:Int).toNat=[]from List.drop_eq_nil_of_le (by omega)]
  conv=>lhs;rw[adf]
  rfl
 ·rw[Sx.drop_at hx]
  conv=>lhs;rw[adf]
  rw[bH1 (by rw[hl];decide),bH1 hn];rfl
theorem mj_both (h:MJ a b i k O)(hx:a[i.toNat]? =some x)(hy:b[k.toNat]? =some y)(hl:lt x.n y.n=false)(hn:x.n=y.n):MJ a b (i+1) (k+1) (if x.v=y.v then O else O++ [[.str y.n,.bool false,.str y.v]]):=by
 obtain⟨h0,h1,h2,h3,h4,c⟩:=h
 have:=(bF4.1 hx).1
 have:=(bF4.1 hy).1
 refine⟨by omega,by omega,by omega,by omega,by simp only[ln]at h4⊢;split<;>(try simp only[bH8,List.length_singleton])<;>omega,?_⟩
 rw[c,Sx.drop_at hx,Sx.drop_at hy,j8 h0,j8 h2]
 conv=>lhs;rw[adf]
 rw[bH1 (by rw[hl];decide),bH3 hn]
 by_cases e:x.v=y.v
 ·rw[bH3 e,bH3 e]
 ·rw[bH1 e,bH1 e,bG5];rfl
end
theorem mer_mu {A B:Sx.Rows}{k:Int}:merMu [.lst A,.lst B] [.int i,.int k,.lst O]=((ln A-i)+(ln B-k)).toNat:=rfl
theorem vcAdf_ok :vcAdf:=by
 unfold vcAdf
 rintro _ _ ⟨a,b,rfl,rfl,t,u⟩
 have A:=(alone_c ((AllA_iff _).1 t.1).1).2
 have hb:=(alone_c ((AllA_iff _).1 u.1).1).2
 simp only[Tree.a]at A hb
 have m:∀x y z:Dat,Sx.chunk 3 1 [x,y,z]=[[x,y,z]]:=fun _ _ _=>rfl
 have f:ln (a.map Att.row)=a.length:=by simp[ln]
 have lb:ln (b.map Att.row)=b.length:=by simp[ln]
 have bd:∀ {i k O},MJ a b i k O->0<=ln O/\ln O<=16:=fun h=>⟨by simp[ln],by have:=h.2.1;have:=h.2.2.2.1;have:=h.2.2.2.2.1;omega⟩
 have q:∀ {i k O y},MJ a b i k O->b[k.toNat]? =some y->(i=(a.length:Int)\/ ∃x,a[i.toNat]? =some x/\lt x.n y.n=false/\x.n≠y.n)->vcAdf0 k (a.map Att.row) O (b.map Att.row) i:=fun{i k O y} h hy hc=>by
  have:=(bF4.1 hy).1
  have G:=mer_inv.2 (mj_set h hy hc)
  have⟨b0,j⟩:=bd h
  have k0:=h.2.2.1
  simp only[vcAdf0,m,(cS_att hy).1,(cS_att hy).2,mer_mu,f,lb,Nd,Nr,Ni,I64]
  have k1:=h.2.2.2.1
  have i0:=h.1
  have i1:=h.2.1
  refine⟨fun c=>absurd c (by omega),fun _=>?_⟩
  repeat' with_reducible first|exact trivial|exact G|omega| (refine bH9 ?_ ?_)|intro _
 have r:∀ {i k O x},MJ a b i k O->a[i.toNat]? =some x->(k=(b.length:Int)\/ ∃y,b[k.toNat]? =some y/\lt x.n y.n=true)->vcAdf1 i (a.map Att.row) O (b.map Att.row) k:=fun{i k O x} h hx hc=>by
  have:=(bF4.1 hx).1
  have G:=mer_inv.2 (mj_drop h hx hc)
  have⟨b0,j⟩:=bd h
  have k0:=h.2.2.1
  have k1:=h.2.2.2.1
  have i0:=h.1
  have i1:=h.2.1
  simp only[vcAdf1,m,(cS_att hx).1,(cS_att hx).2,mer_mu,f,lb,Nd,Nr,Ni,I64]
  repeat' with_reducible first|exact trivial|exact G|omega| (refine bH9 ?_ ?_)|intro _
 have s:∀ {i k O},MJ a b i k O->i<(a.length:Int)\/k<(b.length:Int)->vcAdf3 i (a.map Att.row) k O (b.map Att.row):=fun{i k O} h hh=>by
  have⟨b0,j⟩:=bd h
  have k0:=h.2.2.1
  have k1:=h.2.2.2.1
  have i0:=h.1
  have i1:=h.2.1
  unfold vcAdf3
  simp only[f,lb,Nd,Nr,Ni,I64]
  refine⟨fun e=>?_,fun e=>⟨fun g=>?_,fun g=>?_⟩⟩
  ·obtain⟨y,hy⟩:=at_len (l:=b) k0 (by omega)
   exact q h hy (.inl e)
  ·obtain⟨x,hx⟩:=at_len (l:=a) i0 (by omega)
   exact r h hx (.inl g)
  ·obtain⟨x,hx⟩:=at_len (l:=a) i0 (by omega)
   obtain⟨y,hy⟩:=at_len (l:=b) k0 (by omega)
   rw[(cS_att hx).1,(cS_att hy).1,(cS_att hx).2,(cS_att hy).2]
   refine⟨by omega,fun _=>⟨by omega,fun _=>⟨by omega,fun _=>⟨by omega,fun _=>⟨trivial,fun _ n hn=>?_⟩⟩⟩⟩⟩
   obtain⟨B,C,D⟩:=hn
   cases hl:lt x.n y.n with
   |true=>
    obtain rfl:=B hl
    exact⟨fun _=>r h hx (.inr ⟨y,hy,hl⟩),fun c=>absurd (by omega) c⟩
   |false=>
    by_cases hn:x.n=y.n
    ·obtain rfl:=C hl hn
     have G:=mer_inv.2 (mj_both h hx hy hl hn)
     refine⟨fun c=>absurd c (by omega),fun _=>⟨fun c=>absurd c (by omega),fun _=>⟨fun c=>absurd c (by omega),fun _=>⟨fun c=>absurd c (by omega),fun _=>⟨by omega,fun _=>⟨by omega,fun _=>⟨by omega,fun _=>⟨by omega,fun _=>⟨fun e=>?_,fun e=>?_⟩⟩⟩⟩⟩⟩⟩⟩⟩
     ·rw[bH3 e]at G
      simp only[mer_mu,f,lb]
      repeat' with_reducible first|exact trivial|exact G|omega| (refine bH9 ?_ ?_)|intro _
     ·rw[bH1 e]at G
      simp only[vcAdf2,m,(cS_att hy).1,(cS_att hy).2,mer_mu,f,lb,Nd,Nr,Ni,I64]
      repeat' with_reducible first|exact trivial|exact G|omega| (refine bH9 ?_ ?_)|intro _
    ·obtain rfl:=D hl hn
     exact⟨fun c=>absurd c (by omega),fun _=>⟨fun _=>q h hy (.inr ⟨x,hx,hl,hn⟩),fun c=>absurd (by omega) c⟩⟩
 have T:∀l:List Att,isT (.mk 1 [97] [] l [] []) 1 [97] [] (l.map Att.row) [] []:=fun l=>⟨rfl,rfl,rfl,rfl,rfl,rfl⟩
 simp only[Nd,Nr,Ni,I64]
 refine⟨⟨_,T a⟩,fun _ e he=>⟨fun _=>⟨⟨_,T b⟩,fun _ g p=>⟨fun _=>⟨mer_inv.2 ⟨by omega,by omega,by omega,by omega,by simp[ln],rfl⟩,fun _ i k O h=>?_⟩,fun c=>absurd ((p _ (T b)).1.2 u) c⟩⟩,fun c=>absurd ((he _ (T a)).1.2 t) c⟩⟩
 have h:=mer_inv.1 h
 have⟨b0,j⟩:=bd h
 rw[f,lb]
 refine⟨fun c=>s h (.inl c),fun c=>⟨fun d=>s h (.inr d),fun d=>?_⟩⟩
 have o:adfRel [.lst (a.map Att.row),.lst (b.map Att.row)] [.lst O,.int 0]:=fun a' b' v g=>by
  rw[<-at_inj v,<-at_inj g]
  obtain⟨h0,h1,h2,h3,h4,w⟩:=h
  rw[w,show a.drop i.toNat=[]from List.drop_eq_nil_of_le (by omega),show b.drop k.toNat=[]from List.drop_eq_nil_of_le (by omega)]
  refine⟨by rw[adf];simp,by simp only[ln]at j;omega⟩
 repeat' with_reducible first|exact trivial|exact o|omega| (refine bH9 ?_ ?_)|intro _
theorem vcPut_ok :vcPut:=by
 unfold vcPut
 rintro w p n v i k d t y a x c P L ⟨h1,h2⟩ b
 have h:ln P<=1000:=by simp only[ln];omega
 have j:ln L<=100000:=by simp only[ln];omega
 have m:0<=ln P:=by simp only[ln];omega
 have o:0<=ln L:=by simp only[ln];omega
 simp only[Nd,Nr,Ni]
 rcases P with _| ⟨r,P⟩
 ·have e:∀A,Sx.part (Sx.over (Sx.chunk 1 0 []) 0 []) 0 A=([]:Sx.Rows):=fun _=>by simp[Sx.part,Sx.over,Sx.chunk]
  have g:ln (Sx.over (Sx.chunk 1 0 []) 0 [])=0:=rfl
  have f:ln ([]:Sx.Rows)=0:=rfl
  simp only[e,g,f]
  have F:=(rfl:L++Sx.chunk 12 1 [(.int w),(.lst ([]:Sx.Rows)),(.str n),(.str v),(.int i),(.int k),(.int d),(.str t),(.str y),(.lst a),(.str x),(.lst c)]=_)
  repeat' with_reducible first|exact trivial|exact F|omega| (refine bH9 ?_ ?_)|intro _
  all_goals exact F
 ·have f:0<ln (r::P):=by simp only[ln,bJ4];omega
  repeat' with_reducible first|exact trivial|omega| (refine bH9 ?_ ?_)|intro _
  all_goals rfl
theorem ed_inj {l m:List Ed}(h:l.map Ed.row=m.map Ed.row):l=m:=map_inj_of (fun a b e=>by
 cases a;cases b
 simp only[Ed.row,bM0,Dat.str.injEq,Dat.bool.injEq,bM4]at e
 obtain⟨rfl,rfl,rfl⟩:=e;rfl) h
variable {es:List Ed}{L L0 P:Sx.Rows}
theorem ow_inv :owInv [.lst (es.map Ed.row),.lst P,.lst L0] [.int i,.lst L]↔0<=i/\i<=(es.length:Int)/\L=L0++(es.take i.toNat).map (edS P):=by
 simp only[owInv,ln,bH0]
 constructor
 ·rintro ⟨h0,h1,_,h2⟩
  exact⟨h0,h1,h2 es rfl⟩
 ·rintro ⟨h0,h1,h2⟩
  refine⟨h0,h1,?_,fun c e=>?_⟩
  ·rw[h2,bH8,bH0,bI6];omega
  ·rw[<-ed_inj e];exact h2
theorem own_body (m:es.length<=16)(p:P.length<=100)(o:L0.length<=10001)(h:owInv [.lst (es.map Ed.row),.lst P,.lst L0] [.int i,.lst L])(hi:i<(es.length:Int)):vcOwn0 i (es.map Ed.row) L P L0:=by
 obtain⟨h0,h1,rfl⟩:=ow_inv.1 h
 obtain⟨e,he⟩:∃e,es[i.toNat]? =some e:=⟨_,bG3 (by omega)⟩
 have st:∀r,r=edS P e->owInv [.lst (es.map Ed.row),.lst P,.lst L0] [.int (i+1),.lst ((L0++(es.take i.toNat).map (edS P))++ [r])]:=fun r hr=>ow_inv.2 ⟨by omega,by omega,by rw[take_step h0 he,bJ8,hr];simp⟩
 have c0:cB (es.map Ed.row) i 1=e.d/\cS (es.map Ed.row) i 0=e.n/\cS (es.map Ed.row) i 2=e.v:=by
  unfold cB cS v5
  simp only[bI2,bK1,he]
  exact⟨rfl,rfl,rfl⟩
 have c:P.length<=1000:=by omega
 have f:(L0++(es.take i.toNat).map (edS P)).length<=100000:=by rw[bH8,bH0,bI6];omega
 have le:ln (es.map Ed.row)=es.length:=by simp[ln]
 have mu:∀j,owMu [.lst (es.map Ed.row),.lst P,.lst L0] [.int (i+1),.lst j]<owMu [.lst (es.map Ed.row),.lst P,.lst L0] [.int i,.lst (L0++(es.take i.toNat).map (edS P))]:=fun j=>by
  show(((es.map Ed.row).length:Int)-(i+1)).toNat<(((es.map Ed.row).length:Int)-i).toNat
  rw[bH0];omega
 unfold vcOwn0
 simp only[Nd,Nr,Ni,I64,c0,le,putPre,putRel,forall_eq,bJ5,bL4,bM4,bL9,bN1,bK7]
 refine⟨by omega,fun _=>⟨hi,fun _=>⟨fun g=>?_,fun g=>?_⟩⟩⟩
 ·have G:=st _ (show stp 1 P e.n [] 0 0 zT=_ by unfold edS;rw[bH3 g])
  exact⟨⟨c,f⟩,fun _=>⟨⟨by omega,by omega⟩,fun _=>⟨G,fun _=>mu _⟩⟩⟩
 ·have G:=st _ (show stp 2 P e.n e.v 0 0 zT=_ by unfold edS;rw[bH1 g])
  exact⟨⟨c,f⟩,fun _=>⟨⟨by omega,by omega⟩,fun _=>⟨G,fun _=>mu _⟩⟩⟩
theorem at_valid {s:Tree}(h:Alone s):Valid (.mk 1 [97] [] s.a [] []):=by
 refine⟨(AllA_iff _).2 ⟨.inr ⟨rfl,rfl,.inl rfl,rfl,?_,bO6 _,?_,?_,List.Pairwise.nil⟩,trivial⟩,by simp[Tree.size,Tree.sizes],by simp[Tree.depth,Tree.depths]⟩
 ·exact(alone_c h).2
 ·rcases h with⟨_,_,_,_,h,_⟩| ⟨_,_,_,_,_,_,h,_⟩
  ·intro x hx
   have hx:x∈s.a:=hx
   rw[h]at hx;cases hx
  ·exact h
 ·rcases h with⟨_,_,_,_,h,_⟩| ⟨_,_,_,_,_,_,_,h,_⟩
  ·show Asc (s.a.map Att.n)
   rw[h];exact List.Pairwise.nil
  ·exact h
theorem vcOwn_ok :vcOwn:=by
 unfold vcOwn
 rintro k t y a x c k' t' r a' x' c' P L ⟨⟨s,⟨rfl,rfl,rfl,rfl,rfl,rfl⟩,hs⟩,⟨s',⟨rfl,rfl,rfl,rfl,rfl,rfl⟩,m⟩,n,o⟩
 have A:adfPre [.lst (s.a.map Att.row),.lst (s'.a.map Att.row)]:=⟨_,_,rfl,rfl,at_valid ((AllA_iff s).1 hs).1,at_valid ((AllA_iff s').1 m).1⟩
 have I:∀ {es:List Ed} {L0:Sx.Rows},owInv [.lst (es.map Ed.row),.lst P,.lst L0] [.int 0,.lst L0]:=fun{es L0}=>ow_inv.2 ⟨by omega,by omega,by simp⟩
 have F:∀ {L0 f:Sx.Rows} {i:Int},(adf s.a s'.a).length<=16->owInv [.lst ((adf s.a s'.a).map Ed.row),.lst P,.lst L0] [.int i,.lst f]-> ¬i<((adf s.a s'.a).length:Int)->L0=L++(if s.x=s'.x then []else [stp 3 P [] s'.x 0 0 zT])->ownRel [.int s.k,.str s.t,.str s.y,.lst (s.a.map Att.row),.str s.x,.lst (rows s.c),.int s'.k,.str s'.t,.str s'.y,.lst (s'.a.map Att.row),.str s'.x,.lst (rows s'.c),.lst P,.lst L] [.lst f]:=by
  intro L0 f i d h hi e p q hp hq
  rw[isT_self]at hp hq
  subst hp;subst hq
  obtain⟨h0,h1,rfl⟩:=ow_inv.1 h
  rw[take_full (by omega),e]
  refine⟨by unfold ownS;simp,?_⟩
  unfold ownS
  rw[bH8,bH0]
  split<;>simp only[bQ0,List.length_singleton]<;>omega
 have j:P.length<=1000:=by omega
 have g:L.length<=100000:=by omega
 simp only[Nd,Nr,Ni,putPre,putRel,forall_eq,bJ5,bL4,bM4,bL9,bN1,bK7]
 refine⟨fun hx=>⟨A,fun _ E e d=>?_⟩,fun hx=>⟨⟨j,g⟩,fun _=>⟨A,fun _ E e d=>?_⟩⟩⟩
 all_goals
  obtain⟨rfl,d⟩:=d _ _ rfl rfl
  rw[bH0]at d
  have le:ln ((adf s.a s'.a).map Ed.row)=(adf s.a s'.a).length:=by simp[ln]
  rw[le]
  refine⟨I,fun _ i f h=>⟨fun hi=>own_body d n (by first|omega| (simp;omega)) h hi,fun hi=>F d h hi ?_⟩⟩
 ·rw[bH3 hx,bO1]
 ·rw[bH1 hx];rfl
end Go.D
