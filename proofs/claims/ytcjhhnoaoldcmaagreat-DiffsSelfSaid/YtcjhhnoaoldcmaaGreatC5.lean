/- Which children stay: the conditions hold.
  Conditions: none. -/
import Derived.Test.YtcjhhnoaoldcmaaGreatC4
import Derived.Test.YtcjhhnoaoldcmaaGreatA5
set_option linter.unusedVariables false
set_option linter.unusedSimpArgs false
namespace Go.D
open Go Go.Xe Go.Sx
open Go.C36 (row j0 lis cLong cRlong longPre longRel rlongPre rlongRel)
variable {m:List Int}
theorem rowm_eq {l:List Int}:(l.map row=m.map row)=(l=m):=propext ⟨Go.C36.row_inj,fun h=>h▸rfl⟩
theorem pl_snoc (m:List Int)(x:Int):pl (m++ [x])=if 0<=x then pl m++ [x]else pl m:=by
 unfold pl
 rw[List.filter_append]
 by_cases h:0<=x
 ·rw[bH3 h];simp[h]
 ·rw[bH1 h];simp[h]
theorem atF_snoc (m:List Int)(x:Int):∀i:Int,atF i (m++ [x])=if 0<=x then atF i m++ [i+m.length]else atF i m:=by
 induction m with
 |nil=>intro i;by_cases h:0<=x<;>simp[atF,h]
 |cons y m a=>
  intro i
  simp only[bL3,atF,a,bJ4]
  by_cases h:0<=x<;>by_cases h2:0<=y<;>simp[h,h2]
  all_goals omega
theorem atF_len (m:List Int):∀i:Int,(atF i m).length=(pl m).length:=by
 induction m with
 |nil=>intro i;rfl
 |cons y m a=>intro i;unfold atF pl;by_cases h:0<=y<;>simp[h,a,pl]
theorem atF_lt (m:List Int):∀i:Int,∀x∈atF i m,i<=x/\x<i+m.length:=by
 induction m with
 |nil=>intro i x hx;simp[atF]at hx
 |cons y m a=>
  intro i x hx
  unfold atF at hx
  simp only[bJ4]
  split at hx
  ·rcases bI9.1 hx with rfl|hx
   ·omega
   ·have:=a _ x hx;omega
  ·have:=a _ x hx;omega
theorem pl_le (m:List Int):(pl m).length<=m.length:=List.length_filter_le _ _
theorem OKm_snoc (m:List Int)(x:Int):OKm (m++ [x])↔OKm m/\ -1<=x/\(0<=x->x∉pl m):=by
 unfold OKm
 rw[pl_snoc]
 by_cases h:0<=x
 ·rw[bH3 h,List.nodup_append]
  simp only[bI8,bL6]
  constructor
  ·rintro ⟨h1,h2,_,h3⟩
   exact⟨⟨fun y hy=>h1 y (.inl hy),h2⟩,h1 x (.inr rfl),fun _ hx=>h3 x hx x (by simp) rfl⟩
  ·rintro ⟨⟨h1,h2⟩,h3,h4⟩
   refine⟨fun y hy=>hy.elim (h1 y) fun e=>by rw[e];exact h3,h2,by simp,fun a d b hb e=>h4 h (by rw[<-hb,<-e];exact d)⟩
 ·rw[bH1 h]
  simp only[bI8,bL6]
  exact⟨fun⟨h1,h2⟩=>⟨⟨fun y hy=>h1 y (.inl hy),h2⟩,h1 x (.inr rfl),fun c=>absurd c h⟩,fun⟨⟨h1,h2⟩,h3,_⟩=>⟨fun y hy=>hy.elim (h1 y) fun e=>by rw[e];exact h3,h2⟩⟩
theorem OKm_take (h:OKm m)(k:Nat):OKm (m.take k):=
 ⟨fun x hx=>h.1 x (bN7 hx),h.2.sublist ((List.take_sublist k m).filter _)⟩
theorem pickL_lt :∀(l fs:List Int) (i n:Int) (last:Option Int),∀x∈Go.C36.pickL l fs i n last,i<=x/\x<i+l.length
 | [],fs,i,n,last,x,hx=>by rw[Go.C36.pickL_nil]at hx;cases hx
 |y::l,[],i,n,last,x,hx=>by cases hx
 |y::l,f::fs,i,n,last,x,hx=>by
  rw[Go.C36.pickL_cons]at hx
  simp only[bJ4]
  split at hx
  ·rcases bI9.1 hx with rfl|hx
   ·omega
   ·have:=pickL_lt l fs _ _ _ x hx;omega
  ·have:=pickL_lt l fs _ _ _ x hx;omega
theorem lis_lt (l:List Int):∀x∈lis l,0<=x/\x<l.length:=fun x hx=>by
 have:=pickL_lt l _ 0 _ _ x hx;omega
theorem lis_le (l:List Int):(lis l).length<=l.length:=by
 have:=Go.C36.lis_len l
 have:=Go.C36.maxF_le l
 omega
theorem putF_snoc {α:Type}(a:List Int)(v:α)(k:Int):∀(z:List Int) (o:List α),D0 a v (z++ [k]) o=(D0 a v z o).set (a.getD k.toNat 0).toNat v
 | [],o=>rfl
 |x::z,o=>by simp only[bL3,D0];exact putF_snoc a v k z _
theorem putF_len {α:Type}(a:List Int)(v:α):∀(z:List Int) (o:List α),(D0 a v z o).length=o.length
 | [],o=>rfl
 |x::z,o=>by simp only[D0];rw[putF_len a v z];simp
theorem stay_len (m:List Int):(stayM m).length=m.length:=by unfold stayM;rw[putF_len];simp
theorem app_row (l:List Int)(x:Int):l.map row++ [[.int x]]=(l++ [x]).map row:=by rw[bJ8];rfl
theorem row0 (n:Int):(row n).getD 0 (.int 0)= .int n:=rfl
theorem put_step {f : Bool → List Dat}  {j : Int} {O : Sx.Rows} (h0 : 0 ≤ j) (hj : j < ((lis (pl m)).length : Int)) ( d : O = (D0 (atF 0 m) true ((lis (pl m)).take j.toNat) (List.replicate m.length false)).map f) :
  ∃k a:Int,(lis (pl m))[j.toNat]? =some k/\0<=k/\k<((atF 0 m).length:Int)/\(atF 0 m)[k.toNat]? =some a/\0<=a/\a<(m.length:Int)/\O.length=m.length/\(Sx.over O a [f true]).length=m.length/\
   Sx.part (Sx.over O a [f true]) 0 (m.length:Int)=(D0 (atF 0 m) true ((lis (pl m)).take (j+1).toNat) (List.replicate m.length false)).map f:=by
 obtain⟨k,hk⟩:=Sx.get_at h0 hj
 obtain⟨k0,k1⟩:=lis_lt _ k (bG1 hk)
 rw[<-atF_len m 0]at k1
 obtain⟨a,b⟩:=Sx.get_at (T:=atF 0 m) k0 k1
 obtain⟨c,g⟩:=atF_lt m 0 a (bG1 b)
 have hl:O.length=m.length:=by rw[d,bH0,putF_len];simp
 have e:Sx.over O a [f true]=O.set a.toNat (f true):=over1 c (by omega)
 refine⟨k,a,hk,k0,k1,b,c,by omega,hl,by rw[e,List.length_set];exact hl,?_⟩
 rw[e,take_step h0 hk,putF_snoc,bI2,b,d,<-List.map_set]
 unfold Sx.part
 rw[bP7,bO7,bJ2]
 exact bK0 (by rw[bH0,List.length_set,putF_len];simp)
theorem rep_part (m:List Int)(f:Bool->List Dat):Sx.part (List.replicate m.length (f false)) 0 (m.length:Int)=(D0 (atF 0 m) true ((lis (pl m)).take (0:Int).toNat) (List.replicate m.length false)).map f:=by
 simp[Sx.part,D0]
theorem vcStay_ok :vcStay:=by
 unfold vcStay
 rintro _ ⟨m,rfl,hm⟩
 have o:brow false=[.bool false]:=rfl
 have p:([Dat.bool true]:List Dat)=brow true:=rfl
 simp only[Nd,Nr,Ni,ln,I64,cI,cS,cB,cL,bH0,chunk1,syInv,syMu,szInv,szMu,slMu,stayRel,rowm_eq,bO9,List.length_replicate,bM4,bL9,bJ5,bL4]
 refine⟨fun h=>by omega,fun _=>⟨⟨by omega,by omega,⟨by simp,by simp[pl]⟩,rfl,rfl,fun x=>by simp[mgetR,pl,Dat.toBool]⟩,fun _ i A Q S ⟨i0,i1,b,D,E,g⟩=>?_⟩⟩
 subst D;subst E
 refine⟨fun hi=>?_,fun hi=>?_⟩
 ·obtain⟨x,hx⟩:=Sx.get_at i0 hi
  have n:OKm m->OKm (m.take i.toNat++ [x]):=fun h=>by rw[<-take_step i0 hx];exact OKm_take h _
  have t:=pl_le (m.take i.toNat)
  have H:=atF_len (m.take i.toNat) 0
  rw[bI6]at t
  have u:(0:Int)+(m.take i.toNat).length=i:=by rw[bI6];omega
  simp only[e9 hx,row0,i5,g,bH2,bH0,take_step i0 hx,pl_snoc,atF_snoc,OKm_snoc,u,app_row]
  have d:¬(-1<=x/\(0<=x->x∉pl (m.take i.toNat)))->(OKm m->([]:Sx.Rows)=(stayM m).map brow):=fun h F=>absurd ((OKm_snoc _ _).1 (n F)).2 h
  refine⟨by omega,fun _=>⟨hi,fun _=>⟨fun h=>d fun c=>by omega,fun h=>⟨fun h2=>d fun c=>c.2 (by unfold pl at h2;have:=(List.mem_filter.1 h2).2;simpa using this) h2,fun h2=>⟨fun h3=>?_,fun h3=>?_⟩⟩⟩⟩⟩
  ·rw[bH1 (by omega),bH1 (by omega)]
   exact⟨⟨by omega,by omega⟩,fun _=>⟨by omega,fun _=>⟨by omega,fun _=>⟨⟨by omega,by omega,⟨b,by omega,fun c=>by omega⟩,rfl,rfl,fun y=>by simp[g]⟩,fun _=>by omega⟩⟩⟩⟩
  ·rw[bH3 (by omega),bH3 (by omega)]
   refine⟨by omega,fun _=>⟨by omega,fun _=>⟨by omega,fun _=>⟨by omega,fun _=>⟨⟨by omega,by omega⟩,fun _=>⟨by omega,fun _=>⟨by omega,fun _=>⟨⟨by omega,by omega,⟨b,by omega,fun _=>h2⟩,rfl,rfl,fun y=>?_⟩,fun _=>by omega⟩⟩⟩⟩⟩⟩⟩⟩
   rw[ac7 _ _ (by rfl)]
   by_cases e:y=x
   ·subst e;simp[Dat.toBool]
   ·rw[bH1 (by simpa using e),g];simp[e]
 ·rw[take_full (by omega)]at b
  rw[take_full (l:=m) (by omega)]
  have t:=pl_le m
  have H:=atF_len m 0
  have u:=lis_le (pl m)
  refine⟨by omega,fun _=>⟨by omega,fun _=>⟨by omega,fun _=>⟨by omega,fun _=>⟨⟨pl m,rfl,by omega⟩,fun _ Z e s=>?_⟩⟩⟩⟩⟩
  simp only[longRel,Go.C36.longRel,Go.C36.nums_map]at s
  obtain⟨rfl,rfl⟩:=s
  have hr:=rep_part m brow
  rw[o]at hr
  simp only[bH0,bJ2,hr,rowm_eq,bO9,bJ5,p]
  refine⟨by omega,fun _=>⟨by omega,fun _=>⟨⟨by omega,by omega,by simp[putF_len],trivial⟩,fun _ j O ⟨G,K,L,f⟩=>⟨fun hj=>?_,fun hj=>?_⟩⟩⟩⟩
  ·obtain⟨k,a,v,I,q,w,J,r,z,B,C⟩:=put_step G hj f
   simp only[e9 v,e9 w,row0,i5,z,B,C]
   exact⟨by omega,fun _=>⟨hj,fun _=>⟨by omega,fun _=>⟨q,fun _=>⟨q,fun _=>⟨by omega,fun _=>⟨r,fun _=>⟨by omega,fun _=>⟨r,fun _=>⟨⟨by omega,by omega⟩,fun _=>⟨by omega,fun _=>⟨by omega,fun _=>⟨⟨by omega,by omega,by simp[putF_len],trivial⟩,fun _=>by omega⟩⟩⟩⟩⟩⟩⟩⟩⟩⟩⟩⟩⟩
  ·rw[take_full (by omega)]at f
   exact⟨by omega,fun _=>⟨by omega,fun _=>⟨fun _=>f,fun h=>absurd b h⟩⟩⟩
open Go Go.Xe Go.Sx
open Go.C36 (row j0 lis cLong cRlong longPre longRel rlongPre rlongRel)
theorem all2 {α c:Type}{a:α}{b:c}{p:α->c->Prop}:(∀x y,x=a->y=b->p x y)=p a b:=propext ⟨fun h=>h a b rfl rfl,fun h x y e f=>by subst e f;exact h⟩
end Go.D
