/- Which children stay: the conditions hold.
  Conditions: none. -/
import Derived.Test.YtcjhhnoaoldcmaaGreatC4
set_option linter.unusedVariables false
set_option linter.unusedSimpArgs false
namespace Go.D
open Go Go.Xe Go.Sx
open Go.C36 (row t6 lis cLong cRlong longPre longRel rlongPre rlongRel)
theorem rowm_eq {l m:List Int}:(l.map row=m.map row)=(l=m):=propext ⟨Go.C36.row_inj,fun h=>h▸rfl⟩
theorem pl_snoc (m:List Int)(x:Int):pl (m++ [x])=if 0<=x then pl m++ [x]else pl m:=by
 unfold pl
 rw[List.filter_append]
 by_cases h:0<=x
 ·rw[bK1 h];simp[h]
 ·rw[bJ9 h];simp[h]
theorem atF_snoc (m:List Int)(x:Int):∀i:Int,atF i (m++ [x])=if 0<=x then atF i m++ [i+m.length]else atF i m:=by
 induction m with
 |nil=>intro i;by_cases h:0<=x<;>simp[atF,h]
 |cons y m ih=>
  intro i
  simp only[bO1,atF,ih,bM2]
  by_cases h:0<=x<;>by_cases h2:0<=y<;>simp[h,h2]
  all_goals omega
theorem atF_len (m:List Int):∀i:Int,(atF i m).length=(pl m).length:=by
 induction m with
 |nil=>intro i;rfl
 |cons y m ih=>intro i;unfold atF pl;by_cases h:0<=y<;>simp[h,ih,pl]
theorem atF_lt (m:List Int):∀i:Int,∀x∈atF i m,i<=x/\x<i+m.length:=by
 induction m with
 |nil=>intro i x hx;simp[atF]at hx
 |cons y m ih=>
  intro i x hx
  unfold atF at hx
  simp only[bM2]
  split at hx
  ·rcases bL7.1 hx with rfl|hx
   ·omega
   ·have:=ih _ x hx;omega
  ·have:=ih _ x hx;omega
theorem pl_le (m:List Int):(pl m).length<=m.length:=List.length_filter_le _ _
theorem OKm_snoc (m:List Int)(x:Int):OKm (m++ [x])↔OKm m/\ -1<=x/\(0<=x->x∉pl m):=by
 unfold OKm
 rw[pl_snoc]
 by_cases h:0<=x
 ·rw[bK1 h,List.nodup_append]
  simp only[bL6,bO4]
  constructor
  ·rintro ⟨h1,h2,_,h3⟩
   exact⟨⟨fun y hy=>h1 y (.inl hy),h2⟩,h1 x (.inr rfl),fun _ hx=>h3 x hx x (by simp) rfl⟩
  ·rintro ⟨⟨h1,h2⟩,h3,h4⟩
   refine⟨fun y hy=>hy.elim (h1 y) fun e=>by rw[e];exact h3,h2,by simp,fun a ha b hb e=>h4 h (by rw[<-hb,<-e];exact ha)⟩
 ·rw[bJ9 h]
  simp only[bL6,bO4]
  exact⟨fun⟨h1,h2⟩=>⟨⟨fun y hy=>h1 y (.inl hy),h2⟩,h1 x (.inr rfl),fun c=>absurd c h⟩,fun⟨⟨h1,h2⟩,h3,_⟩=>⟨fun y hy=>hy.elim (h1 y) fun e=>by rw[e];exact h3,h2⟩⟩
theorem OKm_take {m:List Int}(h:OKm m)(k:Nat):OKm (m.take k):=
 ⟨fun x hx=>h.1 x (bQ5 hx),h.2.sublist ((List.take_sublist k m).filter _)⟩
theorem pickL_lt :∀(l fs:List Int) (i n:Int) (last:Option Int),∀x∈Go.C36.pickL l fs i n last,i<=x/\x<i+l.length
 | [],fs,i,n,last,x,hx=>by rw[Go.C36.pickL_nil]at hx;cases hx
 |y::l,[],i,n,last,x,hx=>by cases hx
 |y::l,f::fs,i,n,last,x,hx=>by
  rw[Go.C36.pickL_cons]at hx
  simp only[bM2]
  split at hx
  ·rcases bL7.1 hx with rfl|hx
   ·omega
   ·have:=pickL_lt l fs _ _ _ x hx;omega
  ·have:=pickL_lt l fs _ _ _ x hx;omega
theorem lis_lt (l:List Int):∀x∈lis l,0<=x/\x<l.length:=fun x hx=>by
 have:=pickL_lt l _ 0 _ _ x hx;omega
theorem lis_le (l:List Int):(lis l).length<=l.length:=by
 have:=Go.C36.lis_len l
 have:=Go.C36.maxF_le l
 omega
theorem putF_snoc {α:Type}(a:List Int)(v:α)(k:Int):∀(z:List Int) (o:List α),H5 a v (z++ [k]) o=(H5 a v z o).set (a.getD k.toNat 0).toNat v
 | [],o=>rfl
 |x::z,o=>by simp only[bO1,H5];exact putF_snoc a v k z _
theorem putF_len {α:Type}(a:List Int)(v:α):∀(z:List Int) (o:List α),(H5 a v z o).length=o.length
 | [],o=>rfl
 |x::z,o=>by simp only[H5];rw[putF_len a v z];simp
theorem stay_len (m:List Int):(stayM m).length=m.length:=by unfold stayM;rw[putF_len];simp
theorem app_row (l:List Int)(x:Int):l.map row++ [[.int x]]=(l++ [x]).map row:=by rw[bM6];rfl
theorem row0 (n:Int):(row n).getD 0 (.int 0)= .int n:=rfl
theorem put_step {f : Bool → List Dat} {m : List Int} {j : Int} {O : Sx.Rows} (h0 : 0 ≤ j) (hj : j < ((lis (pl m)).length : Int)) (hO : O = (H5 (atF 0 m) true ((lis (pl m)).take j.toNat) (List.replicate m.length false)).map f) :
  ∃k a:Int,(lis (pl m))[j.toNat]? =some k/\0<=k/\k<((atF 0 m).length:Int)/\(atF 0 m)[k.toNat]? =some a/\0<=a/\a<(m.length:Int)/\O.length=m.length/\(Sx.over O a [f true]).length=m.length/\
   Sx.part (Sx.over O a [f true]) 0 (m.length:Int)=(H5 (atF 0 m) true ((lis (pl m)).take (j+1).toNat) (List.replicate m.length false)).map f:=by
 obtain⟨k,hk⟩:=Sx.get_at h0 hj
 obtain⟨k0,k1⟩:=lis_lt _ k (bI9 hk)
 rw[<-atF_len m 0]at k1
 obtain⟨a,ha⟩:=Sx.get_at (T:=atF 0 m) k0 k1
 obtain⟨a0,a1⟩:=atF_lt m 0 a (bI9 ha)
 have hl:O.length=m.length:=by rw[hO,bJ8,putF_len];simp
 have ho:Sx.over O a [f true]=O.set a.toNat (f true):=over1 a0 (by omega)
 refine⟨k,a,hk,k0,k1,ha,a0,by omega,hl,by rw[ho,List.length_set];exact hl,?_⟩
 rw[ho,take_step h0 hk,putF_snoc,bL0,ha,hO,<-List.map_set]
 unfold Sx.part
 rw[bS4,bR5,bM0]
 exact bM8 (by rw[bJ8,List.length_set,putF_len];simp)
theorem rep_part (m:List Int)(f:Bool->List Dat):Sx.part (List.replicate m.length (f false)) 0 (m.length:Int)=(H5 (atF 0 m) true ((lis (pl m)).take (0:Int).toNat) (List.replicate m.length false)).map f:=by
 simp[Sx.part,H5]
theorem vcStay_ok :vcStay:=by
 unfold vcStay
 rintro _ ⟨m,rfl,hm⟩
 have irr:brow false=[.bool false]:=rfl
 have irt:([Dat.bool true]:List Dat)=brow true:=rfl
 simp only[Nd,Nr,Ni,ln,I64,cI,cS,cB,cL,bJ8,chunk1,syInv,syMu,szInv,szMu,slMu,stayRel,rowm_eq,bR7,List.length_replicate,bP2,bO7,bM3,bO2]
 refine⟨fun h=>by omega,fun _=>⟨⟨by omega,by omega,⟨by simp,by simp[pl]⟩,rfl,rfl,fun x=>by simp[mgetR,pl,Dat.toBool]⟩,fun _ i A Q S ⟨i0,i1,hok,hA,hQ,hS⟩=>?_⟩⟩
 subst hA;subst hQ
 refine⟨fun hi=>?_,fun hi=>?_⟩
 ·obtain⟨x,hx⟩:=Sx.get_at i0 hi
  have hm2:OKm m->OKm (m.take i.toNat++ [x]):=fun h=>by rw[<-take_step i0 hx];exact OKm_take h _
  have l1:=pl_le (m.take i.toNat)
  have l2:=atF_len (m.take i.toNat) 0
  rw[bL4]at l1
  have l3:(0:Int)+(m.take i.toNat).length=i:=by rw[bL4];omega
  simp only[i7 hx,row0,f9,hS,bK0,bJ8,take_step i0 hx,pl_snoc,atF_snoc,OKm_snoc,l3,app_row]
  have nok:¬(-1<=x/\(0<=x->x∉pl (m.take i.toNat)))->(OKm m->([]:Sx.Rows)=(stayM m).map brow):=fun h ho=>absurd ((OKm_snoc _ _).1 (hm2 ho)).2 h
  refine⟨by omega,fun _=>⟨hi,fun _=>⟨fun h=>nok fun c=>by omega,fun h=>⟨fun h2=>nok fun c=>c.2 (by unfold pl at h2;have:=(List.mem_filter.1 h2).2;simpa using this) h2,fun h2=>⟨fun h3=>?_,fun h3=>?_⟩⟩⟩⟩⟩
  ·rw[bJ9 (by omega),bJ9 (by omega)]
   exact⟨⟨by omega,by omega⟩,fun _=>⟨by omega,fun _=>⟨by omega,fun _=>⟨⟨by omega,by omega,⟨hok,by omega,fun c=>by omega⟩,rfl,rfl,fun y=>by simp[hS]⟩,fun _=>by omega⟩⟩⟩⟩
  ·rw[bK1 (by omega),bK1 (by omega)]
   refine⟨by omega,fun _=>⟨by omega,fun _=>⟨by omega,fun _=>⟨by omega,fun _=>⟨⟨by omega,by omega⟩,fun _=>⟨by omega,fun _=>⟨by omega,fun _=>⟨⟨by omega,by omega,⟨hok,by omega,fun _=>h2⟩,rfl,rfl,fun y=>?_⟩,fun _=>by omega⟩⟩⟩⟩⟩⟩⟩⟩
   rw[af4 _ _ (by rfl)]
   by_cases e:y=x
   ·subst e;simp[Dat.toBool]
   ·rw[bJ9 (by simpa using e),hS];simp[e]
 ·rw[take_full (by omega)]at hok
  rw[take_full (l:=m) (by omega)]
  have l1:=pl_le m
  have l2:=atF_len m 0
  have l3:=lis_le (pl m)
  refine⟨by omega,fun _=>⟨by omega,fun _=>⟨by omega,fun _=>⟨by omega,fun _=>⟨⟨pl m,rfl,by omega⟩,fun _ Z e hZ=>?_⟩⟩⟩⟩⟩
  simp only[longRel,Go.C36.longRel,Go.C36.nums_map]at hZ
  obtain⟨rfl,rfl⟩:=hZ
  have hr:=rep_part m brow
  rw[irr]at hr
  simp only[bJ8,bM0,hr,rowm_eq,bR7,bM3,irt]
  refine⟨by omega,fun _=>⟨by omega,fun _=>⟨⟨by omega,by omega,by simp[putF_len],trivial⟩,fun _ j O ⟨j0,j1,j2,hO⟩=>⟨fun hj=>?_,fun hj=>?_⟩⟩⟩⟩
  ·obtain⟨k,a,g1,g2,g3,g4,g5,g6,g7,g8,g9⟩:=put_step j0 hj hO
   simp only[i7 g1,i7 g4,row0,f9,g7,g8,g9]
   exact⟨by omega,fun _=>⟨hj,fun _=>⟨by omega,fun _=>⟨g3,fun _=>⟨g3,fun _=>⟨by omega,fun _=>⟨g6,fun _=>⟨by omega,fun _=>⟨g6,fun _=>⟨⟨by omega,by omega⟩,fun _=>⟨by omega,fun _=>⟨by omega,fun _=>⟨⟨by omega,by omega,by simp[putF_len],trivial⟩,fun _=>by omega⟩⟩⟩⟩⟩⟩⟩⟩⟩⟩⟩⟩⟩
  ·rw[take_full (by omega)]at hO
   exact⟨by omega,fun _=>⟨by omega,fun _=>⟨fun _=>hO,fun h=>absurd hok h⟩⟩⟩
end Go.D
