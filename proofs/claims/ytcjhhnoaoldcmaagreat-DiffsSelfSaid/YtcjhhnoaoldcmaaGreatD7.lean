/- The writer of a diff: the conditions of node and Diff hold.
  Conditions: none. -/
import Derived.Test.YtcjhhnoaoldcmaaGreatD6
set_option linter.unusedVariables false
set_option linter.unusedSimpArgs false
namespace Go.D
open Go Go.Xe Go.Sx
open Go.C36 (row j0 lis cLong cRlong longPre longRel rlongPre rlongRel)
theorem node0 {N:Nat}{o:List Tree}{m t:List Int}{P L0 L:Sx.Rows}{i:Int}(h:FR o m P L0 i t L)(hi:i<(o.length:Int))(hm:i∉m)(a:P.length<=1000)(c:o.length<=16)(b:L0.length<=10000):vcNode0 N L (t.map row) P i (rows o) (m.map row) L0:=by
 have hh:=fr_free h hi hm
 have G:frInv [.lst (rows o),.lst (m.map row),.lst P,.lst L0] [.int (i+1),.lst (t.map row),.lst (L++ [[.int 4,.lst P,.str [],.str [],.int (ln (t.map row)),.int 0,.int 0,.str [],.str [],.lst [],.str [],.lst []]])]:=by
  have e:ln (t.map row)=(t.length:Int):=by simp[ln]
  rw[e]
  exact fr_inv.2 ⟨t,rfl,hh⟩
 obtain⟨h0,h1,_,_,h3⟩:=h
 have hl:L.length<=100000:=by omega
 simp only[vcNode0,Nd,Nr,Ni,I64,putPre,putRel,forall_eq,bN1,bK7,bL9,bJ5]
 refine⟨⟨a,hl⟩,fun _=>⟨⟨by omega,by omega⟩,fun _=>⟨G,fun _=>⟨?_,fun _=>trivial⟩⟩⟩⟩
 show(((rows o).length:Int)-(i+1)).toNat<(((rows o).length:Int)-i).toNat
 rw[bH0];omega
theorem kids_keys {s:Tree}(h:Alone s):Keys (s.c.map Tree.y):=by
 rcases h with⟨_,_,_,_,_,h⟩| ⟨_,_,_,_,_,_,_,_,h⟩
 ·rw[h];exact List.Pairwise.nil
 ·exact h
theorem depth_mem :∀ {l:List Tree} {k:Nat} {c:Tree},l[k]? =some c->c.depth<=Tree.depths l
 | [],k,c,h=>by simp at h
 |a::l,0,c,h=>by cases h;unfold Tree.depths;omega
 |a::l,k+1,c,h=>by
  have:=depth_mem (l:=l) (k:=k) (by simpa using h)
  unfold Tree.depths;omega
theorem sizes_at {l:List Tree}{i:Int}{c:Tree}(h0:0<=i)(h:l[i.toNat]? =some c):Tree.sizes (l.take i.toNat)+c.size<=Tree.sizes l:=by
 rw[<-sizes_step h0 h];exact sizes_le l _
set_option maxHeartbeats 1000000 in
theorem vcNode_ok (N : Nat) : vcNode N := by
 unfold vcNode
 rintro _ _ _ _ _ _ _ _ _ _ _ _ P L ⟨⟨⟨s,⟨rfl,rfl,rfl,rfl,rfl,rfl⟩,hs⟩,s',⟨rfl,rfl,rfl,rfl,rfl,rfl⟩,V',hP,hL⟩,Y⟩
 have ab:=V'.1
 have A:=(AllA_iff s).1 hs
 have A':=(AllA_iff s').1 ab
 have aw:=(alone_c A.1).1
 have ah:=(alone_c A'.1).1
 have Z:=mtch_ok s.c (kids_keys A'.1)
 have aq:=mtch_len s.c s'.c
 have z:=fun x (h:x∈mtch s.c s'.c)=>mtch_mem h
 have bj:=size_def s'
 have ba:=depth_def s'
 have Y:szRs (rows s'.c)<N+1:=Y
 generalize em:mtch s.c s'.c=m at*
 have hq:=stay_len m
 simp only[Nd,Nr,Ni,bN1,bK7,bL9,bJ5]
 refine⟨⟨⟨s,⟨rfl,rfl,rfl,rfl,rfl,rfl⟩,hs⟩,⟨s',⟨rfl,rfl,rfl,rfl,rfl,rfl⟩,ab⟩,by have:=size_pos s';omega,by omega⟩,fun _ L1 J=>⟨⟨_,_,rfl,rfl,by omega,by omega⟩,fun _ M hM=>?_⟩⟩
 obtain⟨e0,l0⟩:=J s s' ⟨rfl,rfl,rfl,rfl,rfl,rfl⟩ ⟨rfl,rfl,rfl,rfl,rfl,rfl⟩
 obtain rfl:=hM _ _ rfl rfl
 rw[em]
 refine⟨⟨m,rfl,by omega⟩,fun _ Q hQ=>?_⟩
 obtain rfl:=(hQ m rfl).1 Z
 have J:L1.length<=L.length+17:=by rw[e0,bH8];omega
 refine⟨fr_inv.2 ⟨[],rfl,by omega,by omega,rfl,by simp[freesS],by simp⟩,fun _ i T L2 aj=>?_⟩
 obtain⟨t,rfl,hF⟩:=fr_inv.1 aj
 have i0:=hF.1
 refine⟨fun hi=>?_,fun hi=>?_⟩
 ·have hi:i<(s.c.length:Int):=by simpa only[ln,bH0]using hi
  have ht:t.length<=16:=by
   obtain⟨_,_,_,h3,h4⟩:=hF
   rw[h3,bH8]at h4;omega
  have ap:L2.length<=100000:=by obtain⟨_,_,_,_,h4⟩:=hF;omega
  have mu:∀ {T' L'},frMu [.lst (rows s.c),.lst (m.map row),.lst P,.lst L1] [.int (i+1),.lst T',.lst L']<frMu [.lst (rows s.c),.lst (m.map row),.lst P,.lst L1] [.int i,.lst (t.map row),.lst L2]:=fun{T' L'}=>by
   show(((rows s.c).length:Int)-(i+1)).toNat<(((rows s.c).length:Int)-i).toNat
   rw[bH0];omega
  have bc:ln (t.map row)=(t.length:Int):=by simp[ln]
  refine⟨ixn_0 _ _,fun _ k hx=>⟨fun hk=>?_,fun hk=>node0 hF hi (ixn_none hx (by simpa only[ln,bH0]using hk)) (by omega) aw (by omega)⟩⟩
  have V:k<(m.length:Int):=by simpa only[ln,bH0]using hk
  obtain⟨k0,k1,_⟩:=ixn_inv.1 hx
  simp only[cI_row,I64,chunk1]
  refine⟨by omega,fun _=>⟨hk,fun _=>⟨fun e=>⟨fun c=>absurd k0 (by omega),fun _=>?_⟩,fun e=>⟨⟨by omega,by omega⟩,fun _=>⟨ixn_step hx V e,fun _=>⟨ixn_mu k0 hk,fun _=>trivial⟩⟩⟩⟩⟩⟩
  have G:=fr_keep hF hi (by rw[e];exact bG1 (getD_at k0 V))
  have G:=fr_inv.2 ⟨_,rfl,G⟩
  rw[<-app_row]at G
  repeat' with_reducible first|exact trivial|exact G|exact mu|omega| (refine bH9 ?_ ?_)|intro _
 ·have hi : ¬ i < (s.c.length : Int) := by simpa only [ln, bH0] using hi
  obtain⟨_,i1,et,e1,l1⟩:=hF
  have ei:i=s.c.length:=by omega
  have ap:L2.length<=L.length+33:=by omega
  have ar:∀x∈pl m,x∈t:=fun x hx=>by
   obtain⟨h1,h2⟩:=mem_pl.1 hx
   rw[et]
   refine List.mem_filter.2 ⟨bN4.2 ⟨x.toNat,List.mem_range.2 ?_,Int.toNat_of_nonneg h2⟩,by simpa using h1⟩
   have:=(z x h1).2;omega
  refine⟨nd_inv.2 ⟨t,rfl,by omega,by omega,by omega,ar,[],by simp,by simp;omega,fun f _=>rfl⟩,fun _ j T2 L3 ak=>?_⟩
  obtain⟨u,rfl,p⟩:=nd_inv.1 ak
  have B:=p.1
  refine⟨fun hj=>?_,fun hj=>?_⟩
  ·have  ao : j < (s'.c.length : Int) := by simpa only [ln, bH0] using hj
   obtain⟨c,hc⟩:=Sx.get_at B ao
   have hv:=getD_at (l:=m) (d:=0) B (by omega)
   have hb:=getD_at (l:=stayM m) (d:=false) B (by omega)
   have I:=AllAs_mem A'.2 hc
   have U:=depth_mem hc
   have D:m.length=(stayM m).length:=hq.symm
   have bi:=sizes_at B hc
   have hu:u.length<=32:=by
    obtain⟨_,_,h4,_⟩:=p
    have:t.length<=16:=by rw[e1,bH8]at l1;omega
    omega
   have bb:L3.length+100*c.size<=L.length+49+100*Tree.sizes s'.c:=by
    obtain⟨_,_,_,_,S,e,h5,_⟩:=p
    rw[e,bH8];omega
   have az:=size_pos c
   have O:Valid c:=⟨I,by have:=V'.2.1;omega,by have:=V'.2.2;omega⟩
   have NZ:∀e,chkRel [.int c.k,.str c.t,.str c.y,.lst (c.a.map Att.row),.str c.x,.lst (rows c.c)] [.int e]->e=0:=fun e h=>(h c ⟨rfl,rfl,rfl,rfl,rfl,rfl⟩).1.2 O
   have aa:L3.length<=100000:=by omega
   have K:P.length<=1000:=by omega
   simp only[cI_row,cB_row]
   simp only[cI,cS,cL,cell_rows hc,t0,t1,t2,t3,t4,t5,i5,j7,I7]
   have be:ln (m.map row)=(m.length:Int):=by simp[ln]
   have bg:ln ((stayM m).map brow)=((stayM m).length:Int):=by simp[ln]
   have au:ln (u.map row)=(u.length:Int):=by simp[ln]
   generalize ad:m.getD j.toNat 0=v at*
   generalize eb:(stayM m).getD j.toNat false=b at*
   refine⟨by omega,fun _=>⟨hj,fun _=>⟨by omega,fun _=>⟨by omega,fun _=>⟨fun ac=>?_,fun ac=>?_⟩⟩⟩⟩⟩
   ·have G : ∀ d k t' y a x c', 0 ≤ d → d ≤ ln (u.map row) → d = aheadF u (m.drop (j.toNat + 1)) ((stayM m).drop (j.toNat + 1)) → cpdRel [.int c.k, .str c.t, .str c.y, .lst (c.a.map Att.row), .str c.x, .lst (rows c.c), .bool true] [.int k, .str t', .str y, .lst a, .str x, .lst c'] →
      ndInv [.lst (rows s.c),.lst (rows s'.c),.lst (m.map row),.lst ((stayM m).map brow),.lst P,.lst (t.map row),.lst L2] [.int (j+1),.lst (Sx.part ((Sx.part (u.map row) 0 d++Sx.chunk 1 1 [.int (-1-j)])++Sx.part (u.map row) d (ln (u.map row)-d)) 0 (ln (u.map row)+1)),.lst (L3++ [[.int 5,.lst P,.str [],.str [],.int 0,.int d,.int k,.str t',.str y,.lst a,.str x,.lst c']])]:=fun d k t' y a x c' w d1 F hk=>by
     have hk:=hk c ⟨rfl,rfl,rfl,rfl,rfl,rfl⟩
     rw[strip_true]at hk
     obtain⟨rfl,rfl,rfl,rfl,rfl,rfl⟩:=hk
     rw[ins_row w (by omega)]
     exact nd_inv.2 ⟨_,rfl,nd_mount p hc ad ac F⟩
    have E:=fun k t' y a x c'=>G (ln (u.map row)) k t' y a x c' (by omega) (by omega)
    simp only[part_all]at E
    have M:∀ {T' L':Sx.Rows},ndMu [.lst (rows s.c),.lst (rows s'.c),.lst (m.map row),.lst ((stayM m).map brow),.lst P,.lst (t.map row),.lst L2] [.int (j+1),.lst T',.lst L']<ndMu [.lst (rows s.c),.lst (rows s'.c),.lst (m.map row),.lst ((stayM m).map brow),.lst P,.lst (t.map row),.lst L2] [.int j,.lst (u.map row),.lst L3]:=nd_mu B hj
    have C1:chkPre [.int c.k,.str c.t,.str c.y,.lst (c.a.map Att.row),.str c.x,.lst (rows c.c)]:=⟨c,rfl,rfl,rfl,rfl,rfl,rfl⟩
    have C2:cpdPre [.int c.k,.str c.t,.str c.y,.lst (c.a.map Att.row),.str c.x,.lst (rows c.c),.bool true]:=⟨c,⟨rfl,rfl,rfl,rfl,rfl,rfl⟩,I⟩
    have IE:=ins_ln_end (l:=u)
    simp only[I64,putPre,putRel,forall_eq,bL4,bM4,bL9,bJ5]
    refine⟨⟨by omega,by omega⟩,fun _=>⟨ah_0 B,fun _ k hk=>?_⟩⟩
    obtain⟨_,q1,q2,q3⟩:=ah_inv.1 hk
    refine⟨fun X=>⟨by omega,fun _=>⟨by omega,fun _=>⟨fun r=>⟨by omega,fun _=>⟨X,fun _=>⟨ixn_0 _ _,fun _ d hx=>?_⟩⟩⟩,fun r=>⟨⟨by omega,by omega⟩,fun _=>⟨ah_step hk (by omega) r,fun _=>ah_mu hk (by omega)⟩⟩⟩⟩⟩,fun X=>?_⟩
    ·obtain⟨w,d1,F⟩:=ixn_inv.1 hx
     have AH:=ahead_at (t:=u) D B q1 (by omega) q3 r
     refine⟨fun q=>⟨by omega,fun _=>⟨q,fun _=>⟨q,fun _=>⟨fun e=>?_,fun e=>node1 rfl hx q e (by omega)⟩⟩⟩⟩,fun q=>?_⟩
     ·have G1:=fun k t' y a x c'=>G d k t' y a x c' w (by omega) (by rw[AH];exact(idx_at w (by omega) e F).symm)
      have I1:=ins_ln w d1
      repeat' with_reducible first|exact trivial|exact absurd (NZ _ ‹_›) ‹_› |exact G1 _ _ _ _ _ _ ‹_› |exact I1|exact M|exact C1|exact C2|exact K|exact aa|omega| (refine bH9 ?_ ?_)|intro _
     ·have W:=getD_at (l:=stayM m) (d:=false) (i:=k) (by omega) (by omega)
      rw[r]at W
      obtain⟨x,g1,g2⟩:=stay_true W
      have g3:m.getD k.toNat 0=x:=by rw[bI2,g1];rfl
      rw[g3]at hx
      exact absurd (p.2.2.2.1 x (mem_pl.2 ⟨bG1 g1,g2⟩)) (ixn_none hx (by omega))
    ·have AE:=ahead_end (t:=u) D B (by omega) (show((stayM m).length:Int)<=k by omega) q3
     have E1:=fun k t' y a x c'=>E k t' y a x c' (by rw[AE];exact au)
     repeat' with_reducible first|exact trivial|exact absurd (NZ _ ‹_›) ‹_› |exact E1 _ _ _ _ _ _ ‹_› |exact IE|exact M|exact C1|exact C2|exact K|exact aa|omega| (refine bH9 ?_ ?_)|intro _
   ·have ae:=bG1 hv
    have av:=(z v ae).2
    obtain⟨n,ho⟩:=Sx.get_at (by omega) av
    have ai:=AllAs_mem A.2 ho
    have ax:=szRs_mem hc
    have bh:ln (rows s.c)=(s.c.length:Int):=by simp[ln]
    simp only[cell_rows ho,t0,t1,t2,t3,t4,t5,i5,j7,I7]
    have R:∀P':Sx.Rows,P'.length=P.length+1->nodePre [.int n.k,.str n.t,.str n.y,.lst (n.a.map Att.row),.str n.x,.lst (rows n.c),.int c.k,.str c.t,.str c.y,.lst (c.a.map Att.row),.str c.x,.lst (rows c.c),.lst P',.lst L3]/\nodeMu [.int n.k,.str n.t,.str n.y,.lst (n.a.map Att.row),.str n.x,.lst (rows n.c),.int c.k,.str c.t,.str c.y,.lst (c.a.map Att.row),.str c.x,.lst (rows c.c),.lst P',.lst L3]<N:=fun P' hp=>
     ⟨⟨⟨n,⟨rfl,rfl,rfl,rfl,rfl,rfl⟩,ai⟩,⟨c,⟨rfl,rfl,rfl,rfl,rfl,rfl⟩,O,by omega,by omega⟩⟩,by show szRs (rows c.c)<N;omega⟩
    have R2:∀P' o:Sx.Rows,nodeRel [.int n.k,.str n.t,.str n.y,.lst (n.a.map Att.row),.str n.x,.lst (rows n.c),.int c.k,.str c.t,.str c.y,.lst (c.a.map Att.row),.str c.x,.lst (rows c.c),.lst P',.lst L3] [.lst o]-> ∃S,o=L3++S/\S.length<=100*c.size/\ ∀f,c.depth<=f->S=diffN f n c P':=fun P' o h=>by
     obtain⟨h1,h2⟩:=h n c ⟨rfl,rfl,rfl,rfl,rfl,rfl⟩ ⟨rfl,rfl,rfl,rfl,rfl,rfl⟩
     have h3:=h2 c.depth (bH4 _)
     refine⟨_,h3,by rw[h3,bH8]at h1;omega,fun f hf=>List.append_cancel_left (h3.symm.trans (h2 f hf))⟩
    refine⟨by omega,fun _=>⟨by omega,fun _=>⟨ixn_0 _ _,fun _ d hx=>⟨fun q=>?_,fun q=>absurd (p.2.2.2.1 v (mem_pl.2 ⟨ae,by omega⟩)) (ixn_none hx (by omega))⟩⟩⟩⟩
    obtain⟨w,d1,F⟩:=ixn_inv.1 hx
    refine⟨by omega,fun _=>⟨q,fun _=>⟨q,fun _=>⟨fun e=>?_,fun e=>node1 (by rw[bI2,hv];rfl) hx q e (by omega)⟩⟩⟩⟩
    have IX:=idx_at w (by omega) e F
    have K2:∀P' o:Sx.Rows,P'=P++ [[.int d]]->nodeRel [.int n.k,.str n.t,.str n.y,.lst (n.a.map Att.row),.str n.x,.lst (rows n.c),.int c.k,.str c.t,.str c.y,.lst (c.a.map Att.row),.str c.x,.lst (rows c.c),.lst P',.lst L3] [.lst o]->b=true->vcNode2 N j (u.map row) o (rows s.c) (rows s'.c) (m.map row) ((stayM m).map brow) P (t.map row) L2 L3:=fun P' o hp h C=>by
     obtain⟨S,rfl,h2,h3⟩:=R2 P' o h
     exact node2 p hc ad (eb.trans C) (by omega) ho IX h2 (hp▸h3) U ah
    have K3:∀P' o:Sx.Rows,P'=P++ [[.int d]]->nodeRel [.int n.k,.str n.t,.str n.y,.lst (n.a.map Att.row),.str n.x,.lst (rows n.c),.int c.k,.str c.t,.str c.y,.lst (c.a.map Att.row),.str c.x,.lst (rows c.c),.lst P',.lst L3] [.lst o]-> ¬b=true->vcNode3 N d (u.map row) j ((stayM m).map brow) (m.map row) o P (rows s.c) (rows s'.c) (t.map row) L2 L3:=fun P' o hp h C=>by
     obtain⟨S,rfl,h2,h3⟩:=R2 P' o h
     have al:b=false:=by simpa using C
     exact node3 Z rfl p hc hv (al▸hb) D aq (by omega) ho IX h2 (hp▸h3) U ah w (by omega) e (by omega) (by omega) (by rw[bH8];omega)
    have ay:ln P=(P.length:Int):=rfl
    have p2:(Sx.chunk 1 0 []++P)++Sx.chunk 1 1 [.int d]=P++ [[.int d]]:=rfl
    have p1:ln P=0->Sx.chunk 1 1 [.int d]=P++ [[.int d]]:=fun h=>by
     have h:P=[]:=List.length_eq_zero_iff.1 (by simp only[ln]at h;omega)
     subst h;rfl
    have p3:¬0<ln P->Sx.part ((Sx.part (Sx.over (Sx.chunk 1 0 []) 0 P) 0 (ln P))++(Sx.chunk 1 1 [.int d])) 0 ((ln P)+1)=P++ [[.int d]]:=fun h=>by
     have h:P=[]:=List.length_eq_zero_iff.1 (by simp only[ln]at h;omega)
     subst h;rfl
    have ps:∀P':Sx.Rows,P'=P++ [[.int d]]->P'.length=P.length+1:=fun P' h=>by rw[h,bH8];rfl
    have p4:¬0<ln P-> ¬((ln (Sx.part (Sx.over (Sx.chunk 1 0 []) 0 P) 0 (ln P)))+1)<ln P+1:=fun h=>by
     have h:P=[]:=List.length_eq_zero_iff.1 (by simp only[ln]at h;omega)
     subst h;simp[Sx.part,Sx.over,Sx.chunk,ln]
    have p5:¬0<ln P-> ¬ln (Sx.over (Sx.chunk 1 0 []) 0 P)<ln P:=fun h=>by
     have h:P=[]:=List.length_eq_zero_iff.1 (by simp only[ln]at h;omega)
     subst h;simp[Sx.part,Sx.over,Sx.chunk,ln]
    repeat' with_reducible first|exact trivial|exact R _ (ps _ p2)|exact R _ (ps _ (p1 ‹_›))|exact R _ (ps _ (p3 ‹_›))|exact p4 ‹_› |exact p5 ‹_› |exact K2 _ _ p2 ‹_› ‹_› |exact K2 _ _ (p1 ‹_›) ‹_› ‹_› |exact K2 _ _ (p3 ‹_›) ‹_› ‹_› |exact K3 _ _ p2 ‹_› ‹_› |exact K3 _ _ (p1 ‹_›) ‹_› ‹_› |exact K3 _ _ (p3 ‹_›) ‹_› ‹_› |omega| (refine bH9 ?_ ?_)|intro _
  ·have hj:¬j<(s'.c.length:Int):=by simpa only[ln,bH0]using hj
   simp only[bM4,bJ5,bL4]
   intro a a' ha ha'
   rw[isT_self]at ha ha'
   subst ha;subst ha'
   obtain⟨_,j1,_,_,S2,rfl,g5,g7⟩:=p
   have ej:j.toNat=a'.c.length:=by omega
   rw[take_full (by omega)]at g5
   have H:i.toNat=a.c.length:=by omega
   refine⟨by rw[bH8];omega,fun f hf=>?_⟩
   obtain⟨f,rfl⟩:∃g,f=g+1:=⟨f-1,by omega⟩
   have g8:=g7 f (by omega)
   rw[ej,et,H]at g8
   unfold diffN
   rw[em,g8,e1,e0,H]
   simp
end Go.D
