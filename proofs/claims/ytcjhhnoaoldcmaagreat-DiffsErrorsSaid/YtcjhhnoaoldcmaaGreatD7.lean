/- The writer of a diff: the conditions of node and Diff hold.
  Conditions: none. -/
import Derived.Test.YtcjhhnoaoldcmaaGreatD6
set_option linter.unusedVariables false
set_option linter.unusedSimpArgs false
namespace Go.D
open Go Go.Xe Go.Sx
open Go.C36 (row t6 lis cLong cRlong longPre longRel rlongPre rlongRel)
theorem node0 {N:Nat}{o:List Tree}{m t:List Int}{P L0 L:Sx.Rows}{i:Int}(h:FR o m P.length L0 i t L)(hi:i<(o.length:Int))(hm:i∉m)(hP:P.length<=1000)(ho:o.length<=16)(hL:L0.length<=10000):vcNode0 N L (t.map row) P i (rows o) (m.map row) L0:=by
 have hh:=fun l=>fr_free (l:=l) h hi hm
 obtain⟨h0,h1,_,S,e,h3,_⟩:=h
 have hl:L.length<=100000:=by rw[e,bK6];omega
 simp only[vcNode0,Nd,Nr,Ni,I64,putPre,putRel,forall_eq,bP9,bN5,bO7,bM3]
 refine⟨⟨hP,hl⟩,fun _=>⟨⟨by omega,by omega⟩,fun _=>⟨fr_inv.2 ⟨t,rfl,hh _⟩,fun _=>⟨?_,fun _=>trivial⟩⟩⟩⟩
 show(((rows o).length:Int)-(i+1)).toNat<(((rows o).length:Int)-i).toNat
 rw[bJ8];omega
theorem kids_keys {s:Tree}(h:Alone s):Keys (s.c.map Tree.y):=by
 rcases h with⟨_,_,_,_,_,h⟩| ⟨_,_,_,_,_,_,_,_,h⟩
 ·rw[h];exact List.Pairwise.nil
 ·exact h
theorem depth_mem :∀ {l:List Tree} {k:Nat} {c:Tree},l[k]? =some c->c.depth<=Tree.depths l
 | [],k,c,h=>by simp at h
 |a::l,0,c,h=>by cases h;unfold Tree.depths;omega
 |a::l,k+1,c,h=>by
  have:=depth_mem (l:=l) (k:=k) (by simpa using h)
  unfold Tree.depths;omega
theorem sizes_at {l:List Tree}{i:Int}{c:Tree}(h0:0<=i)(h:l[i.toNat]? =some c):Tree.sizes (l.take i.toNat)+c.size<=Tree.sizes l:=by
 rw[<-sizes_step h0 h];exact sizes_le l _
theorem vcNode_ok (N : Nat) : vcNode N := by
 unfold vcNode
 rintro _ _ _ _ _ _ _ _ _ _ _ _ P L ⟨⟨⟨s,⟨rfl,rfl,rfl,rfl,rfl,rfl⟩,hs⟩,s',⟨rfl,rfl,rfl,rfl,rfl,rfl⟩,hs',hP,hL⟩,hmu⟩
 have A:=(AllA_iff s).1 hs
 have A':=(AllA_iff s').1 hs'
 have o16:=(alone_c A.1).1
 have n16:=(alone_c A'.1).1
 have hok:=mtch_ok s.c (kids_keys A'.1)
 have hmn:=mtch_len s.c s'.c
 have hmem:=fun x (h:x∈mtch s.c s'.c)=>mtch_mem h
 have hsz:=size_def s'
 have hdp:=depth_def s'
 have hmu:szRs (rows s'.c)<N+1:=hmu
 generalize em:mtch s.c s'.c=m at*
 have hq:=stay_len m
 simp only[Nd,Nr,Ni,bP9,bN5,bO7,bM3]
 refine⟨⟨⟨s,⟨rfl,rfl,rfl,rfl,rfl,rfl⟩,hs⟩,⟨s',⟨rfl,rfl,rfl,rfl,rfl,rfl⟩,hs'⟩,by have:=size_pos s';omega,by omega⟩,fun _ L1 ⟨S0,e0,l0,k0⟩=>⟨⟨_,_,rfl,rfl,by omega,by omega⟩,fun _ M hM=>?_⟩⟩
 obtain rfl:=hM _ _ rfl rfl
 rw[em]
 refine⟨⟨m,rfl,by omega⟩,fun _ Q hQ=>?_⟩
 obtain rfl:=(hQ m rfl).1 hok
 have hL1:L1.length<=L.length+17:=by rw[e0,bK6];omega
 refine⟨fr_inv.2 ⟨[],rfl,by omega,by omega,rfl,[],by simp,by simp,SOK_nil _ _ _,rfl⟩,fun _ i T L2 hF0=>?_⟩
 obtain⟨t,rfl,hF⟩:=fr_inv.1 hF0
 have i0:=hF.1
 refine⟨fun hi=>?_,fun hi=>?_⟩
 ·have hi:i<(s.c.length:Int):=by simpa only[ln,bJ8]using hi
  have ht:t.length<=16:=by obtain⟨_,_,_,S,_,h3,_⟩:=hF;omega
  have hl2:L2.length<=100000:=by obtain⟨_,_,_,S,e,h3,_⟩:=hF;rw[e,bK6];omega
  have mu:∀ {T' L'},frMu [.lst (rows s.c),.lst (m.map row),.lst P,.lst L1] [.int (i+1),.lst T',.lst L']<frMu [.lst (rows s.c),.lst (m.map row),.lst P,.lst L1] [.int i,.lst (t.map row),.lst L2]:=fun{T' L'}=>by
   show(((rows s.c).length:Int)-(i+1)).toNat<(((rows s.c).length:Int)-i).toNat
   rw[bJ8];omega
  have hln:ln (t.map row)=(t.length:Int):=by simp[ln]
  refine⟨ixn_0 _ _,fun _ k hx=>⟨fun hk=>?_,fun hk=>node0 hF hi (ixn_none hx (by simpa only[ln,bJ8]using hk)) (by omega) o16 (by omega)⟩⟩
  have hk':k<(m.length:Int):=by simpa only[ln,bJ8]using hk
  obtain⟨k0,k1,_⟩:=ixn_inv.1 hx
  simp only[cI_row,I64,chunk1]
  refine⟨by omega,fun _=>⟨hk,fun _=>⟨fun e=>⟨fun c=>absurd k0 (by omega),fun _=>?_⟩,fun e=>⟨⟨by omega,by omega⟩,fun _=>⟨ixn_step hx hk' e,fun _=>⟨ixn_mu k0 hk,fun _=>trivial⟩⟩⟩⟩⟩⟩
  have G:=fr_keep hF hi (by rw[e];exact bI9 (getD_at k0 hk'))
  have G:=fr_inv.2 ⟨_,rfl,G⟩
  rw[<-app_row]at G
  repeat' with_reducible first|exact trivial|exact G|exact mu|omega| (refine bK7 ?_ ?_)|intro _
 ·have hi : ¬ i < (s.c.length : Int) := by simpa only [ln, bJ8] using hi
  obtain⟨_,i1,et,S1,e1,l1,k1,c1⟩:=hF
  have ei:i=s.c.length:=by omega
  have hl2:L2.length<=L.length+33:=by rw[e1,bK6];omega
  have hpl:∀x∈pl m,x∈t:=fun x hx=>by
   obtain⟨h1,h2⟩:=mem_pl.1 hx
   rw[et]
   refine List.mem_filter.2 ⟨bQ2.2 ⟨x.toNat,List.mem_range.2 ?_,Int.toNat_of_nonneg h2⟩,by simpa using h1⟩
   have:=(hmem x h1).2;omega
  refine⟨nd_inv.2 ⟨t,rfl,by omega,by omega,by rw[bJ8];omega,hpl,[],by simp,by simp;omega,SOK_nil _ _ _,rfl,by simp[cnt,negs],by simp[cnt,mvs]⟩,fun _ j T2 L3 hN0=>?_⟩
  obtain⟨u,rfl,hN⟩:=nd_inv.1 hN0
  have j0:=hN.1
  refine⟨fun hj=>?_,fun hj=>?_⟩
  ·have hj' : j < (s'.c.length : Int) := by simpa only [ln, bJ8] using hj
   obtain⟨c,hc⟩:=Sx.get_at j0 hj'
   have hv:=getD_at (l:=m) (d:=0) j0 (by omega)
   have hb:=getD_at (l:=stayM m) (d:=false) j0 (by omega)
   have hAc:=AllAs_mem A'.2 hc
   have hmq:m.length=(stayM m).length:=hq.symm
   have hsc:=sizes_at j0 hc
   have hu:u.length<=32:=by
    obtain⟨_,_,h4,_⟩:=hN
    rw[bJ8]at h4;omega
   have hl3:L3.length+100*c.size<=L.length+49+100*Tree.sizes s'.c:=by
    obtain⟨_,_,_,_,S,e,h5,_⟩:=hN
    rw[e,bK6];omega
   have hcs:=size_pos c
   have hp3:L3.length<=100000:=by omega
   have hP3:P.length<=1000:=by omega
   simp only[cI_row,cB_row]
   simp only[cI,cS,cL,cell_rows hc,t0,t1,t2,t3,t4,t5,f9,p9,I8]
   have hml:ln (m.map row)=(m.length:Int):=by simp[ln]
   have hql:ln ((stayM m).map brow)=((stayM m).length:Int):=by simp[ln]
   have hul:ln (u.map row)=(u.length:Int):=by simp[ln]
   generalize m.getD j.toNat 0=v at*
   generalize eb:(stayM m).getD j.toNat false=b at*
   refine⟨by omega,fun _=>⟨hj,fun _=>⟨by omega,fun _=>⟨by omega,fun _=>⟨fun hv0=>?_,fun hv0=>?_⟩⟩⟩⟩⟩
   ·have G : ∀ k w l, 0 ≤ k → k ≤ ln (u.map row) → ndInv [.lst (rows s'.c), .lst (m.map row), .lst ((stayM m).map brow), .lst P, .lst (t.map row), .lst L2] [.int (j + 1), .lst (Sx.part ((Sx.part (u.map row) 0 k ++ Sx.chunk 1 1 [.int w]) ++ Sx.part (u.map row) k (ln (u.map row) - k)) 0 (ln (u.map row) + 1)), .lst (L3 ++ [.int 5 :: .lst P :: l])] := fun k w l k0 k1 => by
     rw[ins_row k0 (by omega)]
     exact nd_inv.2 ⟨_,rfl,nd_mount hN hc hv hb hmq hv0⟩
    have E:=fun w l=>G (ln (u.map row)) w l (by omega) (by omega)
    simp only[part_all]at E
    have M:∀ {T' L':Sx.Rows},ndMu [.lst (rows s'.c),.lst (m.map row),.lst ((stayM m).map brow),.lst P,.lst (t.map row),.lst L2] [.int (j+1),.lst T',.lst L']<ndMu [.lst (rows s'.c),.lst (m.map row),.lst ((stayM m).map brow),.lst P,.lst (t.map row),.lst L2] [.int j,.lst (u.map row),.lst L3]:=nd_mu j0 hj
    have C1:chkPre [.int c.k,.str c.t,.str c.y,.lst (c.a.map Att.row),.str c.x,.lst (rows c.c)]:=⟨c,rfl,rfl,rfl,rfl,rfl,rfl⟩
    have C2:cpdPre [.int c.k,.str c.t,.str c.y,.lst (c.a.map Att.row),.str c.x,.lst (rows c.c),.bool true]:=⟨c,⟨rfl,rfl,rfl,rfl,rfl,rfl⟩,hAc⟩
    have IE:=ins_ln_end (l:=u)
    simp only[I64,ahInv,putPre,putRel,forall_eq,bO2,bP2,bO7,bM3]
    refine⟨⟨by omega,by omega⟩,fun _=>⟨by omega,fun _ k hk=>⟨fun hkm=>⟨by omega,fun _=>⟨by omega,fun _=>⟨fun hq1=>⟨by omega,fun _=>⟨hkm,fun _=>⟨ixn_0 _ _,fun _ d hx=>?_⟩⟩⟩,fun _=>⟨⟨by omega,by omega⟩,fun _=>⟨by omega,fun _=>ah_mu hk hkm⟩⟩⟩⟩⟩,fun hkm=>?_⟩⟩⟩
    ·obtain⟨d0,d1,_⟩:=ixn_inv.1 hx
     refine⟨fun hd=>⟨by omega,fun _=>⟨hd,fun _=>⟨hd,fun _=>⟨fun e=>?_,fun e=>node1 rfl hx hd e (by omega)⟩⟩⟩⟩,fun hd=>?_⟩
     ·have G1:=fun w l=>G d w l d0 (by omega)
      have I1:=ins_ln d0 d1
      repeat' with_reducible first|exact trivial|exact G1 _ _|exact I1|exact M|exact C1|exact C2|exact hP3|exact hp3|omega| (refine bK7 ?_ ?_)|intro _
     ·have hk1:=getD_at (l:=stayM m) (d:=false) hk (by omega)
      rw[hq1]at hk1
      obtain⟨x,g1,g2⟩:=stay_true hk1
      have g3:m.getD k.toNat 0=x:=by rw[bL0,g1];rfl
      rw[g3]at hx
      exact absurd (hN.2.2.2.1 x (mem_pl.2 ⟨bI9 g1,g2⟩)) (ixn_none hx (by omega))
    ·repeat' with_reducible first|exact trivial|exact E _ _|exact IE|exact M|exact C1|exact C2|exact hP3|exact hp3|omega| (refine bK7 ?_ ?_)|intro _
   ·have hvm:=bI9 hv
    have hv1:=(hmem v hvm).2
    obtain⟨co,ho⟩:=Sx.get_at (by omega) hv1
    have hAo:=AllAs_mem A.2 ho
    have hdc:=depth_mem hc
    have hmuc:=szRs_mem hc
    have hrl:ln (rows s.c)=(s.c.length:Int):=by simp[ln]
    simp only[cell_rows ho,t0,t1,t2,t3,t4,t5,f9,p9,I8]
    have R:∀P':Sx.Rows,P'.length=P.length+1->nodePre [.int co.k,.str co.t,.str co.y,.lst (co.a.map Att.row),.str co.x,.lst (rows co.c),.int c.k,.str c.t,.str c.y,.lst (c.a.map Att.row),.str c.x,.lst (rows c.c),.lst P',.lst L3]/\nodeMu [.int co.k,.str co.t,.str co.y,.lst (co.a.map Att.row),.str co.x,.lst (rows co.c),.int c.k,.str c.t,.str c.y,.lst (c.a.map Att.row),.str c.x,.lst (rows c.c),.lst P',.lst L3]<N:=fun P' hp=>
     ⟨⟨⟨co,⟨rfl,rfl,rfl,rfl,rfl,rfl⟩,hAo⟩,⟨c,⟨rfl,rfl,rfl,rfl,rfl,rfl⟩,hAc,by omega,by omega⟩⟩,by show szRs (rows c.c)<N;omega⟩
    have R2:∀P' L4:Sx.Rows,P'.length=P.length+1->nodeRel [.int co.k,.str co.t,.str co.y,.lst (co.a.map Att.row),.str co.x,.lst (rows co.c),.int c.k,.str c.t,.str c.y,.lst (c.a.map Att.row),.str c.x,.lst (rows c.c),.lst P',.lst L3] [.lst L4]-> ∃S,L4=L3++S/\S.length<=100*c.size/\SOK 1 6 (P.length+1) S:=fun P' L4 hp h=>by
     obtain⟨S,h1,h2,h3,_⟩:=h co c ⟨rfl,rfl,rfl,rfl,rfl,rfl⟩ ⟨rfl,rfl,rfl,rfl,rfl,rfl⟩
     exact⟨S,h1,h2,hp▸h3⟩
    refine⟨by omega,fun _=>⟨by omega,fun _=>⟨ixn_0 _ _,fun _ d hx=>⟨fun hd=>?_,fun hd=>absurd (hN.2.2.2.1 v (mem_pl.2 ⟨hvm,by omega⟩)) (ixn_none hx (by omega))⟩⟩⟩⟩
    obtain⟨d0,d1,_⟩:=ixn_inv.1 hx
    refine⟨by omega,fun _=>⟨hd,fun _=>⟨hd,fun _=>⟨fun e=>?_,fun e=>node1 (by rw[bL0,hv];rfl) hx hd e (by omega)⟩⟩⟩⟩
    have K2:∀P' L4:Sx.Rows,P'.length=P.length+1->nodeRel [.int co.k,.str co.t,.str co.y,.lst (co.a.map Att.row),.str co.x,.lst (rows co.c),.int c.k,.str c.t,.str c.y,.lst (c.a.map Att.row),.str c.x,.lst (rows c.c),.lst P',.lst L3] [.lst L4]->b=true->vcNode2 N j (u.map row) L4 (rows s'.c) (m.map row) ((stayM m).map brow) P (t.map row) L2 L3:=fun P' L4 hp h hb1=>by
     obtain⟨S,rfl,h2,h3⟩:=R2 P' L4 hp h
     exact node2 hN hc hv (hb1▸hb) hmq (by omega) h2 h3 n16
    have K3:∀P' L4:Sx.Rows,P'.length=P.length+1->nodeRel [.int co.k,.str co.t,.str co.y,.lst (co.a.map Att.row),.str co.x,.lst (rows co.c),.int c.k,.str c.t,.str c.y,.lst (c.a.map Att.row),.str c.x,.lst (rows c.c),.lst P',.lst L3] [.lst L4]-> ¬b=true->vcNode3 N d (u.map row) j (m.map row) ((stayM m).map brow) L4 P (rows s'.c) (t.map row) L2 L3:=fun P' L4 hp h hb1=>by
     obtain⟨S,rfl,h2,h3⟩:=R2 P' L4 hp h
     have hb2:b=false:=by simpa using hb1
     exact node3 hok rfl hN hc hv (hb2▸hb) hmq hmn (by omega) h2 h3 n16 d0 (by omega) e (by omega) (by omega) (by rw[bK6];omega)
    have hPl:ln P=(P.length:Int):=rfl
    have p2:∀a:Dat,((Sx.chunk 1 0 []++P)++Sx.chunk 1 1 [a]).length=P.length+1:=fun a=>by simp[Sx.chunk]
    have p1:∀a:Dat,ln P=0->(Sx.chunk 1 1 [a]).length=P.length+1:=fun a h=>by simp only[ln]at h;rw[show P.length=0 by omega];rfl
    have p3:∀a:Dat,¬0<ln P->(Sx.part ((Sx.part (Sx.over (Sx.chunk 1 0 []) 0 P) 0 (ln P))++(Sx.chunk 1 1 [a])) 0 ((ln P)+1)).length=P.length+1:=fun a h=>by
     have h:P=[]:=List.length_eq_zero_iff.1 (by simp only[ln]at h;omega)
     subst h;simp[Sx.part,Sx.over,Sx.chunk,ln]
    have p4:¬0<ln P-> ¬((ln (Sx.part (Sx.over (Sx.chunk 1 0 []) 0 P) 0 (ln P)))+1)<ln P+1:=fun h=>by
     have h:P=[]:=List.length_eq_zero_iff.1 (by simp only[ln]at h;omega)
     subst h;simp[Sx.part,Sx.over,Sx.chunk,ln]
    have p5:¬0<ln P-> ¬ln (Sx.over (Sx.chunk 1 0 []) 0 P)<ln P:=fun h=>by
     have h:P=[]:=List.length_eq_zero_iff.1 (by simp only[ln]at h;omega)
     subst h;simp[Sx.part,Sx.over,Sx.chunk,ln]
    repeat' with_reducible first|exact trivial|exact R _ (p2 _)|exact R _ (p1 _ ‹_›)|exact R _ (p3 _ ‹_›)|exact p4 ‹_› |exact p5 ‹_› |exact K2 _ _ (p2 _) ‹_› ‹_› |exact K2 _ _ (p1 _ ‹_›) ‹_› ‹_› |exact K2 _ _ (p3 _ ‹_›) ‹_› ‹_› |exact K3 _ _ (p2 _) ‹_› ‹_› |exact K3 _ _ (p1 _ ‹_›) ‹_› ‹_› |exact K3 _ _ (p3 _ ‹_›) ‹_› ‹_› |omega| (refine bK7 ?_ ?_)|intro _
  ·have hj:¬j<(s'.c.length:Int):=by simpa only[ln,bJ8]using hj
   simp only[bP2,bM3,bO2]
   intro a a' ha ha'
   rw[isT_self]at ha ha'
   subst ha;subst ha'
   obtain⟨_,j1,_,_,S2,rfl,g5,g7,g8,g9,g10⟩:=hN
   have ej:j=m.length:=by omega
   rw[take_full (by omega)]at g5
   rw[take_full (by omega)]at g9
   rw[take_full (by omega),take_full (by omega)]at g10
   have hth:t.length=(pl m).length:=by
    rw[et]
    refine there_len hok.2 fun x hx=>?_
    have:=(hmem x hx).2;omega
   subst e1;subst e0
   refine⟨S0++(S1++S2),by simp,by simp only[bK6];omega,SOK_app.2 ⟨SOK_mono k0 (by omega) (by omega) (bK2 _),SOK_app.2 ⟨SOK_mono k1 (by omega) (by omega) (bK2 _),g7⟩⟩,?_⟩
   rw[em]
   simp only[cnt_app,g8,g9,g10,c1,cnt_out k0 (k:=4) (.inr (.inl (by omega))),cnt_out k0 (k:=5) (.inr (.inl (by omega))),cnt_out k0 (k:=6) (.inr (.inl (by omega))),cnt_out k1 (k:=5) (.inr (.inl (by omega))),cnt_out k1 (k:=6) (.inr (.inl (by omega)))]
   exact⟨by omega,by omega,by omega⟩
end Go.D
