/- Trees that are the same: the conditions hold.
  Conditions: none. -/
import Derived.Test.YtcjhhnoaoldcmaaGreatH2
import Derived.Test.YtcjhhnoaoldcmaaGreatA6
import Derived.Test.YtcjhhnoaoldcmaaGreatA7
import Derived.Test.YtcjhhnoaoldcmaaGreatD1
import Derived.Test.YtcjhhnoaoldcmaaGreatD8
import Derived.Test.YtcjhhnoaoldcmaaGreatG5
set_option linter.unusedVariables false
set_option linter.unusedSimpArgs false
namespace Go.D
open Go Go.Xe Go.Sx
open Go.C36 (row j0 lis cLong cRlong longPre longRel rlongPre rlongRel)
theorem att_ext {a b:Att}(h1:a.n=b.n)(h2:a.v=b.v):a=b:=by cases a;cases b;simp_all
theorem take_map_eq {α:Type}{f:α->List Dat}(hf:∀a b,f a=f b->a=b){l m:List α}{k:Nat}(h:(l.map f).take k=(m.map f).take k):l.take k=m.take k:=by
 rw[<-List.map_take,<-List.map_take]at h
 exact map_inj_of hf h
theorem vcEqu_ok (N : Nat) : vcEqu N := by
 unfold vcEqu
 rintro _ _ _ _ _ _ _ _ _ _ _ _ ⟨⟨⟨s,⟨rfl,rfl,rfl,rfl,rfl,rfl⟩,I⟩,s',⟨rfl,rfl,rfl,rfl,rfl,rfl⟩,J⟩,p⟩
 have p:szRs (rows s.c)<N+1:=p
 have A:=(AllA_iff s).1 I
 have B:=(AllA_iff s').1 J
 obtain⟨E,O⟩:=alone_c A.1
 obtain⟨F,P⟩:=alone_c B.1
 have no:s≠s'->equRel [.int s.k,.str s.t,.str s.y,.lst (s.a.map Att.row),.str s.x,.lst (rows s.c),.int s'.k,.str s'.t,.str s'.y,.lst (s'.a.map Att.row),.str s'.x,.lst (rows s'.c)] [.int 0]:=fun h a b l hb=>by
  rw[isT_self]at l hb
  subst l;subst hb
  exact⟨fun c=>absurd c h,fun _=>rfl⟩
 have q:ln (s.a.map Att.row)=(s.a.length:Int):=by simp[ln]
 have D:ln (s'.a.map Att.row)=(s'.a.length:Int):=by simp[ln]
 have n:ln (rows s.c)=(s.c.length:Int):=by simp[ln]
 have v:ln (rows s'.c)=(s'.c.length:Int):=by simp[ln]
 have o:∀a b:Att,a.row=b.row->a=b:=fun a b h=>by
  have:=at_inj (a:=[a]) (b:=[b]) (by simp[h])
  simpa using this
 simp only[Nd,I64,q,D,n,v,bM4,bL4]
 refine⟨fun hk=>⟨fun ht=>⟨fun hy=>⟨fun hx=>⟨fun l=>⟨fun hc=>⟨⟨by omega,by simp[ln],by simp[ln];omega,by simp⟩,fun _ i ⟨i0,i1,Q,w⟩=>⟨fun hi=>?_,fun hi=>?_⟩⟩,fun h=>no fun e=>h (by rw[e])⟩,fun h=>no fun e=>h (by rw[e])⟩,fun h=>no fun e=>h (by rw[e])⟩,fun h=>no fun e=>h (by rw[e])⟩,fun h=>no fun e=>h (by rw[e])⟩,fun h=>no fun e=>h (by rw[e])⟩
 ·obtain⟨a,f⟩:=Sx.get_at i0 hi
  obtain⟨b,g⟩:=Sx.get_at i0 (show i<(s'.a.length:Int) by omega)
  have u:a≠b->s≠s':=fun h e=>h (by
   have d:=f
   rw[e]at d
   rw[g]at d
   exact(bH7 d).symm)
  simp only[cS,e9 f,e9 g,at0,at1,j7]
  refine⟨by omega,fun _=>⟨hi,fun _=>⟨by omega,fun _=>⟨by omega,fun _=>⟨fun h1=>⟨fun h2=>⟨⟨by omega,by omega⟩,fun _=>⟨⟨by omega,by rw[q];omega,by rw[q,D];exact l,?_⟩,fun _=>?_⟩⟩,fun h2=>no (u fun e=>h2 (by rw[e]))⟩,fun h1=>no (u fun e=>h1 (by rw[e]))⟩⟩⟩⟩⟩
  ·rw[take_step i0 (map_get f),take_step i0 (map_get g),w,att_ext h1 h2]
  ·show(((s.a.map Att.row).length:Int)-(i+1)).toNat<(((s.a.map Att.row).length:Int)-i).toNat
   rw[bH0];omega
 ·have  G : s.a = s'.a := by
   have:=take_map_eq o w
   rwa[take_full (by rw[q]at i1;omega),take_full (by rw[q]at i1;omega)]at this
  refine⟨⟨by omega,by simp[ln],by rw[n,v];exact hc,by simp⟩,fun _ j ⟨r,z,R,C⟩=>⟨fun hj=>?_,fun hj=>?_⟩⟩
  ·obtain⟨a,f⟩:=Sx.get_at r hj
   obtain⟨b,g⟩:=Sx.get_at r (show j<(s'.c.length:Int) by omega)
   have u:a≠b->s≠s':=fun h e=>h (by
    have d:=f
    rw[e]at d
    rw[g]at d
    exact(bH7 d).symm)
   have K:=szRs_mem f
   simp only[cI,cS,cL,cell_rows f,cell_rows g,t0,t1,t2,t3,t4,t5,i5,j7,I7]
   refine⟨by omega,fun _=>⟨hj,fun _=>⟨by omega,fun _=>⟨by omega,fun _=>⟨⟨⟨⟨a,⟨rfl,rfl,rfl,rfl,rfl,rfl⟩,AllAs_mem A.2 f⟩,b,⟨rfl,rfl,rfl,rfl,rfl,rfl⟩,AllAs_mem B.2 g⟩,by show szRs (rows a.c)<N;omega⟩,fun _ m hm=>?_⟩⟩⟩⟩⟩
   obtain⟨L,M⟩:=hm a b ⟨rfl,rfl,rfl,rfl,rfl,rfl⟩ ⟨rfl,rfl,rfl,rfl,rfl,rfl⟩
   refine⟨fun h0=>no (u fun e=>by have:=L e;omega),fun h0=>⟨⟨by omega,by omega⟩,fun _=>⟨⟨by omega,by rw[n];omega,by rw[n,v];exact hc,?_⟩,fun _=>?_⟩⟩⟩
   ·have e:a=b:=Classical.byContradiction fun c=>h0 (M c)
    show(s.c.map Tree.row).take _=(s'.c.map Tree.row).take _
    rw[take_step r (map_get f),take_step r (map_get g),e]
    exact congrArg (· ++_) C
   ·show(((rows s.c).length:Int)-(j+1)).toNat<(((rows s.c).length:Int)-j).toNat
    rw[bH0];omega
  ·have  H : s.c = s'.c := by
    have:=take_map_eq (fun a b=>row_inj) C
    rwa[take_full (by rw[n]at z;omega),take_full (by rw[n]at z;omega)]at this
   have e:=tree_ext hk ht hy G hx H
   intro a b l hb
   rw[isT_self]at l hb
   subst l;subst hb
   exact⟨fun _=>rfl,fun c=>absurd e c⟩
theorem vcSam_ok :vcSam:=by
 unfold vcSam
 rintro _ _ _ _ _ _ _ _ _ _ _ _ ⟨⟨s,rfl,rfl,rfl,rfl,rfl,rfl⟩,s',rfl,rfl,rfl,rfl,rfl,rfl⟩
 have R:∀n:Int,((Valid s/\s=s'->n=1)/\(¬(Valid s/\s=s')->n=0))->samRel [.int s.k,.str s.t,.str s.y,.lst (s.a.map Att.row),.str s.x,.lst (rows s.c),.int s'.k,.str s'.t,.str s'.y,.lst (s'.a.map Att.row),.str s'.x,.lst (rows s'.c)] [.int n]:=fun n h a b f hb=>by
  rw[isT_self]at f hb
  subst f;subst hb
  exact h
 simp only[Nd]
 refine⟨⟨s,rfl,rfl,rfl,rfl,rfl,rfl⟩,fun _ e he=>⟨fun h0=>⟨⟨s',rfl,rfl,rfl,rfl,rfl,rfl⟩,fun _ j d=>⟨fun h2=>?_,fun h2=>⟨R _ ⟨?_,fun _=>rfl⟩,fun _=>trivial⟩⟩⟩,fun h0=>⟨R _ ⟨?_,fun _=>rfl⟩,fun _=>trivial⟩⟩⟩
 ·have v:=(he s ⟨rfl,rfl,rfl,rfl,rfl,rfl⟩).1.1 h0
  have v':=(d s' ⟨rfl,rfl,rfl,rfl,rfl,rfl⟩).1.1 h2
  refine⟨⟨⟨s,⟨rfl,rfl,rfl,rfl,rfl,rfl⟩,v.1⟩,s',⟨rfl,rfl,rfl,rfl,rfl,rfl⟩,v'.1⟩,fun _ n hn=>⟨R n ?_,fun _=>trivial⟩⟩
  obtain⟨g,i⟩:=hn s s' ⟨rfl,rfl,rfl,rfl,rfl,rfl⟩ ⟨rfl,rfl,rfl,rfl,rfl,rfl⟩
  exact⟨fun h=>g h.2,fun h=>i fun c=>h ⟨v,c⟩⟩
 ·exact fun h=>absurd ((d s' ⟨rfl,rfl,rfl,rfl,rfl,rfl⟩).1.2 (h.2▸h.1)) h2
 ·exact fun h=>absurd ((he s ⟨rfl,rfl,rfl,rfl,rfl,rfl⟩).1.2 h.1) h0
end Go.D
noncomputable section
namespace Go.D
open Go.Xe Go.Sx
open Go.C36 (row j0 lis cLong cRlong longPre longRel rlongPre rlongRel)
def ddaPre:=ddfPre
def ddaRel:=ddfRel
def cDda:=mkC "dda" [nV,nV] ddaPre [.one (.g (.acc 47 12)),iV] ddaRel
def cu (n:Int):Lf:= .cst (.int .u8) (.int n)
def cs0 :Lf:= .cst .str (.str [])
def cl0 (t:TypeId):Lf:= .cst (.lst t) (.op .nil [])
def mvL :List Lf:=[cu 6,cl0 3,cs0,cs0,.g (.int .i64),.g (.int .i64),cu 0,cs0,cs0,cl0 88,cs0,cl0 28]
def rtL :List Lf:=[cu 1,.g .str,.g .str,.g (.lst 88),.g .str,.g (.lst 28)]
def rtB :List af8:=[(28,6,rtL)]
def rtF :List SV->SS->Option (List Nat):=fun args s=>match args with
 | .ptr a _ _ _::_=>some [a]
 |_=>none
def delT (l:List Tree)(k:Int):List Tree:=l.take k.toNat++l.drop (k+1).toNat
def insT (l:List Tree)(k:Int)(c:Tree):List Tree:=l.take k.toNat++c::l.drop k.toNat
def mvT (l:List Tree)(a t:Int):List Tree:=insT (delT l a) t (l.getD a.toNat zT)
def movPre :List Dat->Prop
 | [.int a,.int t,.str tt,.str y,.lst aa,.str x,.lst c]=>∃l:List Tree,c=rows l/\2<=l.length/\l.length<=16/\0<=a/\a<(l.length:Int)/\0<=t/\t<(l.length:Int)
 |_=>False
def movRel :List Dat->List Dat->Prop
 | [.int a,.int t,.str tt,.str y,.lst aa,.str x,.lst c],[.int e,.str t2,.str y2,.lst a2,.str x2,.lst c2]=>e=0/\t2=tt/\y2=y/\a2=aa/\x2=x/\ ∀l:List Tree,c=rows l->c2=rows (mvT l a t)
 |_,_=>False
def cMov :Con:=⟨ "mov",[.one (.ptr 0 6),.agg mvL],rtB,rtF,movPre,[iV],rtB,noB,movRel⟩
def MvS (n:Nat)(S:Sx.Rows)(ms:List (Int×Int)):Prop:=S=ms.map (fun m=>stp 6 [] [] [] m.1 m.2 zT)/\ ∀m∈ms,2<=n/\0<=m.1/\m.1<n/\0<=m.2/\m.2<n
def mvs (l:List Tree)(ms:List (Int×Int)):List Tree:=ms.foldl (fun l m=>mvT l m.1 m.2) l
def apmPre :List Dat->Prop
 | [.str t,.str y,.lst a,.str x,.lst c,.lst S]=>∃s:Tree,isT s 1 t y a x c/\Valid s/\ ∃ms,MvS s.c.length S ms/\ms.length<=16/\Valid (.mk 1 s.t s.y s.a s.x (mvs s.c ms))
 |_=>False
def apmRel :List Dat->List Dat->Prop
 | [.str t,.str y,.lst a,.str x,.lst c,.lst S],[.int k,.str t',.str y',.lst a',.str x',.lst c',.int e]=>e=0/\ ∀(s:Tree) ms,isT s 1 t y a x c->MvS s.c.length S ms->isT (.mk 1 s.t s.y s.a s.x (mvs s.c ms)) k t' y' a' x' c'
 |_,_=>False
def cApm:=mkC "apm" [.agg rtL,.one (.g (.lst 47))] apmPre [nV,iV] apmRel
def apInv :List Dat->List Dat->Prop
 | [.str t0,.str y0,.lst a0,.str x0,.lst C,.lst S],[.int i,.int k,.str t,.str y,.lst a,.str x,.lst c]=>0<=i/\i<=ln S/\k=1/\t=t0/\y=y0/\a=a0/\x=x0/\ ∀(l:List Tree) ms,C=rows l->MvS l.length S ms->c=rows (mvs l (ms.take i.toNat))
 |_,_=>False
def apMu :List Dat->List Dat->Nat
 | [_,_,_,_,_,.lst S],.int i::_=>(ln S-i).toNat
 |_,_=>0
def annsI :FuncId->List (Nat×(Fm->SS->M1))
 |11=>[(0,y5 U0 "ap" (y7 [(26,.int .i64)] (t9 7 [.int .u8,.str,.str,.lst 88,.str,.lst 28])) (gh2 (ghCell 7 1) (gh2 (ghCell 7 2) (gh2 (ghCell 7 3) (gh2 (ghCell 7 4) (gh2 (ghCell 7 5) (ghL 24)))))) apInv apMu)]
 |g=>annsB g
def stageI :Nat->List (FuncId×Con)
 |1=>[(34,cChk),(45,cCpd),(LVn,D1 "lives")]
 |3=>[(34,cChk),(45,cCpd),(35,cMov),(LVn,D1 "lives")]
 |_=>[(34,cChk),(45,cCpd),(31,cNode),(LVn,D1 "lives")]
def primsI (P:Program):P7:=[(91,sdel P U0 28 6),(93,sins P U0 28 6)]
end Go.D
