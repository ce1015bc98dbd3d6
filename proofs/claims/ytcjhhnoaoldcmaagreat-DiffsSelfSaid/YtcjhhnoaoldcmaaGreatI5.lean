/- DiffsSelf: the conditions of carry (moves), Apply (moves) and Diff hold.
  Conditions: none. -/
import Derived.Test.YtcjhhnoaoldcmaaGreatI2
import Derived.Test.YtcjhhnoaoldcmaaGreatD8
set_option linter.unusedVariables false
set_option linter.unusedSimpArgs false
namespace Go.D
open Go Go.Xe Go.Sx
open Go.C36 (row j0 lis)
variable {l:List Tree}
theorem partT {a n:Int}:Sx.part (rows l) a n=rows ((l.drop a.toNat).take n.toNat):=aR8
theorem lnT (l:List Tree):ln (rows l)=l.length:=by simp[ln]
variable {k:Int}
theorem delT_len (h0:0<=k)(h:k<(l.length:Int)):((delT l k).length:Int)=l.length-1:=by
 unfold delT
 simp only[bH8,bI6,bK3];omega
theorem insT_len (l:List Tree)(k:Int)(c:Tree):(insT l k c).length=l.length+1:=by
 unfold insT
 simp only[bH8,bJ4,bI6,bK3];omega
theorem delT_row (h0:0<=k)(h:k<(l.length:Int)):Sx.part (rows l) 0 k++Sx.part (rows l) (k+1) (l.length-(k+1))=rows (delT l k):=by
 rw[partT,partT]
 unfold delT
 rw[bP7,bO7,bK0 (l:=l.drop (k+1).toNat) (by simp only[bK3];omega),rows,rows,rows,bJ8]
theorem insT_row {c:Tree}(h0:0<=k)(h:k<=(l.length:Int)):Sx.part ((Sx.part (rows l) 0 k++ [c.row])++Sx.part (rows l) k (l.length-k)) 0 (l.length+1)=rows (insT l k c):=by
 have e:(Sx.part (rows l) 0 k++ [c.row])++Sx.part (rows l) k (l.length-k)=rows (insT l k c):=by
  rw[partT,partT]
  unfold insT
  rw[bP7,bO7,bK0 (l:=l.drop k.toNat) (by simp only[bK3];omega)]
  simp[rows]
 rw[e,partT,bP7,bO7,bK0 (by rw[insT_len];omega)]
theorem vcMov_ok :vcMov:=by
 unfold vcMov
 rintro a t i y g x _ ⟨l,rfl,h2,q,f,b,b0,r⟩
 obtain⟨c,hc⟩:=Sx.get_at f b
 have e0:∀L:Sx.Rows,Sx.chunk 6 0 []++L=L:=fun _=>rfl
 have j:Sx.chunk 6 1 [(.int c.k),(.str c.t),(.str c.y),(.lst (c.a.map Att.row)),(.str c.x),(.lst (rows c.c))]=[c.row]:=by rw[row_def];rfl
 have s:=delT_len f b
 have m:a+((l.length:Int)-(a+1))=((delT l a).length:Int):=by omega
 have n:∀d:List Tree,Sx.part (rows d) 0 (d.length:Int)=rows d:=fun d=>by rw[partT,bP7,bO7,bK0 (by omega)]
 have o:ln (Sx.part (rows l) 0 a)+ln (Sx.part (rows l) (a+1) ((l.length:Int)-(a+1)))=((delT l a).length:Int):=by
  have:=congrArg ln (delT_row f b)
  rw[lnT]at this
  rw[<-this];simp[ln]
 simp only[Nd,Nr,Ni,I64,lnT,e0,cI,cS,cB,cL,cell_rows hc,t0,t1,t2,t3,t4,t5,i5,j7,I7,j,o,delT_row f b,m,n]
 have e:=insT_row (l:=delT l a) (k:=t) (c:=c) b0 (by omega)
 have hF:movRel [.int a,.int t,.str i,.str y,.lst g,.str x,.lst (rows l)] [.int 0,.str i,.str y,.lst g,.str x,.lst (rows (insT (delT l a) t c))]:=by
  refine⟨rfl,rfl,rfl,rfl,rfl,fun l' h=>?_⟩
  rw[<-rows_eq.mp h]
  unfold mvT
  rw[bI2,hc];rfl
 have p:¬ln (Sx.part (rows (delT l a)) 0 t)+1+ln (Sx.part (rows (delT l a)) t (((delT l a).length:Int)-t))<((delT l a).length:Int)+1:=by
  rw[partT,partT,lnT,lnT]
  simp only[bI6,bK3,bP7];omega
 simp only[e]
 refine⟨fun h=>absurd h (by omega),fun _=>⟨fun _=>⟨by omega,fun _=>⟨b,fun _ z=>⟨fun _ h=>absurd h (by omega),fun _=>⟨by omega,fun _=>⟨fun _=>?_,fun h=>absurd h (by omega)⟩⟩⟩⟩⟩,fun h=>absurd b h⟩⟩
 refine⟨⟨by omega,by omega⟩,fun _=>⟨by omega,fun _=>⟨by omega,fun _=>⟨by omega,fun _=>⟨by omega,fun _=>⟨fun h=>absurd h (by omega),fun _=>⟨fun h=>absurd h (by omega),fun _ z=>⟨fun _ h=>absurd h (by omega),fun _=>?_⟩⟩⟩⟩⟩⟩⟩⟩
 refine⟨by omega,fun _=>⟨by omega,fun _=>⟨fun _=>⟨by omega,fun _=>⟨by omega,fun _=>⟨by omega,fun _=>⟨by omega,fun _=>⟨p,fun _=>⟨hF,fun _=>trivial⟩⟩⟩⟩⟩⟩,fun h=>absurd h (by omega)⟩⟩⟩
def mvR (m:Int×Int):List Dat:=stp 6 [] [] [] m.1 m.2 zT
theorem mvR_inj {a b:List (Int×Int)}(h:a.map mvR=b.map mvR):a=b:=map_inj_of (fun a b e=>by
 have h1:=congrArg (fun l=>(l.getD 4 (.int 0)).toInt) e
 have h2:=congrArg (fun l=>(l.getD 5 (.int 0)).toInt) e
 exact Prod.ext h1 h2) h
def InR (n:Nat)(ms:List (Int×Int)):Prop:=∀m∈ms,2<=n/\0<=m.1/\m.1<(n:Int)/\0<=m.2/\m.2<(n:Int)
theorem mvT_len {a t:Int}(h0:0<=a)(h:a<(l.length:Int)):(mvT l a t).length=l.length:=by
 unfold mvT
 have:=delT_len h0 h
 rw[insT_len];omega
theorem mvs_len :∀ {ms:List (Int×Int)} {l:List Tree},InR l.length ms->(mvs l ms).length=l.length
 | [],_,_=>rfl
 |m::ms,l,h=>by
  obtain⟨_,h1,h2,_⟩:=h m (by simp)
  have e:=mvT_len (t:=m.2) h1 h2
  show(mvs (mvT l m.1 m.2) ms).length=_
  rw[mvs_len (fun x hx=>by rw[e];exact h x (by simp[hx])),e]
variable {ms:List (Int×Int)}
theorem ap_inv   (hr : InR l.length ms) {t0  h x0 t y x : Str} { f a c : Sx.Rows} {i:Int} :
  apInv [.str t0,.str h,.lst f,.str x0,.lst (rows l),.lst (ms.map mvR)] [.int i,.int k,.str t,.str y,.lst a,.str x,.lst c]↔0<=i/\i<=(ms.length:Int)/\k=1/\t=t0/\y=h/\a=f/\x=x0/\c=rows (mvs l (ms.take i.toNat)):=by
 simp only[apInv,ln,bH0]
 constructor
 ·rintro ⟨h0,h1,h2,h3,h4,b,d,e⟩
  exact⟨h0,h1,h2,h3,h4,b,d,e l ms rfl ⟨rfl,hr⟩⟩
 ·rintro ⟨h0,h1,h2,h3,h4,b,d,e⟩
  refine⟨h0,h1,h2,h3,h4,b,d,fun l' m g j=>?_⟩
  rw[rows_eq]at g
  subst g
  rw[<-mvR_inj j.1];exact e
theorem mvR_cell {i:Int}{m:Int×Int}(h:ms[i.toNat]? =some m)(j:Nat):v5 (ms.map mvR) i j=(mvR m).getD j (.int 0):=e9 (f:=mvR) h j
theorem vcApm_ok :vcApm:=by
 unfold vcApm
 rintro _ _ _ _ _ _ ⟨s,⟨hk,rfl,rfl,rfl,rfl,rfl⟩,v,ms,⟨rfl,hr⟩,B,g⟩
 have hr:InR s.c.length ms:=hr
 have T:isT s 1 s.t s.y (s.a.map Att.row) s.x (rows s.c):=⟨hk,rfl,rfl,rfl,rfl,rfl⟩
 have R:∀k t y a x c,isT (.mk 1 s.t s.y s.a s.x (mvs s.c ms)) k t y a x c->apmRel [.str s.t,.str s.y,.lst (s.a.map Att.row),.str s.x,.lst (rows s.c),.lst (ms.map mvR)] [.int k,.str t,.str y,.lst a,.str x,.lst c,.int 0]:=fun k t y a x c h=>by
  refine⟨rfl,fun s' G h1 h2=>?_⟩
  obtain⟨_,r,u,w,z,A⟩:=h1
  rw[<-mvR_inj h2.1,<-r,<-u,<-at_inj w,<-z,<-rows_eq.mp A];exact h
 show Nd _ _
 have le:ln (ms.map mvR)=ms.length:=by simp[ln]
 have p:(fun m:Int×Int=>stp 6 [] [] [] m.1 m.2 zT)=mvR:=rfl
 simp only[p,le,Nd,I64]
 refine⟨⟨s,T⟩,fun _ e he=>⟨fun _=>⟨fun h=>absurd h (by omega),fun _=>⟨⟨s,T⟩,fun _ J d=>⟨fun _=>⟨⟨s,T,v.1⟩,fun _ k t y a x c hc=>?_⟩,fun h=>absurd ((d _ T).1.2 v) h⟩⟩⟩,fun h=>absurd ((he _ T).1.2 v) h⟩⟩
 have hc:=hc s T
 rw[strip_true]at hc
 obtain⟨rfl,rfl,rfl,rfl,rfl,rfl⟩:=hc
 refine⟨(ap_inv hr).2 ⟨by omega,by omega,hk.symm,rfl,rfl,rfl,rfl,rfl⟩,fun _ i k t y a x c hi=>?_⟩
 obtain⟨i0,i1,rfl,rfl,rfl,rfl,rfl,rfl⟩:=(ap_inv hr).1 hi
 refine⟨fun hlt=>?_,fun hlt=>?_⟩
 ·obtain⟨m,hm⟩:=Sx.get_at (T:=ms) i0 hlt
  obtain⟨L,E,M,F,N⟩:=hr m (bG1 hm)
  have f:InR s.c.length (ms.take i.toNat):=fun x hx=>hr x (bN7 hx)
  have C:=mvs_len f
  have D:=(alone_c ((AllA_iff s).1 v.1).1).1
  have j:cI (ms.map mvR) i 4=m.1:=by unfold cI;rw[mvR_cell hm];rfl
  have n:cI (ms.map mvR) i 5=m.2:=by unfold cI;rw[mvR_cell hm];rfl
  rw[j,n]
  unfold cI cS cL
  simp only[mvR_cell hm]
  refine⟨by omega,fun _=>⟨hlt,fun _=>⟨rfl,fun _=>⟨rfl,fun _=>⟨rfl,fun _=>⟨rfl,fun _=>⟨rfl,fun _=>⟨rfl,fun _=>⟨rfl,fun _=>⟨rfl,fun _=>⟨rfl,fun _=>⟨rfl,fun _=>⟨trivial,fun _=>⟨⟨_,rfl,by omega,by omega,E,by omega,F,by omega⟩,fun _ o t3 P H O I h3=>?_⟩⟩⟩⟩⟩⟩⟩⟩⟩⟩⟩⟩⟩⟩
  obtain⟨rfl,rfl,rfl,rfl,rfl,h4⟩:=h3
  have h4:=h4 _ rfl
  refine⟨fun _=>⟨⟨by omega,by omega⟩,fun _=>⟨(ap_inv hr).2 ⟨by omega,by omega,rfl,rfl,rfl,rfl,rfl,?_⟩,fun _=>⟨?_,fun _=>trivial⟩⟩⟩,fun h=>absurd rfl h⟩
  ·rw[h4,take_step i0 hm]
   unfold mvs
   rw[List.foldl_append];rfl
  ·show(ln (ms.map mvR)-(i+1)).toNat<(ln (ms.map mvR)-i).toNat
   omega
 ·have q:ms.take i.toNat=ms:=bK0 (by omega)
  have b:isT (.mk 1 s.t s.y s.a s.x (mvs s.c ms)) 1 s.t s.y (s.a.map Att.row) s.x (rows (mvs s.c (ms.take i.toNat))):=by rw[q];exact⟨rfl,rfl,rfl,rfl,rfl,rfl⟩
  unfold vcApm1
  simp only[Nd]
  refine⟨⟨_,b⟩,fun _ o h3=>⟨fun _=>⟨⟨_,b⟩,fun _ K h4=>⟨fun _=>⟨⟨_,b,g.1⟩,fun _ k t y a x c hc=>⟨R _ _ _ _ _ _ ?_,fun _=>trivial⟩⟩,fun h=>absurd ((h4 _ b).1.2 g) h⟩⟩,fun h=>absurd ((h3 _ b).1.2 g) h⟩⟩
  have:=hc _ b
  rwa[strip_true]at this
theorem vcDda_ok :vcDda:=by
 unfold vcDda
 rintro _ _ _ _ _ _ _ _ _ _ _ _ ⟨hk,ht,⟨s,⟨rfl,rfl,rfl,rfl,rfl,rfl⟩,v⟩,s',⟨rfl,rfl,rfl,rfl,rfl,rfl⟩,v'⟩
 have m:chkPre [.int s.k,.str s.t,.str s.y,.lst (s.a.map Att.row),.str s.x,.lst (rows s.c)]:=⟨s,rfl,rfl,rfl,rfl,rfl,rfl⟩
 have n:chkPre [.int s'.k,.str s'.t,.str s'.y,.lst (s'.a.map Att.row),.str s'.x,.lst (rows s'.c)]:=⟨s',rfl,rfl,rfl,rfl,rfl,rfl⟩
 obtain⟨v1,o,p⟩:=v
 obtain⟨h,i,j⟩:=v'
 have N:nodePre [.int s.k,.str s.t,.str s.y,.lst (s.a.map Att.row),.str s.x,.lst (rows s.c),.int s'.k,.str s'.t,.str s'.y,.lst (s'.a.map Att.row),.str s'.x,.lst (rows s'.c),.lst ([]:Sx.Rows),.lst ([]:Sx.Rows)]:=
  ⟨⟨s,⟨rfl,rfl,rfl,rfl,rfl,rfl⟩,v1⟩,s',⟨rfl,rfl,rfl,rfl,rfl,rfl⟩,⟨h,i,j⟩,by simp only[bQ0];omega,by simp only[bQ0];omega⟩
 simp only[Nd,Nr,Ni]
 refine⟨m,fun _ e he=>⟨fun _=>⟨n,fun _ q b=>⟨fun _=>⟨fun _=>⟨fun _=>⟨N,fun _ L d=>?_⟩,fun c=>absurd ht c⟩,fun c=>absurd hk c⟩,fun c=>absurd (((b s' ⟨rfl,rfl,rfl,rfl,rfl,rfl⟩).1.2 ⟨h,i,j⟩)) c⟩⟩,fun c=>absurd (((he s ⟨rfl,rfl,rfl,rfl,rfl,rfl⟩).1.2 ⟨v1,o,p⟩)) c⟩⟩
 have F:ddaRel [.int s.k,.str s.t,.str s.y,.lst (s.a.map Att.row),.str s.x,.lst (rows s.c),.int s'.k,.str s'.t,.str s'.y,.lst (s'.a.map Att.row),.str s'.x,.lst (rows s'.c)] [.lst L,.int 0]:=fun a a' g ha'=>by
  rw[isT_self]at g ha'
  subst g;subst ha'
  obtain⟨h1,h2⟩:=d _ _ ⟨rfl,rfl,rfl,rfl,rfl,rfl⟩ ⟨rfl,rfl,rfl,rfl,rfl,rfl⟩
  exact⟨rfl,by simp only[bQ0]at h1;omega,fun f hf=>h2 f hf⟩
 obtain⟨h1,_⟩:=d _ _ ⟨rfl,rfl,rfl,rfl,rfl,rfl⟩ ⟨rfl,rfl,rfl,rfl,rfl,rfl⟩
 have h0:0<=ln L/\ln L<67108865:=by simp only[ln,bQ0]at h1⊢;omega
 repeat' with_reducible first|exact trivial|exact F|omega| (refine bH9 ?_ ?_)|intro _
end Go.D
