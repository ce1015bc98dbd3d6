/- Apply, in the executor: its loop, and whole (DiffsApply).
  Conditions: none. -/
import Derived.Test.YtcjhhnoaoldcmaaGreatSR
set_option linter.all false
set_option maxRecDepth 10000
noncomputable section
namespace Go.D
open Go Go.Xe Go.Sx Go.RowKit
open Go.C36 (row)
theorem HD {H:FB}{S:Ah}{t:a8}{cs:Ao}{o:Nat}(h:TB H S t (at6 cs o)):∃ws:Af,d6 cs o 6=some ws/\ws.length=6/\TB H S t (fun q=>ws[q]?):=by
 have h':=h;obtain⟨_,_,va,vc,ia,ic,oa,oc,ca,cc,Ss,⟨h0,h1,h2,h4⟩,h3,h5,_⟩:=h';let ws:Af:=[.int .u8 t.k,.string ⟨t.t.toArray⟩,.string ⟨t.y.toArray⟩,va,.string ⟨t.x.toArray⟩,vc]
 have a:∀q,q<6->at6 cs o q=ws[q]? :=fun q hq=>by
  match q,hq with
  |0,_=>grind|1,_=>grind|2,_=>grind|3,_=>grind|4,_=>grind|5,_=>grind
 exact⟨ws,i8 (fun q hq=>a q hq),rfl,h.win fun q hq=>(a q hq).symm⟩
theorem Jv {H:FB}:TB H [] oJ (fun q=>yh[q]?):=
 .mk oJ _ (.slice none 0 0) (.slice none 0 0) none none 0 0 .e .e [] ⟨rfl,rfl,rfl,rfl⟩ rfl rfl (.inl ⟨rfl,rfl,rfl⟩) (fun j a h=>by simp[oJ,a8.a]at h) (.inl ⟨rfl,rfl,rfl⟩) rfl (LF _) (LF _) (by grind)
section
variable {ov :Aa}{hp0 hp:Hp}{tm:Ao}{F:FB}{m t:a8}{l:List Stp}{v:Aw}{b4 b7 k:Nat}{cs:Ao}{S:Ah}
structure Ip (hp0:Hp)(m:a8)(l:List Stp)(v:Aw)(b4 b7 k:Nat)(t:a8)(cs:Ao)(S:Ah)(tm:Ao)(hp:Hp):Prop where
 t4:tm.get 4=some (.pointer (some ⟨b4,0,none⟩))
 t7:tm.get 7=some (.pointer (some ⟨b7,0,none⟩))
 t24:tm.get 24=some v
 t25:tm.get 25=some (.int .i64 l.length)
 t26:tm.get 26=some (.int .i64 k)
 nw:New hp0 hp
 b4l:hp0.nx<=b4/\b4<hp.nx
 b7l:hp0.nx<=b7/\b7<hp.nx
 b47:b4≠b7
 h4:hp.m.get b4=some (.cells zB 6 tN 6)
 h7:hp.m.get b7=some (.cells cs 6 tN 6)
 tb:TB hp.m.get S t (at6 cs 0)
 nd:S.Nodup
 n4:b4∉S
 n7:b7∉S
 lt:∀q∈S,hp0.nx<=q/\q<hp.nx
 st:y8 m (l.take k)= .ok t
 ni:M5 (16+k) t
 kl:k<=l.length
structure Ap (hp0:Hp)(r:Except Int a8)(tm':Ao)(hp':Hp):Prop where
 ex:∃(b4:Nat) (d:Ao) (ws:Af) (S2:Ah) (x:a8) (e:Int),tm'.get 4=some (.pointer (some ⟨b4,0,none⟩))/\tm'.get 5=some (.int .i64 e)/\hp'.m.get b4=some (.cells d 6 tN 6)/\d6 d 0 6=some ws/\ws.length=6/\TB hp'.m.get S2 x (fun q=>ws[q]?)/\(∀q∈S2,hp0.nx<=q/\q<hp'.nx)/\
  match r with
  | .ok t=>e=0/\x=t| .error n=>e=n/\x=oJ
 nw:New hp0 hp'
theorem Ap.err {d:Ao}{tm':Ao}{e:Int}(nw:New hp0 hp)(hb:hp0.nx<=b4)(h4:tm'.get 4=some (.pointer (some ⟨b4,0,none⟩)))(h5:tm'.get 5=some (.int .i64 e)):Ap hp0 (.error e) tm' ⟨hp.m.set b4 (some (.cells (fill d 0 yh) 6 tN 6)),hp.nx⟩ where
 ex:=⟨b4,fill d 0 yh,yh,[],oJ,e,h4,h5,by rw[Mw,Ki rfl],r0 rfl,rfl,Jv,fun q hq=>by grind,rfl,rfl⟩
 nw:=⟨nw.nx,fun j hj=>by rw[Mw,Kg (by omega),nw.old j hj]⟩
theorem CD (cb:oF ov)(hg:Go.Xe.isT (ov yyF)=false)(aa:Go.Xe.isT (ov fF)=false)(hF:FH F hp0)(hv:PV PR F (.sl tSp) v (.lst (l.map Stp.row)))(hl:l.length<=40)(ai:∀s∈l,s.p.length<=10)(I:Ip hp0 m l v b4 b7 k t cs S tm hp)(hk:k<l.length):(∃t' cs' S',YN PR ov 45 zL tm hp fun tm' hp'=>Ip hp0 m l v b4 b7 (k+1) t' cs' S' tm' hp')\/ ∃e,y8 m l= .error e/\YR ov 45 zL tm hp fun tm' hp'=>Ap hp0 (.error e) tm' hp':=by
 obtain⟨s,hs⟩:∃s,l[k]? =some s:=⟨_,JX hk⟩
 have ak:=JV hs;obtain⟨ic,oc,cc,bc,dc,nc,zc,vs,ev,g1,g2,g3,g4,X⟩:=Hk hv hs;obtain⟨k1,k2⟩:=D8 hF I.nw ic bc g1;have hd:decide ((k:Int)<(l.length:Int))=true:=decide_eq_true (by omega);have b4l:=I.b4l;have b7l:=I.b7l;obtain⟨zv,hz,J⟩:∃zv,D6 PR tSp=some zv/\zv.cells.toList.length=12:=⟨(D6 PR tSp).getD undef,by kernel_rfl,by kernel_rfl⟩
 have head:∀(Q:Ao->Hp->Prop),(∀f hp2,(∀x,x<27->x≠9->f.get x=tm.get x)->New hp hp2->(∃D d,f.get 9=some (.pointer (some ⟨D,0,none⟩))/\hp2.m.get D=some (.cells d 12 tSp 12)/\d6 d 0 12=some vs)->YN PR ov 45 (cdA (cdB zb)) f hp2 fun t1 h1=>YN PR ov 45 (cdA (cdB (cdB zb))) t1 h1 Q)->
   YN PR ov 45 (cdA zL) tm hp fun t1 h1=>a9 t1 (.tmp 27)=some (.bool true)/\YN PR ov 45 (cdA zb) t1 h1 fun t2 h2=>YN PR ov 45 (cdA (cdB zb)) t2 h2 fun t3 h3=>YN PR ov 45 (cdA (cdB (cdB zb))) t3 h3 Q:=by
  intro Q hQ;refine Z_R8 I.t25 I.t26 fun tm1 x1 aj=>⟨j9 (by grind),?_⟩
  refine Z_R9 hz J (by rw[x1 24 (by omega),I.t24,ev]) (by rw[x1 26 (by omega)];exact I.t26) hk k1 g2 g3 g4 X.1 X.one fun f hp2 E B r al ⟨d,V,W⟩=>?_;exact hQ f hp2 (fun x hx Z=>(E x (by omega) Z).trans (x1 x (by omega))) r ⟨hp.nx,d,B,V,W⟩
 have call:∀(f:Ao) (hp2:Hp),(∀x,x<27->x≠9->f.get x=tm.get x)->New hp hp2->(∃D d,f.get 9=some (.pointer (some ⟨D,0,none⟩))/\hp2.m.get D=some (.cells d 12 tSp 12)/\d6 d 0 12=some vs)->
   ∃e a g,(∃P R,XK PR ov 45 (cdA (cdB zb)) f hp2 .normal P R/\XK PR ov 45 (cdA (cdB (cdB zb))) P R .normal a g)/\(∀x,x<27->x≠9->x≠10->a.get x=tm.get x)/\a.get 10=some (.int .i64 e)/\a.get 33=some (.bool (!decide (e=0)))/\MvR hp2 b7 0 6 cs S (D7 t s) e g:=by
  intro f hp2 E r ⟨D,d,B,V,W⟩;have o:=I.nw.trans r;have ad:=r.nx;obtain⟨g,e,r1,r2,y⟩:=Da cb hg aa X (D8 hF o) (by grind) (fun m' ab=>by have:=(I.ni.sub ab).c.1;omega) (I.tb.frame fun j hj=>r.old j (I.lt j hj).2) I.nd I.n7 ((r.old b7 b7l.2).trans I.h7) (by omega) (by omega) (fun q hq=>by have:=(I.lt q hq).2;omega) fun q b e=>by have:=(hF q b e).2;exact⟨by omega,fun h=>by have:=(I.lt q h).1;omega⟩
  obtain⟨w,n,ka,ah,ac,kb,rfl,x3,i,A⟩:=Z_R10 (Q:=fun a h3=>h3=g/\(∀x,x<28->x≠10->a.get x=f.get x)/\a.get 10=some (.int .i64 e)/\a.get 33=some (.bool (!decide (e=0)))) B (by rw[E 7 (by omega) (by omega)];exact I.t7) V W r1 r2 fun a x3 i A=>⟨rfl,x3,i,A⟩
  exact⟨e,ah,ac,⟨w,n,ka,kb⟩,fun x hx B i=>(x3 x (by omega) i).trans (E x hx B),i,A,y⟩
 obtain⟨tm1,hp1,K,G,f,hp2,L,w,n,M,a,g,N,e,H,u,z,C,O,y⟩:=head (fun a g=>∃e hp2,New hp hp2/\(∀x,x<27->x≠9->x≠10->a.get x=tm.get x)/\a.get 10=some (.int .i64 e)/\a.get 33=some (.bool (!decide (e=0)))/\MvR hp2 b7 0 6 cs S (D7 t s) e g) fun f hp2 E r B=>by obtain⟨e,a,g,⟨P,R,ka,kb⟩,z,C,O,y⟩:=call f hp2 E r B;exact⟨P,R,ka,a,g,kb,e,hp2,r,z,C,O,y⟩
 have o:=I.nw.trans u;have ad:=u.nx;cases hc:D7 t s with
 |ok t'=>
  rw[hc]at y;obtain⟨rfl,⟨cs',S',u1,u2,u3,u4,u5,u6,u7⟩,u8,u9⟩:=y;refine .inl ⟨t',cs',S',.seq ⟨tm1,hp1,K,.seq (.condT G (.skip (.seq (.block (.seq ⟨f,hp2,L,.seq ⟨w,n,M,.seq ⟨a,g,N,.condF (j9 (by grind)) (.skip ?_)⟩⟩⟩)))))⟩⟩;have S4:∀q∈S',(q∈S\/H.nx<=q):=u6;refine Z_R13 (by rw[z 26 (by omega) (by omega) (by omega)];exact I.t26) (by omega) (by omega) fun ae U Y=>?_;exact⟨by rw[U 4 (by omega),z 4 (by omega) (by omega) (by omega)];exact I.t4,by rw[U 7 (by omega),z 7 (by omega) (by omega) (by omega)];exact I.t7,by rw[U 24 (by omega),z 24 (by omega) (by omega) (by omega)];exact I.t24,by rw[U 25 (by omega),z 25 (by omega) (by omega) (by omega)];exact I.t25,by rw[Y];rfl,
   ⟨by omega,fun j hj=>by rw[u9 j (by omega) (by omega) (fun h=>by have:=(I.lt j h).1;omega),o.old j hj]⟩,⟨b4l.1,by omega⟩,⟨b7l.1,by omega⟩,I.b47,by rw[u9 b4 (by omega) I.b47 I.n4,u.old b4 b4l.2];exact I.h4,u1,u3,u5,fun h=>(S4 b4 h).elim I.n4 fun h=>by omega,u4,fun q hq=>⟨(S4 q hq).elim (fun h=>(I.lt q h).1) fun h=>by omega,u7 q hq⟩,nH I.st hs hc,by rw[show 16+(k+1)=16+k+1 by omega];exact mh (by omega) I.ni hc,hk⟩
 |error e'=>
  rw[hc]at y;obtain⟨rfl,n3⟩:=y;have he:=jb hc;refine .inr ⟨e,nJ I.st hs hc,.seq ⟨tm1,hp1,K,.seq (.condT G (.skip (.seqX (.block (.seq ⟨f,hp2,L,.seq ⟨w,n,M,.seq ⟨a,g,N,.condT (j9 (by grind)) ?_⟩⟩⟩)))))⟩⟩;have t4:a.get 4=some (.pointer (some ⟨b4,0,none⟩)):=by rw[z 4 (by omega) (by omega) (by omega)];exact I.t4
  exact Z_R12 C t4 ((n3.old b4 (by omega)).trans ((u.old b4 b4l.2).trans I.h4)) fun ae h4 h5=>Ap.err (o.trans n3) b4l.1 (h4.trans t4) h5
end
end Go.D
