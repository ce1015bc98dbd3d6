/- DiffsApply: plain lemmas about steps; trees stay nice.
  Conditions: none. -/
import Derived.Test.YtcjhhnoaoldcmaaGreatW3
import Derived.Test.YtcjhhnoaoldcmaaGreatA5
import Derived.Test.YtcjhhnoaoldcmaaGreatSE
set_option linter.all false
namespace Go.D
open Go Go.Xe Go.Sx
open Go.C36 (row)
theorem gU :∀ {l:List Att} {s:Str} {j:Nat} {a:Att},j<q8 l s->l[j]? =some a->lt a.n s=true
 | [],s,j,a,h,_=>by grind|b::l,s,0,a,h,ha=>by
  cases ha;unfold q8 at h;split at h
  ·rename_i h1;exact h1
  ·omega
 |b::l,s,j+1,a,h,ha=>by
  unfold q8 at h;split at h
  ·exact gU (l:=l) (j:=j) (by omega) (by grind)
  ·omega
theorem lA :∀ {l:List Att} {s:Str} {a:Att},l[q8 l s]? =some a->lt a.n s=false
 | [],s,a,h=>by grind|b::l,s,a,h=>by
  unfold q8 at h;by_cases hb:Op.bytesLess b.n s=true
  ·rw[Ki hb]at h;exact lA (by simpa using h)
  ·rw[Kg hb]at h;cases h;simpa [lt]using hb
variable {l:List Att}{i:Nat}
theorem yr (h:Asc (l.map Att.n)){j:Nat}{a b:Att}(c:i<j)(ha:l[i]? =some a)(hb:l[j]? =some b):lt a.n b.n=true:=by obtain⟨h1,rfl⟩:=JO.1 ha;obtain⟨h2,rfl⟩:=JO.1 hb;have:=List.pairwise_iff_getElem.1 h i j (by grind) (by grind) c;grind
theorem yu {s:Str}(h:Asc (l.map Att.n)){j:Nat}{a:Att}(hj:q8 l s<j)(ha:l[j]? =some a):lt s a.n=true:=by
 have hlt:=(JO.1 ha).1;obtain⟨b,hb⟩:∃b,l[q8 l s]? =some b:=(by grind)
 have h1:=lA hb;have h2:=yr h hj hb ha;by_cases e:b.n=s
 ·grind
 ·exact hU (rv h1 e) h2
theorem dP {s:Str}(h:z8 l s=true):∃a,l[q8 l s]? =some a/\a.n=s:=by unfold z8 at h;grind
theorem tU {s:Str}(h:z8 l s=false){a:Att}(ha:l[q8 l s]? =some a):lt s a.n=true:=by unfold z8 at h;rw[ha]at h;exact rv (lA ha) (by grind)
theorem Gn (h:Asc (l.map Att.n))(k:Int):Asc ((E8 l k).map Att.n):=by
 refine List.Pairwise.sublist (List.Sublist.map _ ?_) h;have h1:(l.take k.toNat++l.drop (k.toNat+1)).Sublist (l.take k.toNat++l.drop k.toNat):=by grind
 rwa[LD]at h1
theorem rB {α:Type}{l:List α}{k:Nat}{a:α}(h:a∈l.take k):∃j,j<k/\l[j]? =some a:=by obtain⟨j,hj⟩:=LU h;grind
theorem hZ {α:Type}{l:List α}{k:Nat}{a:α}(h:a∈l.drop k):∃j,k<=j/\l[j]? =some a:=by obtain⟨j,hj⟩:=LU h;grind
theorem Gm (h:Asc (l.map Att.n))(s:Stp):Asc ((fy l s).map Att.n):=by
 unfold fy;split
 ·rename_i hi;obtain⟨a,ha,e⟩:=dP hi;have:(l.set (q8 l s.n) ⟨s.n,s.v⟩).map Att.n=l.map Att.n:=by rw[List.map_set];refine List.ext_getElem? fun j=>?_;grind
  grind
 ·rename_i hi;have hi:z8 l s.n=false:=by grind
  unfold G7;rw[KB,KI,KM];refine List.pairwise_append.2 ⟨List.Pairwise.sublist (by grind) h,List.pairwise_cons.2 ⟨fun b hb=>?_,List.Pairwise.sublist (by grind) h⟩,fun a ha b hb=>?_⟩
  ·obtain⟨x,hx,rfl⟩:=Lt.1 hb;obtain⟨j,hj,c⟩:=hZ hx;rcases Nat.lt_or_ge (q8 l s.n) j with h'|h'
   ·exact yu h h' c
   ·have:j=q8 l s.n:=by omega
    subst this;exact tU hi c
  ·obtain⟨x,hx,rfl⟩:=Lt.1 ha;obtain⟨j,hj,c⟩:=rB hx;have h1:=gU hj c;rcases Ky.1 hb with rfl|hb
   ·grind
   ·obtain⟨y,hy,rfl⟩:=Lt.1 hb;obtain⟨j',f,d⟩:=hZ hy;exact yr h (by omega) c d
theorem zp :∀(d:Nat) (t:a8),t.size<=d->fV t->M5 16 t
 |0,t,hd,_=>by have:=nC t;omega|d+1,t,hd,g=>by
  obtain⟨h1,h2⟩:=(B6 t).1 g;have hc:=gT h1;refine .mk t ?_ hc.2 hc.1 fun s hs=>zp d s ?_ ?_
  ·rcases h1 with⟨_,_,_,_,ha,_⟩| ⟨_,_,_,_,_,_,_,ha,_⟩
   ·rw[ha];exact List.Pairwise.nil
   ·grind
  ·rw[P0]at hd;obtain⟨a,b,e⟩:=List.append_of_mem hs;have f:t.c=(a++ [s])++b:=by grind
   rw[f,L2,L2,pP]at hd;omega
  ·obtain⟨j,hj⟩:=LU hs;exact aH h2 hj
variable {t:a8}
def z7.nice (h:z7 t):M5 16 t:=zp _ t (Kj _) h.1
variable {K:Nat}
def M5.a (h:M5 K t):Asc (t.a.map Att.n)/\t.a.length<=8:=by cases h with|mk _ h1 h2 _ _=>exact⟨h1,h2⟩
def M5.c (h:M5 K t):t.c.length<=K/\ ∀s∈t.c,M5 K s:=by cases h with|mk _ _ _ h3 h4=>exact⟨h3,h4⟩
variable {n:a8}
theorem Br (k:16<=K){n':a8}{s:Stp}(h:M5 K n)(e:H3 n s= .ok n'):M5 (K+1) n':=by
 have hk:=h.mono (Lk _);have hc:=hk.c;have ha:=hk.a;unfold H3 at e;split at e
 ·split at e
  ·rename_i f;cases e;exact f.nice.mono (by omega)
  ·cases e
 split at e
 ·cases e
 split at e
 ·split at e
  ·cases e;exact .mk _ ha.1 ha.2 hc.1 hc.2
  ·cases e
 split at e
 ·split at e
  ·rename_i hi;cases e;refine .mk _ (Gn ha.1 _) ?_ hc.1 hc.2;show(E8 n.a _).length<=8;unfold E8;grind
  ·cases e
 split at e
 ·split at e
  ·cases e
  ·rename_i hn;cases e;refine .mk _ (Gm ha.1 s) ?_ hc.1 hc.2;show(fy n.a s).length<=8;unfold fy G7;grind
 ·unfold H2 at e;split at e
  ·cases e
  split at e
  ·cases e
  split at e
  ·cases e
  ·rename_i h1 h2 h3;cases e;have g:(G3 n s).length<=n.c.length:=by unfold G3 E8;grind
   have b:∀x∈G3 n s,x∈n.c:=by intro x hx;unfold G3 E8 at hx;grind
   have d:s.w≠4->M5 (K+1) (child n s):=by
    intro h4;unfold child;split
    ·rename_i h5;have:=Classical.not_not.1 fun f=>h1 ⟨h5,f⟩;exact this.nice.mono (by omega)
    ·grind
   have j:=h.c;refine .mk _ ha.1 ha.2 ?_ fun x hx=>?_
   ·show(if s.w=4 then G3 n s else G7 (G3 n s) s.o (child n s)).length<=K+1;split
    ·omega
    ·unfold G7;rw[Kn,KE,Kv,KN];omega
   ·have hx:=hx;split at hx
    ·exact hc.2 x (b x hx)
    ·rename_i h4;rcases Kx.1 hx with hx|hx
     ·exact hc.2 x (by grind)
     ·rcases Ky.1 hx with rfl|hx
      ·exact d h4
      ·exact hc.2 x (by grind)
def mh (b:16<=K){n':a8}{s:Stp}(h:M5 K n)(e:D7 n s= .ok n'):M5 (K+1) n':=by
 unfold D7 at e;split at e
 ·rw[lE]at e;split at e
  ·cases e
  ·rename_i m hm;split at e
   ·rename_i c a;cases e;exact M5.put (h.mono (Lk _)) (Br b (h.sub hm) a)
   ·cases e
 ·cases e
variable {e:Int}
theorem Ev {s:Stp}(h:H3 n s= .error e):e≠0:=by unfold H3 H2 at h;grind
theorem jb {s:Stp}(h:D7 n s= .error e):e≠0:=by
 unfold D7 at h;split at h
 ·rw[lE]at h;split at h
  ·grind
  ·split at h
   ·cases h
   ·rename_i hm;cases h;exact Ev hm
 ·grind
theorem jF :∀(l:List Stp) (n:a8) (s:Stp),y8 n (l++ [s])=match y8 n l with
  | .ok r=>D7 r s| .error e=>.error e
 | [],n,s=>by simp only[List.nil_append,y8];grind|x::l,n,s=>by
  simp only[KX,y8];cases D7 n x with
  |ok n'=>exact jF l n' s|error e=>rfl
theorem qc :∀ {l m:List Stp} {n:a8} {e:Int},y8 n l= .error e->y8 n (l++m)= .error e
 | [],m,n,e,h=>by cases h
 |x::l,m,n,e,h=>by
  simp only[KX,y8]at h⊢;cases hc:D7 n x with
  |ok n'=>rw[hc]at h;exact qc h|error e'=>grind
theorem nJ {l:List Stp}{r:a8}{s:Stp}(h:y8 n (l.take i)= .ok r)(hs:l[i]? =some s)(he:D7 r s= .error e):y8 n l= .error e:=by
 have h1:y8 n (l.take (i+1))= .error e:=by rw[List.take_add_one,hs];show y8 n (l.take i++ [s])=_;rwa[jF,h]
 have:=qc (m:=l.drop (i+1)) h1;simp_all
def nH {l:List Stp}{r a:a8}{s:Stp}(h:y8 n (l.take i)= .ok r)(hs:l[i]? =some s)(he:D7 r s= .ok a):y8 n (l.take (i+1))= .ok a:=by rw[List.take_add_one,hs];show y8 n (l.take i++ [s])=_;rwa[jF,h]
end Go.D
set_option maxRecDepth 10000
noncomputable section
namespace Go.D
open Go Go.Xe Go.Sx Go.RowKit
open Go.C36 (row)
section
variable {ov :Aa}{hp:Hp}{tm:Ao}{Q:Ao->Hp->Prop}{F:FB}{s:Stp}{vs:Af}{n:a8}{b3 il ol Nl:Nat}{csl:Ao}{S1:Ah}
theorem Cx.attrs (C:Cx F s vs n b3 il ol Nl csl S1 tm hp):∃(va:Aw) (ia:Ai) (oa:Nat) (ca:Ao),csl.get (ol+3)=some va/\L9 hp.m.get tAt 2 n.a.length va ia oa ca/\(∀(j:Nat) a,n.a[j]? =some a->AtC a ca (oa+j*2))/\n.a.length<=1000/\(∀j∈ia.toList,j∈S1)/\ ∀(hp0 hp2:Hp) (J:Nat->Prop) (a':List Att) (v':Aw),wi hp tAt 2 a'.length ia J (n8 a') v' hp2->a'.length<=1000->New hp0 hp->(∀x,J x->hp0.nx<=x)->(∀q∈S1,q<hp0.nx)->W7 hp0 il ol Nl csl S1 (Y4 n a') ⟨hp2.m.set il (some (.cells (fill csl (ol+3) [v']) Nl tN 6)),hp2.nx⟩:=by
 obtain⟨va,ia,oa,ca,h3,o,k,hl,hi,up⟩:=C.tb.attrs C.nd;refine⟨va,ia,oa,ca,h3,o,k,hl,hi,fun hp0 hp2 J a' v' ⟨⟨io',o',cs',p,r,d⟩,v,i⟩ c hn t u=>?_⟩;have l:=hn.nx;have f:=C.ilt;have b:∀q,ia=some q->q∈S1:=fun q e=>hi q (by grind);have g:∀q,io'=some q->q≠il:=fun q e h=>(d q e).1.elim (fun h'=>C.ilS (by grind)) (fun h'=>by omega);have gs:∀q,q≠il->(hp2.m.set il (some (.cells (fill csl (ol+3) [v']) Nl tN 6))).get q=hp2.m.get q:=fun q h=>by rw[Mw,Kg h]
 obtain⟨S',t1,t2,t3⟩:=up (hp2.m.set il (some (.cells (fill csl (ol+3) [v']) Nl tN 6))).get a' v' io' o' cs' (at6 (fill csl (ol+3) [v']) ol) qF (fun q _ h=>ww h) (p.frame fun j hj=>gs j (g j (by grind))) (sY r) c
  (fun q hq h=>by rw[gs q (fun e=>C.ilS (by grind))];exact i q (C.lt q hq) h fun h'=>by grind)
  (by grind)
 refine⟨⟨_,S',by rw[Mw,Ki rfl],fun q hq=>rJ (by omega) hq,t1,fun h=>(t3 il h).elim C.ilS fun e=>g il e rfl,t2,fun q hq=>(t3 q hq).elim .inl fun e=>(d q e).1.imp (b q) fun h=>by omega,fun q hq=>(t3 q hq).elim (by grind) fun e=>(d q e).2⟩,by grind,fun j hj h1 h2=>?_⟩;rw[gs j h1,i j (by omega) (fun e=>h2 (b j e)) (by grind),hn.old j hj]
abbrev yyD :Code:=cdA (cdB (cdB (cdB R5)))
theorem HT (e:Go.Xe.isT (ov aF)=false)(C:Cx F s vs n b3 il ol Nl csl S1 tm hp)(k:∀tm1 hp1,(∀x,x<8->tm1.get x=tm.get x)->New hp hp1->tm1.get 8=some (.int .i64 (q8 n.a s.n))->tm1.get 9=some (.bool (z8 n.a s.n))->Q tm1 hp1):YN PR ov 141 (cdA yyD) tm hp Q:=by
 obtain⟨va,ia,oa,ca,h3,f,d,hl,hi, -⟩:=C.attrs;obtain⟨hp1,g,b⟩:=yw e C.hw C.ilt C.hN h3 f d hl fun j hj=>C.lt j (hi j hj);unfold yyD R5;refine .region (.o (i5 C.t6) (.o (l7 yN (by simp only[gp];exact C.t3)) (.o (qL (h:=((B7 fI C.hb rfl (by omega)).trans ((C.cell 2).trans C.hs.2.2.2.1)))) (.c (bH rfl (by simp only[gp];rfl) (by simp only[gp];rfl) g) (.o qM (.o (sF (by simp only[gp];rfl) rfl) (.o (sF (by simp only[gp];rfl) rfl) (.o qA (.o qA (.nil ⟨b.keeps,k _ _ (fun x hx=>?_) b ?_ ?_⟩))))))))))
 ·simp only[gp];grind
 all_goals (simp only[gp];rfl)
theorem HU {b:Bool}(a:tm.get 9=some (.bool b))(k:∀tm1,(∀x,x<75->tm1.get x=tm.get x)->tm1.get 76=some (.bool (!b))->Q tm1 hp):YN PR ov 141 (cdA (cdA (cdB yyD))) tm hp Q:=by
 unfold yyD R5;refine .region (.o (i5 a) (.o (ou (by simp only[gp];rfl)) (.nil ⟨.refl _,k _ (fun x hx=>?_) ?_⟩)))
 ·simp only[gp];grind
 ·simp only[gp];rfl
def D_R24 (k:∀tm1,tm1.get 4=some (.int .i64 11)->Q tm1 hp):YR ov 141 (cdA (cdB (cdA (cdB yyD)))) tm hp Q:=by unfold yyD R5;exact .seq (.region (.o (D5 rfl) (.nil ⟨.refl _,.ret (k _ (by simp only[gp];rfl))⟩)))
theorem D_R25 (w:Go.Xe.isT (ov 64)=false)(C:Cx F s vs n b3 il ol Nl csl S1 tm hp)(t:tm.get 8=some (.int .i64 (q8 n.a s.n)))(ha:q8 n.a s.n<n.a.length)(k:∀tm1 hp1,W7 hp il ol Nl csl S1 (Y4 n (E8 n.a (q8 n.a s.n))) hp1->Q tm1 hp1):YN PR ov 141 (cdB (cdB yyD)) tm hp Q:=by
 have hN:=C.hN;obtain⟨va,ia,oa,ca,h3,u,v,hl,hi,up⟩:=C.attrs;have own:L9 hp.m.get tAt iea.size n.a.length va ia oa ca:=by exact u
 obtain⟨v',hp1,y,b⟩:=yD delA rfl w own (hP v) (dH _) ha fun j hj=>C.lt j (hi j hj);have p:=b.keeps (fun j hj h=>by
  rcases u with⟨_,e,_⟩| ⟨i,c,N,rfl,_,_,g,_⟩
  ·rw[e]at hj;cases hj
  ·cases hj;rw[g]at h;cases h) (fun j h=>h.elim)
 rw[hG]at b;have f:(E8 n.a (q8 n.a s.n)).length=n.a.length-1:=by unfold E8;rw[Kn,Kv,KN];omega
 have d:(n8 n.a).take (q8 n.a s.n*2)++(n8 n.a).drop ((q8 n.a s.n+1)*2)=n8 (E8 n.a (q8 n.a s.n)):=by unfold E8;rw[dE,bN,bM,KB]
 rw[d,<-f]at b;have l:=up hp hp1 _ _ v' b (by omega) ⟨Kj _,fun _ _=>rfl⟩ (fun x h=>h.elim) C.lt;have r:hp1.m.get il=some (.cells csl Nl tN 6):=by rw[b.old il C.ilt (fun e=>C.ilS (hi il (by grind))) (fun h=>h.elim)];exact C.hw
 have A:((q8 n.a s.n+1:Nat):Int)=(q8 n.a s.n:Int)+1:=by omega
 unfold yyD R5;refine .region (.o (i5 C.t6) (.o (i5 (by simp only[gp];exact C.t6)) (.o qN (.o (l7 oH (by simp only[gp];rfl)) (.o (qL (h:=((B7 wo C.hw rfl (by omega)).trans h3))) (.o (i5 (by simp only[gp];exact t)) (.o (i5 (by simp only[gp];exact t)) (.o (gK (by simp only[gp];rfl) (by omega) (by omega)) (.c (fp rfl (by simp only[gp];rfl) (by simp only[gp];rfl) (by simp only[gp];rfl) y) (.o qN (.o (l7 oH (by simp only[gp];rfl)) (.o (qS (h:=(BZ sz_A r (by omega) ?_ ?_))) (.nil ⟨p.trans (d9 (Kj _) (.inr (by grind))),k _ _ l⟩)))))))))))));all_goals (obtain⟨⟨io',o',cs',z,_⟩,_⟩:=b;obtain⟨q,c,rfl⟩:=z.sl;rfl)
theorem CX (e:Go.Xe.isT (ov aF)=false)(hd:Go.Xe.isT (ov 64)=false)(C:Cx F s vs n b3 il ol Nl csl S1 tm hp):(z8 n.a s.n=true->YN PR ov 141 yyD tm hp fun _ hp'=>W7 hp il ol Nl csl S1 (Y4 n (E8 n.a (q8 n.a s.n))) hp')/\(z8 n.a s.n=false->YR ov 141 yyD tm hp fun tm' hp'=>tm'.get 4=some (.int .i64 11)/\New hp hp'):=by
 constructor<;>intro m
 ·refine .seq (HT e C fun tm1 hp1 i b k d=>.seq (.seq (HU d fun f j c=>.condF (j9 (by grind)) (.skip ?_))));exact D_R25 hd (C.new b (by grind) ((j 6 (by omega)).trans (i 6 (by omega)))) (by grind) (by obtain⟨a,ha,_⟩:=dP m;exact(JO.1 ha).1) fun g l h=>h.new b
 ·exact .seq (HT e C fun tm1 hp1 i b k d=>.seqX (.seq (HU d fun f j c=>.condT (j9 (by grind)) (D_R24 fun g h4=>⟨h4,b⟩))))
end
end Go.D
