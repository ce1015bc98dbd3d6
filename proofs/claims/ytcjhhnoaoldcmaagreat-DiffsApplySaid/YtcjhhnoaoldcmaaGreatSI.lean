/- Regions that draw their order, by hand: guards, new blocks, and reads beside calls (DiffsApply).
  Conditions: none. -/
import Derived.Test.YtcjhhnoaoldcmaaGreatSH
set_option linter.all false
set_option maxRecDepth 10000
noncomputable section
namespace Go.D
open Go Go.Xe Go.Sx
section
variable {P :Ax}{ov:Aa}{nt:Nat}{all:An}{nx0 pre ix I:Nat}{restG:List (Oper×Nat)}{tm:Ao}{S S1 S2:Hp}{es:List Ent}{QO:Out->Prop}{o:Oper}{v:Aw}
theorem YG.k0W (h1:j4 nt o.dst=true)(h2:e9 all tm o=true)(h3:d5 o.op=0)(h:∀call,xop P call tm S o.op=some (v,S))(k:YG P ov nt all nx0 restG (ix+1) (j0 tm o.dst v) S I (⟨ix,o,pre,tm,S,S,I,true,v,none⟩::es) QO):YG P ov nt all nx0 ((o,pre)::restG) ix tm S I es QO:=by obtain⟨b,k1,k2⟩:=k;refine⟨b,k1.mono fun n a=>?_,k2⟩;unfold xgo;grind
theorem YG.k1W (h1:j4 nt o.dst=true)(h2:e9 all tm o=true)(h3:d5 o.op=1)(h:∀call,xop P call tm S o.op=some (v,S))(k:YG P ov nt all nx0 restG (ix+1) (j0 tm o.dst v) S I (⟨ix,o,pre,tm,S,S,I,true,v,none⟩::es) QO):YG P ov nt all nx0 ((o,pre)::restG) ix tm S I es QO:=by
 obtain⟨b,k1,k2⟩:=k;refine⟨b,k1.mono fun n a=>?_,k2⟩;unfold xgo;have:xrd P tm S o.op=some v:=by unfold xrd;simp_all
 grind
theorem YG.skipW (h1:j4 nt o.dst=true)(h2:e9 all tm o=false)(k:YG P ov nt all nx0 restG (ix+1) (j0 tm o.dst undef) S I (⟨ix,o,pre,tm,S,S,I,false,undef,none⟩::es) QO):YG P ov nt all nx0 ((o,pre)::restG) ix tm S I es QO:=by obtain⟨b,k1,k2⟩:=k;refine⟨b,k1.mono fun n a=>?_,k2⟩;unfold xgo;grind
def MH:type_of% @YG.skipW:=@YG.skipW
theorem YG.k2 {n:Nw}(h1:j4 nt o.dst=true)(h2:o.guard=none)(h3:d5 o.op=2)(h:xnw P tm o.op=some n)(k:YG P ov nt all nx0 restG (ix+1) (j0 tm o.dst (n.val (nx0+ix))) S I (⟨ix,o,pre,tm,S,S,I,true,n.val (nx0+ix),some n⟩::es) QO):YG P ov nt all nx0 ((o,pre)::restG) ix tm S I es QO:=by obtain⟨b,k1,k2⟩:=k;refine⟨b,k1.mono fun n a=>?_,k2⟩;simp only[xgo,e9,h2,cond_true,h3,h];grind
def YG.k3t (h1:j4 nt o.dst=true)(h2:o.guard=none)(h3:d5 o.op=3)(ht:takes nx0 (ee pre I) es S=S1)(h:XOp P ov o.op tm S1 v S2)(k:YG P ov nt all nx0 restG (ix+1) (j0 tm o.dst v) S2 (I|||pre) (⟨ix,o,pre,tm,S,S2,I,true,v,none⟩::es) QO):YG P ov nt all nx0 ((o,pre)::restG) ix tm S I es QO:=by obtain⟨c,k1,k2⟩:=k;refine⟨c,(h.and k1).mono fun n ⟨a,b⟩=>?_,k2⟩;unfold xgo;rw[h1,cond_true];simp only[e9,h2,cond_true,h3,ht,a];exact b
def Dn (es:List Ent)(b:Bool)(e:Ent):Bool:=
 bif e.wt&&Nat.beq (d5 e.o.op) 1 then(bif b then own es e 0|| !N4 es e 0 else true)&&es.all (fun x=>bif isW x then own es e (x.i+1)|| !N4 es e (x.i+1)else true)else true
def dynP (P:Ax)(S0:Hp)(es:List Ent):List Ent->Prop
 | []=>True|e::l=>(Dn es true e=true\/(Dn es false e=true/\xrd P e.tm S0 e.o.op=some e.r/\veq 1000 e.r e.r=true))/\dynP P S0 es l
theorem ru {es:List Ent}{e:Ent}{k:Nat}(h:(own es e k|| !N4 es e k)=true)(S:Hp):J2 P es e k S=true:=by unfold J2;grind
theorem qT {S0:Hp}{es:List Ent}:∀ {l:List Ent},dynP P S0 es l->(l.all fun e=>bif e.wt&&Nat.beq (d5 e.o.op) 1 then J2 P es e 0 S0&&es.all (fun x=>bif isW x then J2 P es e (x.i+1) x.S2 else true)else true)=true
 | [],_=>rfl|e::l,h=>by
  obtain⟨h1,h2⟩:=h;rw[List.all_cons,qT h2,Bool.and_true];have key:∀b,Dn es b e=true->(b=false->xrd P e.tm S0 e.o.op=some e.r/\veq 1000 e.r e.r=true)->(bif e.wt&&Nat.beq (d5 e.o.op) 1 then J2 P es e 0 S0&&es.all (fun x=>bif isW x then J2 P es e (x.i+1) x.S2 else true)else true)=true:=by
   intro b hb hf;unfold Dn at hb;cases hc:(e.wt&&Nat.beq (d5 e.o.op) 1)with
   |false=>rfl|true=>
    rw[hc,cond_true]at hb;obtain⟨k1,k2⟩:=Bool.and_eq_true_iff.1 hb;refine Bool.and_eq_true_iff.2 ⟨?_,List.all_eq_true.2 fun x hx=>?_⟩
    ·cases b with
     |true=>exact ru k1 _|false=>obtain⟨a,c⟩:=hf rfl;unfold J2;grind
    ·have:=List.all_eq_true.1 k2 x hx;cases hw:isW x with
     |false=>rfl|true=>rw[hw,cond_true]at this;exact ru this _
  grind
def wC {S0:Hp}{es:List Ent}(h:dynP P S0 es es):dyn P S0 es=true:=qT h
end
end Go.D
noncomputable section
namespace Go.D
open Go Go.Xe Go.Sx
section
variable {α β:Type}
def Ea (f:α->β)(l:List α)(k:Int):(E8 l k).map f=E8 (l.map f) k:=by unfold E8;rw[KI,List.map_take,List.map_drop]
def Eb (f:α->β)(l:List α)(k:Int)(x:α):(G7 l k x).map f=G7 (l.map f) k (f x):=by unfold G7;rw[KI,KM,List.map_take,List.map_drop]
theorem py (l:List α)(k:Int)(x:α):(G7 l k x).Perm (x::l):=by refine List.perm_middle.trans ?_;simp_all
variable {k:Nat}
theorem AS {l:List α}{x:α}(h:l[k]? =some x):(x::E8 l k).Perm l:=by obtain⟨h1,rfl⟩:=JO.1 h;unfold E8;rw[KB];refine List.perm_middle.symm.trans ?_;simp_all
def ml {l:List α}(h:k<l.length):(E8 l k).length=l.length-1:=by unfold E8;rw[Kn,Kv,KN,KB];omega
def tT {l:List α}{x:α}(h:k<=l.length):(G7 l k x).length=l.length+1:=by unfold G7;rw[Kn,KE,Kv,KN,KB];omega
end
abbrev Kid :Type:=a8×Ah×Af
def K8 (K:List Kid):Af:=K.flatMap fun k=>k.2.2
def KOk (H:FB)(K:List Kid):Prop:=∀k∈K,k.2.2.length=6/\TB H k.2.1 k.1 (fun q=>k.2.2[q]?)
section
variable {H H':FB}{K:List Kid}
variable {k:Kid}
def KOk.tail (h:KOk H (k::K)):KOk H K:=fun x hx=>h x (KT _ hx)
def KOk.frame (h:KOk H K)(hf:∀k∈K,∀q∈k.2.1,H' q=H q):KOk H' K:=fun k hk=>⟨(h k hk).1,(h k hk).2.frame (hf k hk)⟩
theorem mG :∀ {K:List Kid},KOk H K->(K8 K).length=K.length*6
 | [],_=>rfl|k::K,h=>by have h1:=mG h.tail;have h2:=(h k (List.mem_cons_self ..)).1;unfold K8 at h1⊢;grind
def ji :∀ {K:List Kid} (m:Nat),KOk H K->K8 (K.take m)=(K8 K).take (m*6)
 | [],m,_=>by simp[K8]|k::K,0,_=>rfl|k::K,m+1,h=>by have h1:=ji m h.tail;have h2:=(h k (List.mem_cons_self ..)).1;unfold K8 at h1⊢;rw[List.take_succ_cons,List.flatMap_cons,List.flatMap_cons,h1,List.take_append,KK (l:=k.2.2) (by omega),h2,show(m+1)*6-6=m*6 by omega]
def jh :∀ {K:List Kid} (m:Nat),KOk H K->K8 (K.drop m)=(K8 K).drop (m*6)
 | [],m,_=>by simp[K8]|k::K,0,_=>rfl|k::K,m+1,h=>by have h1:=jh m h.tail;have h2:=(h k (List.mem_cons_self ..)).1;unfold K8 at h1⊢;rw[List.drop_succ_cons,List.flatMap_cons,h1,List.drop_append,List.drop_of_length_le (l:=k.2.2) (by omega),h2,List.nil_append,show(m+1)*6-6=m*6 by omega]
def mF (K L:List Kid):K8 (K++L)=K8 K++K8 L:=by simp[K8]
def dR :∀ {K:List Kid},KOk H K->(K8 K).all Value.oneCell'=true
 | [],_=>rfl|k::K,h=>by have h1:=dR h.tail;obtain⟨h2,h3⟩:=h k (List.mem_cons_self ..);unfold K8 at h1⊢;rw[List.flatMap_cons,List.all_append,h1,h3.one h2];rfl
theorem hM :∀ {K:List Kid} {j:Nat} {k:Kid} {q:Nat},KOk H K->K[j]? =some k->q<6->(K8 K)[j*6+q]? =k.2.2[q]?
 |k::K,0,_,q,h,e,hq=>by cases e;have h2:=(h k (List.mem_cons_self ..)).1;unfold K8;grind
 |k::K,j+1,k',q,h,e,hq=>by have h1:=hM h.tail (by simpa using e) hq;have h2:=(h k (List.mem_cons_self ..)).1;unfold K8 at h1⊢;grind| [],j,k',q,h,e,hq=>by grind
def DL {m:Nat}(h:KOk H K):(K8 K).take (m*6)++(K8 K).drop ((m+1)*6)=K8 (E8 K m):=by unfold E8;rw[mF,ji _ h,jh _ h,KB]
def DM {m:Nat}(h:KOk H K):(K8 K).take (m*6)++k.2.2++(K8 K).drop (m*6)=K8 (G7 K m k):=by unfold G7;rw[show K.take (m:Int).toNat++k::K.drop (m:Int).toNat=K.take m++ [k]++K.drop m by simp,mF,mF,ji _ h,jh _ h];simp[K8]
def KOk.del (h:KOk H K)(m:Int):KOk H (E8 K m):=fun k hk=>by
 rcases Kx.1 hk with hk|hk
 ·exact h k (List.mem_of_mem_take hk)
 ·exact h k (Lw hk)
theorem KOk.ins (h:KOk H K)(m:Int)(hk:k.2.2.length=6/\TB H k.2.1 k.1 (fun q=>k.2.2[q]?)):KOk H (G7 K m k):=fun x hx=>by
 rcases Ky.1 ((py K m k).mem_iff.1 hx)with rfl|hx
 ·grind
 ·exact h x hx
variable {cc:Ao}
theorem GY {l:List a8}{Ss:List (Ah)}{oc:Nat}(hl:Ss.length=l.length)(hk:∀(j:Nat) s S1,l[j]? =some s->Ss[j]? =some S1->TB H S1 s (at6 cc (oc+j*6))):
  ∃K:List Kid,K.map (·.1)=l/\K.map (·.2.1)=Ss/\KOk H K/\d6 cc oc (l.length*6)=some (K8 K):=by
 let W:Nat->Af:=fun j=>(List.range 6).map fun q=>(cc.get (oc+j*6+q)).getD undef
 have t:∀ {S1:Ah} {s:a8} {o:Nat},TB H S1 s (at6 cc o)-> ∀q,q<6-> ∃v,cc.get (o+q)=some v:=by
  intro S1 s o h q hq;obtain⟨_,_,va,vc,ia,ic,oa,oc,ca,r,p,⟨a,b,c,d⟩,h3,h5,_⟩:=h
  match q,hq with
  |0,_=>exact⟨_,a⟩|1,_=>exact⟨_,b⟩|2,_=>exact⟨_,c⟩|3,_=>exact⟨_,h3⟩|4,_=>exact⟨_,d⟩|5,_=>exact⟨_,h5⟩
 have n:∀j s S1,l[j]? =some s->Ss[j]? =some S1-> ∀q,q<6->(W j)[q]? =cc.get (oc+j*6+q):=by grind
 let K:List Kid:=(List.range l.length).map fun j=>(l.getD j oJ,Ss.getD j [],W j)
 have g:∀j,j<l.length-> ∃s S1,l[j]? =some s/\Ss[j]? =some S1/\K[j]? =some (s,S1,W j):=by intro j hj;refine⟨_,_,JX hj,JX (by omega),?_⟩;grind
 have f:K.length=l.length:=by grind
 have ok:KOk H K:=by
  intro k m;obtain⟨j,hj⟩:=LU m;have i:j<l.length:=by grind
  obtain⟨s,S1,h1,h2,h3⟩:=g j i;rw[hj]at h3;cases h3;exact⟨rfl,(hk j s S1 h1 h2).win fun q hq=>n j s S1 h1 h2 q hq⟩
 refine⟨K,?_,?_,ok,?_⟩
 ·refine List.ext_getElem? fun j=>?_;grind
 ·refine List.ext_getElem? fun j=>?_;rw[KL];rcases Nat.lt_or_ge j l.length with hj|hj
  ·obtain⟨s,S1,h1,h2,h3⟩:=g j hj;rw[h3,h2];rfl
  ·grind
 ·have:=i8 (fun x hx=>by
   rw[mG ok,f]at hx;have hj:x/6<l.length:=by omega
   obtain⟨s,S1,h1,h2,h3⟩:=g _ hj;have:=hM (q:=x % 6) ok h3 (Nat.mod_lt _ (by omega));have e:x/6*6+x % 6=x:=by omega
   rw[e]at this;rw[this,n _ s S1 h1 h2 _ (Nat.mod_lt _ (by omega)),show oc+x/6*6+x % 6=oc+x by omega])
  rwa[mG ok,f]at this
theorem GX {oc:Nat}(h:KOk H K)(hl:d6 cc oc (K.length*6)=some (K8 K))(j:Nat)(s:a8)(S1:Ah)(hs:(K.map (·.1))[j]? =some s)(a:(K.map (·.2.1))[j]? =some S1):TB H S1 s (at6 cc (oc+j*6)):=by
 rw[KL]at hs a;cases hk:K[j]? with
 |none=>grind|some k=>rw[hk]at hs a;cases hs;cases a;have hj:=(JO.1 hk).1;obtain⟨h1,h2⟩:=h k (JV hk);refine h2.win fun q hq=>?_;have:=(g9 hl).2 (j*6+q) (by omega);rw[hM h hk hq,<-KU]at this;exact this.symm
end
section
variable {ov :Aa}{hp:Hp}
abbrev ckF :Az:=92
theorem pf (d:Go.Xe.isT (ov ckF)=false){m:Nat}{v:Aw}{io:Ai}{o:Nat}{cc:Ao}{vals:Af}(h:L9 hp.m.get tN 6 m v io o cc)(hl:d6 cc o (m*6)=some vals)(h1:vals.all Value.oneCell'=true)(hm:m<=1000)(hlt:∀j∈io.toList,j<hp.nx):∃v' hp' io' ct,A4 PR ov ckF [v] hp v' hp'/\New hp hp'/\L9 hp'.m.get tN 6 m v' io' 0 ct/\d6 ct 0 (m*6)=some vals/\ ∀j∈io'.toList,hp.nx<=j/\j<hp'.nx:=by
 have nw:wkF PR ckF=false:=rfl;rcases h with⟨rfl,rfl,rfl⟩| ⟨i,c,N,rfl,rfl,hc,hb,hN⟩
 ·exact⟨_,hp,none,.e,Y8 (C:=fun _=>True) (fun _=>trivial) d (vK cloN 0 0),⟨Kj _,fun _ _=>rfl⟩,.inl ⟨rfl,rfl,rfl⟩,by have:=(g9 hl).1;rw[JR this];rfl,fun j h=>by grind⟩
 ·have hi:=hlt i (by simp);have hx:∀hp1:Hp,(∀j,j<hp.nx->hp1.m.get j=hp.m.get j)->j2 hp1 ien.size (.slice (some ⟨i,o,none⟩) m c)=some (m,vals):=fun hp1 hs=>by have a:=JS hN;rw[dO];simp only[j2,hs i hi,hb,rdC,a,Kc,hl]
  obtain⟨b,c',hp',ct,l,q,r,n,f,g,p⟩:=qn (C:=fun _=>True) cloN (by omega) hx ((g9 hl).1) h1;rw[dO]at f g;refine⟨_,hp',some b,ct,Y8 (fun _=>trivial) d (l),⟨by omega,n⟩,.inr ⟨b,c',_,rfl,rfl,mg (by omega) p,f,by omega⟩,g,fun j hj=>?_⟩;grind
end
end Go.D
