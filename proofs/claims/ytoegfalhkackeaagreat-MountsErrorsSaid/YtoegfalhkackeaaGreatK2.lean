/- The DOM: what is always so stays so: texts, places, attributes, Insert, Remove, Move.
  Conditions: none. -/
import Derived.Test.YtoegfalhkackeaaGreatK1
set_option linter.all false
noncomputable section
namespace Go.D
open Go Go.Xe Go.Sx
section
variable {D D':DM}{K a b c p k:Nat}{s sp sc:Sl}{i g j m x y:Int}{l:Ah}
def WF.mono (w:WF D K){n:Nat}(h:K<=n)(u:n<=1000):WF D n:=by obtain⟨h1,h2,h3,h4,⟨r,r1,z⟩,o,⟨a,b,c,d,e,f,h',k1,k2,k3,v⟩,q,t⟩:=w;refine⟨⟨by omega,u⟩,fun s hs=>?_,h3,h4,⟨r,fun i=>?_,z⟩,o,⟨a,b,c,d,e,f,h',k1,k2,k3,fun x hx=>?_⟩,q,t⟩;have:=h2 s hs;omega;have:=r1 i;omega;have:=v x hx;omega
def WF.text (w:WF D K)(d:K+1<=1000){t:Str}:WF (Pi D i g t).1 (K+1):=by
 have w':=w.mono (Ss K) d;unfold Pi;cases hc:D.at i g with
 |none=>exact w'|some c=>obtain⟨s,h1,h2,_⟩:=Th hc;simp only;split;exact w';exact w.setN d h1 ⟨by omega,by omega⟩ (fun _=>⟨rfl,rfl,rfl⟩) fun f=>⟨w.atts c s h1 f,fun e=>((w.kind c s h1 f).2 e).2⟩
def rV {e:Ed}{a:Att}:∀ {l:List Att},a∈fD l e->a∈l\/(a.n=e.n/\a.v=e.v)
 | [],h=>by unfold fD edA at h;split at h;simp at h;rw[Se.1 h];exact .inr ⟨rfl,rfl⟩|b::l,h=>by
  have d:a∈edA e->a.n=e.n/\a.v=e.v:=fun h=>by unfold edA at h;split at h;simp at h;rw[Se.1 h];exact⟨rfl,rfl⟩
  unfold fD at h;split at h;rcases Rx.1 h with rfl|h;exact .inl List.mem_cons_self;rcases rV h with h|h;exact .inl (RV _ h);exact .inr h;split at h;rcases Rw.1 h with h|h;exact .inr (d h);exact .inl (RV _ h);rcases Rw.1 h with h|h;exact .inr (d h);exact .inl h
def Ci {e:Ed}:∀ {l:List Att},Asc (l.map Att.n)->Asc ((fD l e).map Att.n)
 | [],_=>by unfold fD edA;split<;>simp[Asc]|b::l,h=>by
  obtain⟨h1,h2⟩:=List.pairwise_cons.1 h;have below:∀ {l':List Att},(∀z∈l'.map Att.n,lt e.n z=true)->Asc (l'.map Att.n)->Asc ((edA e++l').map Att.n):=fun{l'} t q=>by unfold edA;split;exact q;exact List.pairwise_cons.2 ⟨t,q⟩
  unfold fD;by_cases d:lt b.n e.n=true;rw[Rh d,RM];refine List.pairwise_cons.2 ⟨fun z hz=>?_,Ci h2⟩;obtain⟨a,r,rfl⟩:=SE.1 hz;rcases rV r with h|h;exact h1 _ (List.mem_map_of_mem h);rw[h.1];exact d;rw[Re d];by_cases f:b.n=e.n;rw[Rh f];exact below (fun z hz=>by rw[<-f];exact h1 z hz) h2;rw[Re f];have o:lt e.n b.n=true:=Ff (by simpa using d) f;exact below (fun z hz=>by rcases Rx.1 hz with rfl|hz;exact o;exact mL o (h1 z hz)) h
def Ps {l:List Att}{e:Ed}(h:vAt l)(he:qX e=true)(h0:(apF l e).2=0):vAt (apF l e).1:=by unfold apF at h0⊢;split at h0;simp at h0;split at h0;simp at h0;rename_i h1 h2;rw[Re h1,Re h2];refine⟨by simpa using h2,fun a d=>?_,Ci h.2.2⟩;rcases rV d with h'|h';exact h.2.1 a h';unfold qX at he;simp only[QJ]at he;rw[h'.1,h'.2];exact⟨he.1.1,he.1.2⟩
def WF.edt (w:WF D K)(d:K+1<=1000){e:Ed}{r:Int}:WF (fW D i g e r).1 (K+1):=by
 have w':=w.mono (Ss K) d;unfold fW;cases hc:D.at i g with
 |none=>exact w'|some c=>
  obtain⟨s,h1,h2,_⟩:=Th hc;simp only;rw[Tj h1];split;exact w'
  ·split;exact w'
   ·split
    ·rename_i hk he h0;refine w.setN d h1 ⟨by omega,by omega⟩ (fun _=>⟨rfl,rfl,rfl⟩) fun h=>⟨Ps (w.atts c s h1 h) (by simpa using he) h0,fun f=>?_⟩
     exact absurd f (by simp at hk;omega)
    exact w'
def IS (hn:l.Nodup){a:Int}(e:a<0\/(0<=a/\a.toNat∈l)):∃t d,t++d=l/\fG l c a=t++ [c]++d:=by rcases e with h| ⟨h0,h⟩;exact⟨l,[],by simp,by rw[Hr h];simp⟩;refine⟨l.take (l.idxOf a.toNat),l.drop (l.idxOf a.toNat),SP ..,?_⟩;have:=FI (c:=c) hn h;rw[this];congr 1;omega
def NM (hn:l.Nodup)(hc:c∉l){a:Int}(f:a<0\/(0<=a/\a.toNat∈l)):(fG l c a).Nodup/\ ∀j,j∈fG l c a↔j=c\/j∈l:=by obtain⟨t,d,rfl,e⟩:=IS (c:=c) hn f;rw[e];constructor;rw[Te]at hn⊢;simp only[Rw,not_or]at hc;refine⟨Te.2 ⟨hn.1,by simp,fun q hq r hr=>?_⟩,hn.2.1,fun q hq r hr=>?_⟩;rw[Se.1 hr];rintro rfl;exact hc.1 hq;rcases Rw.1 hq with h|h;exact hn.2.2 q h r hr;rw[Se.1 h];rintro rfl;exact hc.2 hr;intro j;simp only[Rw,Se];constructor;rintro ((h|h)|h);exact .inr (.inl h);exact .inl h;exact .inr (.inr h);rintro (h|h|h);exact .inl (.inr h);exact .inl (.inl h);exact .inr h
def DM.opt_lo {a:Int}(h:D.opt x y=some a):a= -1\/0<=a:=by unfold DM.opt at h;split at h;cases h;exact .inl rfl;split at h;cases h;exact .inr (by omega);cases h
def DM.par_of (w:WF D K)(hs:D.L[c]? =some s)(d:s.used=true)(hp:s.n.par≠ -1):∃(p:Nat) (sp:Sl),s.n.par=p/\D.L[p]? =some sp/\sp.used=true/\c∈sp.n.ch/\p≠c/\sp.n.kind=1:=by rcases w.par c s hs d with e| ⟨p,sp,e,h1,h2,h3⟩;exact absurd e hp;obtain⟨r,_,hr⟩:=w.rank;have:=hr p sp h1 h2 c h3;refine⟨p,sp,e,h1,h2,h3,by rintro rfl;omega,?_⟩;obtain⟨k1,k2⟩:=w.kind p sp h1 h2;rcases k1 with h|h;exact h;rw[(k2 h).1]at h3;simp at h3
def WF.ins (w:WF D K)(f:K+1<=1000):WF (wE D i g j m x y).1 (K+1):=by
 have w':=w.mono (Ss K) f;unfold wE;split
 ·rename_i p c a hp hc q;obtain⟨sp,h1,h2,_⟩:=Th hp;obtain⟨sc,k1,k2,_⟩:=Th hc;rw[Tj h1,Tj k1];split;exact w'
  ·split;exact w'
   ·split;exact w'
    ·rename_i t d u;rw[not_or]at d;have hr:sc.n.par= -1:=Classical.not_not.1 d.1;have hn:=(w.ch p sp h1 h2).1;have o:c∉sp.n.ch:=fun r=>by obtain⟨s,e,v,z⟩:=(w.ch p sp h1 h2).2 c r;rw[k1]at e;cases e;omega
     have hs:=NM (c:=c) hn o (a:=a) (by rcases DM.opt_lo q with h|h;exact .inl (by omega);exact .inr ⟨h,Classical.not_not.1 fun h'=>u ⟨h,h'⟩⟩);exact w.kids f ⟨by omega,by omega⟩ h1 h2 k1 k2 (by rintro rfl;exact d.2 .here) (by simpa using t) hs.1 (fun j hj=>by rw[hs.2];simp[hj]) (.inl ⟨rfl,(hs.2 c).2 (.inl rfl)⟩) (.inl ⟨hr,fun _=>d.2⟩)
 exact w'
def WF.rem (w:WF D K)(d:K+1<=1000):WF (AY D i g).1 (K+1):=by have w':=w.mono (Ss K) d;unfold AY;split;rename_i c hc;obtain⟨sc,k1,k2,_⟩:=Th hc;rw[Tj k1];split;exact w';rename_i hp;obtain⟨p,sp,e,h1,h2,h3,h4,f⟩:=DM.par_of w k1 k2 hp;rw[e,RA,Tj h1];exact w.kids d ⟨by omega,by omega⟩ h1 h2 k1 k2 h4 f ((w.ch p sp h1 h2).1.filter _) (fun j hj=>by rw[BC];simp[hj]) (.inr ⟨rfl,fun h=>(BC.1 h).2 rfl⟩) (.inr e);exact w'
