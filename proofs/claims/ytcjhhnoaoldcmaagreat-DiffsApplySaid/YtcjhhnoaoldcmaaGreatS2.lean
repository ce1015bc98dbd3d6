/- Trees that are changed in place (DiffsApply): a function's run, out of its code's; clones of lists of attributes and of nodes.
  Conditions: none. -/
import Derived.Test.YtcjhhnoaoldcmaaGreatS1
import Derived.Test.YtcjhhnoaoldcmaaGreatSm4
set_option linter.all false
set_option maxRecDepth 10000
noncomputable section
namespace Go.D
open Go Go.Xe Go.Sx Go.RowKit
open Go.C36 (row)
section
variable {ov :Aa}{hp:Hp}{args:Af}{Q:Ao->Hp->Prop}
variable {f:Az}
def lN {fn:Func}{c:Code}{nt r:Nat}(a:PR.funcs[f]? =some fn)(hc:fn.body=some c)(hr:fn.results= #[.tmp r])(hn:args.length+(fn.ntmps-args.length)=nt)(b:Go.Xe.isT (ov f)=false)(hw:wkF PR f=false){v:Aw}(h:YR ov nt c (fill .e 0 args) hp fun tm' hp'=>tm'.get r=some v/\Q tm' hp'):∃tm' hp' hp2,Q tm' hp'/\A4 PR ov f args hp v hp2/\hp2.nx=hp'.nx/\(∀i,hp'.m.get i≠some .dfr->hp2.m.get i=hp'.m.get i)/\l9 hp hp2:=by obtain⟨tm',hp',k,h1,h2⟩:=h;subst hn;obtain⟨hp2,d,g,j,o⟩:=bK a hc b k (.inr rfl) (vs:=[v]) (fun h2 same=>by rw[hr];simp only[C8,P6,h1,KC]) hw;exact⟨tm',hp',hp2,h2,d,g,j,o⟩
theorem uM {fn:Func}{c:Code}{nt r:Nat}(b:PR.funcs[f]? =some fn)(hc:fn.body=some c)(hr:fn.results= #[.cell r tN])(hn:args.length+(fn.ntmps-args.length)=nt)(j:Go.Xe.isT (ov f)=false)(hw:wkF PR f=false){R:Af->Hp->Prop}(h:YR ov nt c (fill .e 0 args) hp fun tm' hp'=>∃ws q d,tm'.get r=some (.pointer (some ⟨q,0,none⟩))/\hp'.m.get q=some (.cells d 6 tN 6)/\d6 d 0 6=some ws/\R ws hp'):∃ws hp' hp2,R ws hp'/\A4 PR ov f args hp (.agg ws.toArray) hp2/\hp2.nx=hp'.nx/\(∀i,hp'.m.get i≠some .dfr->hp2.m.get i=hp'.m.get i)/\l9 hp hp2:=by
 obtain⟨tm',hp',k,ws,q,d,h1,h2,h3,h4⟩:=h;subst hn;obtain⟨hp2,o,p,s,t⟩:=bK b hc j k (.inr rfl) (fun a same=>by
  have g:a.m.get q=some (.cells d 6 tN 6):=by grind
  have:=aT (nx:=a.nx) g rfl (by omega) h3;rw[hr];simp only[C8,P6,h1,KC];rw[show B0 PR a tN (.pointer (some ⟨q,0,none⟩))=some (.agg ws.toArray)from this]) hw
 exact⟨ws,hp',hp2,h4,o,p,s,t⟩
end
variable {l:List Att}
theorem Jp {F:FB}{v:Aw}(h:PV PR F (.sl tAt) v (.lst (l.map Att.row))):(v= .slice none 0 0/\l=[])\/(v= .slice (some ⟨0,0,some 0⟩) 0 unk/\l=[])\/ ∃i o c b cs n z,v= .slice (some ⟨i,o,none⟩) l.length c/\F i=some b/\rdC b=some (cs,n,z)/\o+l.length*2<=n/\ ∀(j:Nat) a,l[j]? =some a->AtC a cs (o+j*2):=by
 generalize t:l.map Att.row=L at h;have r:L.length=l.length:=by grind
 cases h with
 |nils=>grind|vague=>grind|sl e i o c b cs n z p x hF hb hc hn hz hr hx hp=>
  have m:z=2:=by rw[hz,It];rfl
  subst m;refine .inr (.inr ⟨i,o,c,b,cs,n,_,by grind,hF,hb,by omega,fun j a ha=>?_⟩);have d:L[j]? =some a.row:=by grind
  have h0:=hx j 0 a.row _ d rfl;have h1:=hx j 1 a.row _ d rfl;have s:=hp j 0 a.row .str _ d rfl rfl;have p1:=hp j 1 a.row .str _ d rfl rfl;cases g:x j 0<;>rw[g]at s<;>cases s;cases k:x j 1<;>rw[k]at p1<;>cases p1;exact⟨by grind,by grind⟩
def n8 (l:List Att):Af:=l.flatMap fun a=>[.string ⟨a.n.toArray⟩,.string ⟨a.v.toArray⟩]
def dG (l:List Att):(n8 l).length=l.length*2:=by
 induction l with
 |nil=>rfl|cons a l b=>simp only[n8,List.flatMap_cons,Kn,KE,LP]at b⊢;omega
def dF :∀ {l:List Att} {j:Nat} {a:Att},l[j]? =some a->(n8 l)[j*2]? =some (.string ⟨a.n.toArray⟩)/\(n8 l)[j*2+1]? =some (.string ⟨a.v.toArray⟩)
 |a::l,0,b,h=>by simp at h;subst h;exact⟨rfl,rfl⟩|a::l,j+1,b,h=>by have:=dF (by simpa using h);rw[show(j+1)*2=j*2+2 by omega];exact⟨this.1,by exact this.2⟩
def dH (l:List Att):(n8 l).all Value.oneCell'=true:=by
 induction l with
 |nil=>rfl|cons a l b=>unfold n8 at b⊢;rw[List.flatMap_cons,List.all_append,b];rfl
variable {cs:Ao}
theorem hP {o:Nat}(h:∀(j:Nat) a,l[j]? =some a->AtC a cs (o+j*2)):d6 cs o (l.length*2)=some (n8 l):=by
 rw[<-dG];refine i8 fun j hj=>?_;rw[dG]at hj;obtain⟨a,ha⟩:∃a,l[j/2]? =some a:=⟨_,JX (by omega)⟩
 obtain⟨h1,h2⟩:=dF ha;obtain⟨k1,k2⟩:=h _ a ha;grind
theorem sY {o:Nat}(h:d6 cs o (l.length*2)=some (n8 l))(j:Nat)(a:Att)(ha:l[j]? =some a):AtC a cs (o+j*2):=by obtain⟨_,h2⟩:=g9 h;obtain⟨k1,k2⟩:=dF ha;have hj:=(JO.1 ha).1;exact⟨by grind,by grind⟩
noncomputable def ρa :Go.Shelf.Ren:=⟨fun n=>bif Nat.beq n 27 then 89 else bif Nat.beq n 28 then 90 else n,fun t=>bif Nat.beq t 22 then 25 else t,fun g=>g⟩
noncomputable def iea :Bb:=(PR.info? tAt).getD default
def zvA :Aw:= .agg #[.string ⟨#[]⟩,.string ⟨#[]⟩]
def mz :PR.info? tAt=some iea:=by kernel_rfl
def hG :iea.size=2:=by kernel_rfl
def cloA :yi PR 80 ρa tAt iea zvA where
 fn:=⟨X3 PR 80,rfl,rfl,rfl,rfl⟩
 t22:=rfl
 ty:=mz
 zero:=rfl
 cst:=rfl
 zl:=rfl
 by_:=Lq rfl
noncomputable def ρn :Go.Shelf.Ren:=⟨fun n=>bif Nat.beq n 27 then 110 else bif Nat.beq n 28 then 111 else n,fun t=>bif Nat.beq t 22 then 26 else t,fun g=>g⟩
noncomputable def ien :Bb:=(PR.info? tN).getD default
def zvN :Aw:= .agg #[.int .u8 0,.string ⟨#[]⟩,.string ⟨#[]⟩,.slice none 0 0,.string ⟨#[]⟩,.slice none 0 0]
def wF :PR.info? tN=some ien:=by kernel_rfl
def dO :ien.size=6:=by kernel_rfl
def cloN :yi PR 92 ρn tN ien zvN where
 fn:=⟨X3 PR 92,rfl,rfl,rfl,rfl⟩
 t22:=rfl
 ty:=wF
 zero:=rfl
 cst:=rfl
 zl:=rfl
 by_:=Lq rfl
section
variable {ov :Aa}{hp hp':Hp}
structure New (hp hp':Hp):Prop where
 nx:hp.nx<=hp'.nx
 old:∀j,j<hp.nx->hp'.m.get j=hp.m.get j
def New.keeps (h:New hp hp'):l9 hp hp':=⟨h.nx,fun r hr h0=>by rw[h.old r hr];exact h0⟩
def New.trans {a b c:Hp}(h:New a b)(k:New b c):New a c:=⟨KS h.nx k.nx,fun j hj=>by rw[k.old j (KO hj h.nx),h.old j hj]⟩
variable {n:Nat}
def mg {c:Nat}(hn:n<=67108864)(h:n=0/\c=0\/c=c8 n 0):wd n c:=by
 rcases h with⟨rfl,rfl⟩|rfl
 ·exact .inl ⟨by decide,rfl,hn⟩
 ·exact .inr ⟨n,rfl,hn,hn⟩
variable {v:Aw}
theorem AQ (k:Go.Xe.isT (ov 80)=false){F:FB}{l:List Att}(hF:FH F hp)(h:PV PR F (.sl tAt) v (.lst (l.map Att.row)))(hl:l.length<=1000):∃v' hp' io ct,A4 PR ov 80 [v] hp v' hp'/\New hp hp'/\L9 hp'.m.get tAt 2 l.length v' io 0 ct/\(∀(j:Nat) a,l[j]? =some a->AtC a ct (0+j*2))/\ ∀j∈io.toList,hp.nx<=j/\j<hp'.nx:=by
 have nw:wkF PR 80=false:=rfl;have d:∀(a:Addr) c,v= .slice (some a) l.length c->(∀hp1:Hp,(∀j,j<hp.nx->hp1.m.get j=hp.m.get j)->j2 hp1 2 v=some (l.length,n8 l))-> ∃v' hp' io ct,A4 PR ov 80 [v] hp v' hp'/\New hp hp'/\L9 hp'.m.get tAt 2 l.length v' io 0 ct/\(∀(j:Nat) a,l[j]? =some a->AtC a ct (0+j*2))/\ ∀j∈io.toList,hp.nx<=j/\j<hp'.nx:=by intro a c e hx;subst e;obtain⟨b,c',hp',ct,s,w,x,t,p,r,u⟩:=qn (C:=fun _=>True) cloA (by omega) hx (dG l) (dH l);rw[hG]at p r;refine⟨_,hp',some b,ct,Y8 (fun _=>trivial) k (s),⟨by omega,t⟩,.inr ⟨b,c',_,rfl,rfl,mg (by omega) u,p,by omega⟩,sY r,fun j hj=>?_⟩;grind
 rcases Jp h with⟨rfl,rfl⟩| ⟨rfl,rfl⟩| ⟨i,o,c,b,cs,n,z,rfl,h1,h2,h3,h4⟩
 ·refine⟨_,hp,none,.e,Y8 (C:=fun _=>True) (fun _=>trivial) k (vK cloA 0 0),⟨Kj _,fun _ _=>rfl⟩,.inl ⟨rfl,rfl,rfl⟩,fun j a h=>by grind,fun j h=>by grind⟩
 ·exact d _ _ rfl fun hp1 _=>rfl
 ·refine d _ _ rfl fun hp1 hs=>?_;obtain⟨k1,k2⟩:=hF i b h1;have g:=JS h3;simp only[j2,hs i k2,k1,h2,g,Kc,hP h4]
def nU :PR.underlying 25=some (.slice tAt):=by kernel_rfl
abbrev lF :Az:=79
def l_fn :PR.funcs[lF]? =some Go.Proofs.Tryz.f79:=by kernel_rfl
def D5 {tm:Ao}(h:cst v=true)(call:c7):xop PR call tm hp (.assign (.const v))=some (v,hp):=by simp only[b9,f7,a9,h,Kc,c9]
variable {q:Ar}
def kV {tm:Ao}{t e:Ay}(ht:PR.underlying t=some (.slice e)){x l c:Nat}{b:Array Ay}(hx:tm.get x=some (.slice q l c))(a:b.toList=[t])(call:c7):xop PR call tm hp (.call ⟨.builtin .len,#[.tmp x],b⟩)=some (.int .i64 l,hp):=by have h:V3 hp PR t (.slice q l c)=some (.int .i64 l):=gI ht q l c;simp only[b9,f7,W3,a9,hx,KC,l8,a,h,c9]
theorem JJ {tm:Ao}{t e:Ay}{ie:Bb}(ht:PR.underlying t=some (.slice e))(hi:PR.info? e=some ie){x y w c:Nat}(hq:q=none/\n=0/\c=0\/ ∃i o,q=some ⟨i,o,none⟩/\wd n c)(hx:tm.get x=some (.slice q n c))(hy:tm.get y=some (.int .i64 n))(hw:tm.get w=some (.int .i64 n))(call:c7):xop PR call tm hp (.slice t (.tmp x) none (some (.tmp y)) (some (.tmp w)))=some (.slice q n n,hp):=by
 have hn:=F6 (Kj n);simp only[b9,f7,cY,a9,hx,hy,hw,KC];rcases hq with⟨rfl,rfl,rfl⟩| ⟨i,o,rfl,hc⟩
 ·simp only[i9,ht,hi];rfl
 ·simp only[i9,ht,hi];rcases hc with⟨h1,rfl,h3⟩| ⟨lo,rfl,h2,h3⟩
  ·rw[Xe.ble_f (by omega),Ke,JS (Kj _),Kc];simp only[p9,hn,KG,KC];grind
  ·have hm:=F6 (Lg lo n);rw[JS (j1 lo 0),Kc,G2 E6,JS (Nat.max_le.2 ⟨h2,h3⟩),Kc];simp only[p9,hm,hn,KG,KC];grind
theorem Dh (b:Go.Xe.isT (ov lF)=false){io:Ai}{ct:Ao}(h:L9 hp.m.get tAt 2 n v io 0 ct):∃v' hp',A4 PR ov lF [v] hp v' hp'/\hp'.nx=hp.nx/\l9 hp hp'/\(∀j,hp.m.get j≠some .dfr->hp'.m.get j=hp.m.get j)/\L9 hp'.m.get tAt 2 n v' io 0 ct:=by
 obtain⟨q,c,rfl⟩:=h.sl;have hq:q=none/\n=0/\c=0\/ ∃i o,q=some ⟨i,o,none⟩/\wd n c:=by rcases h<;>grind
 obtain⟨tm',hp',hp2,rfl,d,e,g,k⟩:=lN (hp:=hp) (args:=[.slice q n c]) (Q:=fun _ hp1=>hp1=hp) (c:=Go.Proofs.Tryz.f79.body.getD .skip) l_fn rfl rfl (nt:=9) (r:=2) rfl b rfl (by
  refine .seq (.region (.o (D5 rfl) (.nil ⟨.refl _,.seq (.region (.mv rfl rfl rfl rfl (.mv rfl rfl rfl rfl (.o (kV nU rfl rfl) (.mv rfl rfl rfl rfl (.o (kV nU rfl rfl) (.o (JJ nU mz hq rfl rfl rfl) (.asg rfl rfl rfl rfl (.nil ⟨.refl _,.ret ⟨rfl,rfl⟩⟩)))))))))⟩)))
  )
 refine⟨_,hp2,d,e,k,g,?_⟩;rcases h with⟨h1,h2,h3⟩| ⟨i,c',N,h1,h3,h4,h5,a⟩
 ·cases h3;exact .inl ⟨rfl,h2,rfl⟩
 ·cases h3;exact .inr ⟨i,n,N,h1,rfl,.inl ⟨by rcases h4 with⟨_,_,h⟩| ⟨_,_,_,h⟩<;>unfold unk<;>omega,rfl,by rcases h4 with⟨_,_,h⟩| ⟨_,_,_,h⟩<;>exact h⟩,by grind,a⟩
end
end Go.D
