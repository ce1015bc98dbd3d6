/- keep: the tree that it makes; its first loop, in the executor.
  Conditions: none. -/
import Derived.Test.YtcjhhnoaoldcmaaM6
import Derived.Test.YtcjhhnoaoldcmaaA5
import Derived.Test.YtcjhhnoaoldcmaaC5
set_option linter.unusedVariables false
set_option linter.unusedSimpArgs false
noncomputable section
namespace Go.D
open Go Go.Xe Go.Sx
open Go.C36 (row)
def noT :Tree:= .mk 0 [] [] [] [] []
def leftF (oc:List Tree)(m:List Int):Nat->List Tree
 |0=>[]
 |n+1=>leftF oc m n++(if(n:Int)∈m then []else(oc.drop n).take 1)
mutual
def keepT :Tree->Tree->Tree
 | .mk k t y a x c,o=>.mk k t y a x (keepL c o.c (mtch o.c c)++leftF o.c (mtch o.c c) o.c.length)
def keepL :List Tree->List Tree->List Int->List Tree
 | [],_,_=>[]
 |s::l,oc,m=>(if 0<=m.headD (-1)then keepT s (oc.getD (m.headD (-1)).toNat noT)else s)::keepL l oc m.tail
end
theorem keepL_len :∀(l oc:List Tree) (m:List Int),(keepL l oc m).length=l.length
 | [],_,_=>rfl
 |s::l,oc,m=>by simp[keepL,keepL_len l]
theorem keepL_get :∀ {l oc:List Tree} {m:List Int} {j:Nat} {s:Tree},l[j]? =some s->(keepL l oc m)[j]? =some (if 0<=m.getD j (-1)then keepT s (oc.getD (m.getD j (-1)).toNat noT)else s)
 | [],oc,m,j,s,h=>by simp at h
 |a::l,oc,m,0,s,h=>by
  simp only[bB7,bA1]at h
  subst h
  unfold keepL
  simp only[bB7,bA1]
  cases m<;>rfl
 |a::l,oc,m,j+1,s,h=>by
  simp only[bB2]at h
  unfold keepL
  rw[bB2,keepL_get h]
  cases m<;>rfl
theorem keepT_eq (t o:Tree):keepT t o= .mk t.k t.t t.y t.a t.x (keepL t.c o.c (mtch o.c t.c)++leftF o.c (mtch o.c t.c) o.c.length):=by
 obtain⟨k,t,y,a,x,c⟩:=t
 unfold keepT
 rfl
theorem pv_row {F : FB} {l : List Tree} {v : Value} (h : PV PR F (.sl tN) v (.lst (rows l))) {j : Nat} {s : Tree} (hj : l[j]? = some s) :
  ∃y oc B t u A G r,v= .slice (some ⟨y,oc,none⟩) l.length B/\F y=some t/\rdC t=some (u,A,G)/\oc+j*6+6<=A/\f9 u (oc+j*6) 6=some r/\r.length=6/\RN F s (fun q=>r[q]?):=by
 generalize w:rows l=L at h
 have a:L.length=l.length:=by rw[<-w];simp[rows]
 have E:=(bA4.1 hj).1
 cases h with
 |nils=>simp only[bJ8]at a;omega
 |vague=>simp only[bJ8]at a;omega
 |sl e i o c b cs n z p x hF hb hc hn hz hr hx hp=>
  have m:z=6:=by rw[hz,kf_N];rfl
  subst m
  have f:L[j]? =some s.row:=by rw[<-w];simp[rows,hj]
  have C:(j+1)*6<=L.length*6:=bB4 _ (by omega)
  have D:∀q,q<6->cs.get (o+j*6+q)=some (x j q):=fun q hq=>hx j q s.row _ f (bB3 (by rw[nrow_len];exact hq))
  have hl:f9 cs (o+j*6) 6=some ((List.range 6).map (x j)):=by
   have:=C0 (c:=cs) (vs:=(List.range 6).map (x j)) (o:=o+j*6) (fun q hq=>by
    simp only[bC0,List.length_range]at hq
    rw[D q hq]
    simp[hq])
   simpa using this
  refine⟨i,o,c,b,cs,n,_,_,by rw[a],hF,hb,by omega,hl,by simp,.of_cells fun k d kd hd hk=>?_⟩
  have g:k<6:=by have:=(bA4.1 hd).1;rw[nrow_len]at this;exact this
  exact⟨x j k,by simp[g],hp j k s.row kd d f hd hk⟩
theorem int_at {F:FB}{m:List Int}{cs:T Value}{o n:Nat}(h:j7 PR F 3 1 o n cs (m.map row)){j:Nat}{x:Int}(hj:m[j]? =some x):o+j*1+1<=n/\cs.get (o+j*1)=some (.int .i64 x):=by
 obtain⟨h1,_,_,h4⟩:=h
 have a:=(bA4.1 hj).1
 simp only[bC0]at h1
 obtain⟨v,b,hp⟩:=h4 j 0 [.int x] (.int x) (by simp[hj,row]) rfl
 have:=hp _ (by rw[kf_I];rfl)
 cases this
 exact⟨by omega,by simpa using b⟩
end Go.D
