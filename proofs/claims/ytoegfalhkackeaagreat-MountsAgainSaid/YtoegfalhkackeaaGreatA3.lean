/- Trees: plain lemmas; the conditions of named, text and alone hold.
  Conditions: none. -/
import Derived.Test.YtoegfalhkackeaaGreatA2
set_option linter.all false
namespace Go.D
open Go Go.Xe Go.Sx
variable {s:Str}
theorem rX {k:Int}(h0:0<=k)(h1:k<(s.length:Int)):∃b,s[k.toNat]? =some b/\byteAt s k=b.toNat:=by obtain⟨b,hb⟩:=Sx.get_at h0 h1;refine⟨b,hb,?_⟩;unfold byteAt;grind
variable {p:UInt8->Bool}{k:Nat}{b:UInt8}
theorem mS (h:s[k]? =some b)(hb:p b=false):s.all p=false:=by grind
theorem mT {k:Int}(h:s[k.toNat]? =some b)(h0:0<=k)(a:(s.take k.toNat).all p=true)(hb:p b=true):(s.take (k+1).toNat).all p=true:=by rw[fA h0,Z9 h,List.all_append,a];grind
def DH (h:(97<=b.toNat/\b.toNat<=122)\/(48<=b.toNat/\b.toNat<=57)):kL b=true:=by unfold kL;simp;exact h
def yQ (h:¬((97<=b.toNat/\b.toNat<=122)\/(48<=b.toNat/\b.toNat<=57))):kL b=false:=by
 cases hb:kL b with
 |false=>rfl|true=>unfold kL at hb;simp at hb;exact absurd hb h
def zQ (h:s.all kL=false):v5 s=false:=by unfold v5;rw[h];simp
theorem jO (h:s.length<1\/16<s.length):v5 s=false:=by unfold v5;grind
theorem zR (h0:1<=s.length)(h1:s.length<=16)(h:s.all kL=true):v5 s=true:=by unfold v5;grind
def bQ {k:Int}(h:(s.take k.toNat).all p=true)(hk:(s.length:Int)<=k):s.all p=true:=by rwa[Uk (by omega)]at h
def vcNamed_ok :vcNamed:=by
 unfold vcNamed vcNamed0 Nd;intro s hp;simp only[ln,I64,E3,rB,MQ,J9,Ux,UG];refine TP (fun h=>(jO (.inl (by omega))).symm) fun h=>TP (fun h2=>(jO (.inr (by omega))).symm) fun h2=>TP ⟨by omega,by omega,rfl⟩ fun _ k ⟨k0,k1,k2⟩=>TP (fun hk=>?_) fun hk=>?_
 ·obtain⟨b,hb,a⟩:=rX k0 hk
  repeat' first| (refine TP ?_ ?_)|intro _
  all_goals first|omega|exact(zQ (mS hb (yQ (by omega)))).symm|exact mT hb k0 k2 (DH (by omega))
 exact(zR (by omega) (by omega) (bQ k2 (by omega))).symm
def IX (h0:32<=b.toNat)(h1:b.toNat<=126):Ey b=true:=by unfold Ey;rw[decide_eq_true h0,decide_eq_true h1];rfl
theorem vP (h:b.toNat<32\/126<b.toNat):Ey b=false:=by unfold Ey;grind
def wD (h:s.all Ey=false):E8 s=false:=by unfold E8;rw[h];simp
def ED (h:64<s.length):E8 s=false:=by unfold E8;rw[UJ (by omega)];rfl
def EE (h1:s.length<=64)(h:s.all Ey=true):E8 s=true:=by unfold E8;rw[decide_eq_true h1,h];rfl
theorem Dd (h:s[k]? =some b):(⟨s.toArray⟩:ByteArray).get! (k+0)=b:=by show s.toArray[k+0]! =b;grind
theorem GE (h:s[k]? =some b)(hb:b.toNat<128):runeAt s k=b.toNat/\runeW s k=1:=by
 have a:Utf8.decode ⟨s.toArray⟩ k=(b.toNat,1):=by simp only[Utf8.decode,Dd h];grind
 unfold runeAt runeW;grind
theorem GD (h:s[k]? =some b)(hb:128<=b.toNat):128<=runeAt s k:=by
 have a:128<=(Utf8.decode ⟨s.toArray⟩ k).1:=by simp only[Utf8.decode,Dd h];rw[TH (by omega)];split;split;grind;decide;split;split;grind;decide;split;split;grind;decide;decide
 unfold runeAt;grind
def vcText_ok :vcText:=by
 unfold vcText Nd;intro s hp;simp only[ln,L7,vN,stMu,J9,Ux,UG,UC,Uf];refine TP (fun h=>(ED (by omega)).symm) fun h=>TP ⟨by omega,by omega,rfl⟩ fun _ k ⟨k0,k1,k2⟩=>TP (fun hk=>?_) fun hk=>(EE (by omega) (bQ k2 (by omega))).symm;obtain⟨b,hb,f⟩:=rX k0 hk;have e:((k.toNat:Nat):Int)=k:=by omega
 have d:decide (k<0)=false:=UJ (by omega);rw[d];by_cases a:b.toNat<128
 ·obtain⟨r1,c⟩:=GE hb a;rw[e]at r1 c;rw[r1,c]
  repeat' first| (refine TP ?_ ?_)|intro _
  all_goals first|omega|exact(wD (mS hb (vP (by omega)))).symm|exact mT hb k0 k2 (IX (by omega) (by omega))
 ·have r1:=GD hb (by omega);rw[e]at r1
  repeat' first| (refine TP ?_ ?_)|intro _
  all_goals first|omega|exact(wD (mS hb (vP (by omega)))).symm
def lt_irrefl :∀a:Str,lt a a=false
 | []=>rfl|a::x=>by have:=lt_irrefl x;unfold lt at this⊢;simp[Op.bytesLess,this]
theorem nI :∀ {a b c:Str},lt a b=true->lt b c=true->lt a c=true
 |_,[],_,h,_=>by unfold lt at h;cases‹Ae› <;>simp[Op.bytesLess]at h
 |_,_::_,[],_,h=>by unfold lt at h;simp[Op.bytesLess]at h| [],_::_,_::_,_,_=>rfl|a::x,b::y,c::z,h,k=>by unfold lt at h k⊢;simp only[Op.bytesLess,UK,TI,Tl,beq_iff_eq]at h k⊢;rcases h with h| ⟨rfl,h⟩;grind;rcases k with k| ⟨rfl,k⟩;grind;exact .inr ⟨rfl,nI h k⟩
theorem FX :∀ {a b:Str},lt a b=false->a≠b->lt b a=true
 | [],[],_,h=>absurd rfl h| [],b::y,h,_=>by unfold lt at h;simp[Op.bytesLess]at h|a::x,[],_,_=>rfl|a::x,b::y,h,k=>by unfold lt at h⊢;simp only[Op.bytesLess,Vl,Uj,Bool.and_eq_false_iff,UK,TI,Tl,beq_iff_eq]at h⊢;by_cases e:a=b;subst e;refine .inr ⟨rfl,FX (by rcases h.2 with h2|h2;simp at h2;exact h2) fun e=>k (by grind)⟩;grind
def Mw {a b:Str}(h:lt a b=true):lt b a=false:=by
 cases hb:lt b a with
 |false=>rfl|true=>have:=nI h hb;rw[lt_irrefl]at this;cases this
def Q3 (s:a9):s.row=[.int s.k,.str s.t,.str s.y,.lst (s.a.map Att.row),.str s.x,.lst (rows s.c)]:=by
 have h:∀l:List a9,a9.rows l=rows l:=fun l=>by induction l with|nil=>rfl|cons a l d=>simp[a9.rows,rows,d]
 cases s;simp[a9.row,a9.k,a9.t,a9.y,a9.a,a9.x,a9.c,h]
theorem bZ {a b:List Att}(h:a.map Att.row=b.map Att.row):a=b:=by
 have e:∀l:List Att,(l.map Att.row).map atOf=l:=fun l=>by rw[List.map_map];exact List.map_id' l
 grind
mutual
def sG :∀ {s t:a9},s.row=t.row->s=t
 | .mk ..,.mk ..,h=>by simp only[a9.row,UD,Dat.int.injEq,Dat.str.injEq,Dat.lst.injEq,UG]at h;obtain⟨rfl,rfl,rfl,h1,rfl,h2⟩:=h;rw[bZ h1,rows_inj h2]
def rows_inj :∀ {l m:List a9},a9.rows l=a9.rows m->l=m
 | [],[],_=>rfl| [],_::_,h=>by cases h
 |_::_,[],h=>by cases h
 |s::l,t::m,h=>by simp only[a9.rows,UD]at h;rw[sG h.1,rows_inj h.2]
end
def pT {s t:a9}:(s.row=t.row)=(s=t):=propext ⟨sG,fun h=>h▸rfl⟩
theorem jF {l m:List a9}:(rows l=rows m)=(l=m):=propext ⟨fun h=>by
 induction l generalizing m with
 |nil=>simp_all|cons a l c=>cases m with|nil=>cases h|cons b m=>simp at h;rw[sG h.1,c h.2],fun h=>h▸rfl⟩
def ON (l:List Att):ats (l.map Att.row)=l:=by unfold ats;rw[List.map_map];exact List.map_id' l
def vZ {s t:a9}(h0:s.k=t.k)(h1:s.t=t.t)(h2:s.y=t.y)(h3:s.a=t.a)(h4:s.x=t.x)(h5:s.c=t.c):s=t:=by cases s;cases t;subst h0 h1 h2 h3 h4 h5;rfl
def u9 {s c:a9}:isT s c.k c.t c.y (c.a.map Att.row) c.x (rows c.c)=(s=c):=propext ⟨fun⟨h0,h1,h2,h3,h4,h5⟩=>vZ h0.symm h1.symm h2.symm (bZ h3).symm h4.symm (jF.mp h5).symm,fun h=>by subst h;exact⟨rfl,rfl,rfl,rfl,rfl,rfl⟩⟩
def t0 (c:a9):c.row.getD 0 (.int 0)= .int c.k:=by rw[Q3];rfl
def t1 (c:a9):c.row.getD 1 (.int 0)= .str c.t:=by rw[Q3];rfl
def t2 (c:a9):c.row.getD 2 (.int 0)= .str c.y:=by rw[Q3];rfl
def t3 (c:a9):c.row.getD 3 (.int 0)= .lst (c.a.map Att.row):=by rw[Q3];rfl
def t4 (c:a9):c.row.getD 4 (.int 0)= .str c.x:=by rw[Q3];rfl
def t5 (c:a9):c.row.getD 5 (.int 0)= .lst (rows c.c):=by rw[Q3];rfl
def LP (r:Ar)(j:Nat):D6 [r] 0 j=r.getD j (.int 0):=rfl
def part1 (r:Ar):pQ [r] 0 1=[r]:=rfl
def G5 {l:List a9}{i:Int}{c:a9}(h:l[i.toNat]? =some c)(j:Nat):D6 (rows l) i j=c.row.getD j (.int 0):=i9 h j
def eI (l:List a9):nH (rows l)=l.map a9.y:=by unfold nH rows;rw[List.map_map];exact List.map_congr_left fun c _=>by simp only[Function.comp,t2,A6]
theorem MZ {l:List a9}{i:Int}{c:a9}(h:l[i.toNat]? =some c):pQ (rows l) i 1=[c.row]:=by
 unfold pQ rows;have:=(Tn.1 h)
 rw[List.drop_eq_getElem_cons (by grind)];grind
