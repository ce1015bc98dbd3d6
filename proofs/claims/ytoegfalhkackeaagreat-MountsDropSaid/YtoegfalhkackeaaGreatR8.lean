/- The reference's DOM: the conditions of Create, Apply and Attr hold.
  Conditions: none. -/
import Derived.Test.YtoegfalhkackeaaGreatR5
set_option linter.all false
noncomputable section
namespace Go.D
open Go Go.Xe Go.Sx
section
variable {D :DM}{L F L' F':a8}{i g k:Int}{K c:Nat}{cs cs':Ak}{c0 c1 c2 c3 c4 c5 c6 c7:Int}{t x s:Str}
def crS (L:a8)(i g k:Int)(t x:Str):a8:=a9 (a9 (a9 (a9 (a9 (a9 (a9 (a9 (a9 (a9 (a9 L i 0 (.i g)) i 1 (.b true)) i 2 (.i k)) i 3 (.s t)) i 4 (.l [])) i 5 (.s x)) i 6 (.i 0)) i 7 (.i 0)) i 8 (.b false)) i 9 (.i (-1))) i 10 (.l [])
variable {X:List Sl}
def LK {a gn:Nat}{so:Sl}(h:X[a]? =some so)(hg:so.g=gn):crS (X.map Sl.row) a gn k t x=(X.modify a λs=>⟨s.g,true,C5 k t x⟩).map Sl.row:=by unfold crS a9;simp only[B6,TK];apply List.ext_getElem?;intro j;simp only[l8,TU];by_cases e:a=j;subst e;simp only[UG,h,TO];congr 1;rw[hg];unfold Sl.row;split<;>rfl;simp[e]
def ng {a:Nat}{so:Sl}{v:Int}(h:X[a]? =some so):cI (a9 (X.map Sl.row) a 0 (.i v)) a 0=v:=by
 unfold cI z8 a9;have e:((X.map Sl.row).modify a λr=>r.set 0 (.i v)).getD a []=so.row.set 0 (.i v):=by rw[Tz,l8,Tp rfl,TU,h];rfl
 rw[TK,e];show((so.row.set 0 (.i v)).getD 0 (.i 0)).toInt=v;unfold Sl.row;split<;>rfl
def AE (hk:k=1\/k=2)(ok:¬((k=1/\B3 t=false)\/(k=2/\H9 x=false)))(ht:t=if k=1 then s else [])(hx:x=if k=1 then []else s)(hp:gR L F [c0,c1,c2,c3,c4,c5,c6,c7]):I64 (c0+1)/\I64 (c1+1)/\L.length<=1000/\(0<ln F->0<=cI F 0 0/\cI F 0 0<ln L/\L3 (.l L::.l F::J8 c0 c1 c2 c3 c4 c5 c6 c7 [.i k,.s s]) (.l (crS L (cI F 0 0) (cI L (cI F 0 0) 0) k t x)::.l (pQ F 1 (ln F+ -1))::J10 (c0+1) (c1+1) c2 c3 c4 c5 c6 c7 (IntKind.wrap .u32 (cI F 0 0)) (cI (a9 L (cI F 0 0) 0 (.i (cI L (cI F 0 0) 0))) (cI F 0 0) 0) [.i 0]))/\(¬0<ln F->L3 (.l L::.l F::J8 c0 c1 c2 c3 c4 c5 c6 c7 [.i k,.s s]) (.l (crS (L++L8) (ln L) (cI (L++L8) (ln L) 0) k t x)::.l F::J10 (c0+1) (c1+1) c2 c3 c4 c5 c6 c7 (IntKind.wrap .u32 (ln L)) (cI (a9 (L++L8) (ln L) 0 (.i (cI (L++L8) (ln L) 0))) (ln L) 0) [.i 0])):=by
 obtain⟨D,K,d,w⟩:=hp;have lim:=w.lim;have wr:∀a:Nat,a<=1000->IntKind.wrap .u32 (a:Int)=a:=λa h=>P4 (by simp[IntKind.min,IntKind.signed]) (by simp[IntKind.max,IntKind.signed,IntKind.bits];omega);have cre:∀D:DM,I6 D k (if k=1 then s else []) (if k=1 then []else s)=(((D.take (C5 k t x)).1.cnt 0).cnt 1,((D.take (C5 k t x)).2:Int),((D.take (C5 k t x)).1.gen (D.take (C5 k t x)).2:Int),0):=λD=>by rw[<-ht,<-hx];unfold I6;rw[Tn ok]
 refine⟨w.i64 (k:=0) (by rw[<-d.2.2];rfl),w.i64 (k:=1) (by rw[<-d.2.2];rfl),d.len w,λhF=>?_,λhF=>?_⟩
 .have un:∀ {D K},Rf D L F [c0,c1,c2,c3,c4,c5,c6,c7]->WF D K-> ∃(a:Nat) (l:Ah) (so:Sl),D.free=a::l/\cI F 0 0=a/\pQ F 1 (ln F+ -1)=l.map z5/\D.L[a]? =some so/\cI L a 0=so.g/\(a:Int)<ln L/\a<=1000:=λ{D K} d w=>by
   obtain⟨rfl,rfl,_⟩:=d;have lim:=w.lim;cases e:D.free with
   |nil=>rw[e]at hF;simp[ln]at hF|cons a l=>
    obtain⟨so,h1,h2⟩:=w.free.2 a (by rw[e];exact List.mem_cons_self);have:=(SW.1 h1).1;refine⟨a,l,so,rfl,rfl,?_,h1,?_,by simp[ln];omega,by omega⟩
    .simp only[pQ,ln,TV,TM,Tm];have:((((l.length+1:Nat):Int)+ -1)).toNat=l.length:=by omega
     rw[this];show((l.map z5).take l.length)=_;exact TT (by simp)
    simp only[cI];rw[d9 (by rw[TK];exact h1),Sl.r0];rfl
  obtain⟨a,l,so,h1,h2,h3,h4,u,v,y⟩:=un d w;rw[h2,h3,u,wr a y];refine⟨by omega,v,λD K d w=>?_⟩;obtain⟨b,m,f,k1,k2,k3,k4,A,B,E⟩:=un d w;have q:b=a:=by omega
  subst q;have r:l=m:=vQ (h3.symm.trans k3);subst r;have n:so.g=f.g:=by omega
  show Rf (I6 D k (if k=1 then s else []) (if k=1 then []else s)).1 _ _ _/\(_,_,(0:Int))=(I6 D k (if k=1 then s else []) (if k=1 then []else s)).2;rw[cre D];have gr:D.grow=D:=by unfold DM.grow;rw[Tn (by simp[k1])]
  have tk:D.take (C5 k t x)=(⟨D.L.modify b λs=>⟨s.g,true,C5 k t x⟩,l,D.C⟩,b):=by unfold DM.take;rw[gr,k1]
  obtain⟨rfl,rfl,hc⟩:=d;rw[tk,LK k4 n.symm];refine⟨⟨rfl,rfl,?_⟩,?_⟩;show _=(D.C.modify 0 _).modify 1 _;rw[<-hc];rfl
  .show _=((b:Int),((DM.gen (⟨_,_,_⟩:DM) b:Nat):Int),(0:Int))
   have hb:(D.L.modify b λs=>(⟨s.g,true,C5 k t x⟩:Sl))[b]? =some ⟨f.g,true,C5 k t x⟩:=by rw[l8,Tp rfl,k4];rfl
   rw[ng k4,n];unfold DM.gen;simp only[hb]
 .refineλD K d w=>?_;have o:D.free=[]:=by
   obtain⟨_,rfl,_⟩:=d;cases e:D.free with
   |nil=>rfl|cons a l=>rw[e]at hF;simp[ln]at hF
  have lim:=w.lim;obtain⟨rfl,rfl,hc⟩:=d;have z:ln (D.L.map Sl.row)=(D.L.length:Int):=by simp[ln]
  have p:D.L.map Sl.row++L8=(D.L++ [(⟨1,false,C5 0 [] []⟩:Sl)]).map Sl.row:=by rw[TQ];rfl
  have gr:D.grow=⟨D.L++ [⟨1,false,C5 0 [] []⟩],[D.L.length],D.C⟩:=by unfold DM.grow;rw[Tp o]
  have tk:D.take (C5 k t x)=(⟨(D.L++ [(⟨1,false,C5 0 [] []⟩:Sl)]).modify D.L.length λs=>⟨s.g,true,C5 k t x⟩,[],D.C⟩,D.L.length):=by unfold DM.take;rw[gr]
  have hb:(D.L++ [(⟨1,false,C5 0 [] []⟩:Sl)])[D.L.length]? =some ⟨1,false,C5 0 [] []⟩:=by simp
  have e0:cI ((D.L++ [(⟨1,false,C5 0 [] []⟩:Sl)]).map Sl.row) D.L.length 0=((1:Nat):Int):=by simp only[cI];rw[d9 (by rw[TK];exact hb),Sl.r0];rfl
  show Rf (I6 D k (if k=1 then s else []) (if k=1 then []else s)).1 _ _ _/\(_,_,(0:Int))=(I6 D k (if k=1 then s else []) (if k=1 then []else s)).2;rw[cre D,p,z,wr _ (by omega),e0,tk,LK hb rfl];refine⟨⟨rfl,by rw[o];rfl,?_⟩,?_⟩;show _=(D.C.modify 0 _).modify 1 _;rw[<-hc];rfl
  .show _=((D.L.length:Int),((DM.gen (⟨_,_,_⟩:DM) D.L.length:Nat):Int),(0:Int))
   have j:((D.L++ [(⟨1,false,C5 0 [] []⟩:Sl)]).modify D.L.length λs=>(⟨s.g,true,C5 k t x⟩:Sl))[D.L.length]? =some ⟨1,true,C5 k t x⟩:=by rw[l8,Tp rfl,hb];rfl
   rw[ng hb];unfold DM.gen;simp only[j]
def pb :lu:=by
 unfold lu;intro L F c0 c1 c2 c3 c4 c5 c6 c7 k s h;obtain⟨hk,hp⟩:=h;have bad:((k=1/\B3 s=false)\/(k=2/\H9 s=false))->du L F c0 c1 c2 c3 c4 c5 c6 c7 k s:=λhb=>by
  unfold du;refine ndt λD K y w=>?_;have:I6 D k (if k=1 then s else []) (if k=1 then []else s)=(D,0,0,1):=by unfold I6;rw[Tp];rcases hb with⟨rfl,h⟩| ⟨rfl,h⟩;exact .inl ⟨rfl,h⟩;exact .inr ⟨rfl,h⟩
  show Rf (I6 D k (if k=1 then s else []) (if k=1 then []else s)).1 _ _ _/\(_,_,(1:Int))=(I6 D k (if k=1 then s else []) (if k=1 then []else s)).2;rw[this];exact⟨y,rfl⟩
 have eqb:∀ {b v:Bool},b=v-> ¬b=true->v=false:=λh h'=>by subst h;simpa using h'
 have n0:∀ {a:Int},0<=a-> ¬a<0:=λh=>by omega
 have n:∀X:a8,0<=ln X:=λX=>by simp only[ln];omega
 refine⟨λe=>ndi trivial λb hb=>⟨λd=>⟨λp=>by omega,λ_=>?_⟩,λd=>bad (.inl ⟨e,eqb hb d⟩)⟩,λe=>⟨λp=>ndi trivial λb hb=>⟨λd=>?_,λd=>bad (.inr ⟨p,eqb hb d⟩)⟩,λp=>absurd (hk.resolve_left e) p⟩⟩
 .have hb:b=B3 s:=hb;obtain⟨m1,o,z,r,u⟩:=AE (k:=k) (t:=s) (x:=[]) (s:=s) hk (by rintro (⟨_,h⟩| ⟨h,_⟩);rw[<-hb,d]at h;cases h;omega) (by rw[Tp e]) (by rw[Tp e]) hp;unfold iq;refine tE hp ⟨λhF=>?_,λhF=>?_⟩;obtain⟨l,f,q⟩:=r hF;refine ndi hF<|ndi (by omega)<|nin<|ndi e<|ndi (n0 l)<|ndi f<|ndi f<|ndi (n0 l)<|ndi f<|ndi f<|ndi m1<|ndi o ⟨λh=>absurd h (n0 l),λ_=>ndi (n0 l)<|ndi f<|ndi f<|nin<|nrn<|ndt q⟩
  .have j:ln L<ln L+1:=by omega
   have m:=n0 (n L);exact nin<|ndi (by simp only[ln];omega)<|nrn<|ndi e<|ndi m<|ndi j<|ndi j<|ndi m<|ndi j<|ndi j<|ndi m1<|ndi o ⟨λh=>absurd h m,λ_=>ndi m<|ndi j<|ndi j<|nin<|nrn<|ndt (u hF)⟩
 .have hb:b=H9 s:=hb;obtain⟨m1,o,z,r,u⟩:=AE (k:=k) (t:=[]) (x:=s) (s:=s) hk (by rintro (⟨h,_⟩| ⟨_,h⟩);omega;rw[<-hb,d]at h;cases h) (by rw[Tn e]) (by rw[Tn e]) hp;unfold ip;refine tE hp ⟨λhF=>?_,λhF=>?_⟩;obtain⟨l,f,q⟩:=r hF;refine ndi hF<|ndi (by omega)<|nin<|ndi e<|ndi (n0 l)<|ndi f<|ndi f<|ndi (n0 l)<|ndi f<|ndi f<|ndi m1<|ndi o ⟨λh=>absurd h (n0 l),λ_=>ndi (n0 l)<|ndi f<|ndi f<|nin<|nrn<|ndt q⟩
  .have j:ln L<ln L+1:=by omega
   have m:=n0 (n L);exact nin<|ndi (by simp only[ln];omega)<|nrn<|ndi e<|ndi m<|ndi j<|ndi j<|ndi m<|ndi j<|ndi j<|ndi m1<|ndi o ⟨λh=>absurd h m,λ_=>ndi m<|ndi j<|ndi j<|nin<|nrn<|ndt (u hF)⟩
end
section
variable {l t d:List Att}{e:Ed}{a:Att}{n v:Str}
def Lv :∀ {l:List Att},bad1 l e=true->e.d=true
 | [],h=>h|b::l,h=>by unfold bad1 at h;split at h;exact Lv h;split at h;cases h;exact h
def BP :∀ {l:List Att},(∀a∈l,a.n≠e.n)->bad1 l e=e.d/\(e.d=false->cF l ⟨e.n,e.v⟩=N8 l e)
 | [],_=>⟨rfl,λh=>by unfold N8 edA;rw[h];rfl⟩
 |b::l,h=>by obtain⟨h1,h2⟩:=BP (l:=l) λa f=>h a (Uc _ f);have hb:=h b List.mem_cons_self;unfold bad1 cF N8;by_cases hl:lt b.n e.n=true;rw[Tp hl,Tp hl,Tn (by rw[uH hl];simp)];exact⟨h1,λc=>by rw[h2 c]⟩;rw[Tn hl,Tn hl,Tn hb,Tn hb,Tp (BM (by simpa using hl) hb)];exact⟨rfl,λc=>by unfold edA;rw[c];rfl⟩
def BW :∀ {t:List Att},Asc ((t++a::d).map Att.n)->a.n=e.n->bad1 (t++a::d) e=false/\N8 (t++a::d) e=t++edA e++d/\cF (t++d) ⟨e.n,v⟩=t++⟨e.n,v⟩::d
 | [],h,hn=>by
  have hl:¬lt a.n e.n=true:=by rw[hn,lt_irrefl];simp
  refine⟨?_,?_,?_⟩;show bad1 (a::d) e=false;unfold bad1;rw[Tn hl,Tp hn];show N8 (a::d) e=_;unfold N8;rw[Tn hl,Tp hn];rfl
  .show cF d ⟨e.n,v⟩=_;cases d with
   |nil=>rfl|cons b d=>have:=(List.pairwise_cons.1 h).1 b.n (by simp);unfold cF;rw[Tp (by rw[<-hn];exact this)];rfl
 |b::t,h,hn=>by
  obtain⟨h1,h2⟩:=List.pairwise_cons.1 h;obtain⟨k1,k2,k3⟩:=BW (t:=t) h2 hn;have hl:lt b.n e.n=true:=by rw[<-hn];exact h1 a.n (by simp)
  refine⟨?_,?_,?_⟩;show bad1 (b::(t++a::d)) e=false;unfold bad1;rw[Tp hl,k1];show N8 (b::(t++a::d)) e=_;unfold N8;rw[Tp hl,k2];rfl;show cF (b::(t++d)) ⟨e.n,v⟩=_;unfold cF;rw[Tn (by show¬lt e.n b.n=true;rw[uH hl];simp),k3];rfl
def tM :cS [e.row] 0 0=e.n/\cB [e.row] 0 1=e.d/\cS [e.row] 0 2=e.v:=⟨rfl,rfl,rfl⟩
def tB {P:List Att->Ed->Prop}:(∀(m:List Att) (e':Ed),l.map Att.row=m.map Att.row->[e.row]=[e'.row]->P m e')↔P l e:=
 ⟨λh=>h l e rfl rfl,λh m e' h1 h2=>by rw[<-T0 h1,<-kP h2];exact h⟩
def ur :uu:=by
 unfold uu;rintro L E ⟨l,e,rfl,rfl,hv,I⟩;have M:ln (l.map Att.row)=(l.length:Int):=by simp[ln]
 have B:=hv.1;have J:ln ([e.row]:a8)=1:=rfl;refine ndi (by omega)<|nin<|nrn<|ndi ⟨by omega,by omega,tB (P:=λl' e'=>((0:Int)=0->l.map Att.row=l.map Att.row)/\((0:Int)=1->bad1 l' e'=false/\l.map Att.row=(N8 l' e').map Att.row))|>.2 ⟨λ_=>rfl,λh=>by omega⟩⟩ λi O hI=>?_;obtain⟨i0,T,hI⟩:=hI;obtain⟨C,G⟩:=hI l e rfl rfl;rw[J];refine⟨λhi=>?_,λhi=>?_⟩
 .have e0:i=0:=by omega
  subst e0;have u:=C rfl;subst u;rw[tM.1,tM.2.1,tM.2.2,M];have f:¬(0:Int)<0:=by omega
  have j:(0:Int)<1:=by omega
  have mu:∀X Y:Ar,gQ X (.i (0+1)::Y)<gQ X (.i 0::Y)\/True:=λ_ _=>.inr trivial;have o:∀m:List Att,bad1 l e=false->m=N8 l e->Sx.Nd (I64 ((0:Int)+1)) (Sx.Nd (lB [.l (l.map Att.row),.l [e.row]] [.i (0+1),.l (m.map Att.row)]) (Sx.Nd (gQ [.l (l.map Att.row),.l [e.row]] [.i (0+1),.l (m.map Att.row)]<gQ [.l (l.map Att.row),.l [e.row]] [.i 0,.l (l.map Att.row)]) True)):=λm h1 h2=>
   ndi (by unfold I64;omega) (ndi ⟨by omega,by omega,tB (P:=λl' e'=>(((0:Int)+1)=0->m.map Att.row=l.map Att.row)/\(((0:Int)+1)=1->bad1 l' e'=false/\m.map Att.row=(N8 l' e').map Att.row))|>.2 ⟨λh=>by omega,λ_=>⟨h1,by rw[h2]⟩⟩⟩ (ndt (by show(1-((0:Int)+1)).toNat<(1-(0:Int)).toNat;omega)))
  refine ndi f<|ndi j<|ndi ⟨l,rfl,B⟩ λr hr=>?_;obtain⟨r0,r1,hr⟩:=hr;have hr:=hr l rfl;have split:¬r<0-> ∃t a d,l=t++a::d/\a.n=e.n/\pQ (l.map Att.row) 0 r=t.map Att.row/\pQ (l.map Att.row) (r+1) ((l.length:Int)-(r+1))=d.map Att.row/\(r:Int)+1<=l.length:=λhn=>by obtain⟨r0,a,h1,h2⟩:=hr.resolve_left λh=>hn h.1;obtain⟨hlt,h1⟩:=SW.1 h1;refine⟨l.take r.toNat,a,l.drop (r.toNat+1),?_,h2,?_,?_,by omega⟩;rw[<-h1,<-List.drop_eq_getElem_cons hlt,UI];rw[O9];simp;rw[O9,show(r+1).toNat=r.toNat+1 by omega,TT (by simp;omega)]
  refine ndi f<|ndi j ⟨λk=>⟨λhn=>ndt ?_,λhn=>?_⟩,λk=>⟨λhn=>?_,λhn=>?_⟩⟩
  .obtain⟨h1,h2⟩:=hr.resolve_right λh=>by omega
   refine tB (P:=λl e=>([]:a8)=(apF l e).1.map Att.row/\(11:Int)=(apF l e).2)|>.2 ?_;unfold apF;rw[Tp (by rw[(BP h2).1];exact k)];exact⟨rfl,rfl⟩
  .obtain⟨t,a,d,c,x,y,z,S⟩:=split hn;rw[y,z];have w:ln (t.map Att.row)=(t.length:Int):=by simp[ln]
   have Q:ln (d.map Att.row)=(d.length:Int):=by simp[ln]
   have R:l.length=t.length+(d.length+1):=by rw[c];simp
   obtain⟨q,s,_⟩:=BW (v:=[]) (by rw[<-c];exact hv.2.2) x;refine ndi hn<|ndi hn<|ndi (by omega)<|ndi (by omega)<|ndi (by unfold I64;omega)<|ndi (by omega)<|ndi (by omega)<|nin<|nin<|ndi (by omega)<|nrn<|ndi f<|ndi j<|ndi k ?_;have:=o (t++d) (by rw[c];exact q) (by rw[c,s];unfold edA;rw[k];simp);rw[TQ]at this;exact ndi this.1 (nin (nrn (this.2 this.1)))
  .obtain⟨h1,h2⟩:=hr.resolve_right λh=>by omega
   obtain⟨q,s⟩:=BP h2;have b:e.d=false:=by simpa using k
   refine ndi f<|ndi j<|ndi k<|ndi f<|ndi j<|ndi f<|ndi j<|ndi ⟨l,rfl,B⟩ λX p=>?_;have p:=p l rfl;rw[p];exact o _ (by rw[q,b]) (s b)
  .obtain⟨t,a,d,c,x,y,z,S⟩:=split hn;rw[y,z];have w:ln (t.map Att.row)=(t.length:Int):=by simp[ln]
   have Q:ln (d.map Att.row)=(d.length:Int):=by simp[ln]
   have R:l.length=t.length+(d.length+1):=by rw[c];simp
   obtain⟨q,s,H⟩:=BW (v:=e.v) (by rw[<-c];exact hv.2.2) x;have b:e.d=false:=by simpa using k
   refine ndi hn<|ndi (by omega)<|ndi (by omega)<|ndi (by unfold I64;omega)<|ndi (by omega)<|ndi (by omega)<|nin<|nin<|ndi (by omega)<|nrn<|ndi f<|ndi j<|ndi k<|ndi f<|ndi j<|ndi f<|ndi j<|nin<|nrn<|ndi ⟨t++d,by rw[TQ],by rw[Tv];omega⟩ λX p=>?_;have p:=p (t++d) (by rw[TQ]);rw[p];exact o _ (by rw[c];exact q) (by rw[H,c,s];unfold edA;rw[b];simp)
 .obtain⟨A,u⟩:=G (by omega);subst u;have N:ln ((N8 l e).map Att.row)=((N8 l e).length:Int):=by simp[ln]
  rw[N];refine⟨λh=>ndt (tB (P:=λl e=>([]:a8)=(apF l e).1.map Att.row/\(3:Int)=(apF l e).2)|>.2 ?_),λh=>ndt (tB (P:=λl' e'=>(N8 l e).map Att.row=(apF l' e').1.map Att.row/\(0:Int)=(apF l' e').2)|>.2 ?_)⟩;unfold apF;rw[Tn (by rw[A];simp),Tp (by omega)];exact⟨rfl,rfl⟩;unfold apF;rw[Tn (by rw[A];simp),Tn (by omega)];exact⟨rfl,rfl⟩
end
section
variable {D :DM}{L F:a8}{i g:Int}{K:Nat}{cs:Ak}
def py :ma:=by
 unfold ma;intro L F c0 O P Q R S T U i g n z v h;obtain⟨hi,hg,hz,hp⟩:=h;have hp':=hp;obtain⟨D,K,j,w⟩:=hp;refine fR ⟨hi,hg,j.len w⟩ ?_;by_cases hv:t9 L i g=true
 .rw[Tp hv];obtain⟨c,s,h1,h2,h3,h4,Y,h6,E,h8,I,ha,hb⟩:=j.spot hv;have n0:¬i<0:=by omega
  have x:=w.atts c s h3 h4;have mod:∀ {D K},Rf D L F [c0,O,P,Q,R,S,T,U]->WF D K-> ∃(c:Nat) (s':Sl),i=c/\D.L[c]? =some s'/\s'.used=true/\D.nod c=s'.n/\s'.n.atts=s.n.atts/\(cI L i 2≠1-> ∀r,R9 D i g ⟨n,z,v⟩ r=(D,1))/\(cI L i 2=1-> ∀r,(bK ⟨n,z,v⟩=false->R9 D i g ⟨n,z,v⟩ r=(D,r))/\(bK ⟨n,z,v⟩=true->R9 D i g ⟨n,z,v⟩ r=if(apF s.n.atts ⟨n,z,v⟩).2=0 then((D.setN c λn'=> {n' with atts:=(apF n'.atts ⟨n,z,v⟩).1}).cnt 6,0)else(D,if(apF s.n.atts ⟨n,z,v⟩).2=11 then 17 else(apF s.n.atts ⟨n,z,v⟩).2))):=λ{D K} j w=>by
   obtain⟨c,s',h1,h2,h3,h4,Y,h6,E,h8,Z,ha,hb⟩:=j.spot hv;have ea:s'.n.atts=s.n.atts:=T0 (Z.symm.trans I);refine⟨c,s',h2,h3,h4,Y,ea,λe r=>?_,λe r=>⟨λV=>?_,λV=>?_⟩⟩;all_goals
    unfold R9;rw[h1];simp only;rw[Y,<-h8]
   rw[Tp e];rw[Tn (by simp[e]),Tp V];rw[Tn (by simp[e]),Tn (by simp[V]),ea]
  have m:(cI L i 2≠1\/(cI L i 2=1/\z=false/\bK ⟨n,z,v⟩=false))->da L F c0 O P Q R S T U i g n z v:=λhb=>by unfold da;refine ndt (C2 λD K j w=>?_);obtain⟨_,_,_,_,_,_,_,m1,B⟩:=mod j w;rcases hb with h| ⟨h,hz,A⟩;rw[m1 h];exact⟨rfl,rfl⟩;rw[(B h _).1 A,hz];exact⟨rfl,rfl⟩
  have good:cI L i 2=1->bK ⟨n,z,v⟩=true->bad1 s.n.atts ⟨n,z,v⟩=false->eu L i n z v F c0 O P Q R S T U i g:=λhk A hb=>by
   unfold eu;intro X r hX;obtain⟨aa,G⟩:=hX s.n.atts ⟨n,z,v⟩ I rfl;refine⟨λe=>tE hp'<|ndi n0<|ndi E<|ndi E<|ndi (w.i64 (k:=6) (by rw[<-j.2.2];rfl))<|nin<|nrn<|ndt λD K j w=>?_,λe=>ndt (C2 λD K j w=>?_)⟩;obtain⟨c,s',H,N,q3,q4,q5,m1,B⟩:=mod j w;show Rf (R9 D i g ⟨n,z,v⟩ _).1 _ _ _/\(0:Int)=(R9 D i g ⟨n,z,v⟩ _).2;rw[(B hk _).2 A,Tp (by rw[<-G];exact e)];obtain⟨rfl,rfl,hc⟩:=j;subst H;exact⟨⟨V4 (q:=λn'=> {n' with atts:=(apF n'.atts ⟨n,z,v⟩).1}) N q3 (by rw[aa,<-q5];rfl),rfl,by show _=D.C.modify 6 _;rw[<-hc];rfl⟩,rfl⟩
   .obtain⟨c,s',H,N,q3,q4,q5,m1,B⟩:=mod j w;have W:¬(apF s.n.atts ⟨n,z,v⟩).2=11:=by unfold apF;rw[Tn (by rw[hb];simp)];split<;>simp
    show(R9 D i g ⟨n,z,v⟩ _).1=D/\r=(R9 D i g ⟨n,z,v⟩ _).2;rw[(B hk _).2 A,Tn (by rw[<-G];exact e),Tn W];exact⟨rfl,G⟩
  have o:B3 n=true->H9 v=true->(z=true->v=[])->bK ⟨n,z,v⟩=true:=λh1 h2 h3=>by
   unfold bK;cases z with
   |false=>simp[h1,h2]|true=>have:=h3 rfl;subst this;simp[h1];rfl
  have M:(B3 n=false\/H9 v=false)->bK ⟨n,z,v⟩=false:=λh=>by unfold bK;rcases h with h|h<;>simp[h]
  refine⟨λh=>absurd h n0,λ_=>ndi n0<|ndi E ⟨λhk=>⟨λy=>?_,λy=>?_⟩,λhk=>m (.inl hk)⟩⟩
  .have ev:=hz y;subst ev;refine ndi n0<|ndi E<|ndi ⟨s.n.atts,I,x.1⟩ λr hr=>?_;obtain⟨r0,r1,hr⟩:=hr;have hr:=hr s.n.atts I;refine⟨λhn=>ndt (C2 λD K j w=>?_),λhn=>?_⟩
   .obtain⟨_,_,_,_,_,_,_,m1,B⟩:=mod j w;obtain⟨_,ab⟩:=hr.resolve_right λh=>by omega
    have hb:bad1 s.n.atts ⟨n,z,[]⟩=true:=by rw[(BP (e:=⟨n,z,[]⟩) ab).1];exact y
    rw[y,Tp rfl,<-y];cases ho:bK ⟨n,z,[]⟩with
    |false=>rw[(B hk _).1 ho];exact⟨rfl,rfl⟩|true=>
     have:(apF s.n.atts ⟨n,z,[]⟩).2=11:=by unfold apF;rw[Tp hb]
     rw[(B hk _).2 ho,this];exact⟨rfl,rfl⟩
   .obtain⟨_,a,H,N⟩:=hr.resolve_left λh=>hn h.1;have hm:=Td H;have vn:B3 n=true:=by rw[<-N];exact(x.2.1 a hm).1
    have vs:H9 ([]:Str)=true:=rfl;refine ndi trivial λb hb=>⟨λp=>ndi trivial λb2 u=>⟨λf=>ndi y ⟨λ_=>ndi n0<|ndi E<|ndi ⟨s.n.atts,⟨n,z,[]⟩,I,rfl,x,o vn vs λ_=>rfl⟩ ?_,λh=>absurd rfl h⟩,λf=>absurd (u.trans vs) f⟩,λp=>absurd (hb.trans vn) p⟩
    refine good hk (o vn vs λ_=>rfl) ?_;obtain⟨hlt,H⟩:=SW.1 H;have el:s.n.atts=s.n.atts.take r.toNat++a::s.n.atts.drop (r.toNat+1):=by rw[<-H,<-List.drop_eq_getElem_cons hlt,UI]
    rw[el];exact(BW (v:=[]) (by rw[<-el];exact x.2.2) N).1
  .have J:z=false:=by simpa using y
   refine ndi trivial λb hb=>⟨λp=>ndi trivial λb2 u=>⟨λf=>?_,λf=>m (.inr ⟨hk,J,M (.inr ?_)⟩)⟩,λp=>m (.inr ⟨hk,J,M (.inl ?_)⟩)⟩
   .have ok:=o (hb.symm.trans p) (u.symm.trans f) λh=>absurd h y;refine ndi y<|ndi n0<|ndi E<|ndi ⟨s.n.atts,⟨n,z,v⟩,I,rfl,x,ok⟩ (good hk ok ?_);cases e:bad1 s.n.atts ⟨n,z,v⟩with
    |false=>rfl|true=>exact absurd (Lv e) y
   have u:b2=H9 v:=u;rw[<-u];simpa using f;have hb:b=B3 n:=hb;rw[<-hb];simpa using p
 rw[Tn hv];refine⟨λ_=>ndt (C2 λD K j w=>?_),λh=>absurd (by decide) h⟩;unfold R9;rw[j.none hv];exact⟨rfl,rfl⟩
