/- The reference's DOM: the conditions of Apply and Attr hold.
  Conditions: none. -/
import Derived.Test.YtgmiikiinbaapaaGreatR8
set_option linter.all false
noncomputable section
namespace Go.D
open Go Go.Xe Go.Sx
section
variable {l t d:List Att}{e:Ed}{a:Att}{n v:Str}
def Jx :∀ {l:List Att},bad1 l e=true->e.d=true
 | [],h=>h|b::l,h=>by unfold bad1 at h;split at h;exact Jx h;split at h;cases h;exact h
def AB :∀ {l:List Att},(∀a∈l,a.n≠e.n)->bad1 l e=e.d/\(e.d=false->aT l ⟨e.n,e.v⟩=L7 l e)
 | [],_=>⟨rfl,fun h=>by unfold L7 edA;rw[h];rfl⟩
 |b::l,h=>by obtain⟨h1,h2⟩:=AB (l:=l) fun a f=>h a (Qu _ f);have hb:=h b List.mem_cons_self;unfold bad1 aT L7;by_cases hl:lt b.n e.n=true;rw[PG hl,PG hl,PE (by rw[sR hl];simp)];exact⟨h1,fun c=>by rw[h2 c]⟩;rw[PE hl,PE hl,PE hb,PE hb,PG (Aj (by simpa using hl) hb)];exact⟨rfl,fun c=>by unfold edA;rw[c];rfl⟩
def AG :∀ {t:List Att},Asc ((t++a::d).map Att.n)->a.n=e.n->bad1 (t++a::d) e=false/\L7 (t++a::d) e=t++edA e++d/\aT (t++d) ⟨e.n,v⟩=t++⟨e.n,v⟩::d
 | [],h,hn=>by
  have hl:¬lt a.n e.n=true:=by rw[hn,lt_irrefl];simp
  refine⟨?_,?_,?_⟩;show bad1 (a::d) e=false;unfold bad1;rw[PE hl,PG hn];show L7 (a::d) e=_;unfold L7;rw[PE hl,PG hn];rfl
  ·show aT d ⟨e.n,v⟩=_;cases d with
   |nil=>rfl|cons b d=>have:=(List.pairwise_cons.1 h).1 b.n (by simp);unfold aT;rw[PG (by rw[<-hn];exact this)];rfl
 |b::t,h,hn=>by
  obtain⟨h1,h2⟩:=List.pairwise_cons.1 h;obtain⟨k1,k2,k3⟩:=AG (t:=t) h2 hn;have hl:lt b.n e.n=true:=by rw[<-hn];exact h1 a.n (by simp)
  refine⟨?_,?_,?_⟩;show bad1 (b::(t++a::d)) e=false;unfold bad1;rw[PG hl,k1];show L7 (b::(t++a::d)) e=_;unfold L7;rw[PG hl,k2];rfl;show aT (b::(t++d)) ⟨e.n,v⟩=_;unfold aT;rw[PE (by show¬lt e.n b.n=true;rw[sR hl];simp),k3];rfl
def rV :cS [e.row] 0 0=e.n/\cB [e.row] 0 1=e.d/\cS [e.row] 0 2=e.v:=⟨rfl,rfl,rfl⟩
def rL {P:List Att->Ed->Prop}:(∀(m:List Att) (e':Ed),l.map Att.row=m.map Att.row->[e.row]=[e'.row]->P m e')↔P l e:=
 ⟨fun h=>h l e rfl rfl,fun h m e' h1 h2=>by rw[<-R1 h1,<-iW h2];exact h⟩
def vcRap_ok :vcRap:=by
 unfold vcRap;rintro L E ⟨l,e,rfl,rfl,hv,I⟩;have M:ln (l.map Att.row)=(l.length:Int):=by simp[ln]
 have B:=hv.1;have J:ln ([e.row]:Sx.Rows)=1:=rfl;refine ndi (by omega)<|nin<|nrn<|ndi ⟨by omega,by omega,rL (P:=fun l' e'=>((0:Int)=0->l.map Att.row=l.map Att.row)/\((0:Int)=1->bad1 l' e'=false/\l.map Att.row=(L7 l' e').map Att.row))|>.2 ⟨fun _=>rfl,fun h=>by omega⟩⟩ fun i O hI=>?_;obtain⟨i0,T,hI⟩:=hI;obtain⟨C,G⟩:=hI l e rfl rfl;rw[J];refine⟨fun hi=>?_,fun hi=>?_⟩
 ·have e0:i=0:=by omega
  subst e0;have u:=C rfl;subst u;rw[rV.1,rV.2.1,rV.2.2,M];have f:¬(0:Int)<0:=by omega
  have j:(0:Int)<1:=by omega
  have mu:∀X Y:Ar,fE X (.int (0+1)::Y)<fE X (.int 0::Y)\/True:=fun _ _=>.inr trivial;have o:∀m:List Att,bad1 l e=false->m=L7 l e->Sx.Nd (I64 ((0:Int)+1)) (Sx.Nd (jH [.lst (l.map Att.row),.lst [e.row]] [.int (0+1),.lst (m.map Att.row)]) (Sx.Nd (fE [.lst (l.map Att.row),.lst [e.row]] [.int (0+1),.lst (m.map Att.row)]<fE [.lst (l.map Att.row),.lst [e.row]] [.int 0,.lst (l.map Att.row)]) True)):=fun m h1 h2=>
   ndi (by unfold I64;omega) (ndi ⟨by omega,by omega,rL (P:=fun l' e'=>(((0:Int)+1)=0->m.map Att.row=l.map Att.row)/\(((0:Int)+1)=1->bad1 l' e'=false/\m.map Att.row=(L7 l' e').map Att.row))|>.2 ⟨fun h=>by omega,fun _=>⟨h1,by rw[h2]⟩⟩⟩ (ndt (by show(1-((0:Int)+1)).toNat<(1-(0:Int)).toNat;omega)))
  refine ndi f<|ndi j<|ndi ⟨l,rfl,B⟩ fun r hr=>?_;obtain⟨r0,r1,hr⟩:=hr;have hr:=hr l rfl;have split:¬r<0-> ∃t a d,l=t++a::d/\a.n=e.n/\pQ (l.map Att.row) 0 r=t.map Att.row/\pQ (l.map Att.row) (r+1) ((l.length:Int)-(r+1))=d.map Att.row/\(r:Int)+1<=l.length:=fun hn=>by obtain⟨r0,a,h1,h2⟩:=hr.resolve_left fun h=>hn h.1;obtain⟨hlt,h1⟩:=Po.1 h1;refine⟨l.take r.toNat,a,l.drop (r.toNat+1),?_,h2,?_,?_,by omega⟩;rw[<-h1,<-List.drop_eq_getElem_cons hlt,Ra];rw[M3];simp;rw[M3,show(r+1).toNat=r.toNat+1 by omega,Ql (by simp;omega)]
  refine ndi f<|ndi j ⟨fun k=>⟨fun hn=>ndt ?_,fun hn=>?_⟩,fun k=>⟨fun hn=>?_,fun hn=>?_⟩⟩
  ·obtain⟨h1,h2⟩:=hr.resolve_right fun h=>by omega
   refine rL (P:=fun l e=>([]:Sx.Rows)=(apF l e).1.map Att.row/\(11:Int)=(apF l e).2)|>.2 ?_;unfold apF;rw[PG (by rw[(AB h2).1];exact k)];exact⟨rfl,rfl⟩
  ·obtain⟨t,a,d,c,x,y,z,S⟩:=split hn;rw[y,z];have w:ln (t.map Att.row)=(t.length:Int):=by simp[ln]
   have Q:ln (d.map Att.row)=(d.length:Int):=by simp[ln]
   have R:l.length=t.length+(d.length+1):=by rw[c];simp
   obtain⟨q,s,_⟩:=AG (v:=[]) (by rw[<-c];exact hv.2.2) x;refine ndi hn<|ndi hn<|ndi (by omega)<|ndi (by omega)<|ndi (by unfold I64;omega)<|ndi (by omega)<|ndi (by omega)<|nin<|nin<|ndi (by omega)<|nrn<|ndi f<|ndi j<|ndi k ?_;have:=o (t++d) (by rw[c];exact q) (by rw[c,s];unfold edA;rw[k];simp);rw[Qj]at this;exact ndi this.1 (nin (nrn (this.2 this.1)))
  ·obtain⟨h1,h2⟩:=hr.resolve_right fun h=>by omega
   obtain⟨q,s⟩:=AB h2;have b:e.d=false:=by simpa using k
   refine ndi f<|ndi j<|ndi k<|ndi f<|ndi j<|ndi f<|ndi j<|ndi ⟨l,rfl,B⟩ fun X p=>?_;have p:=p l rfl;rw[p];exact o _ (by rw[q,b]) (s b)
  ·obtain⟨t,a,d,c,x,y,z,S⟩:=split hn;rw[y,z];have w:ln (t.map Att.row)=(t.length:Int):=by simp[ln]
   have Q:ln (d.map Att.row)=(d.length:Int):=by simp[ln]
   have R:l.length=t.length+(d.length+1):=by rw[c];simp
   obtain⟨q,s,H⟩:=AG (v:=e.v) (by rw[<-c];exact hv.2.2) x;have b:e.d=false:=by simpa using k
   refine ndi hn<|ndi (by omega)<|ndi (by omega)<|ndi (by unfold I64;omega)<|ndi (by omega)<|ndi (by omega)<|nin<|nin<|ndi (by omega)<|nrn<|ndi f<|ndi j<|ndi k<|ndi f<|ndi j<|ndi f<|ndi j<|nin<|nrn<|ndi ⟨t++d,by rw[Qj],by rw[PL];omega⟩ fun X p=>?_;have p:=p (t++d) (by rw[Qj]);rw[p];exact o _ (by rw[c];exact q) (by rw[H,c,s];unfold edA;rw[b];simp)
 ·obtain⟨A,u⟩:=G (by omega);subst u;have N:ln ((L7 l e).map Att.row)=((L7 l e).length:Int):=by simp[ln]
  rw[N];refine⟨fun h=>ndt (rL (P:=fun l e=>([]:Sx.Rows)=(apF l e).1.map Att.row/\(3:Int)=(apF l e).2)|>.2 ?_),fun h=>ndt (rL (P:=fun l' e'=>(L7 l e).map Att.row=(apF l' e').1.map Att.row/\(0:Int)=(apF l' e').2)|>.2 ?_)⟩;unfold apF;rw[PE (by rw[A];simp),PG (by omega)];exact⟨rfl,rfl⟩;unfold apF;rw[PE (by rw[A];simp),PE (by omega)];exact⟨rfl,rfl⟩
end
section
variable {D :DM}{L F:Sx.Rows}{i g:Int}{K:Nat}{cs:Ak}
def vcRatt_ok :vcRatt:=by
 unfold vcRatt;intro L F c0 Q R S T U V W i g n z v h;obtain⟨hi,hg,hz,hp⟩:=h;have hp':=hp;obtain⟨D,K,j,w⟩:=hp;refine eD ⟨hi,hg,j.len w⟩ ?_;by_cases hv:v9 L i g=true
 ·rw[PG hv];obtain⟨c,s,h1,h2,h3,h4,h5,h6,E,h8,I,ha,hb⟩:=j.spot hv;have J:¬i<0:=by omega
  have x:=w.atts c s h3 h4;have mod:∀ {D K},Rf D L F [c0,Q,R,S,T,U,V,W]->WF D K-> ∃(c:Nat) (s':Sl),i=c/\D.L[c]? =some s'/\s'.used=true/\D.nod c=s'.n/\s'.n.atts=s.n.atts/\(cI L i 2≠1-> ∀r,R5 D i g ⟨n,z,v⟩ r=(D,1))/\(cI L i 2=1-> ∀r,(aC ⟨n,z,v⟩=false->R5 D i g ⟨n,z,v⟩ r=(D,r))/\(aC ⟨n,z,v⟩=true->R5 D i g ⟨n,z,v⟩ r=if(apF s.n.atts ⟨n,z,v⟩).2=0 then((D.setN c fun n'=> {n' with atts:=(apF n'.atts ⟨n,z,v⟩).1}).cnt 6,0)else(D,if(apF s.n.atts ⟨n,z,v⟩).2=11 then 17 else(apF s.n.atts ⟨n,z,v⟩).2))):=fun{D K} j w=>by
   obtain⟨c,s',h1,h2,h3,h4,h5,h6,E,h8,aa,ha,hb⟩:=j.spot hv;have ea:s'.n.atts=s.n.atts:=R1 (aa.symm.trans I);refine⟨c,s',h2,h3,h4,h5,ea,fun e r=>?_,fun e r=>⟨fun Y=>?_,fun Y=>?_⟩⟩;all_goals
    unfold R5;rw[h1];simp only;rw[h5,<-h8]
   rw[PG e];rw[PE (by simp[e]),PG Y];rw[PE (by simp[e]),PE (by simp[Y]),ea]
  have m:(cI L i 2≠1\/(cI L i 2=1/\z=false/\aC ⟨n,z,v⟩=false))->vcRatt1 L F c0 Q R S T U V W i g n z v:=fun hb=>by unfold vcRatt1;refine ndt (B7 fun D K j w=>?_);obtain⟨_,_,_,_,_,_,_,P,B⟩:=mod j w;rcases hb with h| ⟨h,hz,A⟩;rw[P h];exact⟨rfl,rfl⟩;rw[(B h _).1 A,hz];exact⟨rfl,rfl⟩
  have good:cI L i 2=1->aC ⟨n,z,v⟩=true->bad1 s.n.atts ⟨n,z,v⟩=false->vcRatt0 L i n z v F c0 Q R S T U V W i g:=fun hk A hb=>by
   unfold vcRatt0;intro X r hX;obtain⟨ab,G⟩:=hX s.n.atts ⟨n,z,v⟩ I rfl;refine⟨fun e=>rO hp'<|ndi J<|ndi E<|ndi E<|ndi (w.i64 (k:=6) (by rw[<-j.2.2];rfl))<|nin<|nrn<|ndt fun D K j w=>?_,fun e=>ndt (B7 fun D K j w=>?_)⟩;obtain⟨c,s',H,O,q3,q4,q5,P,B⟩:=mod j w;show Rf (R5 D i g ⟨n,z,v⟩ _).1 _ _ _/\(0:Int)=(R5 D i g ⟨n,z,v⟩ _).2;rw[(B hk _).2 A,PG (by rw[<-G];exact e)];obtain⟨rfl,rfl,hc⟩:=j;subst H;exact⟨⟨S9 (q:=fun n'=> {n' with atts:=(apF n'.atts ⟨n,z,v⟩).1}) O q3 (by rw[ab,<-q5];rfl),rfl,by show _=D.C.modify 6 _;rw[<-hc];rfl⟩,rfl⟩
   ·obtain⟨c,s',H,O,q3,q4,q5,P,B⟩:=mod j w;have Z:¬(apF s.n.atts ⟨n,z,v⟩).2=11:=by unfold apF;rw[PE (by rw[hb];simp)];split<;>simp
    show(R5 D i g ⟨n,z,v⟩ _).1=D/\r=(R5 D i g ⟨n,z,v⟩ _).2;rw[(B hk _).2 A,PE (by rw[<-G];exact e),PE Z];exact⟨rfl,G⟩
  have o:B1 n=true->I0 v=true->(z=true->v=[])->aC ⟨n,z,v⟩=true:=fun h1 h2 h3=>by
   unfold aC;cases z with
   |false=>simp[h1,h2]|true=>have:=h3 rfl;subst this;simp[h1];rfl
  have N:(B1 n=false\/I0 v=false)->aC ⟨n,z,v⟩=false:=fun h=>by unfold aC;rcases h with h|h<;>simp[h]
  refine⟨fun h=>absurd h J,fun _=>ndi J<|ndi E ⟨fun hk=>⟨fun y=>?_,fun y=>?_⟩,fun hk=>m (.inl hk)⟩⟩
  ·have ev:=hz y;subst ev;refine ndi J<|ndi E<|ndi ⟨s.n.atts,I,x.1⟩ fun r hr=>?_;obtain⟨r0,r1,hr⟩:=hr;have hr:=hr s.n.atts I;refine⟨fun hn=>ndt (B7 fun D K j w=>?_),fun hn=>?_⟩
   ·obtain⟨_,_,_,_,_,_,_,P,B⟩:=mod j w;obtain⟨_,ac⟩:=hr.resolve_right fun h=>by omega
    have hb:bad1 s.n.atts ⟨n,z,[]⟩=true:=by rw[(AB (e:=⟨n,z,[]⟩) ac).1];exact y
    rw[y,PG rfl,<-y];cases ho:aC ⟨n,z,[]⟩with
    |false=>rw[(B hk _).1 ho];exact⟨rfl,rfl⟩|true=>
     have:(apF s.n.atts ⟨n,z,[]⟩).2=11:=by unfold apF;rw[PG hb]
     rw[(B hk _).2 ho,this];exact⟨rfl,rfl⟩
   ·obtain⟨_,a,H,O⟩:=hr.resolve_left fun h=>hn h.1;have hm:=Pv H;have vn:B1 n=true:=by rw[<-O];exact(x.2.1 a hm).1
    have vs:I0 ([]:Str)=true:=rfl;refine ndi trivial fun b hb=>⟨fun p=>ndi trivial fun b2 u=>⟨fun f=>ndi y ⟨fun _=>ndi J<|ndi E<|ndi ⟨s.n.atts,⟨n,z,[]⟩,I,rfl,x,o vn vs fun _=>rfl⟩ ?_,fun h=>absurd rfl h⟩,fun f=>absurd (u.trans vs) f⟩,fun p=>absurd (hb.trans vn) p⟩
    refine good hk (o vn vs fun _=>rfl) ?_;obtain⟨hlt,H⟩:=Po.1 H;have el:s.n.atts=s.n.atts.take r.toNat++a::s.n.atts.drop (r.toNat+1):=by rw[<-H,<-List.drop_eq_getElem_cons hlt,Ra]
    rw[el];exact(AG (v:=[]) (by rw[<-el];exact x.2.2) O).1
  ·have M:z=false:=by simpa using y
   refine ndi trivial fun b hb=>⟨fun p=>ndi trivial fun b2 u=>⟨fun f=>?_,fun f=>m (.inr ⟨hk,M,N (.inr ?_)⟩)⟩,fun p=>m (.inr ⟨hk,M,N (.inl ?_)⟩)⟩
   ·have ok:=o (hb.symm.trans p) (u.symm.trans f) fun h=>absurd h y;refine ndi y<|ndi J<|ndi E<|ndi ⟨s.n.atts,⟨n,z,v⟩,I,rfl,x,ok⟩ (good hk ok ?_);cases e:bad1 s.n.atts ⟨n,z,v⟩with
    |false=>rfl|true=>exact absurd (Jx e) y
   have u:b2=I0 v:=u;rw[<-u];simpa using f;have hb:b=B1 n:=hb;rw[<-hb];simpa using p
 rw[PE hv];refine⟨fun _=>ndt (B7 fun D K j w=>?_),fun h=>absurd (by decide) h⟩;unfold R5;rw[j.none hv];exact⟨rfl,rfl⟩
