/- Chapter 36, PlansKnown: the condition holds.
  Conditions: none. -/
import Derived.Test.YtpdcecfnlccicaaK4
set_option linter.unusedVariables false
set_option linter.unusedSimpArgs false
namespace Go.C36
open Go Go.Xe Go.Sx
theorem dn_len (n : Nat) : (dnW n).length=n:=by rw [dnW_mk,mkW_len,dwn_len]
theorem up_snoc (n : Nat) : upW (n+1)=upW n ++ [(⟨1+n,0⟩ : Rw)]:=by
 unfold upW; rw [asc_snoc,List.map_append]; rfl
theorem dn_snoc (n : Nat) : dnW (n+1)=dnW n ++ [(⟨1024 - n,0⟩ : Rw)]:=by
 unfold dnW; rw [dwn_snoc,List.map_append]; rfl
theorem map_app_rw (o : List Rw) (w i : Int) : o.map Rw.row ++ chunk 2 1 [.int w, .int i]=(o ++ [(⟨w,i⟩ : Rw)]).map Rw.row:=by rw [List.map_append]; rfl
theorem mkW_ok {t : Int} {l : List Int} (ht : 0≤t∧t < 256) (h : ∀ x ∈ l,0≤x∧x < 18446744073709551616) : ∀ r ∈ mkW t l,r.Ok:=fun r hr=>by
 obtain ⟨h1,h2⟩:=mkW_mem.1 hr
 have:=h _ h1
 exact ⟨this.1,this.2,by omega,by omega⟩
theorem up_ok (n : Nat) (h : n≤1024) : ∀ r ∈ upW n,r.Ok:=mkW_ok (by omega) fun x hx=>by have:=asc_mem.1 hx; omega
theorem dn_ok : ∀ r ∈ dnW 1024,r.Ok:=mkW_ok (by omega) fun x hx=>by have:=dwn_in.1 hx; omega
theorem ch_ok (n : Nat) (h : n≤1024) : ∀ r ∈ chW n,r.Ok:=mkW_ok (by omega) fun x hx=>by have:=asc_mem.1 hx; omega
theorem up_chk {n : Int} (h : 1≤n∧n≤8) : chkX n (upW 1024)=0:=mkW_chk h (by omega) (asc_nodup 1 1024) (fun x hx=>by have:=asc_mem.1 hx; omega) (by rw [asc_len]; omega)
theorem dn_chk {n : Int} (h : 1≤n∧n≤8) : chkX n (dnW 1024)=0:=mkW_chk h (by omega) (dwn_nodup 1024 1024) (fun x hx=>by have:=dwn_in.1 hx; omega) (by rw [dwn_len]; omega)
theorem ch_chk {n : Int} (h : 2≤n∧n≤8) : chkX n (chW 1024)=0:=mkW_chk (by omega) (by omega) (asc_nodup 1 1024) (fun x hx=>by have:=asc_mem.1 hx; omega) (by rw [asc_len]; omega)
theorem right1 : rightB [0] [0]:=⟨by decide,by decide,rfl,fun i x y h1 h2=>by
 cases i with
 | zero=>simp at h1 h2; omega
 | succ i=>simp at h1⟩
theorem right2 : rightB [5,7] [105,7]:=⟨by decide,by decide,rfl,fun i x y h1 h2=>by
 rcases i with _ | _ | i
 ·simp at h1 h2; omega
 ·simp at h1 h2; omega
 ·simp at h1⟩
theorem first_rel {x3 x4 : Sx.Rows} {x5 : Int} (h : ofxRel [.lst ((upW 1024).map Rw.row), .lst ((dnW 1024).map Rw.row), .lst (([0] : List Int).map row), .lst (([0] : List Int).map row)] [.lst x3, .lst x4, .int x5]) :
  x5=0∧x3=([] : List Lv).map Lv.row ∧ ∃ V : List Stp,x4=((⟨1,1023,false⟩ : Stp) :: V).map Stp.row∧V.length=1023∧many isStay ((⟨1,1023,false⟩ : Stp) :: V)=1024∧many isMove ((⟨1,1023,false⟩ : Stp) :: V)=1023:=by
 simp only [ofxRel,rws_map,nums_map] at h
 obtain ⟨h1,h2,h3⟩:=h
 have e : ofErrX (upW 1024) (dnW 1024) [0] [0]=0:=by
  rw [ofErrX_0 right1 (up_chk ⟨by decide,by decide⟩)]; exact dn_chk ⟨by decide,by decide⟩
 rw [e] at h1
 obtain ⟨t1,t2⟩:=turned_of [0] [0]
 rw [h1,if_pos rfl,t1] at h2
 rw [h1,if_pos rfl,t2] at h3
 exact ⟨h1,h2,_,h3,by rw [List.length_map,dwn_len],turned_many.1,turned_many.2⟩
theorem second_rel {x6 x7 : Sx.Rows} {x8 : Int} (h : ofxRel [.lst ((upW 1024 ++ [(⟨2000,0⟩ : Rw)]).map Rw.row), .lst ((dnW 1024).map Rw.row), .lst (([0] : List Int).map row), .lst (([0] : List Int).map row)] [.lst x6, .lst x7, .int x8]) : x8=3:=by
 simp only [ofxRel,rws_map,nums_map] at h
 rw [h.1]
 have e : chkX (([0] : List Int).length : Int) (upW 1024 ++ [(⟨2000,0⟩ : Rw)])=3:=by
  unfold chkX
  rw [if_neg (by decide),if_pos (by rw [List.length_append,up_len]; simp)]
 unfold ofErrX
 rw [if_pos right1,e,if_neg (by decide)]
theorem third_rel {x3 x4 : Sx.Rows} {x5 : Int} (h : ofxRel [.lst ((upW 1024).map Rw.row), .lst ((chW 1024).map Rw.row), .lst (([5, 7] : List Int).map row), .lst (([105, 7] : List Int).map row)] [.lst x3, .lst x4, .int x5]) :
  x5=0 ∧ ∃ (L : List Lv) (S : List Stp),x3=L.map Lv.row∧x4=S.map Stp.row∧L.length=1024∧S.length=1024∧drops L=924∧many isStay S=0∧many isBind S=7∧many isMake S=1017:=by
 simp only [ofxRel,rws_map,nums_map] at h
 obtain ⟨h1,h2,h3⟩:=h
 have e : ofErrX (upW 1024) (chW 1024) [5,7] [105,7]=0:=by
  rw [ofErrX_0 right2 (up_chk ⟨by decide,by decide⟩)]; exact ch_chk ⟨by decide,by decide⟩
 rw [e] at h1
 rw [h1,if_pos rfl] at h2 h3
 exact ⟨h1,_,_,h2,h3,changed_of⟩
theorem kb_done {a : List Rw} (hl : a.length=1024) (h : ∀ i : Nat,(i : Int) < 1024→a[i]? = some ⟨1+i,1⟩) : a=chW 1024:=by
 apply List.ext_getElem?
 intro i
 by_cases hi : i < 1024
 ·rw [h i (by omega),chW_mk]
  unfold mkW
  rw [List.getElem?_map,asc_get,if_pos hi]; rfl
 ·rw [List.getElem?_eq_none (by omega),List.getElem?_eq_none (by rw [chW_mk,mkW_len,asc_len]; omega)]
end Go.C36
