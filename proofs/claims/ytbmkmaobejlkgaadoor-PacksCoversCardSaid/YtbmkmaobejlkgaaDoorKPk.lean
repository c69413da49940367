/- Part of a proof. No condition. -/
import Derived.Test.YtbmkmaobejlkgaaDoorKBase
import Derived.Test.YtbmkmaobejlkgaaDoorAxF
import Derived.Test.YtbmkmaobejlkgaaDoorPcP
import Derived.Test.YtbmkmaobejlkgaaDoorAxE
import Derived.Test.YtbmkmaobejlkgaaDoorKSr
set_option linter.unusedSimpArgs false
set_option linter.unusedVariables false
namespace Go.KInst
open Go.Proofs Go.Ax Go.Pc
set_option maxRecDepth 100000
/-- An argument that reads as these numbers: immutable, nil, or the front of a block. -/
inductive RI (l:List Nat):AV → Heap → Prop
 | imm (c:Option Nat):RI l (.islice (l.map intR) c) []
 | nil (h:l = []):RI l .nilslice []
 | blk (c:Option Nat) (rest:List (List AV)) (hf:FlatR (l.map intR ++ rest)):RI l (.slice 0 0 l.length c) [some (.row 1 (l.map intR ++ rest))]
theorem ri_len {l:List Nat} {V:AV} {H:Heap} (h:RI l V H):alen L.env (HeapF H) 27 V = some (.int .i64 l.length):=by
 cases h with
 | imm c=>simp +decide only [go_sem,List.length_map]
 | nil h=>subst h;simp +decide only [go_sem];rfl
 | blk c rest hf=>simp +decide only [go_sem]
theorem ri_get {l:List Nat} {V:AV} {H:Heap} (h:RI l V H) {i v:Nat} (hi:l[i]? = some v):∃ p,aindexAddr L.env (HeapF H) 27 V (.int .i64 i) = some p ∧ aload L.env (HeapF H) 3 p = some (.int .i64 v):=by
 have hlt:=(List.getElem?_eq_some_iff.1 hi).1
 cases h with
 | imm c=>
  have hg:(l.map intR)[i]? = some [.int .i64 v]:=by rw [List.getElem?_map,hi];rfl
  exact ⟨_,by simp +decide only [go_sem,hg,hlt,List.length_map]<;>rfl,by simp +decide only [go_sem,hg,hlt]⟩
 | nil h=>subst h;simp at hlt
 | blk c rest hf=>
  have hg:(l.map intR ++ rest)[i]? = some [.int .i64 v]:=by rw [List.getElem?_append_left (by simpa using hlt),List.getElem?_map,hi];rfl
  have hl2:i < (l.map intR ++ rest).length:=by simp;omega
  exact ⟨_,by simp +decide only [go_sem,hg,hlt,hl2]<;>rfl,by simp +decide only [go_sem,hg,hlt,hl2]⟩
theorem ri_fin {l:List Nat} {V v:AV} {H:Heap} (h:RI l V H) (hv:refs v = []):finish false H.length v H = some (v,H):=by
 cases h with
 | imm c=>exact finish_flat hv
 | nil h=>exact finish_flat hv
 | blk c rest hf=>
  have h1:=fun π=>renR_flat π hf
  have hr:∀ π,ren π v = v:=fun π=>ren_flat π v hv
  simp +decide only [go_sem,finish,frzV_flat _ _ _ _ hv,h1]
theorem ri_flat {l:List Nat} {V:AV} {H:Heap} (h:RI l V H) (b:Nat):refsO (HeapF H b) = []:=by
 cases h with
 | imm c=>rfl
 | nil h=>rfl
 | blk c rest hf=>
  cases b with
  | zero=>exact refsO_flat hf
  | succ b=>rfl
theorem ri_low {l:List Nat} {V:AV} {H:Heap} (h:RI l V H):(∀ b ∈ refs V,b < H.length) ∧ (refs V).length ≤ 1:=by
 cases h with
 | imm c=>exact ⟨fun b hb=>by simp [refs] at hb,by simp [refs]⟩
 | nil h=>exact ⟨fun b hb=>by simp [refs] at hb,by simp [refs]⟩
 | blk c rest hf=>exact ⟨fun b hb=>by simp [refs] at hb;subst hb;simp,by simp [refs]⟩
theorem ri_gc {l:List Nat} {V:AV} {H:Heap} (h:RI l V H) {keep:List Nat} {F F':Frm} (hk:keepF keep F = F') (hF:refsL (F'.map (·.2)) = refs V ∨ refsL (F'.map (·.2)) = []):gcD H.length keep F H = some (F',H):=by
 obtain ⟨h1,h2⟩:=ri_low h
 refine gc_low hk ?_ ?_ (ri_flat h)
 ·rcases hF with e|e<;>rw [e]
  ·exact h1
  ·intro b hb;simp at hb
 ·rcases hF with e|e<;>rw [e]
  ·omega
  ·simp
/-- A call over such an argument. -/
theorem ri_call {l:List Nat} {V:AV} {H:Heap} (h:RI l V H) {d:Bool} {g:FuncId} {pre post:List AV} {v:AV} (hx:L.env.ext g = false) (hf:(L.env.fn g).isSome = true) (hp:refsL pre = []) (hq:refsL post = []) (hv:refs v = [])
 (hr:∀ V H,RI l V H → sem L.env Mf g (pre ++ V :: post) H = some (v,H)):callV L.env d (sem L.env Mf) (.func (.func g) [] []) (pre ++ V :: post) H = some (v,H,refs V):=by
 have hr:=hr V H h
 cases h with
 | imm c=>
  exact callV_flat hx hf rfl (by simp only [List.nil_append,List.append_nil,refsL_append,refsL_cons,refs_islice,hp,hq]) (by simpa using hr) hv
 | nil h=>
  exact callV_flat hx hf rfl (by simp only [List.nil_append,List.append_nil,refsL_append,refsL_cons,refs_nilslice,hp,hq]) (by simpa using hr) hv
 | blk c rest hfl=>
  refine callV_one (b:=0) (fs:=[]) (cs:=[]) (args:=pre ++ .slice 0 0 l.length c :: post) hx hf (by simp) rfl (refsO_flat hfl) (FlatO.row hfl) (by simp only [refsL_append,refsL_cons,hp,hq,refs_slice,List.nil_append,List.append_nil]) (args':=pre ++ .slice 0 0 l.length c :: post) ?_ hr hv
  rw [List.map_append,List.map_cons,ren_slice1]
  have e:∀ l:List AV,refsL l = [] → l.map (ren (piOf [0])) = l:=fun l hl=>renM_flat _ hl
  rw [e _ hp,e _ hq]
/-- in -/
theorem in_ok (l:List Nat) (V:AV) (H:Heap) (hV:RI l V H) (hl:l.length < 1000000) (t:Nat):sem L.env Mf 15 [V,.int .i64 t] H = some (.bool (l.contains t),H):=by
 have hlen:=ri_len hV
 have hlow:=ri_low hV
 suffices hs:∃ r:AV × Heap,(r = (.bool (l.contains t),H)) ∧ sem L.env Mf 15 [V,.int .i64 t] H = some r by
  obtain ⟨r,rfl,h3⟩:=hs
  exact h3
 (refine svE Tryd.f15 ?_;simp only [Tryd.f15,gS])
 (repeat first|simp only [ww]|(apply xa;simp +decide only [go_sem,hlen];rfl;kernel_rfl))
 refine xp_lp kp15_0 (fun n F H1=>∃ (i:Nat),n = l.length - i ∧ i ≤ l.length ∧ F = [(0,V),(1,.int .i64 t),(5,.int .i64 i)] ∧ H1 = H ∧ (l.drop i).contains t = l.contains t) l.length ?_ ?_
 ·exact ⟨_,_,ri_gc hV (by simp +decide only [go_sem]<;>rfl) (.inl (by simp +decide only [go_sem])),0,rfl,Nat.zero_le _,rfl,rfl,rfl⟩
 ·rintro n F H1 ⟨i,rfl,hi,rfl,rfl,hout⟩
  by_cases hlt:i < l.length
  ·obtain ⟨v,hv⟩:∃ v,l[i]? = some v:=⟨_,List.getElem?_eq_getElem hlt⟩
   obtain ⟨p,hp1,hp2⟩:=ri_get hV hv
   have hd:l.drop i = v :: l.drop (i + 1):=by rw [← List.getElem_cons_drop hlt,(List.getElem?_eq_some_iff.1 hv).2]
   rw [hd] at hout
   have c1:(i:Int) < l.length:=by omega
   have hw:=wI1 (n:=i) (by omega)
   by_cases h1:v = t
   ·have c2:(v:Int) = t:=by omega
    subst h1
    (repeat first|simp only [ww]|(apply xa;simp +decide only [go_sem,hlen,c1,hp1,hp2];rfl;kernel_rfl))
    refine fqE_r (vs:=[.bool true]) (r:=(_,_)) (by simp +decide only [go_sem]) (ri_fin hV rfl) ?_
    rw [← hout];simp [oneOf]
   ·have c2:¬ (v:Int) = t:=by omega
    (repeat first|simp only [ww]|(apply xa;simp +decide only [go_sem,hlen,c1,hp1,hp2,c2,hw];rfl;kernel_rfl))
    refine lpJ_n (l.length - (i + 1)) (by omega) ⟨_,_,ri_gc hV (by simp +decide only [go_sem]<;>rfl) (.inl (by simp +decide only [go_sem])),i + 1,rfl,hlt,rfl,rfl,?_⟩
    rw [← hout,List.contains_cons]
    have:(t == v) = false:=by simpa using fun e=>h1 e.symm
    rw [this,Bool.false_or]
  ·obtain rfl:i = l.length:=by omega
   have c1:¬ (l.length:Int) < l.length:=by omega
   rw [List.drop_length] at hout
   (repeat first|simp only [ww]|(apply xa;simp +decide only [go_sem,hlen,c1];rfl;kernel_rfl))
   refine fqE_n (vs:=[.bool false]) (r:=(_,_)) (by simp +decide only [go_sem]) (ri_fin hV rfl) ?_
   rw [← hout];rfl
theorem in_call {l:List Nat} {V:AV} {H:Heap} (hV:RI l V H) (hl:l.length < 1000000) {d:Bool} (t:Nat):callV L.env d (sem L.env Mf) (.func (.func 15) [] []) [V,.int .i64 t] H = some (.bool (l.contains t),H,refs V):=
 ri_call hV (pre:=[]) (post:=[.int .i64 t]) (by kernel_rfl) (by kernel_rfl) rfl rfl rfl (fun V H hV=>in_ok l V H hV hl t)
/-- An immutable list of numbers. -/
inductive RV (l:List Nat):AV → Prop
 | imm (c:Option Nat):RV l (.islice (l.map intR) c)
 | nil (h:l = []):RV l .nilslice
theorem RV.ri {l:List Nat} {V:AV} (h:RV l V):RI l V []:=by
 cases h with
 | imm c=>exact .imm c
 | nil h=>exact .nil h
theorem RV.refs {l:List Nat} {V:AV} (h:RV l V):Ax.refs V = []:=by
 cases h<;>rfl
theorem rv_len {l:List Nat} {V:AV} (h:RV l V) (hp:FHeap):alen L.env hp 27 V = some (.int .i64 l.length):=by
 cases h with
 | imm c=>simp +decide only [go_sem,List.length_map]
 | nil h=>subst h;simp +decide only [go_sem];rfl
theorem rv_get {l:List Nat} {V:AV} (h:RV l V) (hp:FHeap) {i v:Nat} (hi:l[i]? = some v):∃ p,aindexAddr L.env hp 27 V (.int .i64 i) = some p ∧ aload L.env hp 3 p = some (.int .i64 v):=by
 have hlt:=(List.getElem?_eq_some_iff.1 hi).1
 cases h with
 | imm c=>
  have hg:(l.map intR)[i]? = some [.int .i64 v]:=by rw [List.getElem?_map,hi];rfl
  exact ⟨_,by simp +decide only [go_sem,hg,hlt,List.length_map]<;>rfl,by simp +decide only [go_sem,hg,hlt]⟩
 | nil h=>subst h;simp at hlt
theorem meets_ok (a:List Nat) (A:AV) (hA:RV a A) (ha:a.length < 1000000) (l:List Nat) (V:AV) (H:Heap) (hV:RI l V H) (hl:l.length < 1000000):sem L.env Mf 17 [A,V] H = some (.bool (meetsL a l),H):=by
 have hlen:=rv_len hA (HeapF H)
 have hlow:=ri_low hV
 have hr:=hA.refs
 suffices hs:∃ r:AV × Heap,(r = (.bool (meetsL a l),H)) ∧ sem L.env Mf 17 [A,V] H = some r by
  obtain ⟨r,rfl,h3⟩:=hs
  exact h3
 (refine svE Tryd.f17 ?_;simp only [Tryd.f17,gS])
 (repeat first|simp only [ww]|(apply xa;simp +decide only [go_sem,hlen];rfl;kernel_rfl))
 refine xp_lp kp17_0 (fun n F H1=>∃ (i:Nat),n = a.length - i ∧ i ≤ a.length ∧ F = [(0,A),(1,V),(5,.int .i64 i)] ∧ H1 = H ∧ meetsL (a.drop i) l = meetsL a l) a.length ?_ ?_
 ·exact ⟨_,_,ri_gc hV (by simp +decide only [go_sem]<;>rfl) (.inl (by simp +decide only [go_sem,hr,List.nil_append,List.append_nil])),0,rfl,Nat.zero_le _,rfl,rfl,rfl⟩
 ·rintro n F H1 ⟨i,rfl,hi,rfl,rfl,hout⟩
  by_cases hlt:i < a.length
  ·obtain ⟨v,hv⟩:∃ v,a[i]? = some v:=⟨_,List.getElem?_eq_getElem hlt⟩
   obtain ⟨p,hp1,hp2⟩:=rv_get hA (HeapF H1) hv
   have hd:a.drop i = v :: a.drop (i + 1):=by rw [← List.getElem_cons_drop hlt,(List.getElem?_eq_some_iff.1 hv).2]
   rw [hd] at hout
   simp only [meetsL,List.any_cons] at hout
   have c1:(i:Int) < a.length:=by omega
   have hw:=wI1 (n:=i) (by omega)
   have hc:=in_call hV hl (d:=false) v
   by_cases h1:l.contains v = true
   ·rw [h1] at hout hc
    (repeat first|simp only [ww]|(apply xa;simp +decide only [go_sem,hlen,c1,hp1,hp2,hc];rfl;kernel_rfl))
    refine fqE_r (vs:=[.bool true]) (r:=(_,_)) (by simp +decide only [go_sem]) (ri_fin hV rfl) ?_
    simp only [Bool.true_or] at hout
    simp only [meetsL,oneOf,← hout]
   ·have h1:l.contains v = false:=by simpa using h1
    rw [h1] at hout hc
    (repeat first|simp only [ww]|(apply xa;simp +decide only [go_sem,hlen,c1,hp1,hp2,hc,hw];rfl;kernel_rfl))
    refine lpJ_n (a.length - (i + 1)) (by omega) ⟨_,_,ri_gc hV (by simp +decide only [go_sem]<;>rfl) (.inl (by simp +decide only [go_sem,hr,List.nil_append,List.append_nil])),i + 1,rfl,hlt,rfl,rfl,?_⟩
    simpa only [Bool.false_or,meetsL] using hout
  ·obtain rfl:i = a.length:=by omega
   have c1:¬ (a.length:Int) < a.length:=by omega
   rw [List.drop_length] at hout
   (repeat first|simp only [ww]|(apply xa;simp +decide only [go_sem,hlen,c1];rfl;kernel_rfl))
   refine fqE_n (vs:=[.bool false]) (r:=(_,_)) (by simp +decide only [go_sem]) (ri_fin hV rfl) ?_
   rw [← hout];rfl
theorem meets_call {a:List Nat} {A:AV} (hA:RV a A) (ha:a.length < 1000000) {l:List Nat} {V:AV} {H:Heap} (hV:RI l V H) (hl:l.length < 1000000) {d:Bool}:callV L.env d (sem L.env Mf) (.func (.func 17) [] []) [A,V] H = some (.bool (meetsL a l),H,refs V):=
 ri_call hV (pre:=[A]) (post:=[]) (by kernel_rfl) (by kernel_rfl) (by simp [refsL,hA.refs]) rfl rfl (fun V H hV=>meets_ok a A hA ha l V H hV hl)
/-- An immutable table: lists of numbers. -/
inductive TBv (tb:List (List Nat)):AV → Prop
 | imm (VS:List AV) (c:Option Nat) (hl:VS.length = tb.length) (h:∀ (i:Nat) r,tb[i]? = some r → ∃ V,VS[i]? = some V ∧ RV r V):TBv tb (.islice (VS.map fun v=>[v]) c)
 | nil (h:tb = []):TBv tb .nilslice
theorem TBv.refs {tb:List (List Nat)} {V:AV} (h:TBv tb V):Ax.refs V = []:=by
 cases h<;>rfl
theorem tb_len {tb:List (List Nat)} {V:AV} (h:TBv tb V) (hp:FHeap):alen L.env hp 24 V = some (.int .i64 tb.length):=by
 cases h with
 | imm VS c hl h=>simp +decide only [go_sem,List.length_map,hl]
 | nil h=>subst h;simp +decide only [go_sem];rfl
theorem tb_get {tb:List (List Nat)} {V:AV} (h:TBv tb V) (hp:FHeap) {i:Nat} {r:List Nat} (hi:tb[i]? = some r):∃ p W,aindexAddr L.env hp 24 V (.int .i64 i) = some p ∧ aload L.env hp 27 p = some W ∧ RV r W:=by
 have hlt:=(List.getElem?_eq_some_iff.1 hi).1
 cases h with
 | imm VS c hl h=>
  obtain ⟨W,hW,hr⟩:=h i r hi
  have hg:(VS.map fun v=>[v])[i]? = some [W]:=by rw [List.getElem?_map,hW];rfl
  have hlt':i < VS.length:=by omega
  cases hr with
  | imm c'=>exact ⟨_,_,by simp +decide only [go_sem,hg,hlt',List.length_map]<;>rfl,by simp +decide only [go_sem,hg,hlt']<;>rfl,.imm c'⟩
  | nil h=>exact ⟨_,_,by simp +decide only [go_sem,hg,hlt',List.length_map]<;>rfl,by simp +decide only [go_sem,hg,hlt']<;>rfl,.nil h⟩
 | nil h=>subst h;simp at hlt
/-- Rows and their lengths are small. -/
def Small (tb:List (List Nat)):Prop:=tb.length < 1000000 ∧ ∀ r ∈ tb,r.length < 1000000
theorem covers_ok (tb:List (List Nat)) (A:AV) (hA:TBv tb A) (hs:Small tb) (l:List Nat) (V:AV) (H:Heap) (hV:RI l V H) (hl:l.length < 1000000):sem L.env Mf 12 [A,V] H = some (.bool (covL tb l),H):=by
 have hlen:=tb_len hA (HeapF H)
 have hlow:=ri_low hV
 have hr:=hA.refs
 suffices hs:∃ r:AV × Heap,(r = (.bool (covL tb l),H)) ∧ sem L.env Mf 12 [A,V] H = some r by
  obtain ⟨r,rfl,h3⟩:=hs
  exact h3
 (refine svE Tryd.f12 ?_;simp only [Tryd.f12,gS])
 (repeat first|simp only [ww]|(apply xa;simp +decide only [go_sem,hlen];rfl;kernel_rfl))
 refine xp_lp kp12_0 (fun n F H1=>∃ (i:Nat),n = tb.length - i ∧ i ≤ tb.length ∧ F = [(0,A),(1,V),(5,.int .i64 i)] ∧ H1 = H ∧ covL (tb.drop i) l = covL tb l) tb.length ?_ ?_
 ·exact ⟨_,_,ri_gc hV (by simp +decide only [go_sem]<;>rfl) (.inl (by simp +decide only [go_sem,hr,List.nil_append,List.append_nil])),0,rfl,Nat.zero_le _,rfl,rfl,rfl⟩
 ·rintro n F H1 ⟨i,rfl,hi,rfl,rfl,hout⟩
  by_cases hlt:i < tb.length
  ·obtain ⟨r,hrr⟩:∃ r,tb[i]? = some r:=⟨_,List.getElem?_eq_getElem hlt⟩
   obtain ⟨p,W,hp1,hp2,hW⟩:=tb_get hA (HeapF H1) hrr
   have hrl:r.length < 1000000:=hs.2 r (List.mem_of_getElem? hrr)
   have hd:tb.drop i = r :: tb.drop (i + 1):=by rw [← List.getElem_cons_drop hlt,(List.getElem?_eq_some_iff.1 hrr).2]
   rw [hd] at hout
   simp only [covL,List.all_cons] at hout
   have c1:(i:Int) < tb.length:=by omega
   have hw:=wI1 (n:=i) (by have:=hs.1;omega)
   have hwl:=rv_len hW (HeapF H1)
   have hc:=meets_call hW hrl hV hl (d:=false)
   by_cases h0:r = []
   ·subst h0
    have c2:¬ ((([]:List Nat).length:Int) > 0):=by simp
    (repeat first|simp only [ww]|(apply xa;simp +decide only [go_sem,hlen,c1,hp1,hp2,hwl,c2,hw];rfl;kernel_rfl))
    refine lpJ_n (tb.length - (i + 1)) (by omega) ⟨_,_,ri_gc hV (by simp +decide only [go_sem]<;>rfl) (.inl (by simp +decide only [go_sem,hr,List.nil_append,List.append_nil])),i + 1,rfl,hlt,rfl,rfl,?_⟩
    have hu:unc [] l = false:=by rfl
    rw [hu] at hout
    simpa only [Bool.not_false,Bool.true_and,covL] using hout
   ·have hpos:0 < r.length:=List.length_pos_iff.2 h0
    have c2:(0:Int) < r.length:=by omega
    have he:r.isEmpty = false:=by cases r with|nil=>exact absurd rfl h0|cons=>rfl
    have hu:unc r l = !meetsL r l:=by unfold unc;rw [he];rfl
    rw [hu,Bool.not_not] at hout
    by_cases h1:meetsL r l = true
    ·rw [h1] at hout hc
     (repeat first|simp only [ww]|(apply xa;simp +decide only [go_sem,hlen,c1,hp1,hp2,hwl,c2,hc,hw];rfl;kernel_rfl))
     refine lpJ_n (tb.length - (i + 1)) (by omega) ⟨_,_,ri_gc hV (by simp +decide only [go_sem]<;>rfl) (.inl (by simp +decide only [go_sem,hr,List.nil_append,List.append_nil])),i + 1,rfl,hlt,rfl,rfl,?_⟩
     simpa only [Bool.true_and,covL] using hout
    ·have h1:meetsL r l = false:=by simpa using h1
     rw [h1] at hout hc
     (repeat first|simp only [ww]|(apply xa;simp +decide only [go_sem,hlen,c1,hp1,hp2,hwl,c2,hc];rfl;kernel_rfl))
     refine fqE_r (vs:=[.bool false]) (r:=(_,_)) (by simp +decide only [go_sem]) (ri_fin hV rfl) ?_
     simp only [Bool.false_and] at hout
     simp only [covL,oneOf,← hout]
  ·obtain rfl:i = tb.length:=by omega
   have c1:¬ (tb.length:Int) < tb.length:=by omega
   rw [List.drop_length] at hout
   (repeat first|simp only [ww]|(apply xa;simp +decide only [go_sem,hlen,c1];rfl;kernel_rfl))
   refine fqE_n (vs:=[.bool true]) (r:=(_,_)) (by simp +decide only [go_sem]) (ri_fin hV rfl) ?_
   rw [← hout];rfl
theorem insZ_last {x:Int}:∀ {l:List Int},(∀ y ∈ l,y < x) → insZ x l = l ++ [x]
 | [],_=>by simp [insZ]
 | y :: l,h=>by
  have h1:=h y (by simp)
  have ih:=insZ_last (l:=l) (fun z hz=>h z (by simp [hz]))
  unfold insZ
  simp [ih,show ¬ x ≤ y by omega,show ¬ x < y by omega]
/-- The rows that are not empty, up to one. -/
def misS (tb:List (List Nat)) (i:Nat):List Int:=idxL i fun k=>!(rowAt' tb k).isEmpty
theorem misS_lt {tb:List (List Nat)} {i:Nat} {z:Int} (h:z ∈ misS tb i):z < i:=by
 obtain ⟨k,rfl,h1,_⟩:=idxL_mem.1 h;omega
theorem misS_not {tb:List (List Nat)} {i:Nat}:(misS tb i).contains (i:Int) = false:=by
 cases h:(misS tb i).contains (i:Int) with
 | false=>rfl
 | true=>have:=misS_lt (List.contains_iff_mem.1 h);omega
theorem row_at {tb:List (List Nat)} {i:Nat} {r:List Nat} (h:tb[i]? = some r):rowAt' tb i = r:=by
 unfold rowAt';rw [List.getD_eq_getElem?_getD,h];rfl
theorem missing_ok (tb:List (List Nat)) (A:AV) (hA:TBv tb A) (hs:Small tb):sem L.env Mf 28 [A] [] = some (.map 0,[some (.uset (misS tb tb.length))]):=by
 have hlen:=tb_len hA (HeapF [some (.uset [])])
 have hr:=hA.refs
 have hren:∀ π,ren π A = A:=fun π=>ren_flat π A hr
 suffices hs:∃ r:AV × Heap,(r = (.map 0,[some (.uset (misS tb tb.length))])) ∧ sem L.env Mf 28 [A] [] = some r by
  obtain ⟨r,rfl,h3⟩:=hs
  exact h3
 (refine svE Tryd.f28 ?_;simp only [Tryd.f28,gS])
 (repeat first|simp only [ww]|(apply xa;simp +decide only [go_sem,hlen];rfl;kernel_rfl))
 refine xp_lp kp28_0 (fun n F H1=>∃ (i:Nat),n = tb.length - i ∧ i ≤ tb.length ∧ F = [(3,.map 0),(7,A),(8,.int .i64 tb.length),(9,.int .i64 i)] ∧ H1 = [some (.uset (misS tb i))]) tb.length ?_ ?_
 ·refine ⟨_,_,?_,0,rfl,Nat.zero_le _,rfl,rfl⟩
  (simp +decide only [go_sem,gcD_eq,gcIds_eq,hr,hren]<;>rfl)<;>rfl
 ·rintro n F H1 ⟨i,rfl,hi,rfl,rfl⟩
  by_cases hlt:i < tb.length
  ·obtain ⟨r,hrr⟩:∃ r,tb[i]? = some r:=⟨_,List.getElem?_eq_getElem hlt⟩
   obtain ⟨p,W,hp1,hp2,hW⟩:=tb_get hA (HeapF [some (.uset (misS tb i))]) hrr
   have hwl:=rv_len hW (HeapF [some (.uset (misS tb i))])
   have c1:(i:Int) < tb.length:=by omega
   have hw:=wI1 (n:=i) (by have:=hs.1;omega)
   have hn:=misS_not (tb:=tb) (i:=i)
   have hrow:=row_at hrr
   by_cases h0:r = []
   ·subst h0
    have c2:¬ ((0:Int) < (([]:List Nat).length:Int)):=by simp
    have he:misS tb (i + 1) = misS tb i:=by
     unfold misS;rw [idxL_succ,hrow];simp
    (repeat first|simp only [ww]|(apply xa;simp +decide only [go_sem,c1,hp1,hp2,hwl,c2,hw];rfl;kernel_rfl))
    refine lpJ_n (tb.length - (i + 1)) (by omega) ⟨_,_,?_,i + 1,rfl,hlt,rfl,rfl⟩
    rw [he]
    (simp +decide only [go_sem,gcD_eq,gcIds_eq,hr,hren]<;>rfl)<;>rfl
   ·have hpos:0 < r.length:=List.length_pos_iff.2 h0
    have c2:(0:Int) < r.length:=by omega
    have he:insZ (i:Int) (misS tb i) = misS tb (i + 1):=by
     rw [insZ_last (fun y hy=>misS_lt hy)]
     unfold misS;rw [idxL_succ,hrow]
     cases r with
     | nil=>exact absurd rfl h0
     | cons x r=>rfl
    (repeat first|simp only [ww]|(apply xa;simp +decide only [go_sem,c1,hp1,hp2,hwl,c2,hw,hn,he];rfl;kernel_rfl))
    refine lpJ_n (tb.length - (i + 1)) (by omega) ⟨_,_,?_,i + 1,rfl,hlt,rfl,rfl⟩
    (simp +decide only [go_sem,gcD_eq,gcIds_eq,hr,hren]<;>rfl)<;>rfl
  ·obtain rfl:i = tb.length:=by omega
   have c1:¬ (tb.length:Int) < tb.length:=by omega
   (repeat first|simp only [ww]|(apply xa;simp +decide only [go_sem,c1];rfl;kernel_rfl))
   refine fqE_r (vs:=[.map 0]) (r:=(.map 0,[some (.uset (misS tb tb.length))])) (by simp +decide only [go_sem]) ?_ rfl
   rfl
theorem nodup_le {V W:List Int}:V.Nodup → (∀ x ∈ V,x ∈ W) → V.length ≤ W.length:=by
 induction V generalizing W with
 | nil=>intro _ _;simp
 | cons a V ih=>
  intro h1 h2
  have h1:=List.nodup_cons.1 h1
  have ha:=h2 a (by simp)
  have:=ih (W:=W.erase a) h1.2 (fun x hx=>(List.mem_erase_of_ne (fun e=>h1.1 (by rw [← e];exact hx))).2 (h2 x (by simp [hx])))
  rw [List.length_erase_of_mem ha] at this
  have:=List.length_pos_of_mem ha
  simp only [List.length_cons];omega
/-- What drop has left, and how many it has met. -/
def drS (ks V:List Int):List Int:=ks.filter fun y=>!V.contains y
def drN (ks V:List Int):Nat:=V.countP fun y=>ks.contains y
section
variable {ks V:List Int} {i:Int}
theorem drS_nil:drS ks [] = ks:=by unfold drS;exact List.filter_eq_self.2 fun _ _=>by simp
theorem drS_has (h:i ∉ V):(drS ks V).contains i = ks.contains i:=by
 rw [Bool.eq_iff_iff,List.contains_iff_mem,List.contains_iff_mem]
 unfold drS
 rw [List.mem_filter]
 simp [h]
theorem drS_yes:(drS ks V).filter (fun y=>!decide (y = i)) = drS ks (V ++ [i]):=by
 unfold drS
 rw [List.filter_filter]
 refine List.filter_congr fun y _=>?_
 rw [Bool.eq_iff_iff]
 simp [and_comm]
theorem drS_no (h:ks.contains i = false):drS ks (V ++ [i]) = drS ks V:=by
 rw [← drS_yes]
 refine List.filter_eq_self.2 fun y hy=>?_
 have hy:y ∈ ks:=(List.mem_filter.1 hy).1
 have:y ≠ i:=fun e=>by rw [e] at hy;rw [List.contains_iff_mem.2 hy] at h;cases h
 simp [this]
theorem drN_yes (h:ks.contains i = true):drN ks (V ++ [i]) = drN ks V + 1:=by
 unfold drN;rw [List.countP_append,List.countP_cons];simp only [h,if_true,List.countP_nil,Nat.zero_add]
theorem drN_no (h:ks.contains i = false):drN ks (V ++ [i]) = drN ks V:=by
 unfold drN;rw [List.countP_append,List.countP_cons];simp only [h,Bool.false_eq_true,if_false,List.countP_nil,Nat.add_zero]
theorem drN_le:drN ks V ≤ V.length:=List.countP_le_length
theorem drS_perm {W:List Int} (h:V.Perm W):drS ks V = drS ks W:=by
 unfold drS
 refine List.filter_congr fun y _=>?_
 congr 1
 rw [Bool.eq_iff_iff,List.contains_iff_mem,List.contains_iff_mem,h.mem_iff]
theorem drN_perm {W:List Int} (h:V.Perm W):drN ks V = drN ks W:=h.countP_eq _
end
theorem drop_ok (ks other:List Int) (hn:other.Nodup) (hl:other.length < 1000000):sem L.env Mf 29 [.map 0,.iset other] [some (.uset ks)] = some (.int .i64 (drN ks other),[some (.uset (drS ks other))]):=by
 suffices hs:∃ r:AV × Heap,(r = (.int .i64 (drN ks other),[some (.uset (drS ks other))])) ∧ sem L.env Mf 29 [.map 0,.iset other] [some (.uset ks)] = some r by
  obtain ⟨r,rfl,h3⟩:=hs
  exact h3
 (refine svE Tryd.f29 ?_;simp only [Tryd.f29,gS])
 (repeat first|simp only [ww]|(apply xa;simp +decide only [go_sem];rfl;kernel_rfl))
 refine xp_mlp kp29_0 other (fun V=>[(0,.map 0),(4,.int .i64 (drN ks V)),(7,.ptr 1 0 0)]) (fun V=>[some (.uset (drS ks V)),some (.miter other V none)]) 1 (.exit 0)
  [(9,.bool false),(8,.tuple [.bool false]),(0,.map 0),(4,.int .i64 (drN ks other)),(7,.ptr 1 0 0)] [some (.uset (drS ks other)),none] hn ?_ ?_ ?_ ?_ ?_
 ·(simp +decide only [go_sem,gcD_eq,gcIds_eq,drS_nil]<;>rfl)<;>rfl
 ·intro V _ _;exact ⟨rfl,none,rfl⟩
 ·intro V i h1 h2 h3 h4
  have hh:=drS_has (ks:=ks) h4
  have hb:drN ks V < 1000000:=Nat.lt_of_le_of_lt (Nat.le_trans drN_le (nodup_le h1 h2)) hl
  have hw:=wI1 (n:=drN ks V) (by omega)
  refine xq (by simp +decide only [go_sem]<;>rfl) ?_
  by_cases hc:ks.contains i = true
  ·rw [hc] at hh
   have e1:=drS_yes (ks:=ks) (V:=V) (i:=i)
   have e2:=drN_yes (ks:=ks) (V:=V) (i:=i) hc
   (repeat first|simp only [ww]|(apply xa;simp +decide only [go_sem,hh,hw,e1];rfl;kernel_rfl))
   show gcD _ _ _ _ = _
   rw [e2]
   (simp +decide only [go_sem,gcD_eq,gcIds_eq]<;>rfl)<;>rfl
  ·have hc:ks.contains i = false:=by simpa using hc
   rw [hc] at hh
   have e1:=drS_no (ks:=ks) (V:=V) (i:=i) hc
   have e2:=drN_no (ks:=ks) (V:=V) (i:=i) hc
   rw [e1,e2]
   (repeat first|simp only [ww]|(apply xa;simp +decide only [go_sem,hh];rfl;kernel_rfl))
   show gcD _ _ _ _ = _
   (simp +decide only [go_sem,gcD_eq,gcIds_eq]<;>rfl)<;>rfl
 ·intro V hV
  have e1:=drS_perm (ks:=ks) hV
  have e2:=drN_perm (ks:=ks) hV
  refine xq (by simp +decide only [go_sem]<;>rfl) ?_
  rw [e1,e2]
  (repeat first|simp only [ww]|(apply xa;simp +decide only [go_sem];rfl;kernel_rfl))
  exact ⟨rfl,rfl,rfl⟩
 ·show Wp _ _ _ _ _
  (repeat first|simp only [ww]|(apply xa;simp +decide only [go_sem];rfl;kernel_rfl))
  refine fqE_r (vs:=[.int .i64 (drN ks other)]) (r:=(.int .i64 (drN ks other),[some (.uset (drS ks other))])) (by simp +decide only [go_sem]) ?_ rfl
  simp +decide only [go_sem,oneOf]<;>rfl
theorem drop_call {d:Bool} (H:Heap) (b:Nat) (ks other:List Int) (hb:HeapF H b = some (.uset ks)) (hn:other.Nodup) (hl:other.length < 1000000) :
 callV L.env d (sem L.env Mf) (.func (.func 29) [] []) [.map b,.iset other] H = some (.int .i64 (drN ks other),H.set b (some (.uset (drS ks other))),[b]):=
 callV_one' (fs:=[]) (cs:=[]) (args:=[.map b,.iset other]) (by kernel_rfl) (by kernel_rfl) rfl hb rfl (fun π=>rfl) (by simp [refsL,refs]) (args':=[.map 0,.iset other]) (by simp [ren,piOf]) (drop_ok ks other hn hl) (fun π=>rfl) rfl
/-- Ascending from above a number on, below another. -/
def Asc (n:Nat):Int → List Nat → Prop
 | _,[]=>True
 | last,x :: r=>last < x ∧ x < n ∧ Asc n x r
theorem valid_ok (tb:List (List Nat)) (A:AV) (hA:TBv tb A) (ht:tb.length ≤ 65536) (n:Nat) (hn:n ≤ 4096) (hr:∀ r ∈ tb,r.length < 1000000 ∧ Asc n (-1) r):sem L.env Mf 26 [A,.int .i64 n] [] = some (.int .i64 0,[]):=by
 have hlen:=tb_len hA (HeapF [])
 have hrf:=hA.refs
 have hren:∀ π,ren π A = A:=fun π=>ren_flat π A hrf
 suffices hs:∃ r:AV × Heap,(r = (.int .i64 0,[])) ∧ sem L.env Mf 26 [A,.int .i64 n] [] = some r by
  obtain ⟨r,rfl,h3⟩:=hs
  exact h3
 have c0:¬ (n:Int) < 0:=by omega
 have c1:¬ (4096:Int) < n:=by omega
 have c2:¬ (65536:Int) < tb.length:=by omega
 (refine svE Tryd.f26 ?_;simp only [Tryd.f26,gS])
 (repeat first|simp only [ww]|(apply xa;simp +decide only [go_sem,hlen,c0,c1,c2];rfl;kernel_rfl))
 refine xp_lp kp26_1 (fun q F H1=>∃ (i:Nat),q = tb.length - i ∧ i ≤ tb.length ∧ F = [(1,.int .i64 n),(21,A),(22,.int .i64 tb.length),(23,.int .i64 i)] ∧ H1 = []) tb.length ?_ ?_
 ·refine ⟨_,_,?_,0,rfl,Nat.zero_le _,rfl,rfl⟩
  (simp +decide only [go_sem,gcD_eq,gcIds_eq,hrf,hren]<;>rfl)<;>rfl
 ·rintro q F H1 ⟨i,rfl,hi,rfl,rfl⟩
  by_cases hlt:i < tb.length
  ·obtain ⟨r,hrr⟩:∃ r,tb[i]? = some r:=⟨_,List.getElem?_eq_getElem hlt⟩
   obtain ⟨p,W,hp1,hp2,hW⟩:=tb_get hA (HeapF []) hrr
   obtain ⟨hrl,hasc⟩:=hr r (List.mem_of_getElem? hrr)
   have hwl:=rv_len hW (HeapF [])
   have hwf:=hW.refs
   have hwren:∀ π,ren π W = W:=fun π=>ren_flat π W hwf
   have d1:(i:Int) < tb.length:=by omega
   have hw:=wI1 (n:=i) (by omega)
   (repeat first|simp only [ww]|(apply xa;simp +decide only [go_sem,d1,hp1,hp2,hwl];rfl;kernel_rfl))
   refine xp_lp kp26_3 (fun q F H1=>∃ (j:Nat) (last:Int),q = r.length - j ∧ j ≤ r.length ∧ F = [(1,.int .i64 n),(7,.int .i64 last),(21,A),(22,.int .i64 tb.length),(23,.int .i64 i),(27,W),(28,.int .i64 r.length),(29,.int .i64 j)] ∧ H1 = [] ∧ Asc n last (r.drop j)) r.length ?_ ?_
   ·refine ⟨_,_,?_,0,-1,rfl,Nat.zero_le _,rfl,rfl,hasc⟩
    (simp +decide only [go_sem,gcD_eq,gcIds_eq,hrf,hren,hwf,hwren]<;>rfl)<;>rfl
   ·rintro q F H1 ⟨j,last,rfl,hj,rfl,rfl,ha⟩
    by_cases hjl:j < r.length
    ·obtain ⟨v,hv⟩:∃ v,r[j]? = some v:=⟨_,List.getElem?_eq_getElem hjl⟩
     obtain ⟨p2,hq1,hq2⟩:=rv_get hW (HeapF []) hv
     have hd:r.drop j = v :: r.drop (j + 1):=by rw [← List.getElem_cons_drop hjl,(List.getElem?_eq_some_iff.1 hv).2]
     rw [hd] at ha
     obtain ⟨a1,a2,a3⟩:=ha
     have e1:(j:Int) < r.length:=by omega
     have e2:¬ (v:Int) ≤ last:=by omega
     have e3:¬ (n:Int) ≤ v:=by omega
     have hw2:=wI1 (n:=j) (by omega)
     (repeat first|simp only [ww]|(apply xa;simp +decide only [go_sem,e1,hq1,hq2,e2,e3,hw2];rfl;kernel_rfl))
     refine lpJ_n (r.length - (j + 1)) (by omega) ⟨_,_,?_,j + 1,v,rfl,hjl,rfl,rfl,a3⟩
     (simp +decide only [go_sem,gcD_eq,gcIds_eq,hrf,hren,hwf,hwren]<;>rfl)<;>rfl
    ·obtain rfl:j = r.length:=by omega
     have e1:¬ (r.length:Int) < r.length:=by omega
     (repeat first|simp only [ww]|(apply xa;simp +decide only [go_sem,e1,hw];rfl;kernel_rfl))
     refine lpJ_n (tb.length - (i + 1)) (by omega) ⟨_,_,?_,i + 1,rfl,hlt,rfl,rfl⟩
     (simp +decide only [go_sem,gcD_eq,gcIds_eq,hrf,hren]<;>rfl)<;>rfl
  ·obtain rfl:i = tb.length:=by omega
   have d1:¬ (tb.length:Int) < tb.length:=by omega
   (repeat first|simp only [ww]|(apply xa;simp +decide only [go_sem,d1];rfl;kernel_rfl))
   refine fqE_r (vs:=[.int .i64 0]) (r:=(.int .i64 0,[])) (by simp +decide only [go_sem]) ?_ rfl
   rfl
theorem valid_call {d:Bool} (H:Heap) (tb:List (List Nat)) (A:AV) (hA:TBv tb A) (ht:tb.length ≤ 65536) (n:Nat) (hn:n ≤ 4096) (hr:∀ r ∈ tb,r.length < 1000000 ∧ Asc n (-1) r) :
 callV L.env d (sem L.env Mf) (.func (.func 26) [] []) [A,.int .i64 n] H = some (.int .i64 0,H,[]):=
 callV_flat (by kernel_rfl) (by kernel_rfl) rfl (by simp [refsL,hA.refs,refs]) (valid_ok tb A hA ht n hn hr) rfl
theorem missing_call (H:Heap) (tb:List (List Nat)) (A:AV) (hA:TBv tb A) (hs:Small tb) :
 callV L.env false (sem L.env Mf) (.func (.func 28) [] []) [A] H = some (.map H.length,H ++ [some (.uset (misS tb tb.length))],[]):=by
 have hrf:=hA.refs
 have hren:∀ π,ren π A = A:=fun π=>ren_flat π A hrf
 have hc:=callLoc_eq (sem L.env Mf 28) [A] H (σ:=[]) (by simp only [refsL,hrf,List.append_nil];rfl) rfl rfl (args':=[A]) (by simp [hren]) (H0:=[]) rfl (missing_ok tb A hA hs)
 refine callV_eqn (by kernel_rfl) (by kernel_rfl) rfl (hc.trans ?_)
 simp only [putBack_nil,ren,backOf,List.length_nil,List.drop_zero,List.map_cons,List.map_nil,Option.map_some,renObj]
 simp [Nat.blt]
 rfl
theorem clip_nil:sem L.env Mf 31 [.nilslice] [] = some (.nilslice,[]):=by
 (refine sv Tryd.f31 ?_;simp only [Tryd.f31,gS])
 (repeat first|simp only [ww]|(apply xa;simp +decide only [go_sem];rfl;kernel_rfl))
 (apply fqb;simp +decide only [go_sem]<;>rfl)
theorem clip_ok (n:Nat) (rows:List (List AV)) (hf:FlatR rows):sem L.env Mf 31 [.slice 0 0 n none] [some (.row 1 rows)] = some (.slice 0 0 n (some n),[some (.row 1 rows)]):=by
 have h1:=fun π=>renR_flat π hf
 (refine sv Tryd.f31 ?_;simp only [Tryd.f31,gS])
 (repeat first|simp only [ww]|(apply xa;simp +decide only [go_sem];rfl;kernel_rfl))
 (apply fqb;simp +decide only [go_sem,h1]<;>rfl)
theorem clip_call {d:Bool} {H:Heap} {b n:Nat} {rows:List (List AV)} (hf:FlatR rows) (hb:HeapF H b = some (.row 1 rows)):callV L.env d (sem L.env Mf) (.func (.func 31) [] []) [.slice b 0 n none] H = some (.slice b 0 n (some n),H,[b]):=by
 have h:=callV_one' (E:=L.env) (draw:=d) (call:=sem L.env Mf) (g:=31) (fs:=[]) (cs:=[]) (ar:=[.slice b 0 n none]) (H:=H) (b:=b) (by kernel_rfl) (by kernel_rfl) rfl hb (refsO_flat hf) (FlatO.row hf) rfl (args':=[AV.slice 0 0 n none]) (by simp only [List.nil_append,List.append_nil,List.map_cons,List.map_nil,ren_slice1]) (clip_ok n rows hf) (FlatO.row hf) (back_slice1 b 0 _ n _)
 rw [set_same hb] at h
 exact h
open Go.Proofs Go.Ax Go.Pc Go.Sort
theorem slrev_nil:sem L.env Mf 30 [.nilslice] [] = some (.tuple [],[]):=by
 have h0:oneOf [] = .tuple []:=rfl
 (refine sv Tryd.f30 ?_;simp only [Tryd.f30,gS])
 (repeat first|simp only [ww]|(apply xa;simp +decide only [go_sem];rfl;kernel_rfl))
 refine xp_lp kp30_0 (fun N F H=>F = [(0,.nilslice),(2,.int .i64 0),(3,.int .i64 (-1))] ∧ H = []) 1 ?_ ?_
 ·refine ⟨_,_,?_,rfl,rfl⟩
  (simp +decide only [go_sem,gcD_eq,gcIds_eq]<;>rfl)<;>rfl
 ·rintro N F H ⟨rfl,rfl⟩
  (repeat first|simp only [ww]|(apply xa;simp +decide only [go_sem];rfl;kernel_rfl))
  (apply fqb;simp +decide only [go_sem,h0]<;>rfl)
theorem slrev_ok (n:Nat) (c:Option Nat) (d:Array Int) (rest:List (List AV)) (hrest:FlatR rest) (hn:n = d.size) (hn0:0 < n) (hn1:n ≤ 1000) :
 sem L.env Mf 30 [.slice 0 0 n c] [some (.row 1 (rwA d ++ rest))] = some (.tuple [],[some (.row 1 (rwA (reverseLoop 0 (n - 1) d) ++ rest))]):=by
 have h0:oneOf [] = .tuple []:=rfl
 have w1:IntKind.i64.wrap ((n:Int) - 1) = ((n - 1:Nat):Int):=by rw [w64 (by omega) (by omega)];omega
 have hE:∀ (i j:Nat) (d:Array Int),reverseLoop i j d = if i < j then reverseLoop (i + 1) (j - 1) (swp d i j) else d:=fun i j d=>by conv=>lhs;unfold reverseLoop
 have f00:=rwA_flatA (d:=d) hrest
 (refine sv Tryd.f30 ?_;simp only [Tryd.f30,gS])
 (repeat first|simp only [ww]|(apply xa;simp +decide only [go_sem,w1];rfl;kernel_rfl))
 refine xp_lp kp30_0 (fun N F H=>∃ (i j:Nat) (e:Array Int),N = j + 1 - i ∧ e.size = n ∧ F = [(0,.slice 0 0 n c),(2,.int .i64 i),(3,.int .i64 j)] ∧ H = [some (.row 1 (rwA e ++ rest))] ∧ reverseLoop i j e = reverseLoop 0 (n - 1) d ∧ j < n ∧ i ≤ n) (n - 1 + 1 - 0) ?_ ?_
 ·refine ⟨_,_,?_,0,n - 1,d,rfl,hn.symm,rfl,rfl,rfl,by omega,by omega⟩
  (simp +decide only [go_sem,gcD_eq,gcIds_eq,refs_flatR f00,renR_flat _ f00]<;>rfl)<;>rfl
 ·rintro N F H ⟨i,j,e,rfl,he,rfl,rfl,hT,hj,hi⟩
  have f:=rwA_flatA (d:=e) hrest
  rw [hE] at hT
  by_cases hij:i < j
  ·rw [if_pos hij] at hT
   have d1:(i:Int) < j:=by omega
   have w2:=wI1 (n:=i) (by omega)
   have w3:IntKind.i64.wrap ((j:Int) - 1) = ((j - 1:Nat):Int):=by rw [w64 (by omega) (by omega)];omega
   have hl:n ≤ (rwA e ++ rest).length:=by rw [List.length_append,rwA_len];omega
   have hls2:∀ i x,((rwA e ++ rest).set i x).length = (rwA e ++ rest).length:=fun i x=>List.length_set
   have k0:i < n:=by omega
   have g0:=rwA_get (d:=e) (rest:=rest) (i:=i) (by omega)
   have g1:=rwA_get (d:=e) (rest:=rest) (i:=j) (by omega)
   have hs:=rwA_swp (d:=e) (rest:=rest) (i:=i) (j:=j) (by omega) (by omega)
   obtain ⟨y,hg3⟩:=rwA_get2 (d:=e) (rest:=rest) (i:=i) (j:=j) (x:=e[j]!) (by omega) (by omega)
   have f2:=rwA_flatA (d:=swp e i j) hrest
   (repeat first|simp only [ww]|(apply xa;simp +decide only [go_sem,d1,w2,w3,hl,hls2,k0,hj,g0,g1,hg3,hs];rfl;kernel_rfl))
   refine lpJ_n (j - 1 + 1 - (i + 1)) (by omega) ⟨_,_,?_,i + 1,j - 1,_,rfl,by rw [swp_size];exact he,rfl,rfl,hT,by omega,by omega⟩
   (simp +decide only [go_sem,gcD_eq,gcIds_eq,refs_flatR f2,renR_flat _ f2]<;>rfl)<;>rfl
  ·rw [if_neg hij] at hT
   have d1:¬ (i:Int) < j:=by omega
   (repeat first|simp only [ww]|(apply xa;simp +decide only [go_sem,d1];rfl;kernel_rfl))
   rw [← hT]
   (apply fqb;simp +decide only [go_sem,h0,renR_flat _ f]<;>rfl)
end Go.KInst
