/- Part of a proof. No condition. -/
import Derived.Test.YtbmkmaobejlkgaaDoorKPk
import Derived.Test.YtbmkmaobejlkgaaDoorAxF
import Derived.Test.YtbmkmaobejlkgaaDoorPcP
set_option linter.unusedSimpArgs false
set_option linter.unusedVariables false
namespace Go.KInst
open Go.Proofs Go.Ax Go.Pc
set_option maxRecDepth 100000
/-- The sets while they are made. -/
def cs0 (n i:Nat):List (Option (List Int)):=(List.range n).map fun j=>if j < i then some [] else none
theorem cs0_len (n i:Nat):(cs0 n i).length = n:=by simp [cs0]
theorem cs0_zero (n:Nat):List.replicate n none = cs0 n 0:=by
 unfold cs0
 apply List.ext_getElem?
 intro j
 rw [List.getElem?_replicate,List.getElem?_map]
 by_cases hl:j < n
 ·rw [List.getElem?_range hl];simp [hl]
 ·simp [hl]
theorem cs0_get {n i:Nat} (h:i < n):(cs0 n i)[i]? = some none:=by
 unfold cs0
 rw [List.getElem?_map,List.getElem?_range h];simp
theorem cs0_succ {n i:Nat}:(cs0 n i).set i (some []) = cs0 n (i + 1):=by
 apply List.ext_getElem?
 intro j
 unfold cs0
 rw [List.getElem?_set,List.getElem?_map,List.getElem?_map,List.length_map,List.length_range]
 by_cases h:i = j
 ·subst h
  by_cases hl:i < n
  ·simp [hl]
  ·simp [hl]
 ·rw [if_neg h]
  by_cases hl:j < n
  ·rw [List.getElem?_range hl]
   simp only [Option.map_some]
   by_cases h1:j < i
   ·rw [if_pos h1,if_pos (by omega)]
   ·rw [if_neg h1,if_neg (by omega)]
  ·simp [hl]
/-- What a test detects among the first rows. -/
def colT (tb:List (List Nat)) (i t:Nat):List Int:=idxL i fun k=>(rowAt' tb k).contains t
theorem colT_lt {tb:List (List Nat)} {i t:Nat} {z:Int} (h:z ∈ colT tb i t):z < i:=by
 obtain ⟨k,rfl,h1,_⟩:=idxL_mem.1 h;omega
theorem colT_not {tb:List (List Nat)} {i t:Nat}:(colT tb i t).contains (i:Int) = false:=by
 cases h:(colT tb i t).contains (i:Int) with
 | false=>rfl
 | true=>have:=colT_lt (List.contains_iff_mem.1 h);omega
def colK (tb:List (List Nat)) (i:Nat) (r:List Nat) (k t:Nat):List Int:=colT tb i t ++ if (r.take k).contains t then [(i:Int)] else []
theorem colK_zero (tb:List (List Nat)) (i:Nat) (r:List Nat) (t:Nat):colK tb i r 0 t = colT tb i t:=by simp [colK]
theorem colK_end {tb:List (List Nat)} {i:Nat} {r:List Nat} (h:tb[i]? = some r) (t:Nat):colK tb i r r.length t = colT tb (i + 1) t:=by
 unfold colK colT
 rw [idxL_succ,row_at h,List.take_length]
def cs2 (n:Nat) (f:Nat → List Int):List (Option (List Int)):=((List.range n).map f).map some
theorem cs2_len (n:Nat) (f:Nat → List Int):(cs2 n f).length = n:=by simp [cs2]
theorem cs2_get {n t:Nat} (f:Nat → List Int) (h:t < n):(cs2 n f)[t]? = some (some (f t)):=by
 unfold cs2;rw [List.getElem?_map,List.getElem?_map,List.getElem?_range h];rfl
theorem cs2_congr {n:Nat} {f g:Nat → List Int} (h:∀ t,t < n → f t = g t):cs2 n f = cs2 n g:=by
 unfold cs2
 congr 1
 exact List.map_congr_left fun t ht=>h t (List.mem_range.1 ht)
theorem cs2_set {n t:Nat} {f g:Nat → List Int} {s:List Int} (h1:g t = s) (h2:∀ u,u ≠ t → f u = g u):(cs2 n f).set t (some s) = cs2 n g:=by
 apply List.ext_getElem?
 intro j
 unfold cs2
 rw [List.getElem?_set]
 simp only [List.getElem?_map,List.length_map,List.length_range]
 by_cases h:t = j
 ·subst h
  by_cases hl:t < n
  ·simp [hl,h1]
  ·simp [hl]
 ·rw [if_neg h]
  by_cases hl:j < n
  ·rw [List.getElem?_range hl];simp only [Option.map_some,h2 j (Ne.symm h)]
  ·simp [hl]
theorem cs0_end (n:Nat):cs0 n n = cs2 n fun _=>[]:=by
 unfold cs0 cs2
 rw [List.map_map]
 refine List.map_congr_left fun t ht=>?_
 simp [List.mem_range.1 ht]
theorem colK_yes {tb:List (List Nat)} {i:Nat} {r:List Nat} {k v:Nat} (hv:r[k]? = some v):(bif (colK tb i r k v).contains (i:Int) then colK tb i r k v else insZ (i:Int) (colK tb i r k v)) = colK tb i r (k + 1) v:=by
 have ht:r.take (k + 1) = r.take k ++ [v]:=by rw [List.take_add_one,hv];rfl
 have h2:(r.take (k + 1)).contains v = true:=by rw [List.contains_iff_mem,ht];simp
 unfold colK
 rw [h2]
 by_cases h:(r.take k).contains v = true
 ·rw [h]
  have h3:(colT tb i v ++ [(i:Int)]).contains (i:Int) = true:=by rw [List.contains_iff_mem];simp
  simp only [if_true,h3,cond_true]
 ·have h:(r.take k).contains v = false:=by simpa using h
  rw [h]
  simp only [Bool.false_eq_true,if_false,List.append_nil,colT_not,cond_false,if_true]
  exact insZ_last fun y hy=>colT_lt hy
theorem colK_no {tb:List (List Nat)} {i:Nat} {r:List Nat} {k v u:Nat} (hv:r[k]? = some v) (h:u ≠ v):colK tb i r k u = colK tb i r (k + 1) u:=by
 have ht:r.take (k + 1) = r.take k ++ [v]:=by rw [List.take_add_one,hv];rfl
 unfold colK
 have:(r.take (k + 1)).contains u = (r.take k).contains u:=by
  rw [Bool.eq_iff_iff,List.contains_iff_mem,List.contains_iff_mem,ht]
  simp [h]
 rw [this]
def setsV (tb:List (List Nat)) (n:Nat):AV:=.islice ((List.range n).map fun t=>[.iset (colI tb t)]) (some n)
theorem turned_ok (tb:List (List Nat)) (A:AV) (hA:TBv tb A) (hs:Small tb) (n:Nat) (hn:n ≤ 4096) (hr:∀ r ∈ tb,∀ t ∈ r,t < n):sem L.env Mf 27 [A,.int .i64 n] [] = some (setsV tb n,[]):=by
 have hrf:=hA.refs
 have hren:∀ π,ren π A = A:=fun π=>ren_flat π A hrf
 have hrm:n ≤ 1000000000:=by omega
 suffices hs:∃ r:AV × Heap,(r = (setsV tb n,[])) ∧ sem L.env Mf 27 [A,.int .i64 n] [] = some r by
  obtain ⟨r,rfl,h3⟩:=hs
  exact h3
 (refine svE Tryd.f27 ?_;simp only [Tryd.f27,gS])
 (repeat first|simp only [ww]|(apply xa;simp +decide only [go_sem,hrm];rfl;kernel_rfl))
 refine xp_lp kp27_0 (fun q F H1=>∃ i b ids,q = n - i ∧ i ≤ n ∧ F = [(0,A),(5,.slice b 0 n (some n)),(14,.int .i64 n),(15,.int .i64 i)] ∧ Sts H1 b ids (cs0 n i)) n ?_ ?_
 ·refine sts_head (sts_init _ n 0 rfl) ?_ (by simp;omega) ?_
  ·exact .inl (by simp +decide only [go_sem,hrf])
  ·intro π b' ids' H1 hb hT
   rw [cs0_zero] at hT
   refine ⟨0,b',ids',rfl,Nat.zero_le _,?_,hT⟩
   simp +decide only [go_sem,hb,hren]<;>rfl
 ·rintro q F H ⟨i,b,ids,rfl,hi,rfl,hT⟩
  by_cases hlt:i < n
  ·have c1:(i:Int) < n:=by omega
   have hw:=wI1 (n:=i) (by omega)
   have hbl:=heapF_lt hT.top
   have htop:=hT.top
   have hrl:(rowsM ids (cs0 n i)).length = n:=by rw [rowsM_len,cs0_len]
   have hgl:i < (rowsM ids (cs0 n i)).length:=by omega
   have hN:=hT.new0 (s:=[]) (L:=[]) (j:=i) (by rw [cs0_len];exact hlt)
   rw [cs0_succ] at hN
   have hget:=rowsM_get (ids:=ids) (cs0_get hlt)
   simp only [mpV] at hget
   (repeat first|simp only [ww]|(apply xa;simp +decide only [go_sem,c1,hw,hlt,hbl,htop,hrl,hget,heapF_hi0,heapF_hi,heapF_lo,set_lo,lt_add1,lt_add_s,List.append_assoc,List.cons_append,List.nil_append];rfl;kernel_rfl))
   refine lpJ_n (n - (i + 1)) (by omega) ?_
   refine sts_head hN ?_ (by rw [cs0_len];omega) ?_
   ·exact .inl (by simp +decide only [go_sem,hrf])
   ·intro π b' ids' H1 hb hT
    refine ⟨i + 1,b',ids',rfl,hlt,?_,hT⟩
    simp +decide only [go_sem,hb,hren]<;>rfl
  ·obtain rfl:i = n:=by omega
   have c1:¬ (i:Int) < i:=by omega
   have hlen:=tb_len hA (HeapF H)
   rw [cs0_end] at hT
   (repeat first|simp only [ww]|(apply xa;simp +decide only [go_sem,c1,hlen];rfl;kernel_rfl))
   refine xp_lp kp27_2 (fun q F H1=>∃ k b ids,q = tb.length - k ∧ k ≤ tb.length ∧ F = [(5,.slice b 0 i (some i)),(23,A),(24,.int .i64 tb.length),(25,.int .i64 k)] ∧ Sts H1 b ids (cs2 i (colT tb k))) tb.length ?_ ?_
   ·refine sts_head hT ?_ (by rw [cs2_len];omega) ?_
    ·exact .inl (by simp +decide only [go_sem,hrf])
    ·intro π b' ids' H1 hb hT
     refine ⟨0,b',ids',rfl,Nat.zero_le _,?_,hT⟩
     simp +decide only [go_sem,hb,hren]<;>rfl
   ·rintro q F H ⟨k,b,ids,rfl,hk,rfl,hT⟩
    by_cases hkl:k < tb.length
    ·obtain ⟨r,hrr⟩:∃ r,tb[k]? = some r:=⟨_,List.getElem?_eq_getElem hkl⟩
     obtain ⟨p,W,hp1,hp2,hW⟩:=tb_get hA (HeapF H) hrr
     have hwl:=rv_len hW (HeapF H)
     have hwf:=hW.refs
     have hwren:∀ π,ren π W = W:=fun π=>ren_flat π W hwf
     have hrm:=List.mem_of_getElem? hrr
     have c2:(k:Int) < tb.length:=by omega
     have hw:=wI1 (n:=k) (by have:=hs.1;omega)
     (repeat first|simp only [ww]|(apply xa;simp +decide only [go_sem,c2,hp1,hp2,hwl];rfl;kernel_rfl))
     refine xp_lp kp27_4 (fun q F H1=>∃ j b ids,q = r.length - j ∧ j ≤ r.length ∧ F = [(5,.slice b 0 i (some i)),(7,.int .i64 k),(23,A),(24,.int .i64 tb.length),(25,.int .i64 k),(30,W),(31,.int .i64 r.length),(32,.int .i64 j)] ∧ Sts H1 b ids (cs2 i (colK tb k r j))) r.length ?_ ?_
     ·refine sts_head hT ?_ (by rw [cs2_len];omega) ?_
      ·exact .inl (by simp +decide only [go_sem,hrf,hwf])
      ·intro π b' ids' H1 hb hT
       rw [← cs2_congr fun t _=>colK_zero tb k r t] at hT
       refine ⟨0,b',ids',rfl,Nat.zero_le _,?_,hT⟩
       simp +decide only [go_sem,hb,hren,hwren]<;>rfl
     ·rintro q F H ⟨j,b,ids,rfl,hj,rfl,hT⟩
      by_cases hjl:j < r.length
      ·obtain ⟨v,hv⟩:∃ v,r[j]? = some v:=⟨_,List.getElem?_eq_getElem hjl⟩
       obtain ⟨p2,hq1,hq2⟩:=rv_get hW (HeapF H) hv
       have hvn:v < i:=hr r hrm v (List.mem_of_getElem? hv)
       have c3:(j:Int) < r.length:=by omega
       have hw3:=wI1 (n:=j) (by have:=hs.2 r hrm;omega)
       have htop:=hT.top
       have hbl:=heapF_lt htop
       have hcg:=cs2_get (n:=i) (colK tb k r j) hvn
       have hget:=rowsM_get (ids:=ids) hcg
       simp only [mpV] at hget
       have hsub:=(hT.sub v _ hcg).1
       have hrl:(rowsM ids (cs2 i (colK tb k r j))).length = i:=by rw [rowsM_len,cs2_len]
       have hil:=heapF_lt hsub
       have hy:=colK_yes (tb:=tb) (i:=k) hv
       have hN:=hT.put (t:=colK tb k r (j + 1) v) hcg
       rw [cs2_set (g:=colK tb k r (j + 1)) rfl fun u hu=>colK_no hv hu] at hN
       (repeat first|simp only [ww]|(apply xa;simp +decide only [go_sem,c3,hq1,hq2,hw3,htop,hbl,hvn,hget,hsub,hrl,hy,hil];rfl;kernel_rfl))
       refine lpJ_n (r.length - (j + 1)) (by omega) ?_
       refine sts_head hN ?_ (by rw [cs2_len];omega) ?_
       ·exact .inl (by simp +decide only [go_sem,hrf,hwf])
       ·intro π b' ids' H1 hb hT
        refine ⟨j + 1,b',ids',rfl,hjl,?_,hT⟩
        simp +decide only [go_sem,hb,hren,hwren]<;>rfl
      ·obtain rfl:j = r.length:=by omega
       have c3:¬ (r.length:Int) < r.length:=by omega
       rw [cs2_congr fun t _=>colK_end hrr t] at hT
       (repeat first|simp only [ww]|(apply xa;simp +decide only [go_sem,c3,hw];rfl;kernel_rfl))
       refine lpJ_n (tb.length - (k + 1)) (by omega) ?_
       refine sts_head hT ?_ (by rw [cs2_len];omega) ?_
       ·exact .inl (by simp +decide only [go_sem,hrf])
       ·intro π b' ids' H1 hb hT
        refine ⟨k + 1,b',ids',rfl,hkl,?_,hT⟩
        simp +decide only [go_sem,hb,hren]<;>rfl
    ·obtain rfl:k = tb.length:=by omega
     have c2:¬ (tb.length:Int) < tb.length:=by omega
     have hz:=hT.frz (some i)
     rw [List.length_map,List.length_range,List.map_map] at hz
     (repeat first|simp only [ww]|(apply xa;simp +decide only [go_sem,c2];rfl;kernel_rfl))
     refine fqE_n (vs:=[.slice b 0 i (some i)]) (r:=(_,[])) (by simp +decide only [go_sem]) ?_ rfl
     show finish false 0 (.slice b 0 i (some i)) H = _
     rw [finish_eq,hz]
     rfl
open Go.Proofs Go.Ax Go.Pc Go.Sort
theorem flatI (l:List Nat):FlatR (l.map intR):=FlatR.map fun _=>rfl
theorem refsI (l:List Nat):(l.map intR).flatMap refsL = []:=refs_flatR (flatI l)
theorem renI (π:Nat → Option Nat) (l:List Nat):(l.map intR).map (fun r=>r.map (ren π)) = l.map intR:=renR_flat π (flatI l)
theorem frzI {m:Nat} {d:AV → Option AV} (l:List Nat):frzR m d (l.map intR) = some (l.map intR):=frzR_flat m d (flatI l)
/-- A list without spare room, nil if it is empty. -/
def lsV:List Nat → AV|[]=>.nilslice|a :: r=>.islice ((a :: r).map intR) (some (r.length + 1))
theorem lsV_rv (l:List Nat):RV l (lsV l):=by
 cases l with
 | nil=>exact .nil rfl
 | cons a r=>exact .imm _
theorem lsV_refs (l:List Nat):refs (lsV l) = []:=(lsV_rv l).refs
theorem setsV_refs (tb:List (List Nat)) (n:Nat):refs (setsV tb n) = []:=by rfl
theorem setsV_ren (π:Nat → Option Nat) (tb:List (List Nat)) (n:Nat):ren π (setsV tb n) = setsV tb n:=ren_flat π _ rfl
theorem sets_get {tb:List (List Nat)} {n t:Nat} (h:t < n):((List.range n).map fun t=>[AV.iset (colI tb t)])[t]? = some [.iset (colI tb t)]:=by
 rw [List.getElem?_map,List.getElem?_range h];rfl
theorem turned_call {d:Bool} (H:Heap) {tb:List (List Nat)} {A:AV} (hA:TBv tb A) (hs:Small tb) {n:Nat} (hn:n ≤ 4096) (hr:∀ r ∈ tb,∀ t ∈ r,t < n) :
 callV L.env d (sem L.env Mf) (.func (.func 27) [] []) [A,.int .i64 n] H = some (setsV tb n,H,[]):=
 callV_flat (by kernel_rfl) (by kernel_rfl) rfl (by simp [refsL,hA.refs,refs]) (turned_ok tb A hA hs n hn hr) rfl
theorem slrev_callN {d:Bool} (H:Heap):callV L.env d (sem L.env Mf) (.func (.func 30) [] []) [.nilslice] H = some (.tuple [],H,[]):=
 callV_flat (by kernel_rfl) (by kernel_rfl) rfl rfl slrev_nil rfl
theorem slrev_call {d:Bool} {H:Heap} {b:Nat} {l:List Nat} (c:Option Nat) (h0:0 < l.length) (h1:l.length ≤ 1000) (hb:HeapF H b = some (.row 1 (l.map intR))) :
 callV L.env d (sem L.env Mf) (.func (.func 30) [] []) [.slice b 0 l.length c] H = some (.tuple [],H.set b (some (.row 1 (l.reverse.map intR))),[b]):=by
 have h:=slrev_ok l.length c (arN l) [] FlatR.nil (arN_size l).symm h0 h1
 rw [List.append_nil,List.append_nil,rwA_arN,rev_arN] at h
 exact callV_one' (E:=L.env) (draw:=d) (call:=sem L.env Mf) (g:=30) (fs:=[]) (cs:=[]) (ar:=[.slice b 0 l.length c]) (H:=H) (b:=b) (by kernel_rfl) (by kernel_rfl) rfl hb (refsO_flat (flatI l)) (FlatO.row (flatI l)) rfl (args':=[AV.slice 0 0 l.length c]) (by simp only [List.nil_append,List.append_nil,List.map_cons,List.map_nil,ren_slice1]) h (FlatO.row (flatI _)) rfl
theorem clip_callN {d:Bool} (H:Heap):callV L.env d (sem L.env Mf) (.func (.func 31) [] []) [.nilslice] H = some (.nilslice,H,[]):=
 callV_flat (by kernel_rfl) (by kernel_rfl) rfl rfl clip_nil rfl
theorem colI_len (tb:List (List Nat)) (t:Nat):(colI tb t).length ≤ tb.length:=idxL_len _ _
theorem misS_lset (tb:List (List Nat)):misS tb tb.length = lset tb []:=(lset_nil tb).symm
theorem takeI (l:List Nat):List.take l.length (l.map intR) = l.map intR:=List.take_of_length_le (by simp)
theorem fin_ls {H:Heap} {b:Nat} (a:Nat) (t:List Nat) (e:Int) (hb:HeapF H b = some (.row 1 ((a :: t).map intR))):finish false 0 (.tuple [.slice b 0 (t.length + 1) (some (t.length + 1)),.int .i64 e]) H = some (.tuple [lsV (a :: t),.int .i64 e],[]):=by
 simp +decide only [go_sem,hb,List.length_cons,List.length_map,List.map_cons,lsV,frzI,takeI]<;>rfl
/-- A table for so many tests. -/
structure Tab (tb:List (List Nat)) (n:Nat) (A:AV):Prop where
 val:TBv tb A
 rows:tb.length ≤ 1000
 tests:n ≤ 1000
 asc:∀ r ∈ tb,r.length < 1000000 ∧ Asc n (-1) r
theorem Tab.small {tb:List (List Nat)} {n:Nat} {A:AV} (h:Tab tb n A):Small tb:=⟨by have:=h.rows;omega,fun r hr=>(h.asc r hr).1⟩
theorem asc_lt {n:Nat}:∀ {r:List Nat} {z:Int},Asc n z r → ∀ t ∈ r,t < n
 | [],_,_,_,h=>by cases h
 | x :: r,z,h,t,ht=>by
  obtain ⟨h1,h2,h3⟩:=h
  rcases List.mem_cons.1 ht with rfl|ht
  ·omega
  ·exact asc_lt h3 t ht
theorem Tab.lt {tb:List (List Nat)} {n:Nat} {A:AV} (h:Tab tb n A):∀ r ∈ tb,∀ t ∈ r,t < n:=fun r hr t ht=>asc_lt (h.asc r hr).2 t ht
theorem Tab.valid {tb:List (List Nat)} {n:Nat} {A:AV} (h:Tab tb n A) {d:Bool} (H:Heap):callV L.env d (sem L.env Mf) (.func (.func 26) [] []) [A,.int .i64 n] H = some (.int .i64 0,H,[]):=
 valid_call H tb A h.val (by have:=h.rows;omega) n (by have:=h.tests;omega) h.asc
theorem reverse_ok {tb:List (List Nat)} {n:Nat} {A:AV} (h:Tab tb n A):sem L.env Mf 8 [A,.int .i64 n] [] = some (.tuple [lsV (later tb n []),.int .i64 0],[]):=by
 have hs:=h.small
 have hn:=h.tests
 have hva:=h.valid (d:=false) []
 have htu:=turned_call (d:=false) [] h.val hs (n:=n) (by omega) h.lt
 have hmi:=missing_call [] tb A h.val hs
 rw [misS_lset] at hmi
 have hw0:IntKind.i64.wrap ((n:Int) - 1) = (n:Int) - 1:=w64 (by omega) (by omega)
 have hsr:=setsV_refs tb n
 have hse:=fun π=>setsV_ren π tb n
 suffices hs:∃ r:AV × Heap,(r = (.tuple [lsV (later tb n []),.int .i64 0],[])) ∧ sem L.env Mf 8 [A,.int .i64 n] [] = some r by
  obtain ⟨r,rfl,h3⟩:=hs
  exact h3
 (refine svE Tryd.f8 ?_;simp only [Tryd.f8,gS])
 (repeat first|simp only [ww]|(apply xa;simp +decide only [go_sem,hva,htu,hmi,hw0];rfl;kernel_rfl))
 refine xp_lp kp8_0 (fun q F H1=>∃ (s:Nat) (x:Int) (acc o:List Nat),q = s ∧ s ≤ n ∧ x = (s:Int) - 1 ∧ F = [(7,setsV tb n),(8,.map 0),(9,grV 1 (o.map intR)),(10,.int .i64 x)] ∧ H1 = some (.uset (lset tb acc)) :: grH 1 (o.map intR) ∧ o = acc.reverse ∧ acc.length + s ≤ n ∧ later tb s acc = later tb n []) n ?_ ?_
 ·refine ⟨_,_,?_,n,_,[],[],rfl,Nat.le_refl _,rfl,rfl,rfl,rfl,by simp,rfl⟩
  (simp +decide only [go_sem,gcD_eq,gcIds_eq,hsr,hse]<;>rfl)<;>rfl
 ·rintro q F H1 ⟨s,x,acc,o,rfl,hsn,hx,rfl,rfl,ho,hal,hlat⟩
  have hol:o.length + q ≤ n:=by rw [ho,List.length_reverse];exact hal
  cases q with
  | zero=>
   have c1:¬ (0:Int) ≤ x:=by omega
   have hacc:acc = later tb n []:=hlat
   have hor:o.reverse = later tb n []:=by rw [ho,List.reverse_reverse,hacc]
   cases o with
   | nil=>
    rw [← hor]
    have hrv:=fun H=>slrev_callN (d:=false) H
    have hcl:=fun H=>clip_callN (d:=false) H
    simp only [List.map_nil,grV_nil,grH_nil]
    (repeat first|simp only [ww]|(apply xa;simp +decide only [go_sem,c1,hrv,hcl];rfl;kernel_rfl))
    refine fqE_n (vs:=[.nilslice,.int .i64 0]) (r:=(_,_)) (by simp +decide only [go_sem]) ?_ rfl
    simp +decide only [go_sem,finish]<;>rfl
   | cons a r=>
    have hrv:=slrev_call (d:=false) (H:=[some (.uset (lset tb acc)),some (.row 1 ((a :: r).map intR))]) (b:=1) (l:=a :: r) none (by simp) (by have h2:=hol;simp only [List.length_cons] at h2;omega) rfl
    have hcl:=clip_call (d:=false) (H:=[some (.uset (lset tb acc)),some (.row 1 (((a :: r).reverse).map intR))]) (b:=1) (n:=r.length + 1) (flatI _) rfl
    rw [← hor]
    simp only [List.map_cons,List.length_cons,List.set_cons_succ,List.set_cons_zero,intR] at hrv hcl
    obtain ⟨b,t,hbt⟩:∃ b t,(a :: r).reverse = b :: t:=by
     cases hh:(a :: r).reverse with
     | nil=>simp at hh
     | cons b t=>exact ⟨b,t,rfl⟩
    have hbl:t.length = r.length:=by have:=congrArg List.length hbt;simp at this;omega
    rw [hbt] at hrv hcl ⊢
    simp only [List.map_cons,grV_cons,grH_cons,List.length_map]
    simp only [List.map_cons,intR] at hrv hcl
    (repeat first|simp only [ww]|(apply xa;simp +decide only [go_sem,c1,hrv,hcl];rfl;kernel_rfl))
    refine fqE_n (vs:=[.slice 1 0 (r.length + 1) (some (r.length + 1)),.int .i64 0]) (r:=(_,_)) (by simp +decide only [go_sem]) ?_ rfl
    rw [← hbl]
    exact fin_ls b t 0 rfl
  | succ t=>
   obtain rfl:x = (t:Int):=by omega
   have c1:(0:Int) ≤ (t:Int):=by omega
   have hw:IntKind.i64.wrap ((t:Int) - 1) = (t:Int) - 1:=w64 (by omega) (by omega)
   have hg:=sets_get (tb:=tb) (n:=n) (t:=t) (by omega)
   have htn:t < n:=by omega
   have hdr:=fun H b hb=>drop_call (d:=false) H b (lset tb acc) (colI tb t) hb (idxL_nodup _ _) (by have:=colI_len tb t;have:=h.rows;omega)
   have e1:drS (lset tb acc) (colI tb t) = lset tb (t :: acc):=lset_drop fun r=>meets_cons r acc t
   have e2:drN (lset tb acc) (colI tb t) = gcnt tb acc t:=rfl
   rw [e1,e2] at hdr
   have hlat2:later tb t (if 0 < gcnt tb acc t then t :: acc else acc) = later tb n []:=hlat
   by_cases h0:0 < gcnt tb acc t
   ·rw [if_pos h0] at hlat2
    have c2:(0:Int) < (gcnt tb acc t:Int):=by omega
    cases o with
    | nil=>
     have hdr:=hdr [some (.uset (lset tb acc))] 0 rfl
     simp only [List.map_nil,grV_nil,grH_nil]
     unfold setsV
     (repeat first|simp only [ww]|(apply xa;simp +decide only [go_sem,c1,hg,htn,hdr,c2,hw];rfl;kernel_rfl))
     refine lpJ_n t (by omega) ⟨_,_,?_,t,_,t :: acc,[t],rfl,by omega,rfl,rfl,rfl,?_,by simp only [List.length_cons];omega,hlat2⟩
     ·(simp +decide only [go_sem,gcD_eq,gcIds_eq,List.map_nil,List.map_cons,grV_cons,grH_cons,List.length_nil,hse]<;>rfl)<;>rfl
     ·rw [List.reverse_cons,← ho];rfl
    | cons a r=>
     have hdr:=hdr [some (.uset (lset tb acc)),some (.row 1 ((a :: r).map intR))] 0 rfl
     simp only [List.map_cons,intR] at hdr
     simp only [List.map_cons,grV_cons,grH_cons,List.length_map]
     have hrm:r.length + 1 + 1 ≤ 1000000000:=by simp only [List.length_cons] at hol;omega
     unfold setsV
     (repeat first|simp only [ww]|(apply xa;simp +decide only [go_sem,c1,hg,htn,hdr,c2,hw,hrm];rfl;kernel_rfl))
     refine lpJ_n t (by omega) ⟨_,_,?_,t,_,t :: acc,a :: r ++ [t],rfl,by omega,rfl,rfl,rfl,?_,by simp only [List.length_cons];omega,hlat2⟩
     ·(simp +decide only [go_sem,gcD_eq,gcIds_eq,List.cons_append,List.map_cons,List.map_append,List.map_nil,grV_cons,grH_cons,refsI,renI,List.length_cons,List.length_map,List.length_append,List.length_nil,hse]<;>rfl)<;>rfl
     ·rw [List.reverse_cons,← ho]
   ·rw [if_neg h0] at hlat2
    have h00:gcnt tb acc t = 0:=by omega
    have c2:¬ (0:Int) < (gcnt tb acc t:Int):=by omega
    rw [lset_same h00] at hdr
    cases o with
    | nil=>
     have hdr:=hdr [some (.uset (lset tb acc))] 0 rfl
     simp only [List.map_nil,grV_nil,grH_nil]
     unfold setsV
     (repeat first|simp only [ww]|(apply xa;simp +decide only [go_sem,c1,hg,htn,hdr,c2,hw];rfl;kernel_rfl))
     refine lpJ_n t (by omega) ⟨_,_,?_,t,_,acc,[],rfl,by omega,rfl,rfl,rfl,ho,by omega,hlat2⟩
     (simp +decide only [go_sem,gcD_eq,gcIds_eq,List.map_nil,grV_nil,grH_nil,hse]<;>rfl)<;>rfl
    | cons a r=>
     have hdr:=hdr [some (.uset (lset tb acc)),some (.row 1 ((a :: r).map intR))] 0 rfl
     simp only [List.map_cons,intR] at hdr
     simp only [List.map_cons,grV_cons,grH_cons,List.length_map]
     unfold setsV
     (repeat first|simp only [ww]|(apply xa;simp +decide only [go_sem,c1,hg,htn,hdr,c2,hw];rfl;kernel_rfl))
     refine lpJ_n t (by omega) ⟨_,_,?_,t,_,acc,a :: r,rfl,by omega,rfl,rfl,rfl,ho,by omega,hlat2⟩
     (simp +decide only [go_sem,gcD_eq,gcIds_eq,List.map_cons,grV_cons,grH_cons,refsI,renI,List.length_map,hse]<;>rfl)<;>rfl
theorem greedy_ok {tb:List (List Nat)} {n:Nat} {A:AV} (h:Tab tb n A):∃ r:AV × Heap,(∃ l,GSel tb n l ∧ r = (.tuple [lsV l,.int .i64 0],[])) ∧ sem L.env Mf 9 [A,.int .i64 n] [] = some r:=by
 have hs:=h.small
 have hn:=h.tests
 have hrw:=h.rows
 have hva:=h.valid (d:=false) []
 have htu:=turned_call (d:=false) [] h.val hs (n:=n) (by omega) h.lt
 have hmi:=missing_call [] tb A h.val hs
 rw [misS_lset] at hmi
 have hsr:=setsV_refs tb n
 have hse:=fun π=>setsV_ren π tb n
 (refine svE Tryd.f9 ?_;simp only [Tryd.f9,gS])
 (repeat first|simp only [ww]|(apply xa;simp +decide only [go_sem,hva,htu,hmi];rfl;kernel_rfl))
 refine xp_lp kp9_0 (fun q F H1=>∃ (k:Nat) (acc:List Nat) (O:AV) (G:Heap),q = tb.length - k ∧ acc = gsel tb n k ∧ (∀ j,j < k → covL tb (gsel tb n j) = false) ∧ F = [(7,setsV tb n),(8,.map 0),(9,O)] ∧ H1 = some (.uset (lset tb acc)) :: G ∧ ((acc = [] ∧ O = .nilslice ∧ G = []) ∨ (acc ≠ [] ∧ O = .slice 1 0 acc.length none ∧ G = [some (.row 1 (acc.map intR))]))) tb.length ?_ ?_
 ·refine ⟨_,_,?_,0,[],.nilslice,[],rfl,rfl,fun j hj=>by omega,rfl,rfl,.inl ⟨rfl,rfl,rfl⟩⟩
  (simp +decide only [go_sem,gcD_eq,gcIds_eq,hsr,hse]<;>rfl)<;>rfl
 ·rintro q F H1 ⟨k,acc,O,G,rfl,hacc,hk,rfl,rfl,hGO⟩
  have hall:=gsel_len tb n k
  rw [← hacc] at hall
  by_cases hc:covL tb acc = true
  ·have hl0:=(lset_len0 tb acc).2 hc
   have hS:GSel tb n acc:=⟨k,hacc,hc,hk⟩
   rcases hGO with ⟨hk0,rfl,rfl⟩|⟨hk0,rfl,rfl⟩
   ·subst hk0
    have hcl:=fun H=>clip_callN (d:=false) H
    (repeat first|simp only [ww]|(apply xa;simp +decide only [go_sem,hl0,hcl];rfl;kernel_rfl))
    refine fqE_n (vs:=[.nilslice,.int .i64 0]) (r:=(_,_)) (by simp +decide only [go_sem]) ?_ ⟨[],hS,rfl⟩
    simp +decide only [go_sem,finish]<;>rfl
   ·cases acc with
    | nil=>exact absurd rfl hk0
    | cons a r=>
     have hcl:=clip_call (d:=false) (H:=[some (.uset (lset tb (a :: r))),some (.row 1 ((a :: r).map intR))]) (b:=1) (n:=r.length + 1) (flatI _) rfl
     simp only [List.map_cons,intR] at hcl
     (repeat first|simp only [ww]|(apply xa;simp +decide only [go_sem,hl0,hcl,List.map_cons,List.length_cons];rfl;kernel_rfl))
     refine fqE_n (vs:=[.slice 1 0 (r.length + 1) (some (r.length + 1)),.int .i64 0]) (r:=(_,_)) (by simp +decide only [go_sem]) ?_ ⟨a :: r,hS,rfl⟩
     exact fin_ls a r 0 rfl
  ·have hc:covL tb acc = false:=by simpa using hc
   have hl0:(0:Int) < ((lset tb acc).length:Int):=by
    have:=(lset_len0 tb acc).1
    by_cases h0:(lset tb acc).length = 0
    ·rw [this h0] at hc;cases hc
    ·omega
   obtain ⟨hb1,hb2⟩:=gbest_drop h.lt hc
   have hk1:∀ j,j < k + 1 → covL tb (gsel tb n j) = false:=by
    intro j hj
    rcases Nat.lt_succ_iff_lt_or_eq.1 hj with h1|rfl
    ·exact hk j h1
    ·rw [← hacc];exact hc
   have hsm:=gsel_small h.lt (k + 1) hk1
   have hO':∃ O',O' = O:=⟨_,rfl⟩
   have hst:=sets_get (tb:=tb) (n:=n) (t:=(gbest tb acc n).1) hb1
   have hdr:=fun H b hb=>drop_call (d:=false) H b (lset tb acc) (colI tb (gbest tb acc n).1) hb (idxL_nodup _ _) (by have:=colI_len tb (gbest tb acc n).1;omega)
   rw [show drS (lset tb acc) (colI tb (gbest tb acc n).1) = lset tb (acc ++ [(gbest tb acc n).1]) from lset_drop fun r=>meets_snoc r acc _] at hdr
   rcases hGO with ⟨hk0,hO,hG⟩|⟨hk0,hO,hG⟩
   all_goals (
    (repeat first|simp only [ww]|(apply xa;simp +decide only [go_sem,hl0,hO,hG];rfl;kernel_rfl))
    refine xp_lp kp9_2 (fun q F H1=>∃ t,q = n - t ∧ t ≤ n ∧ F = [(7,setsV tb n),(8,.map 0),(9,O),(10,.int .i64 (gbest tb acc t).1),(11,.int .i64 (gbest tb acc t).2),(30,setsV tb n),(31,.int .i64 n),(32,.int .i64 t)] ∧ H1 = some (.uset (lset tb acc)) :: G) n ?_ ?_
    ·refine ⟨_,_,?_,0,rfl,Nat.zero_le _,rfl,rfl⟩
     (simp +decide only [go_sem,gcD_eq,gcIds_eq,hsr,hse,hO,hG,refsI,renI,List.length_range]<;>rfl)<;>rfl
    ·rintro q F H1 ⟨t,rfl,htn,rfl,rfl⟩
     by_cases hlt:t < n
     ·have c1:(t:Int) < n:=by omega
      have hg:=sets_get (tb:=tb) (n:=n) (t:=t) hlt
      have hw:=wI1 (n:=t) (by omega)
      have hgs:gbest tb acc (t + 1) = if (gbest tb acc t).2 < gcnt tb acc t then (t,gcnt tb acc t) else gbest tb acc t:=rfl
      unfold setsV
      (repeat first|simp only [ww]|(apply xa;simp +decide only [go_sem,c1,hlt,hg,hO,hG];rfl;kernel_rfl))
      refine xp_mlp kp9_4 (colI tb t) (fun V=>[(7,setsV tb n),(8,.map 0),(9,O),(10,.int .i64 (gbest tb acc t).1),(11,.int .i64 (gbest tb acc t).2),(12,.int .i64 t),(14,.int .i64 (drN (lset tb acc) V)),(30,setsV tb n),(31,.int .i64 n),(32,.int .i64 t),(38,.ptr (G.length + 1) 0 0)])
       (fun V=>some (.uset (lset tb acc)) :: (G ++ [some (.miter (colI tb t) V none)])) (G.length + 1) (.exit 4)
       [(40,.bool false),(39,.tuple [.bool false]),(7,setsV tb n),(8,.map 0),(9,O),(10,.int .i64 (gbest tb acc t).1),(11,.int .i64 (gbest tb acc t).2),(12,.int .i64 t),(14,.int .i64 (gcnt tb acc t)),(30,setsV tb n),(31,.int .i64 n),(32,.int .i64 t),(38,.ptr (G.length + 1) 0 0)]
       (some (.uset (lset tb acc)) :: (G ++ [none])) (idxL_nodup _ _) ?_ ?_ ?_ ?_ ?_
      ·subst hO hG
       unfold setsV
       (simp +decide only [go_sem,gcD_eq,gcIds_eq,refsI,renI]<;>rfl)<;>rfl
      ·intro V _ _
       subst hO hG
       exact ⟨rfl,none,rfl⟩
      ·intro V i h1 h2 h3 h4
       have hbd:drN (lset tb acc) V < 1000000:=Nat.lt_of_le_of_lt (Nat.le_trans drN_le (nodup_le h1 h2)) (by have:=colI_len tb t;omega)
       have hw2:=wI1 (n:=drN (lset tb acc) V) (by omega)
       subst hO hG
       unfold setsV
       refine xq (by simp +decide only [go_sem]<;>rfl) ?_
       by_cases hc2:(lset tb acc).contains i = true
       ·have e2:=drN_yes (ks:=lset tb acc) (V:=V) (i:=i) hc2
        (repeat first|simp only [ww]|(apply xa;simp +decide only [go_sem,hc2,hw2];rfl;kernel_rfl))
        show gcD _ _ _ _ = _
        rw [e2]
        (simp +decide only [go_sem,gcD_eq,gcIds_eq,refsI,renI]<;>rfl)<;>rfl
       ·have hc2:(lset tb acc).contains i = false:=by simpa using hc2
        have e2:=drN_no (ks:=lset tb acc) (V:=V) (i:=i) hc2
        rw [e2]
        (repeat first|simp only [ww]|(apply xa;simp +decide only [go_sem,hc2];rfl;kernel_rfl))
        show gcD _ _ _ _ = _
        (simp +decide only [go_sem,gcD_eq,gcIds_eq,refsI,renI]<;>rfl)<;>rfl
      ·intro V hV
       have e2:=drN_perm (ks:=lset tb acc) hV
       subst hO hG
       unfold setsV
       refine xq (by simp +decide only [go_sem]<;>rfl) ?_
       rw [e2]
       (repeat first|simp only [ww]|(apply xa;simp +decide only [go_sem];rfl;kernel_rfl))
       exact ⟨rfl,rfl,rfl⟩
      ·show Wp _ _ _ _ _
       subst hO hG
       unfold setsV
       by_cases hgt:(gbest tb acc t).2 < gcnt tb acc t
       ·rw [if_pos hgt] at hgs
        have c2:((gbest tb acc t).2:Int) < (gcnt tb acc t:Int):=by omega
        (repeat first|simp only [ww]|(apply xa;simp +decide only [go_sem,c2,hw];rfl;kernel_rfl))
        refine lpJ_n (n - (t + 1)) (by omega) ⟨_,_,?_,t + 1,rfl,hlt,rfl,rfl⟩
        rw [hgs]
        (simp +decide only [go_sem,gcD_eq,gcIds_eq,refsI,renI]<;>rfl)<;>rfl
       ·rw [if_neg hgt] at hgs
        have c2:¬ ((gbest tb acc t).2:Int) < (gcnt tb acc t:Int):=by omega
        (repeat first|simp only [ww]|(apply xa;simp +decide only [go_sem,c2,hw];rfl;kernel_rfl))
        refine lpJ_n (n - (t + 1)) (by omega) ⟨_,_,?_,t + 1,rfl,hlt,rfl,rfl⟩
        rw [hgs]
        (simp +decide only [go_sem,gcD_eq,gcIds_eq,refsI,renI]<;>rfl)<;>rfl
     ·obtain rfl:t = n:=by omega
      have c1:¬ (t:Int) < t:=by omega
      have hdr0:=hdr (some (.uset (lset tb acc)) :: G) 0 rfl
      have hrm:acc.length + 1 ≤ 1000000000:=by omega
      have hnx:gsel tb t (k + 1) = acc ++ [(gbest tb acc t).1]:=by rw [hacc];rfl
      subst hO hG
      unfold setsV
      (repeat first|simp only [ww]|(apply xa;simp +decide only [go_sem,c1,hb1,hst,hdr0,hrm,List.length_map];rfl;kernel_rfl))
      refine lpJ_n (tb.length - (k + 1)) (by omega) ⟨_,_,?_,k + 1,acc ++ [(gbest tb acc t).1],.slice 1 0 (acc ++ [(gbest tb acc t).1]).length none,_,rfl,hnx.symm,hk1,rfl,rfl,.inr ⟨by simp,rfl,rfl⟩⟩
      simp +decide only [gcD_eq,gcIds_eq,go_sem,List.map_append,List.map_cons,List.map_nil,List.length_append,List.length_cons,List.length_nil,refsI,renI]<;>first|rfl|(simp only [hk0];rfl))
/-- A row of a table: the bits of a number. -/
def rowB (x t:Nat):List Nat:=(List.range t).filter fun t=>decide (x / 2 ^ t % 2 = 1)
def tabB (xs:List Nat) (n:Nat):List (List Nat):=xs.map fun x=>rowB x n
def tbV:List (List Nat) → AV|[]=>.nilslice|a :: r=>.islice ((a :: r).map fun f=>[slF none (f.map intR)]) none
theorem rowB_succ (x t:Nat):rowB x (t + 1) = rowB x t ++ if x / 2 ^ t % 2 = 1 then [t] else []:=by
 unfold rowB
 rw [List.range_succ,List.filter_append]
 congr 1
 by_cases h:x / 2 ^ t % 2 = 1<;>simp [h]
theorem rowB_len (x t:Nat):(rowB x t).length ≤ t:=Nat.le_trans (List.length_filter_le _ _) (by simp)
theorem ishr8 {x t:Nat} (h:t ≤ 8):ishr .u8 (x:Int) (t:Int) = ((x / 2 ^ t:Nat):Int):=by
 unfold ishr
 have:min (t:Int).toNat IntKind.u8.bits = t:=by simp [IntKind.bits];omega
 rw [this,show (2:Int) ^ t = ((2 ^ t:Nat):Int) by simp]
 exact (Int.ofNat_fdiv x (2 ^ t)).symm
def foT (xs:List Nat) (n i:Nat):List (List (List AV)):=(xs.take i).map fun x=>(rowB x n).map intR
theorem foT_len {xs:List Nat} {n i:Nat} (h:i ≤ xs.length):(foT xs n i).length = i:=by simp [foT];omega
theorem foT_succ {xs:List Nat} {n i x:Nat} (h:xs[i]? = some x):foT xs n (i + 1) = foT xs n i ++ [(rowB x n).map intR]:=by
 unfold foT
 rw [List.take_add_one,h,List.map_append];rfl
theorem tbV_eq {xs:List Nat} {n:Nat} (h:xs ≠ []):tbV (tabB xs n) = .islice ((foT xs n xs.length).map fun f=>[slF none f]) none:=by
 cases xs with
 | nil=>exact absurd rfl h
 | cons a r=>simp [tbV,tabB,foT]
theorem table_ok (xs:List Nat) (c:Option (Option Nat)) (hx:∀ x ∈ xs,x < 256) (hl:xs.length ≤ 1000) (m:Nat) (hm:m < 256):sem L.env Mf 7 [sl c (xs.map u8R),.int .u8 m] [] = some (.tuple [tbV (tabB xs (m % 9)),.int .i64 (m % 9:Nat)],[]):=by
 suffices hs:∃ r:AV × Heap,(r = (.tuple [tbV (tabB xs (m % 9)),.int .i64 (m % 9:Nat)],[])) ∧ sem L.env Mf 7 [sl c (xs.map u8R),.int .u8 m] [] = some r by
  obtain ⟨r,rfl,h3⟩:=hs
  exact h3
 have hw0:IntKind.i64.wrap ((m % 9:Nat):Int) = (m % 9:Nat):=w64 (by omega) (by omega)
 (refine svE Tryd.f7 ?_;simp only [Tryd.f7,gS])
 (repeat first|simp only [ww]|(apply xa;simp +decide only [go_sem,hw0];rfl;kernel_rfl))
 have hn8:m % 9 ≤ 8:=by omega
 generalize m % 9 = n at hn8
 refine xp_lp kp7_0 (fun q F H1=>∃ i b ids fo,q = xs.length - i ∧ i ≤ xs.length ∧ fo = foT xs n i ∧ F = [(0,sl c (xs.map u8R)),(6,.int .i64 n),(7,outV b fo),(8,.int .i64 i)] ∧ Twc H1 b ids fo []) xs.length ?_ ?_
 ·refine (Twc.init _).head ?_ (by simp) ?_
  ·simp +decide only [go_sem,outV_nil,grV_nil]
  ·intro π b' ids' H1 _ _ hT
   refine ⟨0,b',ids',_,rfl,Nat.zero_le _,rfl,?_,hT⟩
   simp +decide only [go_sem]<;>rfl
 ·rintro q F H ⟨i,b,ids,fo,rfl,hi,hfo,rfl,hT⟩
  have hfl:fo.length = i:=by rw [hfo];exact foT_len hi
  have hor:refs (outV b fo) = if fo = [] then [] else [b]:=outV_refs b fo
  by_cases hlt:i < xs.length
  ·obtain ⟨x,hxg⟩:∃ x,xs[i]? = some x:=⟨_,List.getElem?_eq_getElem hlt⟩
   have c1:(i:Int) < xs.length:=by omega
   have hw:=wI1 (n:=i) (by omega)
   have hrb:=rowB_len x n
   (repeat first|simp only [ww]|(apply xa;simp +decide only [go_sem,c1,List.length_map];rfl;kernel_rfl))
   refine xp_lp kp7_2 (fun q F H1=>∃ t b ids,q = n - t ∧ t ≤ n ∧ F = [(0,sl c (xs.map u8R)),(6,.int .i64 n),(7,outV b fo),(8,.int .i64 i),(9,grV (ids fo.length) ((rowB x t).map intR)),(10,.int .i64 t)] ∧ Twc H1 b ids fo ((rowB x t).map intR)) n ?_ ?_
   ·refine hT.head ?_ (by omega) ?_
    ·simp +decide only [go_sem,grV_nil,List.append_nil]
    ·intro π b' ids' H1 hb hc hT
     refine ⟨0,b',ids',rfl,Nat.zero_le _,?_,hT⟩
     simp +decide only [go_sem,outV_ren hb]<;>rfl
   ·rintro q F H ⟨t,b,ids,rfl,ht,rfl,hT⟩
    by_cases htl:t < n
    ·have c2:(t:Int) < n:=by omega
     have hw2:=wI1 (n:=t) (by omega)
     have hsh:=ishr8 (x:=x) (t:=t) (by omega)
     have hrs:=rowB_succ x t
     have hrl:=rowB_len x t
     have ht0:((t:Int) < 0) = False:=by simp
     by_cases hb:x / 2 ^ t % 2 = 1
     ·rw [if_pos hb] at hrs
      have hb':((x / 2 ^ t % 2:Nat):Int) = 1:=by omega
      generalize hcu:(rowB x t).map intR = cur at hT
      have hcl:cur.length ≤ 1000:=by rw [← hcu,List.length_map];omega
      have hcn:(rowB x (t + 1)).map intR = cur ++ [intR t]:=by rw [hrs,List.map_append,hcu];rfl
      cases cur with
      | nil=>
       (repeat first|simp only [ww]|(apply xa;simp +decide only [go_sem,c2,hxg,hlt,hsh,ht0,hb',hw2,grV_nil,heapF_hi0,heapF_hi,heapF_lo,set_hi0,set_hi,set_lo,lt_add1,lt_add_s,List.append_assoc,List.cons_append,List.nil_append];rfl;kernel_rfl))
       refine lpJ_n (n - (t + 1)) (by omega) ?_
       refine Twc.head (hT.push (x:=intR t) (n:=H.length + 1) rfl (by omega) (by rw [heapF_hi];rfl) (fun c hc _=>heapF_lo (eq_true hc))) ?_ (by omega) ?_
       ·simp +decide only [go_sem,if_pos,grV_cons]
       ·intro π b' ids' H1 hb hc hT
        refine ⟨t + 1,b',ids',rfl,htl,?_,by rw [hcn];exact hT⟩
        have hc:=hc (by simp)
        rw [if_pos rfl] at hc
        rw [hcn]
        simp +decide only [go_sem,outV_ren hb,hc,grV_cons]<;>rfl
      | cons a r=>
       obtain ⟨s1,s2⟩:=hT.curAt (by simp)
       have s3:=heapF_lt s1
       have hrm:r.length + 1 + 1 ≤ 1000000000:=by simp only [List.length_cons] at hcl;omega
       (repeat first|simp only [ww]|(apply xa;simp +decide only [go_sem,c2,hxg,hlt,hsh,ht0,hb',hw2,grV_cons,s1,s3,hrm,List.length_set,heapF_hi0,heapF_hi,heapF_lo,set_hi0,set_hi,set_lo,lt_add1,lt_add_s,List.append_assoc,List.cons_append,List.nil_append];rfl;kernel_rfl))
       refine lpJ_n (n - (t + 1)) (by omega) ?_
       refine Twc.head (hT.push (x:=intR t) (n:=H.length + 1) rfl (by omega) (by rw [heapF_hiS];rfl) (fun c hc h2=>by rw [heapF_loS hc,if_neg (Ne.symm (h2 (by simp)))])) ?_ (by omega) ?_
       ·simp +decide only [go_sem,if_pos,grV_cons,List.cons_append]
       ·intro π b' ids' H1 hb hc hT
        refine ⟨t + 1,b',ids',rfl,htl,?_,by rw [hcn];exact hT⟩
        have hc:=hc (by simp)
        rw [if_pos rfl] at hc
        rw [hcn]
        simp +decide only [go_sem,outV_ren hb,hc,grV_cons,List.cons_append,List.length_append,List.length_cons,List.length_nil]<;>rfl
     ·rw [if_neg hb,List.append_nil] at hrs
      have hb':¬ ((x / 2 ^ t % 2:Nat):Int) = 1:=by omega
      (repeat first|simp only [ww]|(apply xa;simp +decide only [go_sem,c2,hxg,hlt,hsh,ht0,hb',hw2];rfl;kernel_rfl))
      refine lpJ_n (n - (t + 1)) (by omega) ?_
      refine Twc.head hT ?_ (by omega) ?_
      ·simp +decide only [go_sem,List.append_nil]
      ·intro π b' ids' H1 hb hc hT
       refine ⟨t + 1,b',ids',rfl,htl,?_,by rw [hrs];exact hT⟩
       rw [hrs]
       simp +decide only [go_sem,outV_ren hb,grV_ren hc]<;>rfl
    ·obtain rfl:t = n:=by omega
     have c2:¬ (t:Int) < t:=by omega
     generalize hcu:(rowB x t).map intR = cur at hT
     have hfs:=foT_succ (n:=t) hxg
     rw [hcu,← hfo] at hfs
     by_cases hfe:fo = []
     ·subst hfe
      (repeat first|simp only [ww]|(apply xa;simp +decide only [go_sem,c2,outV_nil,cells_grV,storable_grV,junk_grV,topRef_grV,hw,heapF_hi0,heapF_hi,heapF_lo,set_hi0,set_hi,set_lo,lt_add1,lt_add_s,List.append_assoc,List.cons_append,List.nil_append];rfl;kernel_rfl))
      refine lpJ_n (xs.length - (i + 1)) (by omega) ?_
      refine Twc.head (hT.next (n:=H.length + 1) (by omega) (by rw [heapF_hi,slV_none];rfl) (fun c hc _=>heapF_lo (eq_true hc))) ?_ (by simp) ?_
      ·simp +decide only [go_sem,grV_nil,List.append_nil];rfl
      ·intro π b' ids' H1 hb hc hT
       refine ⟨i + 1,b',ids',_,rfl,hlt,hfs.symm,?_,hT⟩
       have hb:=hb (by simp)
       simp +decide only [go_sem,hb]<;>rfl
     ·have htop:=hT.top hfe
      have hbl:=heapF_lt htop
      have hov:=outV_ne b hfe
      have hrl:=rows2_len ids cpN fo
      have hrm:fo.length + 1 ≤ 1000000000:=by omega
      (repeat first|simp only [ww]|(apply xa;simp +decide only [go_sem,c2,hov,htop,hbl,hrl,hrm,cells_grV,storable_grV,junk_grV,topRef_grV,hw,List.length_set,heapF_hi0,heapF_hi,heapF_lo,set_hi0,set_hi,set_lo,lt_add1,lt_add_s,List.append_assoc,List.cons_append,List.nil_append];rfl;kernel_rfl))
      refine lpJ_n (xs.length - (i + 1)) (by omega) ?_
      refine Twc.head (hT.next (n:=H.length + 1) (by omega) (by rw [heapF_hiS,slV_none];rfl) (fun c hc h2=>by rw [heapF_loS hc,if_neg (Ne.symm (h2 hfe))])) ?_ (by simp;omega) ?_
      ·rw [outV_ne _ (by simp)]
       simp +decide only [go_sem,grV_nil,List.append_nil]
      ·intro π b' ids' H1 hb hc hT
       refine ⟨i + 1,b',ids',_,rfl,hlt,hfs.symm,?_,hT⟩
       have hb:=hb (by simp)
       rw [outV_ne _ (by simp)]
       simp +decide only [go_sem,hb,List.length_append,List.length_cons,List.length_nil]<;>rfl
  ·obtain rfl:i = xs.length:=by omega
   have c1:¬ (xs.length:Int) < xs.length:=by omega
   by_cases hx0:xs = []
   ·subst hx0
    (repeat first|simp only [ww]|(apply xa;simp +decide only [go_sem,c1];rfl;kernel_rfl))
    refine fqE_n (vs:=[.nilslice,.int .i64 n]) (r:=(_,_)) (by subst hfo;simp +decide only [go_sem];rfl) ?_ rfl
    simp +decide only [go_sem,finish]<;>rfl
   ·have hfe:fo ≠ []:=fun e=>hx0 (List.eq_nil_of_length_eq_zero (by rw [← hfl,e];rfl))
    have hov:=outV_ne b hfe
    have hz:=(hT.two hfe).frz none
    rw [tbV_eq hx0,← hfo]
    have hmi:(fo.mapIdx fun j f=>[slF (cpN j) f]) = fo.map fun f=>[slF none f]:=by
     apply List.ext_getElem?
     intro j
     simp [cpN]
    rw [hmi] at hz
    (repeat first|simp only [ww]|(apply xa;simp +decide only [go_sem,c1,List.length_map];rfl;kernel_rfl))
    refine fqE_n (vs:=[.slice b 0 fo.length none,.int .i64 n]) (r:=(_,_)) (by simp +decide only [go_sem,hov]) ?_ rfl
    simp +decide only [go_sem] at hz
    simp +decide only [go_sem,finish,hz]<;>rfl
theorem lsV_cap (l:List Nat):acap L.env 27 (lsV l) = some (.int .i64 l.length):=by
 cases l with
 | nil=>simp +decide only [go_sem,lsV];rfl
 | cons a r=>simp +decide only [go_sem,lsV,List.length_cons]
end Go.KInst
