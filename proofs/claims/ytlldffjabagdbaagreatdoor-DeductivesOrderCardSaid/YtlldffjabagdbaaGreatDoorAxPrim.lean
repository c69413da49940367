/- AxPrim: the sorted keys of a set of numbers, as a primitive. -/
import Derived.Test.YtlldffjabagdbaaGreatDoorAxC
import Derived.Lib.SlKeysI
import Derived.Maps.Own
import Derived.WalkArith
set_option linter.unusedSimpArgs false
set_option linter.unusedVariables false
namespace Go.Ax
open Go.Maps Go.WideElems Go.RowKit
def d8p:List Int → Bool
 | []=>true
 | x :: l=>(match l with|[]=>true|y :: _=>decide (x < y)) && d8p l
def c8l (ks:List Int):Bool:=ks.all (fun i=>decide (0 ≤ i) && decide (i < 1000000)) && d8p ks
def a89:List AV → Option (AV × a03)
 | [.iset ks]=>bif c8l ks then (match ks with
  | []=>some (.nilslice,[])
  | _=>some (.slice 0 0 ks.length (some ks.length),[some (.row 1 (ks.map fun i=>[.int .i64 i]))])) else none
 | _=>none
def SortsSet (P:Program) (g k t:Nat):Prop:=∀ (b nn:Nat) (D0:DataW Unit) (R:Value → Option (DataW Unit × List MemPlace)) (w:World),w.ownsMap P k R b nn D0 → Maps.size D0 ≤ maxLen → Maps.size D0 * 8 ≤ 140737488355328 →
 Calls P g #[.map (some b)] w fun e w'=>∃ (v v0:Value) (ss:List Int),e = .returned v ∧ ss.Perm (intKeys D0) ∧
  w'.ownsRow w.heap.size t 1 v0 ss.length ((ss.mergeSort leI).map encZ) ∧ (v0 = .slice none 0 0 ↔ ss = []) ∧ (∀ a n c,v0 = .slice a n c → v = .slice a n n) ∧ Below w.heap.size w w'
theorem c12:∀ {l:List Int},d8p l = true → l.Pairwise fun x y=>x < y
 | [],_=>List.Pairwise.nil
 | [x],_=>by simp
 | x :: y :: l,h=>by
  simp only [d8p,Bool.and_eq_true,decide_eq_true_eq] at h
  have ih:=c12 (l:=y :: l) (by simp only [d8p,Bool.and_eq_true];exact h.2)
  refine List.pairwise_cons.2 ⟨fun z hz=>?_,ih⟩
  rcases List.mem_cons.1 hz with rfl|hz
  ·exact h.1
  ·exact Int.lt_trans h.1 ((List.pairwise_cons.1 ih).1 z hz)
theorem b9t:∀ {l:List Int},l.Pairwise (fun x y=>x < y) → d8p l = true
 | [],_=>rfl
 | [x],_=>rfl
 | x :: y :: l,h=>by
  have h:=List.pairwise_cons.1 h
  have ih:=b9t h.2
  simp only [d8p,Bool.and_eq_true,decide_eq_true_eq] at ih ⊢
  exact ⟨h.1 y (by simp),ih⟩
theorem d7o {ks:List Int} (h1:∀ i ∈ ks,0 ≤ i ∧ i < 1000000) (h2:ks.Pairwise (fun x y=>x < y)):c8l ks = true:=by
 unfold c8l
 rw [Bool.and_eq_true,List.all_eq_true]
 exact ⟨fun i hi=>by simpa using h1 i hi,b9t h2⟩
theorem a9q:∀ {n:Nat} {l:List Int},l.Nodup → (∀ i ∈ l,0 ≤ i ∧ i < n) → l.length ≤ n
 | 0,l,_,h=>by
  cases l with
  | nil=>simp
  | cons a l=>have:=h a (by simp);omega
 | n + 1,l,hn,h=>by
  by_cases hm:(n:Int) ∈ l
  ·have ih:=a9q (n:=n) (hn.erase (n:Int)) (fun i hi=>by
    have h1:=h i (List.mem_of_mem_erase hi)
    have:i ≠ n:=fun e=>by subst e;exact (List.Nodup.not_mem_erase hn) hi
    omega)
   rw [List.length_erase_of_mem hm] at ih
   omega
  ·have ih:=a9q (n:=n) hn (fun i hi=>by
    have h1:=h i hi
    have:i ≠ n:=fun e=>hm (e ▸ hi)
    omega)
   omega
theorem b9k {I:Nat → Prop} {w:World} {ρ:PMap} {b:Nat} {cur:Array Value} {e:TypeId} (hb:w.heap[b]? = some (.cells cur e (0,0))):∀ (ks:List Int) (off:Nat),(∀ j x,ks[j]? = some x → cur[off + j]? = some (.int .i64 x)) → VRows I w 1 ρ (ks.map fun i=>[AV.int .i64 i]) b off
 | [],off,_=>by simp [VRows]
 | x :: ks,off,h=>by
  simp only [List.map_cons,VRows,VAt,VRel]
  refine ⟨rfl,⟨⟨.int .i64 x,?_,rfl⟩,trivial⟩,b9k hb ks (off + 1) fun j y hy=>?_⟩
  ·have:=h 0 x rfl
   simp only [World.cell?,hb]
   simpa using this
  ·have:=h (j + 1) y (by simpa using hy)
   rw [← this];congr 1;omega
theorem c4t {L:Laid} {g k t:Nat} (hg:g ≠ yId) (hk:L.P.underlying k = some (.int .i64)) (h:SortsSet L.P g k t):b01 L.env g (fun a H=>match a,H with
 | a,[]=>a89 a
 | _,_=>none):=by
 intro args H v H' hrun I K ρ w cargs rel hn ha
 dsimp only at hrun
 split at hrun
 case h_2=>cases hrun
 rename_i a
 unfold a89 at hrun
 split at hrun
 case h_2=>cases hrun
 rename_i ks
 rw [cond_eq_ite] at hrun
 split at hrun
 case isFalse=>cases hrun
 rename_i hks
 unfold c8l at hks
 rw [Bool.and_eq_true,List.all_eq_true] at hks
 obtain ⟨hk1,hk2⟩:=hks
 have hk1:∀ i ∈ ks,0 ≤ i ∧ i < 1000000:=fun i hi=>by simpa using hk1 i hi
 have hk2:=c12 hk2
 simp only [VRels,VRel] at ha
 obtain ⟨c,_,rfl,⟨b,es,cl,rfl,hb,hheap,hu⟩,rfl⟩:=ha
 obtain ⟨hperm,hval,hnod,hborn,hclk⟩:=hu
 let R:Value → Option (DataW Unit × List MemPlace):=fun _=>some (.lit (.bool true),[])
 have hlen:es.size = ks.length:=by have:=hperm.length_eq;simpa using this
 have hkl:ks.length ≤ 1000000:=a9q hnod hk1
 have hkey:∀ x ∈ es.toList,∃ i,i ∈ ks ∧ x.key = .int .i64 i:=by
  intro x hx
  have h1:x.key ∈ ks.map (Value.int .i64):=hperm.mem_iff.1 (List.mem_map.2 ⟨x,hx,rfl⟩)
  obtain ⟨i,hi,he⟩:=List.mem_map.1 h1
  exact ⟨i,hi,he.symm⟩
 have hko:∀ i ∈ ks,keyOf L.P k (.int .i64 i) = some (.int .i64 i):=by
  intro i hi
  have:=hk1 i hi
  have hw:(Lit.int .i64 i).wf = true:=Go.WalkArith.wf_i64 (by omega)
  simp [keyOf,hk,mapKey,hw]
 have hrd:∀ x ∈ es.toList,∃ i,i ∈ ks ∧ x.key = .int .i64 i ∧ rd L.P k R x = some (.int .i64 i,.lit (.bool true)):=by
  intro x hx
  obtain ⟨i,hi,he⟩:=hkey x hx
  exact ⟨i,hi,he,by simp [rd,he,hko i hi,R]⟩
 have hfit:Fit L.P k R es cl:=by
  refine ⟨by have:maxLen = 9223372036854775807:=rfl;omega,⟨hclk,hborn,?_⟩,fun x hx=>by obtain ⟨i,_,_,h⟩:=hrd x hx;exact ⟨_,h⟩⟩
  exact (hperm.nodup_iff).2 (hnod.map _ (fun a b hab he=>hab (by simpa using he)))
 have hown:w.ownsMap L.P k R b es.size (.map ((es.toList.map (rg L.P k R)).foldr DataW.insert [])):=⟨es,cl,hheap,hfit,Nat.le_refl _,rfl⟩
 have hsz:Maps.size (.map ((es.toList.map (rg L.P k R)).foldr DataW.insert []):DataW Unit) = ks.length:=by
  show ((es.toList.map (rg L.P k R)).foldr DataW.insert []).length = _
  rw [length_sorted];simpa using hlen
 have hint:(intKeys (.map ((es.toList.map (rg L.P k R)).foldr DataW.insert []):DataW Unit)).Perm ks:=by
  show (((es.toList.map (rg L.P k R)).foldr DataW.insert []).map fun p=>intOf p.1).Perm ks
  refine ((WideShapes.sorted_perm _).map _).trans ?_
  rw [List.map_map]
  have e1:es.toList.map ((fun p:Lit × DataW Unit=>intOf p.1) ∘ rg L.P k R) = (es.toList.map (·.key)).map (fun v=>match v with|.int _ i=>i|_=>0):=by
   rw [List.map_map]
   refine List.map_congr_left fun x hx=>?_
   obtain ⟨i,hi,he,hr⟩:=hrd x hx
   simp [rg,hr,he,intOf]
  rw [e1]
  refine (hperm.map _).trans ?_
  rw [List.map_map]
  exact List.Perm.of_eq (List.map_id' ks)
 have hc:=h b es.size _ R w hown (by rw [hsz];have:maxLen = 9223372036854775807:=rfl;omega) (by rw [hsz];omega)
 rw [b2j hg]
 refine Calls.mono hc ?_
 rintro e w' ⟨v',v0,ss,rfl,hss,hrow,hnil,hcap,hbel⟩
 have hss:=hss.trans hint
 have hsorted:ss.mergeSort leI = ks:=by
  rw [mergeSort_of_perm_i hss]
  exact List.mergeSort_of_pairwise (hk2.imp fun h=>by simp [leI];omega)
 rw [hsorted] at hrow
 have hIw:∀ c,I c → w'.heap[c]? = w.heap[c]?:=fun c hc=>hbel.block c (rel.imm c hc)
 have hext:Ext I K w w':=⟨hbel.os,hbel.tape,hbel.output,hbel.size,fun c hc=>hbel.block c (hc.elim (rel.imm c) (rel.kept c))⟩
 have hglob:∀ g cs,L.env.G g = some cs → I g ∧ VAt I w' noP cs g 0:=fun g cs hg=>by
  obtain ⟨h1,h2⟩:=rel.glob g cs hg
  exact ⟨h1,VAt.mono (fun _ h=>h) hIw cs (fun _ _ h=>h) (hIw g h1) h2⟩
 cases ks with
 | nil=>
  cases hrun
  have:ss = []:=List.eq_nil_of_length_eq_zero (by have:=hss.length_eq;simpa using this)
  refine ⟨v',I,ρ,rfl,⟨fun _ h=>h,fun _ _=>rfl,hext,⟨?_,?_,?_,fun c hc=>Nat.lt_of_lt_of_le (rel.imm c hc) hbel.size,fun c hc=>Nat.lt_of_lt_of_le (rel.kept c hc) hbel.size,rel.apart,hglob⟩,hn,Nat.zero_le _⟩,by simp only [VRel];exact hcap _ _ _ (hnil.2 this)⟩
  ·intro b o ho;simp [a01] at ho
  ·intro b b' m m' ho;simp [a01] at ho
  ·intro b m hm;rw [hn b (Nat.zero_le _)] at hm;cases hm
 | cons x l=>
  cases hrun
  have hsl:ss.length = (x :: l).length:=hss.length_eq
  have hne:v0 ≠ .slice none 0 0:=fun e=>by have:=hnil.1 e;rw [this] at hsl;simp at hsl
  rw [hsl] at hrow
  obtain ⟨_,hrow⟩:=hrow
  rcases hrow with ⟨h1,_⟩|⟨gb,cap,cur,rfl,hbase,hgb,r1,r2,r3,r4⟩
  ·exact absurd h1 hne
  have hcap:=hcap _ _ _ rfl
  subst hcap
  have hcs:(x :: l).length ≤ cur.size:=by omega
  have hgl:gb < w'.heap.size:=(Array.getElem?_eq_some_iff.1 hgb).1
  let ρ':PMap:=fun b=>if b = 0 then some ⟨gb,0,1,cur.size⟩ else none
  refine ⟨_,I,ρ',rfl,⟨fun _ h=>h,fun b h=>absurd h (Nat.not_lt_zero b),hext,⟨?_,?_,?_,fun c hc=>Nat.lt_of_lt_of_le (rel.imm c hc) hbel.size,fun c hc=>Nat.lt_of_lt_of_le (rel.kept c hc) hbel.size,rel.apart,hglob⟩,?_,Nat.zero_le _⟩,?_⟩
  ·intro b o ho
   match b,ho with
   | 0,ho=>
    simp only [a01,List.getElem?_cons_zero,Option.join_some,Option.some.injEq] at ho
    subst ho
    refine ⟨⟨gb,0,1,cur.size⟩,rfl,fun hi=>Nat.lt_irrefl _ (Nat.lt_of_lt_of_le (rel.imm gb hi) hbase),fun hi=>Nat.lt_irrefl _ (Nat.lt_of_lt_of_le (rel.kept gb hi) hbase),⟨rfl,Nat.one_pos,⟨cur,_,hgb,rfl,?_⟩,?_⟩⟩
    ·simp only [List.length_map,Nat.zero_add,Nat.mul_one];omega
    ·refine b9k hgb (x :: l) 0 fun j y hy=>?_
     have hj:=(List.getElem?_eq_some_iff.1 hy).1
     have h2:(cur.toList.take ((x :: l).length * 1))[j]? = ((x :: l).map encZ)[j]?:=by rw [r4]
     rw [List.getElem?_take_of_lt (by omega),List.getElem?_map,hy] at h2
     rw [Nat.zero_add];simpa using h2
   | b + 1,ho=>simp [a01] at ho
  ·intro b b' m m' ho ho'
   have e0:∀ b,(a01 [some (AObj.row 1 ((x :: l).map fun i=>[AV.int .i64 i]))] b).isSome → b = 0:=by
    intro b hb
    match b,hb with
    | 0,_=>rfl
    | b + 1,hb=>simp [a01] at hb
   intro _ _ _
   rw [e0 b ho,e0 b' ho']
  ·intro b m hm
   simp only [ρ'] at hm
   split at hm
   ·cases hm;exact hgl
   ·cases hm
  ·intro b hb
   simp only [List.length_cons,List.length_nil] at hb
   simp only [ρ']
   rw [if_neg (by omega)]
  ·simp only [VRel]
   refine ⟨⟨gb,0,none⟩,_,rfl,Nat.le_refl _,fun n hn=>by cases hn;rfl,.inr ⟨⟨gb,0,1,cur.size⟩,rfl,by simp,?_⟩⟩
   simp only [Nat.zero_add,Nat.mul_one];omega
theorem b7r {L:Laid} {g k t:Nat} (hL:L.prim = fun f a=>bif Nat.beq f g then a89 a else none) (hg:g ≠ yId) (hk:L.P.underlying k = some (.int .i64)) (h:SortsSet L.P g k t):d5v L:=by
 intro f args v H1 hp
 have hL':L.env.prim = fun f a=>bif Nat.beq f g then a89 a else none:=hL
 rw [hL] at hp
 simp only [cond_eq_ite] at hp
 split at hp
 case isFalse=>cases hp
 rename_i hf
 have hf:=Nat.eq_of_beq_eq_true hf
 subst hf
 have hs:=c4t (L:=L) hg hk h
 intro args H v H' hrun
 refine hs args H v H' ?_
 revert hrun
 cases H with
 | nil=>simp [hL']
 | cons o r=>exact id
end Go.Ax
