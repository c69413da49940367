/- AxCore: abstract values, abstract heap objects, and what they say of a world. No condition: definitions and their monotonicity. -/
import Derived.Orders
import Derived.Scope
import Derived.Laws.Sem
import Derived.Laws.CopyRow
import GoSem.Extern.Table
import Derived.Laws.Strings
import GoSem.Builtin.Append
import GoSem.Builtin.Len
import GoSem.Builtin.Cap
import GoSem.Builtin.Min
import GoSem.Builtin.Max
import GoSem.Builtin.Copy
import GoSem.Builtin.Clear
import GoSem.Instr.MapUpdate
import GoSem.Instr.MapEntry
import GoSem.Builtin.Delete
import GoSem.Instr.Range
import GoSem.Instr.Next
import GoSem.Instr.Entry
import GoSem.Dispatch
set_option linter.unusedSimpArgs false
set_option linter.unusedVariables false
namespace Go.Ax
theorem c10:type_of% @List.map_cons:=@List.map_cons
theorem c11:type_of% @List.mem_of_getElem?:=@List.mem_of_getElem?
theorem c13:type_of% @List.getElem?_eq_some_iff:=@List.getElem?_eq_some_iff
theorem d14:type_of% @Bool.and_eq_true:=@Bool.and_eq_true
theorem e12:type_of% @List.length_cons:=@List.length_cons
theorem e14:type_of% @List.nil_append:=@List.nil_append
theorem f4g:type_of% @List.append_nil:=@List.append_nil
theorem f4h:type_of% @List.map_nil:=@List.map_nil
theorem f4i:type_of% @List.append_assoc:=@List.append_assoc
theorem f4j:type_of% @List.length_map:=@List.length_map
theorem f4k:type_of% @Option.isSome_iff_exists:=@Option.isSome_iff_exists
theorem f4l:type_of% @List.take_of_length_le:=@List.take_of_length_le
theorem f4m:type_of% @Nat.zero_le:=@Nat.zero_le
theorem f4n:type_of% @if_neg:=@if_neg
theorem f4o:type_of% @List.length_nil:=@List.length_nil
theorem f4p:type_of% @decide_eq_true_eq:=@decide_eq_true_eq
theorem f4q:type_of% @List.getElem?_map:=@List.getElem?_map
theorem f5x:type_of% @Option.map_some:=@Option.map_some
theorem f5y:type_of% @List.getElem?_mapIdx:=@List.getElem?_mapIdx
theorem f5z:type_of% @List.length_append:=@List.length_append
theorem f6a:type_of% @List.cons_append:=@List.cons_append
theorem f6b:type_of% @List.take_zero:=@List.take_zero
theorem f6c:type_of% @List.map_append:=@List.map_append
theorem f6d:type_of% @List.getElem?_append_left:=@List.getElem?_append_left
theorem f6e:type_of% @if_pos:=@if_pos
theorem f6f:type_of% @List.mem_singleton:=@List.mem_singleton
theorem f6g:type_of% @cond_true:=@cond_true
theorem f6h:type_of% @List.getElem?_eq_none:=@List.getElem?_eq_none
theorem f6i:type_of% @List.take_length:=@List.take_length
theorem f6j:type_of% @List.length_set:=@List.length_set
theorem f6k:type_of% @List.getElem?_set:=@List.getElem?_set
theorem f6l:type_of% @Nat.le_refl:=@Nat.le_refl
theorem f6m:type_of% @List.mem_cons:=@List.mem_cons
theorem f6n:type_of% @List.getElem?_cons_zero:=@List.getElem?_cons_zero
theorem f6o:type_of% @Nat.le_of_not_lt:=@Nat.le_of_not_lt
theorem f7z:type_of% @cond_false:=@cond_false
theorem f8a:type_of% @List.getD_eq_getElem?_getD:=@List.getD_eq_getElem?_getD
theorem f8b:type_of% @decide_eq_true:=@decide_eq_true
theorem f8c:type_of% @List.all_eq_true:=@List.all_eq_true
theorem f8d:type_of% @Array.length_toList:=@Array.length_toList
theorem f8e:type_of% @List.map_congr_left:=@List.map_congr_left
theorem f8f:type_of% @Nat.blt_eq:=@Nat.blt_eq
theorem f8g:type_of% @List.length_range:=@List.length_range
theorem f8h:type_of% @List.getElem?_cons_succ:=@List.getElem?_cons_succ
theorem f8i:type_of% @Array.getD_eq_getD_getElem?:=@Array.getD_eq_getD_getElem?
theorem f8j:type_of% @Nat.zero_add:=@Nat.zero_add
theorem f8k:type_of% @List.getElem?_append_right:=@List.getElem?_append_right
theorem f8l:type_of% @List.ext_getElem?:=@List.ext_getElem?
theorem f8m:type_of% @Array.getElem?_eq_some_iff:=@Array.getElem?_eq_some_iff
theorem f8n:type_of% @List.mem_append:=@List.mem_append
theorem f9d:type_of% @Array.getElem?_setIfInBounds:=@Array.getElem?_setIfInBounds
theorem f9e:type_of% @decide_eq_false:=@decide_eq_false
theorem f9f:type_of% @List.length_take:=@List.length_take
theorem f9g:type_of% @List.mem_iff_getElem?:=@List.mem_iff_getElem?
theorem f9h:type_of% @Bool.false_eq_true:=@Bool.false_eq_true
theorem f9i:type_of% @beq_eq_false_iff_ne:=@beq_eq_false_iff_ne
theorem f9j:type_of% @List.flatMap_cons:=@List.flatMap_cons
theorem f9k:type_of% @List.range_succ:=@List.range_succ
theorem f9l:type_of% @Option.getD_some:=@Option.getD_some
theorem f9m:type_of% @Ne.symm:=@Ne.symm
theorem f9n:type_of% @List.map_set:=@List.map_set
theorem f9o:type_of% @List.drop_zero:=@List.drop_zero
theorem f9p:type_of% @Bool.true_and:=@Bool.true_and
theorem f9q:type_of% @if_true:=@if_true
theorem f9r:type_of% @Bool.eq_iff_iff:=@Bool.eq_iff_iff
theorem f9s:type_of% @List.mem_filter:=@List.mem_filter
theorem f9t:type_of% @Nat.not_lt_zero:=@Nat.not_lt_zero
theorem f9u:type_of% @List.eq_of_mem_replicate:=@List.eq_of_mem_replicate
theorem f9v:type_of% @Bool.and_self:=@Bool.and_self
theorem f9w:type_of% @List.mem_map_of_mem:=@List.mem_map_of_mem
theorem f9x:type_of% @List.length_filter_le:=@List.length_filter_le
theorem f9y:type_of% @Bool.not_eq_true':=@Bool.not_eq_true'
theorem g00:type_of% @List.flatten_cons:=@List.flatten_cons
theorem g01:type_of% @List.mem_map:=@List.mem_map
theorem g02:type_of% @List.getElem?_toArray:=@List.getElem?_toArray
theorem g03:type_of% @Nat.eq_of_beq_eq_true:=@Nat.eq_of_beq_eq_true
theorem g04:type_of% @Nat.lt_or_ge:=@Nat.lt_or_ge
theorem g05:type_of% @Nat.mul_le_mul_right:=@Nat.mul_le_mul_right
theorem g06:type_of% @of_eq_true:=@of_eq_true
theorem g07:type_of% @List.getElem?_range:=@List.getElem?_range
theorem g08:type_of% @Option.bind_some:=@Option.bind_some
theorem g0h:type_of% @Nat.ble_eq:=@Nat.ble_eq
theorem g0i:type_of% @beq_iff_eq:=@beq_iff_eq
theorem g0j:type_of% @Nat.add_mul:=@Nat.add_mul
theorem g0k:type_of% @Array.getElem?_toList:=@Array.getElem?_toList
theorem g0l:type_of% @List.replicate_succ:=@List.replicate_succ
theorem g0m:type_of% @List.nodup_cons:=@List.nodup_cons
theorem g0n:type_of% @Array.toList_map:=@Array.toList_map
theorem g0o:type_of% @Option.join_some:=@Option.join_some
theorem g0q:type_of% @List.length_eq_zero_iff:=@List.length_eq_zero_iff
theorem g0r:type_of% @List.getElem?_replicate:=@List.getElem?_replicate
theorem g0s:type_of% @List.getElem?_take:=@List.getElem?_take
theorem g0t:type_of% @Bool.or_eq_true:=@Bool.or_eq_true
theorem g0u:type_of% @List.mem_or_eq_of_mem_set:=@List.mem_or_eq_of_mem_set
theorem g0v:type_of% @List.idxOf?_cons:=@List.idxOf?_cons
theorem g0w:type_of% @List.contains_iff_mem:=@List.contains_iff_mem
theorem g0x:type_of% @Array.toList_push:=@Array.toList_push
theorem g0y:type_of% @List.mem_range:=@List.mem_range
theorem g0z:type_of% @if_false:=@if_false
theorem g10:type_of% @Nat.add_sub_cancel_left:=@Nat.add_sub_cancel_left
theorem g11:type_of% @decide_eq_false_iff_not:=@decide_eq_false_iff_not
theorem g12:type_of% @List.mem_cons_of_mem:=@List.mem_cons_of_mem
theorem g14:type_of% @List.drop_eq_nil_of_le:=@List.drop_eq_nil_of_le
theorem g15:type_of% @Array.ext':=@Array.ext'
theorem g16:type_of% @Array.getElem?_push:=@Array.getElem?_push
theorem g17:type_of% @Bool.not_true:=@Bool.not_true
theorem g1n:type_of% @List.Perm.refl:=@List.Perm.refl
theorem g1o:type_of% @List.map_map:=@List.map_map
theorem g1p:type_of% @eq_true:=@eq_true
theorem g1q:type_of% @List.take_append_drop:=@List.take_append_drop
theorem g1s:type_of% @List.getElem?_drop:=@List.getElem?_drop
theorem g1t:type_of% @Nat.lt_of_lt_of_le:=@Nat.lt_of_lt_of_le
theorem g1u:type_of% @decide_true:=@decide_true
theorem g1v:type_of% @Nat.le_trans:=@Nat.le_trans
theorem g1w:type_of% @Nat.add_zero:=@Nat.add_zero
theorem g1x:type_of% @List.map_eq_nil_iff:=@List.map_eq_nil_iff
theorem g2d:type_of% @List.mem_flatMap:=@List.mem_flatMap
theorem g2e:type_of% @Nat.beq_eq:=@Nat.beq_eq
theorem g2f:type_of% @List.any_eq_true:=@List.any_eq_true
theorem g2g:type_of% @List.filter_cons:=@List.filter_cons
theorem g2h:type_of% @Nat.succ_mul:=@Nat.succ_mul
theorem z9e{α:Type}{l:List α}{i:Nat}(h:i<l.length):l[i]?=some l[i]:=List.getElem?_eq_getElem h
theorem z9o{α:Type}{a b:α}(h:some a=some b):a=b:=Option.some.inj h
inductive AV where
 |junk
 |bool (b:Bool)
 |int (k:IntKind)(n:Int)
 |str (s:List UInt8)
 |nilptr
 |nilslice
 |nilmap
 |nilfunc
 |nilifc
 |ptr (b i o:Nat)
 |iptr (cells:List AV)
 |slice (b off len:Nat)(cap:Option Nat)
 |islice (aa:List (List AV))(cap:Option Nat)
 |map (b:Nat)
 |imap (ks vs:List AV)(bs:List Nat)(bv:Nat)
 |iset (ks:List Int)
 |yfn (b:Nat)
 |func (fn:Fn)(first gE:List AV)
 |iface (t:TypeId)(v:AV)
 |agg (cells:List AV)
 |tuple (vs:List AV)
 deriving Inhabited
structure Pl where
 blk:Nat
 off:Nat
 k:Nat
 room:Nat
abbrev PMap:=Nat→Option Pl
def noP:PMap:=λ_=>none
def USet(ks:List Int)(es:Array MapEntry)(cl:Nat):Prop:=(es.toList.map (·.key)).Perm (ks.map (Value.int .i64))∧(∀e∈es.toList,e.val = .bool true)∧ks.Nodup∧(es.toList.map (·.born)).Nodup∧∀e∈es.toList,e.born<cl
mutual
def VRel(I:Nat→Prop)(w:World):PMap→AV→Value→Prop
 |_,.junk,_=>True
 |_,.bool b,v=>v = .bool b
 |_,.int k n,v=>v = .int k n
 |_,.str s,v=>∃t:ByteArray,v = .string t∧t.data.toList=s
 |_,.nilptr,v=>v = .pointer none
 |_,.nilslice,v=>v = .slice none 0 0
 |_,.nilmap,v=>v = .map none
 |_,.nilfunc,v=>v = .nilFunc
 |_,.nilifc,v=>v = .nilIface
 |ρ,.ptr b i o,v=>∃m,ρ b=some m∧v = .pointer (some ⟨m.blk,m.off+i*m.k+o,none⟩)
 |_,.iptr cs,v=>∃c off,v = .pointer (some ⟨c,off,none⟩)∧I c∧VAt I w noP cs c off
 |ρ,.slice b off len cap,v=>∃a c,v = .slice (some a) len c∧len≤c∧(∀n,cap=some n→c=n)∧
  (c=0∨∃m,ρ b=some m∧a=⟨m.blk,m.off+off*m.k,none⟩∧m.off+(off+c)*m.k≤m.room)
 |_,.islice aa cap,v=>∃a c k,v = .slice (some a) aa.length c∧aa.length≤c∧(∀n,cap=some n→c=n)∧
  (aa=[]∨(a.spot=none∧I a.block∧VRows I w k noP aa a.block a.off))
 |ρ,.map b,v=>∃m,ρ b=some m∧v = .map (some m.blk)
 |_,.imap ks vs bs bv,v=>∃c es,v = .map (some c)∧I c∧w.heap[c]?=some (.map es bv)∧
  VRels I w noP ks (es.toList.map (·.key))∧VRels I w noP vs (es.toList.map (·.val))∧es.toList.map (·.born)=bs
 |_,.iset ks,v=>∃c es cl,v = .map (some c)∧I c∧w.heap[c]?=some (.map es cl)∧USet ks es cl
 |ρ,.yfn b,v=>∃m,ρ b=some m∧v = .func (.yield m.blk) #[] #[]
 |ρ,.func fn fs cs,v=>∃cR aO:Array Value,v = .func fn cR aO∧VRels I w ρ fs cR.toList∧VRels I w ρ cs aO.toList
 |ρ,.iface t x,v=>∃x',v = .iface t x'∧VRel I w ρ x x'
 |ρ,.agg cs,v=>∃aO:Array Value,v = .agg aO∧VRels I w ρ cs aO.toList
 |ρ,.tuple cs,v=>∃aO:Array Value,v = .tuple aO∧VRels I w ρ cs aO.toList
def VRels(I:Nat→Prop)(w:World):PMap→List AV→List Value→Prop
 |_,[],l=>l=[]
 |ρ,v::vs,l=>∃c cs,l=c::cs∧VRel I w ρ v c∧VRels I w ρ vs cs
def VAt(I:Nat→Prop)(w:World):PMap→List AV→Nat→Nat→Prop
 |_,[],_,_=>True
 |ρ,v::vs,b,off=>(∃c,w.cell? ⟨b,off,none⟩=some c∧VRel I w ρ v c)∧VAt I w ρ vs b (off+1)
def VRows(I:Nat→Prop)(w:World)(k:Nat):PMap→List (List AV)→Nat→Nat→Prop
 |_,[],_,_=>True
 |ρ,r::rs,b,off=>r.length=k∧VAt I w ρ r b off∧VRows I w k ρ rs b (off+k)
end
theorem b7e{w w':World}{b o:Nat}(h:w'.heap[b]?=w.heap[b]?):w'.cell? ⟨b,o,none⟩=w.cell? ⟨b,o,none⟩:=by simp[World.cell?,h]
section
variable {I I':Nat→Prop}{w w':World}
mutual
theorem VRel.mono(hI:∀c,I c→I' c)(hw:∀c,I c→w'.heap[c]?=w.heap[c]?) :
 ∀{ρ ρ':PMap} (v:AV) {c:Value},(∀b m,ρ b=some m→ρ' b=some m)→VRel I w ρ v c→VRel I' w' ρ' v c
 |ρ,ρ',v,c,hρ,h=>by
  cases v with
  |junk=>simp[VRel]
  |bool b=>simpa[VRel]using h
  |int k n=>simpa[VRel]using h
  |str s=>simpa[VRel]using h
  |nilptr=>simpa[VRel]using h
  |nilslice=>simpa[VRel]using h
  |nilmap=>simpa[VRel]using h
  |nilfunc=>simpa[VRel]using h
  |nilifc=>simpa[VRel]using h
  |ptr b i o=>simp only[VRel]at h⊢;obtain⟨m,hm,rfl⟩:=h;exact⟨m,hρ b m hm,rfl⟩
  |iptr cs=>simp only[VRel]at h⊢;obtain⟨b,off,rfl,hb,h⟩:=h;exact⟨b,off,rfl,hI _ hb,VAt.mono hI hw cs (λ_ _ h=>h) (hw _ hb) h⟩
  |slice b off len cap=>
   simp only[VRel]at h⊢;obtain⟨a,n,rfl,h1,h2,h3⟩:=h;refine⟨a,n,rfl,h1,h2,h3.imp id ?_⟩
   rintro⟨m,hm,rfl,hr⟩
   exact⟨m,hρ b m hm,rfl,hr⟩
  |islice aa cap=>
   simp only[VRel]at h⊢;obtain⟨a,n,k,rfl,h1,h2,h3⟩:=h;refine⟨a,n,k,rfl,h1,h2,h3.imp id ?_⟩
   rintro⟨hs,hb,h⟩
   exact⟨hs,hI _ hb,VRows.mono hI hw aa (λ_ _ h=>h) (hw _ hb) h⟩
  |map b=>simp only[VRel]at h⊢;obtain⟨m,hm,rfl⟩:=h;exact⟨m,hρ b m hm,rfl⟩
  |imap ks vs bs bv=>simp only[VRel]at h⊢;obtain⟨b,es,rfl,hb,he,h1,h2,h3⟩:=h;exact⟨b,es,rfl,hI _ hb,by rw[hw _ hb,he],VRels.mono hI hw ks (λ_ _ h=>h) h1,VRels.mono hI hw vs (λ_ _ h=>h) h2,h3⟩
  |iset ks=>simp only[VRel]at h⊢;obtain⟨b,es,cl,rfl,hb,he,h1⟩:=h;exact⟨b,es,cl,rfl,hI _ hb,by rw[hw _ hb,he],h1⟩
  |yfn b=>simp only[VRel]at h⊢;obtain⟨m,hm,rfl⟩:=h;exact⟨m,hρ b m hm,rfl⟩
  |func fn fs cs=>simp only[VRel]at h⊢;obtain⟨cR,aO,rfl,h1,h2⟩:=h;exact⟨cR,aO,rfl,VRels.mono hI hw fs hρ h1,VRels.mono hI hw cs hρ h2⟩
  |iface t x=>simp only[VRel]at h⊢;obtain⟨x',rfl,h⟩:=h;exact⟨x',rfl,VRel.mono hI hw x hρ h⟩
  |agg cs=>simp only[VRel]at h⊢;obtain⟨aO,rfl,h⟩:=h;exact⟨aO,rfl,VRels.mono hI hw cs hρ h⟩
  |tuple cs=>simp only[VRel]at h⊢;obtain⟨aO,rfl,h⟩:=h;exact⟨aO,rfl,VRels.mono hI hw cs hρ h⟩
theorem VRels.mono(hI:∀c,I c→I' c)(hw:∀c,I c→w'.heap[c]?=w.heap[c]?) :
 ∀{ρ ρ':PMap} (vs:List AV) {cs:List Value},(∀b m,ρ b=some m→ρ' b=some m)→VRels I w ρ vs cs→VRels I' w' ρ' vs cs
 |ρ,ρ',[],cs,hρ,h=>by simpa[VRels]using h
 |ρ,ρ',v::vs,cs,hρ,h=>by simp only[VRels]at h⊢;obtain⟨c,aO,rfl,h1,h2⟩:=h;exact⟨c,aO,rfl,VRel.mono hI hw v hρ h1,VRels.mono hI hw vs hρ h2⟩
theorem VAt.mono(hI:∀c,I c→I' c)(hw:∀c,I c→w'.heap[c]?=w.heap[c]?) :
 ∀{ρ ρ':PMap} (vs:List AV) {b off:Nat},(∀b m,ρ b=some m→ρ' b=some m)→w'.heap[b]?=w.heap[b]?→VAt I w ρ vs b off→VAt I' w' ρ' vs b off
 |ρ,ρ',[],b,off,hρ,hb,h=>by simp[VAt]
 |ρ,ρ',v::vs,b,off,hρ,hb,h=>by simp only[VAt]at h⊢;obtain⟨⟨c,hc,h1⟩,h2⟩:=h;exact⟨⟨c,by rw[b7e hb,hc],VRel.mono hI hw v hρ h1⟩,VAt.mono hI hw vs hρ hb h2⟩
theorem VRows.mono{k:Nat}(hI:∀c,I c→I' c)(hw:∀c,I c→w'.heap[c]?=w.heap[c]?) :
 ∀{ρ ρ':PMap} (rs:List (List AV)) {b off:Nat},(∀b m,ρ b=some m→ρ' b=some m)→w'.heap[b]?=w.heap[b]?→VRows I w k ρ rs b off→VRows I' w' k ρ' rs b off
 |ρ,ρ',[],b,off,hρ,hb,h=>by simp[VRows]
 |ρ,ρ',r::rs,b,off,hρ,hb,h=>by simp only[VRows]at h⊢;obtain⟨h0,h1,h2⟩:=h;exact⟨h0,VAt.mono hI hw r hρ hb h1,VRows.mono hI hw rs hρ hb h2⟩
end
end
end Go.Ax
/- AxRel: abstract heaps against worlds; what a step may change; renaming of block numbers. -/
namespace Go.Ax
inductive YSt where
 |ready
 |busy
 |done (id:Option Nat)
 deriving Inhabited,DecidableEq
structure RInfo where
 N:Nat
 ps:List Nat
 asg:Code
 body:Code
 fid:Nat
structure GTab(α:Type) where
 glob:Nat→Option α
 rnd:Nat→Option RInfo
instance {α:Type}:CoeFun (GTab α) (λ_=>Nat→Option α):=⟨GTab.glob⟩
def b7s:Code→Bool
 |.rangeFunc _ _ _ _=>false
 |.seq a b=>b7s a&&b7s b
 |.cond _ a b=>b7s a&&b7s b
 |.block _ b=>b7s b
 |.loop b=>b7s b
 |.scope b=>b7s b
 |_=>true
def c7i:Option Nat→Code
 |none=>.ret
 |some id=>.exit id
inductive AObj where
 |row (k:Nat)(aa:List (List AV))
 |map (ks vs:List AV)(bs:List Nat)(bv:Nat)
 |siter (s:List UInt8)(pos:Nat)
 |uset (ks:List Int)
 |miter (ks b9:List Int)(bT:Option (Option Int))
 |yloop (y:Nat)(F:List (Nat×AV))(st:YSt)
 deriving Inhabited
def c2h:List (Nat×AV)→Nat→AV
 | [],_=>.junk
 |(s,v)::r,t=>bif Nat.beq s t then v else c2h r t
def g2v(G:GTab (List AV))(I:Nat→Prop)(w:World)(ρ:PMap)(l:Nat)(y:Nat)(F:List (Nat×AV))(st:YSt):Prop:=
 ∃(ri:RInfo) (r:Loop),G.rnd y=some ri∧w.heap[l]?=some (.loop r)∧r.tmps.size=ri.N∧r.params.toList=ri.ps∧r.assign=ri.asg∧r.body=ri.body∧(∀s,VRel I w ρ (c2h F s) (r.tmps.getD s undef))∧
  (match st with
   |.ready=>r.state = .ready∧r.pending=none
   |.busy=>r.state = .busy
   |.done j=>r.state = .done∧r.pending=some (c7i j))
def g2w(es:Array MapEntry)(seen:Array Nat)(b9:List Int):Prop:=∃dm:List MapEntry,(∀e∈dm,e∈es.toList)∧dm.map (·.born)=seen.toList∧dm.map (·.key)=b9.map (Value.int .i64)
abbrev FHeap:=Nat→Option AObj
def ORel(G:GTab (List AV))(I:Nat→Prop)(w:World)(ρ:PMap)(m:Pl):AObj→Prop
 |.row k aa=>m.k=k∧0<k∧(∃cL e,w.heap[m.blk]?=some (.cells cL e (0,0))∧cL.size=m.room∧m.off+aa.length*k≤m.room)∧VRows I w k ρ aa m.blk m.off
 |.map ks vs bs bv=>∃es,w.heap[m.blk]?=some (.map es bv)∧VRels I w ρ ks (es.toList.map (·.key))∧VRels I w ρ vs (es.toList.map (·.val))∧es.toList.map (·.born)=bs
 |.siter s pos=>m.off=0∧∃t,w.heap[m.blk]?=some (.stringIter t pos)∧t.data.toList=s
 |.uset ks=>∃es cl,w.heap[m.blk]?=some (.map es cl)∧USet ks es cl
 |.miter ks b9 _=>m.off=0∧((ks=[]∧b9=[]∧w.heap[m.blk]?=some (.mapIter none 0 #[] 0))∨
  ∃c es cl seen,I c∧w.heap[c]?=some (.map es cl)∧USet ks es cl∧w.heap[m.blk]?=some (.mapIter (some c) cl seen cl)∧g2w es seen b9)
 |.yloop y F st=>g2v G I w ρ m.blk y F st
structure HRel(G:GTab (List AV))(I K:Nat→Prop)(ρ:PMap)(h:FHeap)(w:World):Prop where
 live:∀b o,h b=some o→∃m,ρ b=some m∧¬I m.blk∧¬K m.blk∧ORel G I w ρ m o
 inj:∀b b' m m',(h b).isSome→(h b').isSome→ρ b=some m→ρ b'=some m'→m.blk=m'.blk→b=b'
 dom:∀b m,ρ b=some m→m.blk<w.heap.size
 imm:∀c,I c→c<w.heap.size
 kept:∀c,K c→c<w.heap.size
 apart:∀c,I c→¬K c
 glob:∀g cs,G g=some cs→I g∧VAt I w noP cs g 0
structure Ext(I K:Nat→Prop)(w w':World):Prop where
 os:w'.os=w.os
 tape:w'.tape=w.tape
 output:w'.output=w.output
 size:w.heap.size≤w'.heap.size
 keep:∀c,I c∨K c→w'.heap[c]?=w.heap[c]?
theorem Ext.refl(I K:Nat→Prop)(w:World):Ext I K w w:=⟨rfl,rfl,rfl,f6l _,λ_ _=>rfl⟩
theorem Ext.trans{I I' K:Nat→Prop}{w w' j9:World}(hI:∀c,I c→I' c)(h:Ext I K w w')(k:Ext I' K w' j9):Ext I K w j9:=
 ⟨k.os.trans h.os,k.tape.trans h.tape,k.output.trans h.output,g1v h.size k.size,
  λc hc=>(k.keep c (hc.imp (hI c) id)).trans (h.keep c hc)⟩
theorem ORel.mono{G:GTab (List AV)}{I I':Nat→Prop}{w w':World}{ρ ρ':PMap}{m:Pl}(o:AObj)(hI:∀c,I c→I' c)(hw:∀c,I c→w'.heap[c]?=w.heap[c]?)
 (hρ:∀b m,ρ b=some m→ρ' b=some m)(hb:w'.heap[m.blk]?=w.heap[m.blk]?)(h:ORel G I w ρ m o):ORel G I' w' ρ' m o:=by
 cases o with
 |row k aa=>obtain⟨h1,h2,⟨cL,e,h3,h4⟩,h5⟩:=h;exact⟨h1,h2,⟨cL,e,by rw[hb,h3],h4⟩,VRows.mono hI hw aa hρ hb h5⟩
 |map ks vs bs bv=>obtain⟨es,h1,h2,h3,h4⟩:=h;exact⟨es,by rw[hb,h1],VRels.mono hI hw ks hρ h2,VRels.mono hI hw vs hρ h3,h4⟩
 |siter s pos=>obtain⟨h0,t,h1,h2⟩:=h;exact⟨h0,t,by rw[hb,h1],h2⟩
 |uset ks=>obtain⟨es,cl,h1,h2⟩:=h;exact⟨es,cl,by rw[hb,h1],h2⟩
 |miter ks b9 bT=>
  obtain⟨h0,h⟩:=h;rcases h with ⟨h1,h2,h3⟩|⟨c,es,cl,seen,h1,h2,h3,h4,h5⟩
  ·exact⟨h0,.inl ⟨h1,h2,by rw[hb,h3]⟩⟩
  ·exact⟨h0,.inr ⟨c,es,cl,seen,hI c h1,by rw[hw c h1,h2],h3,by rw[hb,h4],h5⟩⟩
 |yloop y F st=>obtain⟨ri,r,h0,h1,h2,h3,h4,h5,h6,h7⟩:=h;exact⟨ri,r,h0,by rw[hb,h1],h2,h3,h4,h5,λs=>VRel.mono hI hw _ hρ (h6 s),h7⟩
structure Stepped(G:GTab (List AV))(I K:Nat→Prop)(ρ:PMap)(w:World)(I':Nat→Prop)(ρ':PMap)(h':FHeap)(w':World):Prop where
 imm:∀c,I c→I' c
 map:∀b m,ρ b=some m→ρ' b=some m
 ext:Ext I K w w'
 rel:HRel G I' K ρ' h' w'
theorem Stepped.vrel{G I K ρ w I' ρ' h' w'}(s:Stepped G I K ρ w I' ρ' h' w'){v:AV}{c:Value}(h:VRel I w ρ v c):VRel I' w' ρ' v c:=VRel.mono s.imm (λc hc=>s.ext.keep c (.inl hc)) v s.map h
theorem Stepped.vrels{G I K ρ w I' ρ' h' w'}(s:Stepped G I K ρ w I' ρ' h' w'){v:List AV}{c:List Value}(h:VRels I w ρ v c):VRels I' w' ρ' v c:=VRels.mono s.imm (λc hc=>s.ext.keep c (.inl hc)) v s.map h
theorem Stepped.refl{G I K ρ h w}(r:HRel G I K ρ h w):Stepped G I K ρ w I ρ h w:=⟨λ_ h=>h,λ_ _ h=>h,Ext.refl _ _ _,r⟩
def SameMem(w w':World):Prop:=w'.heap=w.heap∧w'.tape=w.tape∧w'.os=w.os∧w'.output=w.output
section same
variable {I:Nat→Prop}{w w':World}
theorem SameMem.ext(s:SameMem w w')(I K:Nat→Prop):Ext I K w w':=⟨s.2.2.1,s.2.1,s.2.2.2,by rw[s.1];exact f6l _,λ_ _=>by rw[s.1]⟩
theorem HRel.same{G I K ρ h w w'}(r:HRel G I K ρ h w)(s:SameMem w w'):HRel G I K ρ h w' where
 live b o hb:=by obtain⟨m,h1,h2,h3,h4⟩:=r.live b o hb;exact⟨m,h1,h2,h3,ORel.mono o (λ_ h=>h) (λ_ _=>by rw[s.1]) (λ_ _ h=>h) (by rw[s.1]) h4⟩
 inj:=r.inj
 dom b m hb:=by rw[s.1];exact r.dom b m hb
 imm c hc:=by rw[s.1];exact r.imm c hc
 kept c hc:=by rw[s.1];exact r.kept c hc
 apart:=r.apart
 glob g cs hg:=⟨(r.glob g cs hg).1,VAt.mono (λ_ h=>h) (λ_ _=>by rw[s.1]) cs (λ_ _ h=>h) (by rw[s.1]) (r.glob g cs hg).2⟩
theorem Stepped.same{G I K ρ h w w'}(r:HRel G I K ρ h w)(s:SameMem w w'):Stepped G I K ρ w I ρ h w':=⟨λ_ h=>h,λ_ _ h=>h,s.ext _ _,r.same s⟩
end same
theorem HRel.fewer{G I K ρ h h' w}(r:HRel G I K ρ h w)(hh:∀b o,h' b=some o→h b=some o):HRel G I K ρ h' w where
 live b o hb:=r.live b o (hh b o hb)
 inj b b' m m' hb bq:=by
  refine r.inj b b' m m' ?_ ?_
  ·obtain⟨o,ho⟩:=f4k.1 hb;rw[hh b o ho];rfl
  ·obtain⟨o,ho⟩:=f4k.1 bq;rw[hh b' o ho];rfl
 dom:=r.dom
 imm:=r.imm
 kept:=r.kept
 apart:=r.apart
 glob:=r.glob
/-! ### renaming -/
mutual
def ren(π:Nat→Option Nat):AV→AV
 |.ptr b i o=>match π b with|some b'=>.ptr b' i o|none=>.junk
 |.slice b off len cap=>match π b with|some b'=>.slice b' off len cap|none=>.junk
 |.map b=>match π b with|some b'=>.map b'|none=>.junk
 |.func fn fs cs=>.func fn (c4w π fs) (c4w π cs)
 |.iface t x=>.iface t (ren π x)
 |.agg cs=>.agg (c4w π cs)
 |.tuple cs=>.tuple (c4w π cs)
 |.iptr cs=>.iptr cs
 |.islice aa cap=>.islice aa cap
 |.imap ks vs bs bv=>.imap ks vs bs bv
 |.iset ks=>.iset ks
 |.yfn b=>match π b with|some b'=>.yfn b'|none=>.junk
 |.junk=>.junk
 |.bool b=>.bool b
 |.int k n=>.int k n
 |.str s=>.str s
 |.nilptr=>.nilptr
 |.nilslice=>.nilslice
 |.nilmap=>.nilmap
 |.nilfunc=>.nilfunc
 |.nilifc=>.nilifc
def c4w(π:Nat→Option Nat):List AV→List AV
 | []=>[]
 |v::vs=>ren π v::c4w π vs
end
theorem a9o(π:Nat→Option Nat):∀l:List AV,c4w π l=l.map (ren π)
 | []=>rfl
 |v::vs=>by simp[c4w,a9o π vs]
def a0t(π:Nat→Option Nat):AObj→AObj
 |.row k aa=>.row k (aa.map λr=>r.map (ren π))
 |.map ks vs bs bv=>.map (ks.map (ren π)) (vs.map (ren π)) bs bv
 |.siter s pos=>.siter s pos
 |.uset ks=>.uset ks
 |.miter ks b9 bT=>.miter ks b9 bT
 |.yloop y F st=>.yloop y (F.map λx=>(x.1,ren π x.2)) st
section
variable {I:Nat→Prop}{w:World}{π:Nat→Option Nat}{ρ ρ':PMap}
mutual
theorem VRel.ren(hπ:∀b b' m,π b=some b'→ρ b=some m→ρ' b'=some m):∀(v:AV) {c:Value},VRel I w ρ v c→VRel I w ρ' (Ax.ren π v) c
 |.ptr b i o,c,h=>by
  simp only[VRel]at h;obtain⟨m,hm,rfl⟩:=h;cases hb:π b with
  |none=>simp[Ax.ren,hb,VRel]
  |some b'=>simp only[Ax.ren,hb,VRel];exact⟨m,hπ b b' m hb hm,rfl⟩
 |.slice b off len cap,c,h=>by
  simp only[VRel]at h;obtain⟨a,n,rfl,h1,h2,h3⟩:=h;cases hb:π b with
  |none=>simp[Ax.ren,hb,VRel]
  |some b'=>
   simp only[Ax.ren,hb,VRel];refine⟨a,n,rfl,h1,h2,h3.imp id ?_⟩
   rintro⟨m,hm,rfl,hr⟩
   exact⟨m,hπ b b' m hb hm,rfl,hr⟩
 |.map b,c,h=>by
  simp only[VRel]at h;obtain⟨m,hm,rfl⟩:=h;cases hb:π b with
  |none=>simp[Ax.ren,hb,VRel]
  |some b'=>simp only[Ax.ren,hb,VRel];exact⟨m,hπ b b' m hb hm,rfl⟩
 |.func fn fs cs,c,h=>by simp only[VRel,Ax.ren]at h⊢;obtain⟨cR,aO,rfl,h1,h2⟩:=h;exact⟨cR,aO,rfl,VRels.ren hπ fs h1,VRels.ren hπ cs h2⟩
 |.iface t x,c,h=>by simp only[VRel,Ax.ren]at h⊢;obtain⟨x',rfl,h⟩:=h;exact⟨x',rfl,VRel.ren hπ x h⟩
 |.agg cs,c,h=>by simp only[VRel,Ax.ren]at h⊢;obtain⟨aO,rfl,h⟩:=h;exact⟨aO,rfl,VRels.ren hπ cs h⟩
 |.tuple cs,c,h=>by simp only[VRel,Ax.ren]at h⊢;obtain⟨aO,rfl,h⟩:=h;exact⟨aO,rfl,VRels.ren hπ cs h⟩
 |.iptr cs,c,h=>by simpa[VRel,Ax.ren]using h
 |.islice aa cap,c,h=>by simpa only[VRel,Ax.ren]using h
 |.imap ks vs bs bv,c,h=>by simpa only[VRel,Ax.ren]using h
 |.iset ks,c,h=>by simpa only[VRel,Ax.ren]using h
 |.yfn b,c,h=>by
  simp only[VRel]at h;obtain⟨m,hm,rfl⟩:=h;cases hb:π b with
  |none=>simp[Ax.ren,hb,VRel]
  |some b'=>simp only[Ax.ren,hb,VRel];exact⟨m,hπ b b' m hb hm,rfl⟩
 |.junk,c,h=>by simp[VRel,Ax.ren]
 |.bool b,c,h=>by simpa[VRel,Ax.ren]using h
 |.int k n,c,h=>by simpa[VRel,Ax.ren]using h
 |.str s,c,h=>by simpa[VRel,Ax.ren]using h
 |.nilptr,c,h=>by simpa[VRel,Ax.ren]using h
 |.nilslice,c,h=>by simpa[VRel,Ax.ren]using h
 |.nilmap,c,h=>by simpa[VRel,Ax.ren]using h
 |.nilfunc,c,h=>by simpa[VRel,Ax.ren]using h
 |.nilifc,c,h=>by simpa[VRel,Ax.ren]using h
theorem VRels.ren(hπ:∀b b' m,π b=some b'→ρ b=some m→ρ' b'=some m):∀(vs:List AV) {cs:List Value},VRels I w ρ vs cs→VRels I w ρ' (c4w π vs) cs
 | [],cs,h=>by simpa[VRels,c4w]using h
 |v::vs,cs,h=>by simp only[VRels,c4w]at h⊢;obtain⟨c,aO,rfl,h1,h2⟩:=h;exact⟨c,aO,rfl,VRel.ren hπ v h1,VRels.ren hπ vs h2⟩
end
theorem VAt.ren(hπ:∀b b' m,π b=some b'→ρ b=some m→ρ' b'=some m):∀(vs:List AV) {b off:Nat},VAt I w ρ vs b off→VAt I w ρ' (vs.map (Ax.ren π)) b off
 | [],b,off,h=>by simp[VAt]
 |v::vs,b,off,h=>by simp only[VAt,c10]at h⊢;obtain⟨⟨c,hc,h1⟩,h2⟩:=h;exact⟨⟨c,hc,VRel.ren hπ v h1⟩,VAt.ren hπ vs h2⟩
theorem VRows.ren{k:Nat}(hπ:∀b b' m,π b=some b'→ρ b=some m→ρ' b'=some m):∀(rs:List (List AV)) {b off:Nat},VRows I w k ρ rs b off→
 VRows I w k ρ' (rs.map λr=>r.map (Ax.ren π)) b off
 | [],b,off,h=>by simp[VRows]
 |r::rs,b,off,h=>by simp only[VRows,c10]at h⊢;obtain⟨h0,h1,h2⟩:=h;exact⟨by simpa using h0,VAt.ren hπ r h1,VRows.ren hπ rs h2⟩
theorem c2g(π:Nat→Option Nat):∀(F:List (Nat×AV)) (s:Nat),c2h (F.map λx=>(x.1,Ax.ren π x.2)) s=Ax.ren π (c2h F s)
 | [],s=>by simp[c2h,Ax.ren]
 |(t,v)::F,s=>by simp only[c10,c2h,c2g π F s];cases Nat.beq t s<;>rfl
theorem ORel.ren{G:GTab (List AV)}{m:Pl}(hπ:∀b b' m,π b=some b'→ρ b=some m→ρ' b'=some m)(o:AObj)(h:ORel G I w ρ m o):ORel G I w ρ' m (a0t π o):=by
 cases o with
 |row k aa=>obtain⟨h1,h2,h3,h5⟩:=h;exact⟨h1,h2,by simpa using h3,VRows.ren hπ aa h5⟩
 |map ks vs bs bv=>obtain⟨es,h1,h2,h3,h4⟩:=h;exact⟨es,h1,by rw[←a9o];exact VRels.ren hπ ks h2,by rw[←a9o];exact VRels.ren hπ vs h3,h4⟩
 |siter s pos=>exact h
 |uset ks=>exact h
 |miter ks b9 bT=>exact h
 |yloop y F st=>obtain⟨ri,r,h0,h1,h2,h3,h4,h5,h6,h7⟩:=h;refine⟨ri,r,h0,h1,h2,h3,h4,h5,λs=>?_,h7⟩;rw[c2g];exact VRel.ren hπ _ (h6 s)
end
end Go.Ax
/- AxEff: what an operation may do to the abstract heap, and that the relation follows. -/
namespace Go.Ax
inductive Eff where
 |none
 |new (o:AObj)
 |set (b:Nat)(o:AObj)
 |kill (b:Nat)(o:AObj)
def PMap.set(ρ:PMap)(n:Nat)(m:Pl):PMap:=λb=>if b=n then some m else ρ b
def FHeap.set(h:FHeap)(n:Nat)(o:Option AObj):FHeap:=λb=>if b=n then o else h b
def FHeap.eff(h:FHeap)(n:Nat):Eff→FHeap
 |.none=>h
 |.new o=>h.set n (some o)
 |.set b o=>h.set b (some o)
 |.kill b o=>(h.set b Option.none).set n (some o)
def Eff.fresh:Eff→Bool
 |.new _|.kill _ _=>true
 |_=>false
def Moves(ρ ρ':PMap)(n:Nat)(e:Eff):Prop:=(∀b,b≠n→ρ' b=ρ b)∧(e.fresh=false→ρ'=ρ)
theorem Moves.same(ρ:PMap)(n:Nat)(e:Eff):Moves ρ ρ n e:=⟨λ_ _=>rfl,λ_=>rfl⟩
theorem Moves.set(ρ:PMap)(n:Nat){e:Eff}(m:Pl)(he:e.fresh=true):Moves ρ (ρ.set n m) n e:=⟨λb hb=>by simp[PMap.set,hb],λh=>by simp[he]at h⟩
theorem PMap.set_old{ρ:PMap}{n:Nat}{m:Pl}(hn:ρ n=Option.none):∀b m',ρ b=some m'→ρ.set n m b=some m':=by
 intro b m' h;unfold PMap.set;split
 ·subst b;simp[hn]at h
 ·exact h
section
variable {G:GTab (List AV)}{I K:Nat→Prop}{ρ:PMap}{h:FHeap}{w w':World}{n:Nat}
theorem a2v(r:HRel G I K ρ h w)(_:h n=none)(hρ:ρ n=none){ob:Obj}{o:AObj}{m:Pl}
 (hw:w'.heap=w.heap.push ob)(ht:w'.tape=w.tape)(e9:w'.os=w.os)(a6:w'.output=w.output)
 (hm:m.blk=w.heap.size)(ho:ORel G I w' (ρ.set n m) m o):Stepped G I K ρ w I (ρ.set n m) (h.eff n (.new o)) w':=by
 have aT:∀c,c<w.heap.size→w'.heap[c]?=w.heap[c]?:=by intro c hc;rw[hw,g16,f4n (by omega)]
 have bi:=PMap.set_old (m:=m) hρ;refine⟨λ_ h=>h,bi,⟨e9,ht,a6,by rw[hw];simp,?_⟩,?_⟩
 ·rintro c (hc|hc)
  ·exact aT c (r.imm c hc)
  ·exact aT c (r.kept c hc)
 ·refine⟨?_,?_,?_,?_,?_,r.apart,?_⟩
  ·intro b o' hb;simp only[FHeap.eff,FHeap.set]at hb;split at hb
   ·subst b;cases hb;refine⟨m,by simp[PMap.set],λhc=>?_,λhc=>?_,ho⟩
    ·have:=r.imm _ hc;omega
    ·have:=r.kept _ hc;omega
   ·obtain⟨m',h1,h2,h3,h4⟩:=r.live b o' hb;exact⟨m',bi b m' h1,h2,h3,ORel.mono o' (λ_ h=>h) (λc hc=>aT c (r.imm c hc)) bi (aT _ (r.dom b m' h1)) h4⟩
  ·intro b b' m1 m2 hb bq h1 h2 he;simp only[FHeap.eff,FHeap.set,PMap.set]at hb bq h1 h2;split at hb<;>split at bq
   ·omega
   ·rename_i nj j3;rw[f6e nj]at h1;rw[f4n j3]at h2;cases h1;have:=r.dom b' m2 h2;omega
   ·rename_i nj j3;rw[f4n nj]at h1;rw[f6e j3]at h2;cases h2;have:=r.dom b m1 h1;omega
   ·rename_i nj j3;rw[f4n nj]at h1;rw[f4n j3]at h2;exact r.inj b b' m1 m2 hb bq h1 h2 he
  ·intro b m' hb;rw[hw];simp only[Array.size_push];simp only[PMap.set]at hb;split at hb
   ·cases hb;omega
   ·have:=r.dom b m' hb;omega
  ·intro c hc;rw[hw];simp only[Array.size_push];have:=r.imm c hc;omega
  ·intro c hc;rw[hw];simp only[Array.size_push];have:=r.kept c hc;omega
  ·intro g cs hg;obtain⟨h1,h2⟩:=r.glob g cs hg;exact⟨h1,VAt.mono (λ_ h=>h) (λc hc=>aT c (r.imm c hc)) cs (λ_ _ h=>h) (aT g (r.imm g h1)) h2⟩
theorem a2n(r:HRel G I K ρ h w){b:Nat}{o0 o:AObj}{m:Pl}(hb:h b=some o0)(hρ:ρ b=some m)
 (aZ:w'.heap.size=w.heap.size)(hw:∀c,c≠m.blk→w'.heap[c]?=w.heap[c]?)(ht:w'.tape=w.tape)(e9:w'.os=w.os)(a6:w'.output=w.output)
 (ho:ORel G I w' ρ m o):Stepped G I K ρ w I ρ (h.eff n (.set b o)) w':=by
 obtain⟨m',bA,dL,gH,_⟩:=r.live b o0 hb;obtain rfl:m=m':=z9o (hρ.symm.trans bA);have cJ:∀c,I c→w'.heap[c]?=w.heap[c]?:=λc hc=>hw c (λe=>dL (e▸hc));refine⟨λ_ h=>h,λ_ _ h=>h,⟨e9,ht,a6,by omega,?_⟩,?_⟩
 ·rintro c (hc|hc)
  ·exact cJ c hc
  ·exact hw c (λe=>gH (e▸hc))
 ·refine⟨?_,?_,?_,?_,?_,r.apart,?_⟩
  ·intro b' o' bq;simp only[FHeap.eff,FHeap.set]at bq;split at bq
   ·rename_i he;cases bq;subst he;exact⟨m,hρ,dL,gH,ho⟩
   ·rename_i aF;obtain⟨m',h1,h2,h3,h4⟩:=r.live b' o' bq;refine⟨m',h1,h2,h3,ORel.mono o' (λ_ h=>h) cJ (λ_ _ h=>h) (hw _ ?_) h4⟩;intro e;exact aF (r.inj b' b m' m (by simp[bq]) (by simp[hb]) h1 hρ e)
  ·intro b1 b2 m1 m2 h1 h2;refine r.inj b1 b2 m1 m2 ?_ ?_
   ·simp only[FHeap.eff,FHeap.set]at h1;split at h1
    ·subst b1;simp[hb]
    ·exact h1
   ·simp only[FHeap.eff,FHeap.set]at h2;split at h2
    ·subst b2;simp[hb]
    ·exact h2
  ·intro b' m' bq;rw[aZ];exact r.dom b' m' bq
  ·intro c hc;rw[aZ];exact r.imm c hc
  ·intro c hc;rw[aZ];exact r.kept c hc
  ·intro g cs hg;obtain⟨h1,h2⟩:=r.glob g cs hg;exact⟨h1,VAt.mono (λ_ h=>h) cJ cs (λ_ _ h=>h) (cJ g h1) h2⟩
theorem b4j(r:HRel G I K ρ h w)(hh:h n=none)(hρ:ρ n=none)(b:Nat){ob:Obj}{o:AObj}{m:Pl}
 (hw:w'.heap=w.heap.push ob)(ht:w'.tape=w.tape)(e9:w'.os=w.os)(a6:w'.output=w.output)
 (hm:m.blk=w.heap.size)(ho:ORel G I w' (ρ.set n m) m o):Stepped G I K ρ w I (ρ.set n m) (h.eff n (.kill b o)) w':=by
 have r':HRel G I K ρ (h.set b none) w:=r.fewer (by
  intro b' o' bq;simp only[FHeap.set]at bq;split at bq
  ·cases bq
  ·exact bq)
 have:=a2v (h:=h.set b none) (n:=n) (o:=o) r' (by simp only[FHeap.set];split<;>simp_all) hρ hw ht e9 a6 hm ho;exact this
theorem a84(r:HRel G I K ρ h w)(hh:h n=none)(hρ:ρ n=none){b:Nat}{o0 o:AObj}{mb m:Pl}(hb:h b=some o0)(hρb:ρ b=some mb)
 (hm:m.blk=mb.blk)(aZ:w'.heap.size=w.heap.size)(hw:∀c,c≠mb.blk→w'.heap[c]?=w.heap[c]?)(ht:w'.tape=w.tape)(e9:w'.os=w.os)(a6:w'.output=w.output)
 (ho:ORel G I w' (ρ.set n m) m o):Stepped G I K ρ w I (ρ.set n m) (h.eff n (.kill b o)) w':=by
 obtain⟨m',bA,dL,gH,_⟩:=r.live b o0 hb;obtain rfl:mb=m':=z9o (hρb.symm.trans bA);have bi:=PMap.set_old (m:=m) hρ;have cJ:∀c,I c→w'.heap[c]?=w.heap[c]?:=λc hc=>hw c (λe=>dL (e▸hc));have nj:b≠n:=λe=>by subst e;simp[hh]at hb
 have ah:=r.dom b mb hρb;refine⟨λ_ h=>h,bi,⟨e9,ht,a6,by omega,?_⟩,?_⟩
 ·rintro c (hc|hc)
  ·exact cJ c hc
  ·exact hw c (λe=>gH (e▸hc))
 ·refine⟨?_,?_,?_,?_,?_,r.apart,?_⟩
  ·intro b' o' bq;simp only[FHeap.eff,FHeap.set]at bq;split at bq
   ·rename_i he;cases bq;subst he;exact⟨m,by simp[PMap.set],by rw[hm];exact dL,by rw[hm];exact gH,ho⟩
   ·rename_i aF;split at bq
    ·cases bq
    ·rename_i mg;obtain⟨m',h1,h2,h3,h4⟩:=r.live b' o' bq;refine⟨m',bi b' m' h1,h2,h3,ORel.mono o' (λ_ h=>h) cJ bi (hw _ ?_) h4⟩;intro e;exact mg (r.inj b' b m' mb (by simp[bq]) (by simp[hb]) h1 hρb e)
  ·intro b1 b2 m1 m2 da eK h1 h2 he;simp only[FHeap.eff,FHeap.set,PMap.set]at da eK h1 h2;by_cases e1:b1=n<;>by_cases e2:b2=n
   ·omega
   ·rw[f6e e1]at h1;rw[f4n e2]at h2;rw[f4n e2]at eK;cases h1;split at eK
    ·cases eK
    ·rename_i aF;exact absurd (r.inj b2 b m2 mb eK (by simp[hb]) h2 hρb (by omega)) aF
   ·rw[f4n e1]at h1;rw[f6e e2]at h2;rw[f4n e1]at da;cases h2;split at da
    ·cases da
    ·rename_i aF;exact absurd (r.inj b1 b m1 mb da (by simp[hb]) h1 hρb (by omega)) aF
   ·rw[f4n e1]at h1;rw[f4n e2]at h2;rw[f4n e1]at da;rw[f4n e2]at eK;split at da
    ·cases da
    ·split at eK
     ·cases eK
     ·exact r.inj b1 b2 m1 m2 da eK h1 h2 he
  ·intro b' m' bq;rw[aZ];simp only[PMap.set]at bq;split at bq
   ·cases bq;omega
   ·exact r.dom b' m' bq
  ·intro c hc;rw[aZ];exact r.imm c hc
  ·intro c hc;rw[aZ];exact r.kept c hc
  ·intro g cs hg;obtain⟨h1,h2⟩:=r.glob g cs hg;exact⟨h1,VAt.mono (λ_ h=>h) cJ cs (λ_ _ h=>h) (cJ g h1) h2⟩
end
end Go.Ax
/- AxVal: lists of cells: splitting, reading, replacing. -/
namespace Go.Ax
section
variable {I I':Nat→Prop}{w w':World}{ρ ρ':PMap}
theorem VRels.length:∀{vs:List AV} {cs:List Value},VRels I w ρ vs cs→vs.length=cs.length
 | [],cs,h=>by simp[VRels]at h;simp[h]
 |v::vs,cs,h=>by simp only[VRels]at h;obtain⟨c,aO,rfl,_,h⟩:=h;simp[VRels.length h]
theorem VRels.append:∀{as bs:List AV} {xs ys:List Value},VRels I w ρ as xs→VRels I w ρ bs ys→VRels I w ρ (as++bs) (xs++ys)
 | [],bs,xs,ys,h,k=>by simp[VRels]at h;simpa[h]using k
 |v::as,bs,xs,ys,h,k=>by simp only[VRels,f6a]at h⊢;obtain⟨c,aO,rfl,h1,h2⟩:=h;exact⟨c,aO++ys,rfl,h1,VRels.append h2 k⟩
theorem VRels.get:∀{vs:List AV} {cs:List Value} (i:Nat) {v:AV},VRels I w ρ vs cs→vs[i]?=some v→∃c,cs[i]?=some c∧VRel I w ρ v c
 | [],cs,i,v,h,hv=>by simp at hv
 |x::vs,cs,i,v,h,hv=>by
  simp only[VRels]at h;obtain⟨c,aO,rfl,h1,h2⟩:=h;cases i with
  |zero=>simp at hv;subst hv;exact⟨c,by simp,h1⟩
  |succ i=>simp at hv;simpa using VRels.get i h2 hv
theorem VRels.drop:∀{vs:List AV} {cs:List Value} (i:Nat),VRels I w ρ vs cs→VRels I w ρ (vs.drop i) (cs.drop i)
 |vs,cs,0,h=>by simpa using h
 | [],cs,i+1,h=>by simp[VRels]at h⊢;simp[h]
 |x::vs,cs,i+1,h=>by simp only[VRels]at h;obtain⟨c,aO,rfl,h1,h2⟩:=h;simpa using VRels.drop i h2
theorem VRels.take:∀{vs:List AV} {cs:List Value} (i:Nat),VRels I w ρ vs cs→VRels I w ρ (vs.take i) (cs.take i)
 |vs,cs,0,h=>by simp[VRels]
 | [],cs,i+1,h=>by simp[VRels]at h⊢;simp[h]
 |x::vs,cs,i+1,h=>by simp only[VRels]at h;obtain⟨c,aO,rfl,h1,h2⟩:=h;simp only[List.take_succ_cons,VRels];exact⟨c,aO.take i,rfl,h1,VRels.take i h2⟩
theorem VRels.set:∀{vs:List AV} {cs:List Value} (i:Nat) {v:AV} {c:Value},VRels I w ρ vs cs→VRel I w ρ v c→VRels I w ρ (vs.set i v) (cs.set i c)
 | [],cs,i,v,c,h,hv=>by simp[VRels]at h⊢;simp[h]
 |x::vs,cs,i,v,c,h,hv=>by
  simp only[VRels]at h;obtain⟨c',aO,rfl,h1,h2⟩:=h;cases i with
  |zero=>simp only[List.set_cons_zero,VRels];exact⟨c,aO,rfl,hv,h2⟩
  |succ i=>simp only[List.set_cons_succ,VRels];exact⟨c',aO.set i c,rfl,h1,VRels.set i h2 hv⟩
def CellsAt(w:World)(cs:List Value)(b off:Nat):Prop:=∀j v,cs[j]?=some v→w.cell? ⟨b,off+j,none⟩=some v
theorem VAt.of_cells:∀{vs:List AV} {cs:List Value} {b off:Nat},CellsAt w cs b off→VRels I w ρ vs cs→VAt I w ρ vs b off
 | [],cs,b,off,_,_=>by simp[VAt]
 |v::vs,cs,b,off,hc,h=>by simp only[VRels,VAt]at h⊢;obtain⟨c,aO,rfl,h1,h2⟩:=h;refine⟨⟨c,by simpa using hc 0 c (by simp),h1⟩,VAt.of_cells (λj v hv=>?_) h2⟩;have:=hc (j+1) v (by simpa using hv);rw[show off+1+j=off+(j+1) by omega];exact this
theorem VAt.cells:∀{vs:List AV} {b off:Nat},VAt I w ρ vs b off→∃cs,CellsAt w cs b off∧VRels I w ρ vs cs
 | [],b,off,_=>⟨[],λj v hv=>by simp at hv,by simp[VRels]⟩
 |v::vs,b,off,h=>by
  simp only[VAt]at h;obtain⟨⟨c,hc,h1⟩,h2⟩:=h;obtain⟨cs,k1,k2⟩:=VAt.cells h2;refine⟨c::cs,λj v hv=>?_,by simp only[VRels];exact⟨c,cs,rfl,h1,k2⟩⟩;cases j with
  |zero=>simp at hv;subst hv;simpa using hc
  |succ j=>have:=k1 j v (by simpa using hv);rw[show off+(j+1)=off+1+j by omega];exact this
theorem VAt.append:∀{as bs:List AV} {b off:Nat},VAt I w ρ (as++bs) b off↔VAt I w ρ as b off∧VAt I w ρ bs b (off+as.length)
 | [],bs,b,off=>by simp[VAt]
 |v::as,bs,b,off=>by simp only[f6a,VAt,e12];rw[VAt.append,and_assoc,show off+1+as.length=off+(as.length+1) by omega]
theorem VAt.drop{vs:List AV}{b off:Nat}(i:Nat)(hi:i≤vs.length)(h:VAt I w ρ vs b off):VAt I w ρ (vs.drop i) b (off+i):=by rw[←g1q i vs,VAt.append]at h;simpa[Nat.min_eq_left hi]using h.2
theorem VAt.take{vs:List AV}{b off:Nat}(i:Nat)(h:VAt I w ρ vs b off):VAt I w ρ (vs.take i) b off:=by rw[←g1q i vs,VAt.append]at h;exact h.1
theorem VRows.iff{k:Nat}:∀{rs:List (List AV)} {b off:Nat},VRows I w k ρ rs b off↔(∀r∈rs,r.length=k)∧VAt I w ρ rs.flatten b off
 | [],b,off=>by simp[VRows,VAt]
 |r::rs,b,off=>by
  simp only[VRows,g00,VAt.append,f6m,forall_eq_or_imp];rw[VRows.iff];constructor
  ·rintro⟨h0,h1,h2,h3⟩;exact⟨⟨h0,h2⟩,h1,by rw[h0];exact h3⟩
  ·rintro⟨⟨h0,h2⟩,h1,h3⟩;exact⟨h0,h1,h2,by rw[h0]at h3;exact h3⟩
theorem a0z{k:Nat}:∀{rs:List (List AV)},(∀r∈rs,r.length=k)→rs.flatten.length=rs.length*k
 | [],_=>by simp
 |r::rs,h=>by simp only[g00,f5z,e12];rw[a0z (λr hr=>h r (by simp[hr])),h r (by simp),g2h,Nat.add_comm]
theorem VRows.get{k:Nat}:∀{rs:List (List AV)} {b off:Nat} (i:Nat) {r:List AV},VRows I w k ρ rs b off→rs[i]?=some r→r.length=k∧VAt I w ρ r b (off+i*k)
 | [],b,off,i,r,h,hr=>by simp at hr
 |x::rs,b,off,i,r,h,hr=>by
  simp only[VRows]at h;obtain⟨h0,h1,h2⟩:=h;cases i with
  |zero=>simp at hr;subst hr;exact⟨h0,by simpa using h1⟩
  |succ i=>have:=VRows.get i h2 (by simpa using hr);rw[show off+(i+1)*k=off+k+i*k by rw[g2h];omega];exact this
theorem VRows.append{k:Nat}:∀{as bs:List (List AV)} {b off:Nat},VRows I w k ρ (as++bs) b off↔VRows I w k ρ as b off∧VRows I w k ρ bs b (off+as.length*k)
 | [],bs,b,off=>by simp[VRows]
 |v::as,bs,b,off=>by simp only[f6a,VRows,e12];rw[VRows.append,show off+k+as.length*k=off+(as.length+1)*k by rw[g2h];omega];simp only[and_assoc]
theorem VRows.drop{k:Nat}{rs:List (List AV)}{b off:Nat}(i:Nat)(hi:i≤rs.length)(h:VRows I w k ρ rs b off):VRows I w k ρ (rs.drop i) b (off+i*k):=by rw[←g1q i rs,VRows.append]at h;simpa[Nat.min_eq_left hi]using h.2
theorem VRows.take{k:Nat}{rs:List (List AV)}{b off:Nat}(i:Nat)(h:VRows I w k ρ rs b off):VRows I w k ρ (rs.take i) b off:=by rw[←g1q i rs,VRows.append]at h;exact h.1
theorem VAt.mono_cells(hI:∀c,I c→I' c)(hw:∀c,I c→w'.heap[c]?=w.heap[c]?)(hρ:∀b m,ρ b=some m→ρ' b=some m) :
 ∀{vs:List AV} {b off:Nat},(∀j,j<vs.length→w'.cell? ⟨b,off+j,none⟩=w.cell? ⟨b,off+j,none⟩)→VAt I w ρ vs b off→VAt I' w' ρ' vs b off
 | [],b,off,_,_=>by simp[VAt]
 |v::vs,b,off,hc,h=>by simp only[VAt]at h⊢;obtain⟨⟨c,dl,h1⟩,h2⟩:=h;refine⟨⟨c,by rw[←dl];simpa using hc 0 (by simp),VRel.mono hI hw v hρ h1⟩,VAt.mono_cells hI hw hρ (λj hj=>?_) h2⟩;rw[show off+1+j=off+(j+1) by omega];exact hc (j+1) (by simp;omega)
theorem VRows.mono_cells{k:Nat}(hI:∀c,I c→I' c)(hw:∀c,I c→w'.heap[c]?=w.heap[c]?)(hρ:∀b m,ρ b=some m→ρ' b=some m)
 {rs:List (List AV)}{b off:Nat}(hc:∀j,j<rs.length*k→w'.cell? ⟨b,off+j,none⟩=w.cell? ⟨b,off+j,none⟩)(h:VRows I w k ρ rs b off):VRows I' w' k ρ' rs b off:=by
 rw[VRows.iff]at h⊢;exact⟨h.1,VAt.mono_cells hI hw hρ (by rw[a0z h.1];exact hc) h.2⟩
theorem a94{b o:Nat}{cL:Array Value}{e:TypeId}{fz:Nat×Nat}(h:w.heap[b]?=some (.cells cL e fz)):w.cell? ⟨b,o,none⟩=cL[o]?:=by simp[World.cell?,h]
theorem CellsAt.of_heap{b off:Nat}{cL:Array Value}{e:TypeId}{fz:Nat×Nat}{cs:List Value}(h:w.heap[b]?=some (.cells cL e fz))
 (hc:∀j v,cs[j]?=some v→cL[off+j]?=some v):CellsAt w cs b off:=by
 intro j v hv;rw[a94 h];exact hc j v hv
theorem VRels.noRef_any{vs:List AV}{cs:List Value}(h:VRels I w noP vs cs):VRels I w ρ vs cs:=VRels.mono (λ_ h=>h) (λ_ _=>rfl) vs (λ_ _ h=>by simp[noP]at h) h
theorem VRel.noRef_any{v:AV}{c:Value}(h:VRel I w noP v c):VRel I w ρ v c:=VRel.mono (λ_ h=>h) (λ_ _=>rfl) v (λ_ _ h=>by simp[noP]at h) h
theorem VAt.noRef_any{vs:List AV}{b off:Nat}(h:VAt I w noP vs b off):VAt I w ρ vs b off:=VAt.mono (λ_ h=>h) (λ_ _=>rfl) vs (λ_ _ h=>by simp[noP]at h) rfl h
end
end Go.Ax
/- AxEnv: the tables of a program that the evaluator reads; frames; operands. -/
namespace Go.Ax
structure FInfo where
 code:Code
 ntmps:Nat
 results:List ResultVar
abbrev a03:=List (Option AObj)
structure Env where
 P:Program
 und:TypeId→Option TypeDesc
 sz:TypeId→Nat
 bytes:TypeId→Nat
 zero:TypeId→Option (List AV)
 eqok:TypeId→Bool
 G:GTab (List AV)
 fn:FuncId→Option FInfo
 keep:FuncId→Nat→List Nat
 thaw:FuncId→Bool
 ro:FuncId→Bool
 ext:FuncId→Bool
 prim:FuncId→List AV→Option (AV×a03):=λ_ _=>none
 zf:FuncId→Bool:=λ_=>false
abbrev yId:FuncId:=999999999
def a2q:TypeDesc→Bool
 |.struct _|.array _ _=>true
 |_=>false
structure EnvOk(E:Env):Prop where
 und:∀t d,E.und t=some d→E.P.underlying t=some d∧∃i,E.P.info? t=some i∧i.size=E.sz t∧i.bytes=E.bytes t
 zero:∀t cs,E.zero t=some cs→(∃d,E.und t=some d)∧∃i z,E.P.info? t=some i∧i.zero=some z∧cs.length=E.sz t∧
  ∀I w,VRels I w noP cs z.cells.toList
 zshape:∀t d i z,E.und t=some d→E.P.info? t=some i→i.zero=some z→(a2q d=true→∃a,z = .agg a)∧(a2q d=false→z.cells = #[z])
 eqok:∀t,E.eqok t=true→E.P.eqGuardType E.P.depth t=false∧E.P.stoodInHeld t=false∧(∃i,E.P.info? t=some i∧i.comparable=true)∧
  ∀fs,E.und t=some (.struct fs)→∀f∈fs.toList,f.name≠ "_"
 fn:∀f i,E.fn f=some i→∃fn,E.P.funcs[f]?=some fn∧fn.body=some i.code∧fn.ntmps=i.ntmps∧fn.results.toList=i.results∧(fn.name == "runtime.NumGoroutine")=false
 ext:∀f,E.ext f=true→(E.fn f).isSome=false→∃fn,E.P.funcs[f]?=some fn∧fn.body=none∧(fn.name == "runtime.NumGoroutine")=false∧Extern.findNext fn=none∧Extern.find fn=some Extern.BytealgIndexByte.indexByte
 mixed:E.P.follows .mixedOrders=true
 yid:E.fn yId=none
section
variable {E:Env}(ok:EnvOk E){t:TypeId}{d:TypeDesc}(w:World)
include ok
theorem a0d(h:E.und t=some d):(underlying t).run E.P w = .ok d w:=run_underlying (ok.und t d h).1 w
theorem b4s(h:E.und t=some d):∃i,(typeInfo t).run E.P w = .ok i w∧i.size=E.sz t∧i.bytes=E.bytes t:=by obtain⟨_,i,hi,h1,h2⟩:=ok.und t d h;exact⟨i,by simp[typeInfo,hi],h1,h2⟩
theorem a3v(h:E.und t=some d):(sizeOf t).run E.P w = .ok (E.sz t) w:=by obtain⟨i,hi,h1,_⟩:=b4s ok w h;simp[sizeOf,hi,h1]
theorem b5i(h:E.und t=some d):(isAgg t).run E.P w = .ok (a2q d) w:=by unfold isAgg;simp only[Sem.run_bind,a0d ok w h,Result.andThen_ok];cases d<;>rfl
theorem a8l{cs:List AV}(h:E.zero t=some cs):∃z,(zeroValue t).run E.P w = .ok z w∧cs.length=E.sz t∧∀I w',VRels I w' noP cs z.cells.toList:=by obtain⟨_,i,z,hi,hz,h1,h2⟩:=ok.zero t cs h;exact⟨z,by simp[zeroValue,typeInfo,hi,hz],h1,h2⟩
end
/-! ### frames -/
abbrev Frm:=List (Nat×AV)
def a34:Frm→Nat→AV
 | [],_=>.junk
 |(s,v)::r,t=>bif Nat.beq s t then v else a34 r t
theorem d63(s t:Nat):Nat.beq s t=(s==t):=by
 by_cases h:s=t
 ·subst h;simp
 ·rw[f9i.2 h];cases hb:Nat.beq s t with
  |false=>rfl
  |true=>exact absurd (g03 hb) h
def a4i(F:Frm)(d:Option Nat)(v:AV):Frm:=
 match d with
 |some s=>(s,v)::F
 |none=>F
def FRel(I:Nat→Prop)(w:World)(ρ:PMap)(N:Nat)(F:Frm)(tmps:Array Value):Prop:=tmps.size=N∧∀s,VRel I w ρ (a34 F s) (tmps.getD s undef)
def a4p:Value→AV
 |.bool b=>.bool b
 |.int k n=>.int k n
 |.string s=>.str s.data.toList
 |.pointer a=>match a with|none=>.nilptr|some _=>.junk
 |.slice a l c=>match a,l,c with|none,0,0=>.nilslice|_,_,_=>.junk
 |.map r=>match r with|none=>.nilmap|some _=>.junk
 |.nilFunc=>.nilfunc
 |.nilIface=>.nilifc
 |.tuple vs=>match vs.toList with|[]=>.tuple []|_=>.junk
 |_=>.junk
def c88:Value→AV
 |.agg cs=>.agg (cs.toList.map a4p)
 |v=>a4p v
def opv(E:Env)(F:Frm):Operand→AV
 |.tmp t=>a34 F t
 |.const v=>c88 v
 |.global g=>match E.G g with|some cs=>.iptr cs|none=>.junk
 |.func f=>.func (.func f) [] []
section
variable {I:Nat→Prop}{w:World}{ρ:PMap}
theorem b4e(v:Value):VRel I w ρ (a4p v) v:=by
 cases v with
 |pointer a=>cases a<;>simp[a4p,VRel]
 |slice a l c=>cases a<;>cases l<;>cases c<;>simp[a4p,VRel]
 |map a=>cases a<;>simp[a4p,VRel]
 |tuple vs=>
  simp only[a4p];split
  ·rename_i h;simp only[VRel];exact⟨vs,rfl,by simp[VRels,h]⟩
  ·simp[VRel]
 |_=>simp[a4p,VRel]
theorem a92:∀l:List Value,VRels I w ρ (l.map a4p) l
 | []=>by simp[VRels]
 |v::l=>by simp only[c10,VRels];exact⟨v,l,rfl,b4e v,a92 l⟩
theorem c46(v:Value):VRel I w ρ (c88 v) v:=by
 unfold c88;split
 ·rename_i cs;simp only[VRel];exact⟨cs,rfl,a92 _⟩
 ·exact b4e v
theorem b5x{E:Env}{K:Nat→Prop}{h:FHeap}{N:Nat}{F:Frm}{a:Act}(r:HRel E.G I K ρ h w)(hF:FRel I w ρ N F a.tmps)(x:Operand) :
 VRel I w ρ (opv E F x) (a.eval x):=by
 cases x with
 |tmp t=>exact hF.2 t
 |const v=>exact c46 v
 |global g=>
  simp only[opv,Act.eval];cases hg:E.G g with
  |none=>simp[VRel]
  |some cs=>obtain⟨h1,h2⟩:=r.glob g cs hg;simp only[VRel];exact⟨g,0,rfl,h1,h2⟩
 |func f=>simp only[opv,Act.eval,VRel];exact⟨#[],#[],rfl,by simp[VRels],by simp[VRels]⟩
theorem b01(F:Frm)(d s:Nat)(v:AV):a34 (a4i F (some d) v) s=if d=s then v else a34 F s:=by
 simp only[a4i,a34,d63];by_cases h:d=s
 ·simp[h]
 ·simp[h,f9i.2 h]
theorem FRel.set{N:Nat}{F:Frm}{a:Act}{d:Option Nat}{v:AV}{c:Value}(hF:FRel I w ρ N F a.tmps)(hd:∀s,d=some s→s<N)(hv:VRel I w ρ v c) :
 FRel I w ρ N (a4i F d v) (a.put d c).tmps:=by
 cases d with
 |none=>exact hF
 |some d=>
  have ah:=hd d rfl;refine⟨by simp[Act.put,hF.1],λs=>?_⟩;rw[b01];simp only[Act.put,f8i,f9d,hF.1];split
  ·subst s;simpa[ah]using hv
  ·have:=hF.2 s;simpa[f8i]using this
theorem FRel.mono{I':Nat→Prop}{w':World}{ρ':PMap}{N:Nat}{F:Frm}{t:Array Value}(hF:FRel I w ρ N F t)
 (hv:∀(v:AV) (c:Value),VRel I w ρ v c→VRel I' w' ρ' v c):FRel I' w' ρ' N F t:=⟨hF.1,λs=>hv _ _ (hF.2 s)⟩
end
def AV.cells:AV→List AV
 |.agg cs=>cs
 |v=>[v]
def AV.storable:AV→Bool
 |.junk|.agg _|.tuple _=>false
 |_=>true
section
variable {I:Nat→Prop}{w:World}{ρ:PMap}
theorem VRel.storable{v:AV}{c:Value}(h:VRel I w ρ v c)(hs:v.storable=true):c.oneCell'=true:=by
 cases v<;>simp[AV.storable]at hs<;>simp only[VRel]at h
 all_goals first
  |(subst h;rfl)
  |(obtain⟨_,rfl,_⟩:=h;rfl)
  |(obtain⟨_,_,rfl⟩:=h;rfl)
  |(obtain⟨_,_,rfl,_⟩:=h;rfl)
  |(obtain⟨_,_,_,rfl,_⟩:=h;rfl)
theorem VRel.cells{v:AV}{c:Value}(h:VRel I w ρ v c)(hj:v≠ .junk):VRels I w ρ v.cells c.cells.toList:=by
 cases v
 case junk=>exact absurd rfl hj
 case agg cs=>simp only[VRel]at h;obtain⟨aO,rfl,h⟩:=h;exact h
 all_goals
  have hc:c.cells = #[c]:=by
   simp only[VRel]at h
   first
    |(subst h;rfl)
    |(obtain⟨_,rfl,_⟩:=h;rfl)
    |(obtain⟨_,_,rfl⟩:=h;rfl)
    |(obtain⟨_,_,rfl,_⟩:=h;rfl)
    |(obtain⟨_,_,_,rfl,_⟩:=h;rfl)
  rw[hc];simp only[AV.cells,VRels];exact⟨c,[],rfl,h,rfl⟩
theorem VRels.storable:∀{vs:List AV} {cs:List Value},VRels I w ρ vs cs→vs.all AV.storable=true→∀c∈cs,c.oneCell'=true
 | [],cs,h,_=>by simp[VRels]at h;simp[h]
 |v::vs,cs,h,hs=>by
  simp only[VRels]at h;obtain⟨c,aO,rfl,h1,h2⟩:=h;simp only[List.all_cons,d14]at hs;intro x hx;simp only[f6m]at hx;rcases hx with rfl|hx
  ·exact VRel.storable h1 hs.1
  ·exact VRels.storable h2 hs.2 x hx
end
end Go.Ax
/- AxMem: loads, stores, new variables, rows and maps, addresses: what they do to abstract values, and that the model's operations do just that. -/
namespace Go.Ax
def Val(E:Env)(I K:Nat→Prop)(ρ:PMap)(h:FHeap)(n:Nat)(w:World)(s:Sem Value)(v:AV)(e:Eff):Prop:=∃c w' ρ',s.run E.P w = .ok c w'∧Stepped E.G I K ρ w I ρ' (h.eff n e) w'∧VRel I w' ρ' v c∧Moves ρ ρ' n e
def f0i(E:Env)(I K:Nat→Prop)(ρ:PMap)(h:FHeap)(n:Nat)(w:World)(s:Sem Unit)(e:Eff):Prop:=∃w' ρ',s.run E.P w = .ok () w'∧Stepped E.G I K ρ w I ρ' (h.eff n e) w'∧Moves ρ ρ' n e
section
variable {E:Env}{I K:Nat→Prop}{ρ:PMap}{h:FHeap}{n:Nat}{w:World}
theorem Val.quiet(r:HRel E.G I K ρ h w){s:Sem Value}{v:AV}{c:Value}{w':World}(hs:s.run E.P w = .ok c w')(hw:SameMem w w')(hv:VRel I w ρ v c) :
 Val E I K ρ h n w s v .none:=
 ⟨c,w',ρ,hs,Stepped.same r hw,VRel.mono (λ_ h=>h) (λ_ _=>by rw[hw.1]) v (λ_ _ h=>h) hv,Moves.same _ _ _⟩
theorem Val.here(r:HRel E.G I K ρ h w){s:Sem Value}{v:AV}{c:Value}(hs:s.run E.P w = .ok c w)(hv:VRel I w ρ v c):Val E I K ρ h n w s v .none:=Val.quiet r hs ⟨rfl,rfl,rfl,rfl⟩ hv
/-! ### loads -/
def a39(E:Env)(t:TypeId)(cs:List AV):Option AV:=
 bif cs.length==E.sz t then
  match E.und t with
  |some d=>bif a2q d then some (.agg cs)else cs.head?
  |none=>none
 else none
def a7l(E:Env)(h:FHeap)(t:TypeId):AV→Option AV
 |.ptr b i o=>match h b with
  |some (.row _ aa)=>match aa[i]? with
   |some r=>a39 E t ((r.drop o).take (E.sz t))
   |none=>none
  |_=>none
 |.iptr cs=>a39 E t (cs.take (E.sz t))
 |_=>none
theorem a8m(ok:EnvOk E){t:TypeId}{cs:List AV}{v:AV}{b off:Nat}{ρ:PMap}(hv:a39 E t cs=some v)(hc:VAt I w ρ cs b off) :
 ∃c,(loadVar t ⟨b,off,none⟩).run E.P w = .ok c w∧VRel I w ρ v c:=by
 unfold a39 at hv;rw[cond_eq_ite]at hv;split at hv
 case isFalse=>cases hv
 rename_i hl;have hl:cs.length=E.sz t:=by simpa using hl
 cases hd:E.und t with
 |none=>simp[hd]at hv
 |some d=>
  simp only[hd]at hv;obtain⟨cv,h1,h2⟩:=VAt.cells hc;have ai:cv.length=E.sz t:=by rw[←hl];exact(VRels.length h2).symm
  have rJ:∀j:Nat,(⟨b,off,none⟩:Addr).add j=⟨b,off+j,none⟩:=by intro j;unfold Addr.add;split<;>simp_all
  unfold loadVar;simp only[Sem.run_bind,b5i ok w hd,Result.andThen_ok,Sem.run_ite];cases d5:a2q d with
  |true=>simp only[d5,f6g,Option.some.injEq]at hv;subst hv;have:=run_loadCells_list (P:=E.P) w ⟨b,off,none⟩ cv (λj v hj=>by rw[rJ];exact h1 j v hj);rw[ai]at this;refine⟨.agg cv.toArray,?_,by simp only[VRel];exact⟨cv.toArray,rfl,by simpa using h2⟩⟩;simp[a3v ok w hd,this]
  |false=>
   simp only[d5,f7z]at hv;cases cs with
   |nil=>simp at hv
   |cons x cs=>simp at hv;subst hv;simp only[VRels]at h2;obtain⟨c,aO,rfl,h3,_⟩:=h2;have:=h1 0 c (by simp);refine⟨c,?_,h3⟩;simp at this;simp[this]
theorem d9z(ok:EnvOk E)(r:HRel E.G I K ρ h w){t:TypeId}{p v:AV}{c:Value}(hl:a7l E h t p=some v)(hp:VRel I w ρ p c) :
 Val E I K ρ h n w (Instr.loadAt t c) v .none:=by
 cases p with
 |ptr b i o=>
  simp only[a7l]at hl;cases hb:h b with
  |none=>simp[hb]at hl
  |some ob=>
   cases ob with
   |row k aa=>
    simp only[hb]at hl;cases hr:aa[i]? with
    |none=>simp[hr]at hl
    |some rw'=>
     simp only[hr]at hl;obtain⟨m,hm,_,_,ho⟩:=r.live b _ hb;obtain⟨hk,hk0,_,aA⟩:=ho;obtain⟨ai,bg⟩:=VRows.get i aA hr;simp only[VRel]at hp;obtain⟨m',bA,rfl⟩:=hp;obtain rfl:m=m':=z9o (hm.symm.trans bA);by_cases bU:o≤rw'.length
     ·have j4:VAt I w ρ ((rw'.drop o).take (E.sz t)) m.blk (m.off+i*m.k+o):=by
       rw[hk];exact VAt.take _ (VAt.drop o bU bg)
      obtain⟨c,hc,hv⟩:=a8m ok hl j4;exact Val.here r (by simp[Instr.loadAt,Instr.sureAddr,hc]) hv
     ·have:rw'.drop o=[]:=g14 (by omega);rw[this]at hl;unfold a39 at hl;have hd:∀d,E.und t=some d→True:=λ_ _=>trivial;simp only[List.take_nil,f4o]at hl;rw[cond_eq_ite]at hl;split at hl
      ·rename_i h0;cases hd:E.und t with
       |none=>simp[hd]at hl
       |some d=>
        simp only[hd]at hl;have h0:E.sz t=0:=(show 0=E.sz t by simpa using h0).symm;cases d5:a2q d with
        |true=>simp[d5]at hl;subst hl;refine Val.here (c:=.agg #[]) r ?_ (by simp only[VRel];exact⟨#[],rfl,by simp[VRels]⟩);simp[Instr.loadAt,Instr.sureAddr,loadVar,b5i ok w hd,d5,a3v ok w hd,h0,loadCells,loadCellsFrom]
        |false=>simp[d5]at hl
      ·cases hl
   |map ks vs bs cl=>simp[hb]at hl
   |siter s pos=>simp[hb]at hl
   |uset ks=>simp[hb]at hl
   |miter ks b9 bT=>simp[hb]at hl
   |yloop y Fy st=>simp[hb]at hl
 |iptr cs=>simp only[a7l]at hl;simp only[VRel]at hp;obtain⟨b,off,rfl,hI,bg⟩:=hp;obtain⟨c,hc,hv⟩:=a8m ok hl (VAt.take _ bg);exact Val.here r (by simp[Instr.loadAt,Instr.sureAddr,hc]) (VRel.noRef_any hv)
 |_=>simp[a7l]at hl
/-! ### stores -/
def splice(r:List AV)(o:Nat)(cs:List AV):List AV:=r.take o++cs++r.drop (o+cs.length)
def a9c(E:Env)(h:FHeap)(t:TypeId)(p x:AV):Option Eff:=
 match p with
 |.ptr b i o=>match h b with
  |some (.row k aa)=>match aa[i]? with
   |some r=>bif x.cells.length==E.sz t&&(E.und t).isSome&&Nat.ble (o+x.cells.length) r.length&&x.cells.all AV.storable
    then some (.set b (.row k (aa.set i (splice r o x.cells))))else none
   |none=>none
  |_=>none
 |_=>none
theorem VRows.splice{k:Nat}{aa:List (List AV)}{blk off i o:Nat}{r cs:List AV}{w':World}(cJ:∀c,I c→w'.heap[c]?=w.heap[c]?)
 (aA:VRows I w k ρ aa blk off)(hr:aa[i]?=some r)(ho:o+cs.length≤k)
 (fM:∀x,(x<off+i*k+o∨off+i*k+o+cs.length≤x)→w'.cell? ⟨blk,x,none⟩=w.cell? ⟨blk,x,none⟩)
 (bf:VAt I w' ρ cs blk (off+i*k+o)):VRows I w' k ρ (aa.set i (Ax.splice r o cs)) blk off:=by
 have hi:i<aa.length:=(c13.1 hr).1;have l7:aa=aa.take i++r::aa.drop (i+1):=by
  conv=>lhs;rw[←g1q i aa]
  congr 1
  rw[List.drop_eq_getElem_cons hi]
  congr 1
  exact(c13.1 hr).2
 have bi:aa.set i (Ax.splice r o cs)=aa.take i++Ax.splice r o cs::aa.drop (i+1):=by rw[List.set_eq_take_append_cons_drop,f6e hi]
 rw[bi];rw[l7]at aA;rw[VRows.append]at aA⊢;obtain⟨h1,h2⟩:=aA;have sI:(aa.take i).length=i:=by simp;omega
 simp only[VRows,sI]at h2⊢;obtain⟨h3,h4,h5⟩:=h2;have mono:=λ(vs:List AV) (b off:Nat) hc (hh:VAt I w ρ vs b off)=>VAt.mono_cells (I':=I) (w':=w') (ρ':=ρ) (λ_ h=>h) cJ (λ_ _ h=>h) hc hh;refine⟨?_,?_,?_,?_⟩
 ·refine VRows.mono_cells (λ_ h=>h) cJ (λ_ _ h=>h) (λj hj=>fM _ (.inl ?_)) h1;rw[sI]at hj;omega
 ·unfold Ax.splice;simp;omega
 ·unfold Ax.splice;rw[VAt.append,VAt.append];have l4:(r.take o).length=o:=by simp;omega
  refine⟨⟨?_,by rw[l4];exact bf⟩,?_⟩
  ·exact mono _ _ _ (λj hj=>fM _ (.inl (by rw[l4]at hj;omega))) (VAt.take o h4)
  ·have:=VAt.drop (o+cs.length) (by omega) h4;rw[f5z,l4,show off+i*k+(o+cs.length)=off+i*k+o+cs.length by omega];rw[show off+i*k+(o+cs.length)=off+i*k+o+cs.length by omega]at this;exact mono _ _ _ (λj hj=>fM _ (.inr (by omega))) this
 ·refine VRows.mono_cells (λ_ h=>h) cJ (λ_ _ h=>h) (λj hj=>fM _ (.inr (by omega))) h5
theorem b9y{w:World}{blk o:Nat}{cL:Array Value}{e:TypeId}(cv:List Value)(hb:w.heap[blk]?=some (.cells cL e (0,0)))(bY:o+cv.length≤cL.size)
 (qM:∀c∈cv,c.oneCell'=true)(P:Program) :
 ∃w',(storeCells ⟨blk,o,none⟩ cv).run P w = .ok () w'∧(∃dJ,w'.heap[blk]?=some (.cells dJ e (0,0))∧dJ.size=cL.size)∧
  (∀c,c≠blk→w'.heap[c]?=w.heap[c]?)∧w'.heap.size=w.heap.size∧w'.tape=w.tape∧w'.os=w.os∧w'.output=w.output∧
  CellsAt w' cv blk o∧(∀x,(x<o∨o+cv.length≤x)→w'.cell? ⟨blk,x,none⟩=w.cell? ⟨blk,x,none⟩):=by
 refine⟨_,run_storeCells_at (P:=P) blk o e cv 0 cL w hb (by omega) qM,?_⟩;simp only[g1w];generalize bf:(cL.toList.take o++cv++cL.toList.drop (o+cv.length)).toArray=dJ;have bU:dJ.size=cL.size:=by subst bf;simp;omega
 have hh:=setRow_heap w blk cL dJ e (0,0) hb;have aI:∀x,dJ[x]?=if x<o then cL[x]? else if x<o+cv.length then cv[x-o]? else cL[x]?:=by
  intro x;subst bf;have l4:(cL.toList.take o).length=o:=by simp;omega
  have jB:(cL.toList.take o++cv).length=o+cv.length:=by simp;omega
  rw[g02];by_cases h1:x<o
  ·rw[f4i,f6d (by rw[l4];omega)];simp[h1]
  ·by_cases h2:x<o+cv.length
   ·rw[f6d (by rw[jB];omega),f8k (by rw[l4];omega),l4];simp[h1,h2]
   ·rw[f8k (by rw[jB];omega),jB];simp only[g1s,f4n h1,f4n h2];rw[show o+cv.length+(x-(o+cv.length))=x by omega];simp
 refine⟨⟨dJ,hh,bU⟩,λc hc=>setRow_other w blk c dJ hc,setRow_size w blk dJ,rfl,rfl,rfl,?_,?_⟩
 ·refine CellsAt.of_heap hh (λj v hj=>?_);have aS:j<cv.length:=(c13.1 hj).1;rw[aI,f4n (by omega),f6e (by omega),show o+j-o=j by omega];exact hj
 ·intro x hx;rw[a94 hh,a94 hb,aI];rcases hx with hx|hx
  ·rw[f6e hx]
  ·rw[f4n (by omega),f4n (by omega)]
theorem d59(ok:EnvOk E)(r:HRel E.G I K ρ h w){t:TypeId}{p x:AV}{e:Eff}{c cx:Value}(hl:a9c E h t p x=some e)(hp:VRel I w ρ p c)(hx:VRel I w ρ x cx) :
 f0i E I K ρ h n w (Instr.storeAt t c cx) e:=by
 cases p with
 |ptr b i o=>
  simp only[a9c]at hl;cases hb:h b with
  |none=>simp[hb]at hl
  |some ob=>
   cases ob with
   |row k aa=>
    simp only[hb]at hl;cases hr:aa[i]? with
    |none=>simp[hr]at hl
    |some rr=>
     simp only[hr]at hl;rw[cond_eq_ite]at hl;split at hl
     case isFalse=>cases hl
     rename_i hc;simp only[d14,g0i,g0h]at hc;obtain⟨⟨⟨cZ,dg⟩,mK⟩,tv⟩:=hc;cases hl;obtain⟨d,hd⟩:=f4k.1 dg;obtain⟨m,hm,dL,_,ho⟩:=r.live b _ hb;obtain⟨hk,hk0,⟨cL,el,ej,bm,bY⟩,aA⟩:=ho;obtain⟨ai,bg⟩:=VRows.get i aA hr;simp only[VRel]at hp;obtain⟨m',bA,rfl⟩:=hp;obtain rfl:m=m':=z9o (hm.symm.trans bA);have hj:x≠ .junk:=by rintro rfl;simp[AV.cells,AV.storable]at tv
     have eJ:=VRel.cells hx hj;have lC:=VRels.length eJ;have hi:i<aa.length:=(c13.1 hr).1;have kj:i*k+k≤aa.length*k:=by rw[←g2h];exact g05 k hi
     obtain⟨w',ae,⟨dJ,bq,iR⟩,cf,bU,ht,e9,a6,bf,cP⟩:=b9y (w:=w) (blk:=m.blk) (o:=m.off+i*k+o) cx.cells.toList ej
      (by rw[←lC];omega) (VRels.storable eJ tv) E.P
     have cJ:∀c,I c→w'.heap[c]?=w.heap[c]?:=λc hc=>cf c (λe=>dL (e▸hc));refine⟨w',ρ,?_,?_,Moves.same _ _ _⟩
     ·simp only[Instr.storeAt,Instr.sureAddr,storeVar,Sem.run_bind,Sem.run_pure,Result.andThen_ok,a3v ok w hd];have qA:cx.cells.size=E.sz t:=by rw[←cZ,lC];simp
      simp only[qA,ne_eq,not_true_eq_false,g0z,hk];simpa using ae
     ·refine a2n r hb hm bU cf ht e9 a6 ?_;refine⟨hk,hk0,⟨dJ,el,bq,by omega,by simp only[f6j];omega⟩,?_⟩;refine VRows.splice cJ aA hr (by rw[ai]at mK;exact mK) (λx hx=>cP x (by rw[←lC];exact hx)) ?_;exact VAt.of_cells bf (VRels.mono (λ_ h=>h) cJ _ (λ_ _ h=>h) eJ)
   |map ks vs bs cl=>simp[hb]at hl
   |siter s pos=>simp[hb]at hl
   |uset ks=>simp[hb]at hl
   |miter ks b9 bT=>simp[hb]at hl
   |yloop y Fy st=>simp[hb]at hl
 |_=>simp[a9c]at hl
/-! ### new blocks -/
theorem b1s(r:HRel E.G I K ρ h w)(hn:h n=none)(hρ:ρ n=none){el:TypeId}{k:Nat}(hk:0<k){aa:List (List AV)}{cells:Array Value}
 (ai:∀x∈aa,x.length=k)(hv:VRels I w ρ aa.flatten cells.toList){s:Sem Value}{v:AV}{mk:Addr→Value}{w0:World}(bM:SameMem w w0)
 (hs:s.run E.P w = .ok (mk ⟨w.heap.size,0,none⟩) { w0 with heap:=w0.heap.push (.cells cells el) })
 (m8:∀w' ρ',ρ' n=some ⟨w.heap.size,0,k,cells.size⟩→VRel I w' ρ' v (mk ⟨w.heap.size,0,none⟩)) :
 Val E I K ρ h n w s v (.new (.row k aa)):=by
 have bi:=PMap.set_old (m:=⟨w.heap.size,0,k,cells.size⟩) hρ;have aT:∀c,I c→({ w0 with heap:=w0.heap.push (.cells cells el) }:World).heap[c]?=w.heap[c]?:=by intro c hc;have:=r.imm c hc;show(w0.heap.push _)[c]?=_;rw[bM.1,g16,f4n (by omega)]
 have bf:({ w0 with heap:=w0.heap.push (.cells cells el) }:World).heap[w.heap.size]?=some (.cells cells el (0,0)):=by show(w0.heap.push _)[_]?=_;rw[bM.1];simp
 refine⟨_,_,ρ.set n ⟨w.heap.size,0,k,cells.size⟩,hs,?_,m8 _ _ (by simp[PMap.set]),Moves.set _ _ _ rfl⟩;refine a2v (ob:=.cells cells el) r hn hρ (by show w0.heap.push _=_;rw[bM.1]) bM.2.1 bM.2.2.1 bM.2.2.2 rfl ?_;refine⟨rfl,hk,⟨cells,el,bf,rfl,?_⟩,?_⟩
 ·have:=VRels.length hv;rw[a0z ai]at this;simp at this;simp;omega
 ·rw[VRows.iff];refine⟨ai,VAt.of_cells (cs:=cells.toList) (CellsAt.of_heap bf (λj v hj=>by simpa using hj)) ?_⟩;exact VRels.mono (λ_ h=>h) aT _ bi hv
theorem a4x(el:TypeId)(cells:Array Value)(w:World):(newRow el cells).run E.P w = .ok ⟨w.heap.size,0,none⟩ { w with heap:=w.heap.push (.cells cells el) }:=by simp[newRow]
def e5z(E:Env)(n:Nat)(t:TypeId):Option (AV×Eff):=
 match E.zero t with
 |some z=>bif Nat.blt 0 z.length then some (.ptr n 0 0,.new (.row z.length [z]))else none
 |none=>none
theorem e5y(ok:EnvOk E)(r:HRel E.G I K ρ h w)(hn:h n=none)(hρ:ρ n=none){t:TypeId}{v:AV}{e:Eff}(ha:e5z E n t=some (v,e))(old:Value) :
 Val E I K ρ h n w (Instr.alloc t true old) v e:=by
 unfold e5z at ha;cases hz:E.zero t with
 |none=>simp[hz]at ha
 |some z=>
  simp only[hz]at ha;rw[cond_eq_ite]at ha;split at ha
  case isFalse=>cases ha
  rename_i aX;cases ha;obtain⟨zv,eZ,hl,bP⟩:=a8l ok w hz;refine b1s (el:=t) (cells:=zv.cells) (mk:=λa=>.pointer (some a)) r hn hρ (by simpa[f8f]using aX) (by simp) (by simpa using VRels.noRef_any (bP I w)) ⟨rfl,rfl,rfl,rfl⟩ ?_ ?_
  ·simp[Instr.alloc,eZ,newVar,a4x]
  ·intro w' ρ' h';simp only[VRel];exact⟨_,h',by simp⟩
def e6b(n:Nat)(x:AV):Option (AV×Eff):=
 match x with
 |.junk=>none
 |x=>bif Nat.blt 0 x.cells.length then some (.ptr n 0 0,.new (.row x.cells.length [x.cells]))else none
theorem e6a(r:HRel E.G I K ρ h w)(hn:h n=none)(hρ:ρ n=none){t:TypeId}{x v:AV}{c:Value}{e:Eff}(ha:e6b n x=some (v,e))(hx:VRel I w ρ x c) :
 Val E I K ρ h n w (Instr.box t c) v e:=by
 have hj:x≠ .junk:=by rintro rfl;simp[e6b]at ha
 have pP:(bif Nat.blt 0 x.cells.length then some (AV.ptr n 0 0,Eff.new (.row x.cells.length [x.cells]))else none)=some (v,e):=by cases x<;>first|exact absurd rfl hj|exact ha
 rw[cond_eq_ite]at pP;split at pP
 case isFalse=>cases pP
 rename_i aX;cases pP;refine b1s (el:=t) (cells:=c.cells) (mk:=λa=>.pointer (some a)) r hn hρ (by simpa[f8f]using aX) (by simp) (by simpa using VRel.cells hx hj) ⟨rfl,rfl,rfl,rfl⟩ ?_ ?_
 ·simp[Instr.box,newVar,a4x]
 ·intro w' ρ' h';simp only[VRel];exact⟨_,h',by simp⟩
theorem e60(r:HRel E.G I K ρ h w)(hn:h n=none)(hρ:ρ n=none){s:Sem Value}
 (hs:s.run E.P w = .ok (.map (some w.heap.size)) { w with heap:=w.heap.push (.map #[] 0) }):Val E I K ρ h n w s (.map n) (.new (.map [] [] [] 0)):=by
 refine⟨_,_,ρ.set n ⟨w.heap.size,0,0,0⟩,hs,?_,by simp only[VRel];exact⟨_,by simp[PMap.set];rfl,rfl⟩,Moves.set _ _ _ rfl⟩;refine a2v (ob:=.map #[] 0) r hn hρ rfl rfl rfl rfl rfl ?_;exact⟨#[],by simp,by simp[VRels],by simp[VRels],rfl⟩
end
end Go.Ax
/- AxAdr: addresses of fields and elements, parts of values, slices of slices and strings. -/
namespace Go.Ax
section
variable {E:Env}{I K:Nat→Prop}{ρ:PMap}{h:FHeap}{n:Nat}{w:World}
theorem VAt.drop'{vs:List AV}{b off:Nat}(i:Nat)(h:VAt I w ρ vs b off):VAt I w ρ (vs.drop i) b (off+i):=by
 by_cases hi:i≤vs.length
 ·exact VAt.drop i hi h
 ·rw[g14 (by omega)];simp[VAt]
theorem a5o(b o j:Nat):(⟨b,o,none⟩:Addr).add j=⟨b,o+j,none⟩:=by unfold Addr.add;split<;>simp_all
def a6x(E:Env)(s:TypeId)(p:AV)(f:Nat):Option AV:=
 match E.und s with
 |some (.struct fs)=>match fs[f]? with
  |some fd=>bif !(E.sz fd.type==0)&&(E.und fd.type).isSome then
   match p with
   |.ptr b i o=>some (.ptr b i (o+fd.offset))
   |.iptr cs=>some (.iptr (cs.drop fd.offset))
   |_=>none
   else none
  |none=>none
 |_=>none
theorem c1y(ok:EnvOk E)(r:HRel E.G I K ρ h w){s:TypeId}{p v:AV}{f:Nat}{c:Value}(hl:a6x E s p f=some v)(hp:VRel I w ρ p c) :
 Val E I K ρ h n w (Instr.fieldAt s c f) v .none:=by
 unfold a6x at hl;cases hu:E.und s with
 |none=>simp[hu]at hl
 |some d=>
  cases d
  case struct fs=>
   simp only[hu]at hl;cases hf:fs[f]? with
   |none=>simp[hf]at hl
   |some fd=>
    simp only[hf]at hl;rw[cond_eq_ite]at hl;split at hl
    case isFalse=>cases hl
    rename_i hc;simp only[d14,f9y,f9i]at hc;obtain⟨hz,hs⟩:=hc;obtain⟨wE,jV⟩:=f4k.1 hs;have fJ:∀b o:Nat,(fieldPlace ⟨b,o,none⟩ fd).run E.P w = .ok ⟨b,o+fd.offset,none⟩ w:=by intro b o;simp[fieldPlace,a3v ok w jV,hz,a5o]
    cases p with
    |ptr b i o=>simp only[Option.some.injEq]at hl;subst hl;simp only[VRel]at hp;obtain⟨m,hm,rfl⟩:=hp;refine Val.here (c:=.pointer (some ⟨m.blk,m.off+i*m.k+o+fd.offset,none⟩)) r ?_ (by simp only[VRel];exact⟨m,hm,by rw[Nat.add_assoc _ o]⟩);simp[Instr.fieldAt,a0d ok w hu,hf,Instr.sureAddr,fJ]
    |iptr cs=>simp only[Option.some.injEq]at hl;subst hl;simp only[VRel]at hp;obtain⟨b,off,rfl,hI,bg⟩:=hp;refine Val.here (c:=.pointer (some ⟨b,off+fd.offset,none⟩)) r ?_ (by simp only[VRel];exact⟨b,_,rfl,hI,VAt.drop' _ bg⟩);simp[Instr.fieldAt,a0d ok w hu,hf,Instr.sureAddr,fJ]
    |_=>simp at hl
  all_goals simp[hu]at hl
theorem b0g(ok:EnvOk E){t:TypeId}{cs:List AV}{cv:Array Value}{off:Nat}{v:AV}(hv:a39 E t ((cs.drop off).take (E.sz t))=some v)
 (hc:VRels I w ρ cs cv.toList):∃c,(part t cv off).run E.P w = .ok c w∧VRel I w ρ v c:=by
 unfold a39 at hv;rw[cond_eq_ite]at hv;split at hv
 case isFalse=>cases hv
 rename_i hl;have hl:((cs.drop off).take (E.sz t)).length=E.sz t:=by simpa using hl
 cases hd:E.und t with
 |none=>simp[hd]at hv
 |some d=>
  simp only[hd]at hv;unfold part;cases d5:a2q d with
  |true=>simp only[d5,f6g,Option.some.injEq]at hv;subst hv;refine⟨.agg (cv.extract off (off+E.sz t)),by simp[b5i ok w hd,d5,a3v ok w hd],?_⟩;simp only[VRel];refine⟨_,rfl,?_⟩;have:=VRels.take (E.sz t) (VRels.drop off hc);simpa[Array.toList_extract,List.extract_eq_take_drop,List.extract]using this
  |false=>
   simp only[d5,f7z]at hv;have hk:=VRels.take (E.sz t) (VRels.drop off hc);have h0:((cs.drop off).take (E.sz t))[0]?=some v:=by rw[←List.head?_eq_getElem?];exact hv
   obtain⟨c,dl,lZ⟩:=VRels.get 0 hk h0;have:cv[off]?=some c:=by
    rw[g0s]at dl;split at dl
    ·simpa[g1s]using dl
    ·cases dl
   exact⟨c,by simp[b5i ok w hd,d5,this],lZ⟩
theorem d2d(ok:EnvOk E)(r:HRel E.G I K ρ h w){t:TypeId}{cs:List AV}{cv:Array Value}{off:Nat}{v:AV}(hv:a39 E t ((cs.drop off).take (E.sz t))=some v)
 (hc:VRels I w ρ cs cv.toList):Val E I K ρ h n w (part t cv off) v .none:=by
 obtain⟨c,h1,h2⟩:=b0g ok hv hc;exact Val.here r h1 h2
def d5s(E:Env)(t:TypeId)(x:AV)(f:Nat):Option AV:=
 match E.und t,x with
 |some (.struct fs),.agg cs=>match fs[f]? with
  |some fd=>a39 E fd.type ((cs.drop fd.offset).take (E.sz fd.type))
  |none=>none
 |_,_=>none
theorem d5r(ok:EnvOk E)(r:HRel E.G I K ρ h w){t:TypeId}{x v:AV}{f:Nat}{c:Value}(hl:d5s E t x f=some v)(hx:VRel I w ρ x c) :
 Val E I K ρ h n w (Instr.field t c f) v .none:=by
 unfold d5s at hl;split at hl
 ·rename_i fs cs hu;cases hf:fs[f]? with
  |none=>simp[hf]at hl
  |some fd=>
   simp only[hf]at hl;simp only[VRel]at hx;obtain⟨cv,rfl,hc⟩:=hx;have ae:(Instr.field t (.agg cv) f).run E.P w=(part fd.type cv fd.offset).run E.P w:=by simp[Instr.field,a0d ok w hu,hf,asAgg]
   obtain⟨c,w',ρ',h1,h2⟩:=d2d ok (n:=n) r hl hc;exact⟨c,w',ρ',by rw[ae,h1],h2⟩
 ·cases hl
def d0q(x:AV)(len:Nat):Option Nat:=
 match x with
 |.int _ i=>bif decide (0≤i)&&decide (i<(len:Int))then some i.toNat else none
 |_=>none
theorem b7o{x:AV}{len j:Nat}{c:Value}(hi:d0q x len=some j)(hx:VRel I w ρ x c):∃k i,c = .int k i∧x = .int k i∧0≤i∧i<len∧i.toNat=j∧j<len:=by
 unfold d0q at hi;split at hi
 ·rename_i k i;rw[cond_eq_ite]at hi;split at hi
  ·rename_i hc;simp only[d14,f4p]at hc;simp only[VRel]at hx;cases hi;exact⟨k,i,hx,rfl,hc.1,hc.2,rfl,by omega⟩
  ·cases hi
 ·cases hi
def a10(E:Env)(h:FHeap)(t:TypeId)(p ix:AV):Option AV:=
 match E.und t with
 |some (.array len ac)=>match d0q ix len with
  |some j=>bif (E.und ac).isSome then match p with
   |.ptr b i o=>some (.ptr b i (o+j*E.sz ac))
   |.iptr cs=>some (.iptr (cs.drop (j*E.sz ac)))
   |_=>none
   else none
  |none=>none
 |some (.slice ac)=>bif (E.und ac).isSome then match p with
  |.slice b off len _=>match d0q ix len with
   |some j=>match h b with
    |some (.row k _)=>bif k==E.sz ac then some (.ptr b (off+j) 0)else none
    |_=>none
   |none=>none
  |.islice aa _=>match d0q ix aa.length with
   |some j=>match aa[j]? with
    |some r=>bif r.length==E.sz ac then some (.iptr r)else none
    |none=>none
   |none=>none
  |_=>none
  else none
 |_=>none
theorem c1w(ok:EnvOk E)(r:HRel E.G I K ρ h w){t:TypeId}{p ix v:AV}{c ci:Value}(hl:a10 E h t p ix=some v)(hp:VRel I w ρ p c)(hx:VRel I w ρ ix ci) :
 Val E I K ρ h n w (Instr.indexAt t c ci) v .none:=by
 unfold a10 at hl;split at hl
 ·rename_i len ac hu;cases hi:d0q ix len with
  |none=>simp[hi]at hl
  |some j=>
   simp only[hi]at hl;obtain⟨k,i,rfl,_,h0,h1,hj,aS⟩:=b7o hi hx;rw[cond_eq_ite]at hl;split at hl
   case isFalse=>cases hl
   rename_i he;obtain⟨de,bD⟩:=f4k.1 he;cases p with
   |ptr b i' o=>simp only[Option.some.injEq]at hl;subst hl;simp only[VRel]at hp;obtain⟨m,hm,rfl⟩:=hp;refine Val.here (c:=.pointer (some ⟨m.blk,m.off+i'*m.k+o+j*E.sz ac,none⟩)) r ?_ (by simp only[VRel];exact⟨m,hm,by rw[Nat.add_assoc _ o]⟩);simp[Instr.indexAt,asIntOf,a0d ok w hu,Instr.sureAddr,h0,h1,a3v ok w bD,hj,a5o]
   |iptr cs=>simp only[Option.some.injEq]at hl;subst hl;simp only[VRel]at hp;obtain⟨b,off,rfl,hI,bg⟩:=hp;refine Val.here (c:=.pointer (some ⟨b,off+j*E.sz ac,none⟩)) r ?_ (by simp only[VRel];exact⟨b,_,rfl,hI,VAt.drop' _ bg⟩);simp[Instr.indexAt,asIntOf,a0d ok w hu,Instr.sureAddr,h0,h1,a3v ok w bD,hj,a5o]
   |_=>simp at hl
 ·rename_i ac hu;rw[cond_eq_ite]at hl;split at hl
  case isFalse=>cases hl
  rename_i he;obtain⟨de,bD⟩:=f4k.1 he;cases p with
  |slice b off len cap=>
   simp only at hl;cases hi:d0q ix len with
   |none=>simp[hi]at hl
   |some j=>
    simp only[hi]at hl;obtain⟨k,i,rfl,_,h0,h1,hj,aS⟩:=b7o hi hx;cases hb:h b with
    |none=>simp[hb]at hl
    |some o=>
     cases o with
     |row kk aa=>
      simp only[hb]at hl;rw[cond_eq_ite]at hl;split at hl
      case isFalse=>cases hl
      rename_i hk;have hk:kk=E.sz ac:=by simpa using hk
      cases hl;obtain⟨m,hm,_,_,ho⟩:=r.live b _ hb;simp only[VRel]at hp;obtain⟨a,cc,rfl,bC,_,cw⟩:=hp;rcases cw with hz|⟨m',bA,rfl,_⟩
      ·omega
      obtain rfl:m=m':=z9o (hm.symm.trans bA);have m8:m.k=E.sz ac:=by rw[ho.1,hk]
      refine Val.here (c:=.pointer (some ⟨m.blk,m.off+off*m.k+j*m.k,none⟩)) r ?_ (by simp only[VRel];exact⟨m,hm,by rw[g0j];simp;omega⟩);simp[Instr.indexAt,asIntOf,a0d ok w hu,h0,h1,a3v ok w bD,hj,a5o,m8]
     |map ks vs bs cl=>simp[hb]at hl
     |siter s pos=>simp[hb]at hl
     |uset ks=>simp[hb]at hl
     |miter ks b9 bT=>simp[hb]at hl
     |yloop y Fy st=>simp[hb]at hl
  |islice aa cap=>
   simp only at hl;cases hi:d0q ix aa.length with
   |none=>simp[hi]at hl
   |some j=>
    simp only[hi]at hl;obtain⟨k,i,rfl,_,h0,h1,hj,aS⟩:=b7o hi hx;cases hr:aa[j]? with
    |none=>simp[hr]at hl
    |some rr=>
     simp only[hr]at hl;rw[cond_eq_ite]at hl;split at hl
     case isFalse=>cases hl
     rename_i hk;have hk:rr.length=E.sz ac:=by simpa using hk
     cases hl;simp only[VRel]at hp;obtain⟨a,cc,kk,rfl,bC,_,cw⟩:=hp;rcases cw with hz|⟨hs,hI,aA⟩
     ·subst hz;simp at aS
     obtain⟨ai,bg⟩:=VRows.get j aA hr;have ha:a=⟨a.block,a.off,none⟩:=by cases a;simp_all
     refine Val.here (c:=.pointer (some ⟨a.block,a.off+j*kk,none⟩)) r ?_ (by simp only[VRel];exact⟨_,_,rfl,hI,bg⟩);rw[ha];simp[Instr.indexAt,asIntOf,a0d ok w hu,h0,h1,a3v ok w bD,hj,a5o,←hk,ai]
  |_=>simp at hl
 ·cases hl
def d5q(E:Env)(t:TypeId)(x ix:AV):Option AV:=
 match E.und t,x with
 |some (.array len ac),.agg cs=>match d0q ix len with
  |some j=>bif (E.und ac).isSome then a39 E ac ((cs.drop (j*E.sz ac)).take (E.sz ac))else none
  |none=>none
 |some .string,.str s=>match d0q ix s.length with
  |some j=>match s[j]? with
   |some b=>some (.int .u8 b.toNat)
   |none=>none
  |none=>none
 |_,_=>none
theorem d54(t:ByteArray)(i:Nat):t[i]?=t.data.toList[i]?:=by
 simp only[g0k];by_cases hi:i<t.size
 ·have h2:i<t.data.size:=hi;rw[getElem?_pos t i hi,getElem?_pos t.data i h2];rfl
 ·have h2:¬i<t.data.size:=hi;rw[getElem?_neg t i hi,getElem?_neg t.data i h2]
theorem d5p(ok:EnvOk E)(r:HRel E.G I K ρ h w){t:TypeId}{x ix v:AV}{c ci:Value}(hl:d5q E t x ix=some v)(hp:VRel I w ρ x c)(hx:VRel I w ρ ix ci) :
 Val E I K ρ h n w (Instr.index t c ci) v .none:=by
 unfold d5q at hl;split at hl
 ·rename_i len ac cs hu;cases hi:d0q ix len with
  |none=>simp[hi]at hl
  |some j=>
   simp only[hi]at hl;obtain⟨k,i,rfl,_,h0,h1,hj,aS⟩:=b7o hi hx;rw[cond_eq_ite]at hl;split at hl
   case isFalse=>cases hl
   rename_i he;obtain⟨de,bD⟩:=f4k.1 he;simp only[VRel]at hp;obtain⟨cv,rfl,hc⟩:=hp;have ae:(Instr.index t (.agg cv) (.int k i)).run E.P w=(part ac cv (j*E.sz ac)).run E.P w:=by simp[Instr.index,asIntOf,a0d ok w hu,h0,h1,a3v ok w bD,hj]
   obtain⟨c,w',ρ',h1,h2⟩:=d2d ok (n:=n) r hl hc;exact⟨c,w',ρ',by rw[ae,h1],h2⟩
 ·rename_i s hu;cases hi:d0q ix s.length with
  |none=>simp[hi]at hl
  |some j=>
   simp only[hi]at hl;obtain⟨k,i,rfl,_,h0,h1,hj,aS⟩:=b7o hi hx;simp only[VRel]at hp;obtain⟨tb,rfl,hs⟩:=hp;cases hb:s[j]? with
   |none=>simp[hb]at hl
   |some b=>
    simp only[hb,Option.some.injEq]at hl;subst hl;have:tb[i.toNat]?=some b:=by rw[d54,hs,hj,hb]
    refine Val.here (c:=.int .u8 b.toNat) r ?_ (by simp[VRel]);simp[Instr.index,asIntOf,a0d ok w hu,h0,this]
 ·cases hl
/-! ### slicing -/
def a1k(x:Option AV)(y:Nat)(d:Nat):Option Nat:=
 match x with
 |none=>some d
 |some (.int _ i)=>bif decide (0≤i)&&decide (i≤(y:Int))then some i.toNat else none
 |some _=>none
def a48(I:Nat→Prop)(w:World)(ρ:PMap):Option AV→Option Value→Prop
 |none,c=>c=none
 |some v,c=>∃x,c=some x∧VRel I w ρ v x
theorem a62{x:Option AV}{c:Option Value}{y d j:Nat}(hb:a1k x y d=some j)(hx:a48 I w ρ x c)(y':Nat)(hy:y≤y')(code:BoundsCode) :
 (match c with|some v=>Instr.sliceBound v y' code|none=>pure d:Sem Nat).run E.P w = .ok j w∧(c.isSome=true→j≤y):=by
 unfold a1k at hb;split at hb
 ·simp only[a48]at hx;subst hx;cases hb;simp
 ·rename_i k i;simp only[a48,VRel]at hx;obtain⟨_,rfl,rfl⟩:=hx;rw[cond_eq_ite]at hb;split at hb
  ·rename_i hc;simp only[d14,f4p]at hc;cases hb;have:0≤i∧i≤(y':Int):=⟨hc.1,by omega⟩
   exact⟨by simp[Instr.sliceBound,asIntOf,this],λ_=>by omega⟩
  ·cases hb
 ·cases hb
end
end Go.Ax
/- AxSli: slices of slices and strings; composite values; rows that are c7h. -/
namespace Go.Ax
section
variable {E:Env}{I K:Nat→Prop}{ρ:PMap}{h:FHeap}{n:Nat}{w:World}
def a1s(len:Nat)(cap:Option Nat):Nat:=match cap with|some c=>c|none=>len
def a5n(E:Env)(h:FHeap)(t:TypeId)(x:AV)(lo hi mx:Option AV):Option AV:=
 match E.und t,x with
 |some .string,.str s=>
  match mx,a1k hi s.length s.length with
  |none,some j=>match a1k lo j 0 with
   |some l=>some (.str ((s.take j).drop l))
   |none=>none
  |_,_=>none
 |some (.slice ac),.slice b off len cap=>
  bif (E.und ac).isSome then
  match h b with
  |some (.row k _)=>bif k==E.sz ac then
   match mx with
   |none=>match a1k hi (a1s len cap) len with
    |some j=>match a1k lo j 0 with
     |some l=>some (.slice b (off+l) (j-l) (cap.map (·- l)))
     |none=>none
    |none=>none
   |some m=>match a1k (some m) (a1s len cap) 0 with
    |some mm=>match hi with
     |none=>none
     |some _=>match a1k hi mm 0 with
      |some j=>match a1k lo j 0 with
       |some l=>some (.slice b (off+l) (j-l) (some (mm-l)))
       |none=>none
      |none=>none
    |none=>none
   else none
  |_=>none
  else none
 |some (.slice ac),.islice aa cap=>
  bif (E.und ac).isSome&&aa.all (λr=>r.length==E.sz ac)then
   match mx with
   |none=>match a1k hi aa.length aa.length with
    |some j=>match a1k lo j 0 with
     |some l=>some (.islice ((aa.take j).drop l) (cap.map (·- l)))
     |none=>none
    |none=>none
   |some m=>match a1k (some m) aa.length 0 with
    |some mm=>match hi with
     |none=>none
     |some _=>match a1k hi mm 0 with
      |some j=>match a1k lo j 0 with
       |some l=>some (.islice ((aa.take j).drop l) (some (mm-l)))
       |none=>none
      |none=>none
    |none=>none
  else none
 |some (.slice ac),.nilslice=>
  bif (E.und ac).isSome then
  match mx with
  |none=>match a1k hi 0 0 with
   |some j=>match a1k lo j 0 with
    |some _=>some .nilslice
    |none=>none
   |none=>none
  |some m=>match a1k (some m) 0 0 with
   |some mm=>match hi with
    |none=>none
    |some _=>match a1k hi mm 0 with
     |some j=>match a1k lo j 0 with
      |some _=>some .nilslice
      |none=>none
     |none=>none
   |none=>none
  else none
 |_,_=>none
theorem c1s{lo hi:Option AV}{io iN:Option Value}{fP lT j l:Nat}(hj:a1k hi fP lT=some j)(hl:a1k lo j 0=some l)
 (rh:a48 I w ρ hi iN)(rl:a48 I w ρ lo io)(nN:Bool)(len cap:Nat)(ai:lT=len)(a8:fP≤cap)(kH:lT≤fP) :
 (Instr.sliceBounds nN len cap io iN none).run E.P w = .ok (l,j,cap) w∧l≤j∧j≤fP:=by
 subst ai;have ig:=a62 (E:=E) hl rl j (f6l _) .sliceB;have aS:l≤j:=by
  unfold a1k at hl;split at hl
  ·cases hl;omega
  ·rw[cond_eq_ite]at hl;split at hl
   ·rename_i hc;simp only[d14,f4p]at hc;cases hl;omega
   ·cases hl
  ·cases hl
 have uY:j≤fP:=by
  unfold a1k at hj;split at hj
  ·cases hj;omega
  ·rw[cond_eq_ite]at hj;split at hj
   ·rename_i hc;simp only[d14,f4p]at hc;cases hj;omega
   ·cases hj
  ·cases hj
 refine⟨?_,aS,uY⟩;unfold Instr.sliceBounds;cases nN
 ·have dQ:=a62 (E:=E) hj rh cap a8 .sliceAlen;cases iN<;>cases io<;>simp at dQ ig<;>simp[dQ,ig]
 ·have dQ:=a62 (E:=E) hj rh cap a8 .sliceAcap;cases iN<;>cases io<;>simp at dQ ig<;>simp[dQ,ig]
theorem c6i{lo hi:Option AV}{m:AV}{io iN:Option Value}{cm:Value}{fP mm j l:Nat}(hm:a1k (some m) fP 0=some mm)(hj:a1k hi mm 0=some j)(hl:a1k lo j 0=some l)
 (rm:VRel I w ρ m cm)(rh:a48 I w ρ hi iN)(jS:hi.isSome=true)(rl:a48 I w ρ lo io)(nN:Bool)(len cap:Nat)(a8:fP≤cap) :
 (Instr.sliceBounds nN len cap io iN (some cm)).run E.P w = .ok (l,j,mm) w∧l≤j∧j≤mm∧mm≤fP:=by
 have rB:∃ch,iN=some ch:=by
  cases hi with
  |none=>simp at jS
  |some x=>simp only[a48]at rh;obtain⟨y,h,_⟩:=rh;exact⟨y,h⟩
 obtain⟨ch,rfl⟩:=rB;have ig:=a62 (E:=E) hl rl j (f6l _) .slice3C;have dQ:=a62 (E:=E) hj rh mm (f6l _) .slice3B;have le:∀{x:Option AV} {y d z:Nat},a1k x y d=some z→d≤y→z≤y:=by
  intro x y d z hz hd;unfold a1k at hz;split at hz
  ·cases hz;omega
  ·rw[cond_eq_ite]at hz;split at hz
   ·rename_i hc;simp only[d14,f4p]at hc;cases hz;omega
   ·cases hz
  ·cases hz
 refine⟨?_,le hl (f4m _),le hj (f4m _),le hm (f4m _)⟩;unfold Instr.sliceBounds;cases nN
 ·have lz:=a62 (E:=E) (c:=some cm) hm (by simp only[a48];exact⟨cm,rfl,rm⟩) cap a8 .slice3Alen;cases io<;>simp at lz dQ ig<;>simp[lz,dQ,ig]
 ·have lz:=a62 (E:=E) (c:=some cm) hm (by simp only[a48];exact⟨cm,rfl,rm⟩) cap a8 .slice3Acap;cases io<;>simp at lz dQ ig<;>simp[lz,dQ,ig]
theorem a2k(ok:EnvOk E){t ac:TypeId}(hu:E.und t=some (.slice ac)){de:TypeDesc}(he:E.und ac=some de){a:Option Addr}{len cap l j m:Nat}{io iN pk:Option Value}
 (hb:(Instr.sliceBounds true len cap io iN pk).run E.P w = .ok (l,j,m) w) :
 (Instr.sliceAt t (.slice a len cap) io iN pk).run E.P w = .ok (.slice (if m=l then a else a.map (·.add (l*E.sz ac))) (j-l) (m-l)) w:=by
 simp[Instr.sliceAt,a0d ok w hu,Instr.slice,hb,a3v ok w he]
theorem a7z(s:ByteArray)(l j:Nat):(s.extract l j).data.toList=(s.data.toList.take j).drop l:=by rw[ByteArray.data_extract,Array.toList_extract,List.extract_eq_take_drop];rw[List.drop_take]
theorem b0n{b off len:Nat}{cap:Option Nat}{a:Addr}{c l j m:Nat}{k:Nat}{aa:List (List AV)}{j7:Option Nat}{sz:Nat}
 (r:HRel E.G I K ρ h w)(hb:h b=some (.row k aa))(hk:k=sz)(hp:VRel I w ρ (.slice b off len cap) (.slice (some a) len c))
 (uT:l≤j)(uX:j≤m)(wl:m≤c)(a8:∀n,j7=some n→m-l=n) :
 VRel I w ρ (.slice b (off+l) (j-l) j7) (.slice (if m=l then some a else(some a).map (·.add (l*sz))) (j-l) (m-l)):=by
 simp only[VRel]at hp⊢;obtain⟨a',c',he,bC,hc,cw⟩:=hp;cases he;by_cases cH:m=l
 ·rw[f6e cH];exact⟨a,m-l,by simp,by omega,a8,.inl (by omega)⟩
 ·rw[f4n cH];rcases cw with h0|⟨mm,fN,rfl,bm⟩
  ·omega
  ·obtain⟨m',bA,_,_,ho⟩:=r.live b _ hb;obtain rfl:mm=m':=z9o (fN.symm.trans bA);refine⟨_,m-l,rfl,by omega,a8,.inr ⟨mm,fN,?_,?_⟩⟩
   ·dsimp only;rw[a5o,ho.1,hk,g0j]
    congr 1;omega
   ·have:(off+l+(m-l))*mm.k≤(off+c)*mm.k:=g05 _ (by omega);omega
theorem a9j{aa:List (List AV)}{cap:Option Nat}{a:Addr}{c l j m sz:Nat}{j7:Option Nat}(bd:aa.all (λr=>r.length==sz)=true)
 (hp:VRel I w ρ (.islice aa cap) (.slice (some a) aa.length c))(uT:l≤j)(uX:j≤m)(tc:j≤aa.length)(_:m≤c)(a8:∀n,j7=some n→m-l=n) :
 VRel I w ρ (.islice ((aa.take j).drop l) j7) (.slice (if m=l then some a else(some a).map (·.add (l*sz))) (j-l) (m-l)):=by
 simp only[VRel]at hp⊢;obtain⟨a',c',k,he,bC,hc,cw⟩:=hp;cases he;have ai:((aa.take j).drop l).length=j-l:=by simp;omega
 by_cases cH:m=l
 ·rw[f6e cH];refine⟨a,m-l,k,by rw[ai],by rw[ai];omega,a8,.inl ?_⟩;apply g14;simp;omega
 ·rw[f4n cH];refine⟨_,m-l,k,by rw[ai];rfl,by rw[ai];omega,a8,?_⟩;rcases cw with h0|⟨hs,hI,aA⟩
  ·left;subst h0;simp
  ·by_cases hr:aa=[]
   ·left;subst hr;simp
   ·right;have kI:k=sz:=by
     cases aa with
     |nil=>exact absurd rfl hr
     |cons r rs=>simp only[VRows]at aA;simp only[List.all_cons,d14,g0i]at bd;omega
    have ha:a=⟨a.block,a.off,none⟩:=by cases a;simp_all
    rw[ha];dsimp only;rw[a5o];refine⟨rfl,hI,?_⟩;have h2:l≤(aa.take j).length:=by simp;omega
    have:=VRows.drop l h2 (VRows.take j aA);rw[kI]at this⊢;exact this
theorem d5a(ok:EnvOk E)(r:HRel E.G I K ρ h w){t:TypeId}{x v:AV}{lo hi mx:Option AV}{c:Value}{io iN pk:Option Value}(hl:a5n E h t x lo hi mx=some v)
 (hx:VRel I w ρ x c)(rl:a48 I w ρ lo io)(rh:a48 I w ρ hi iN)(rm:a48 I w ρ mx pk):Val E I K ρ h n w (Instr.sliceAt t c io iN pk) v .none:=by
 unfold a5n at hl;split at hl
 · -- strings
  rename_i s hu;split at hl
  ·rename_i j hj;simp only[a48]at rm;subst rm;cases aG:a1k lo j 0 with
   |none=>simp[aG]at hl
   |some l=>
    simp only[aG,Option.some.injEq]at hl;subst hl;simp only[VRel]at hx;obtain⟨tb,rfl,hs⟩:=hx;have bU:tb.size=s.length:=by rw[←hs,f8d];rfl
    obtain⟨hb,h1,h2⟩:=c1s (E:=E) hj aG rh rl false tb.size tb.size bU.symm (by omega) (f6l _);refine Val.here (c:=.string (tb.extract l j)) r ?_ (by simp only[VRel];exact⟨_,rfl,by rw[a7z,hs]⟩);simp[Instr.sliceAt,a0d ok w hu,Instr.slice,hb]
  ·cases hl
 · -- a mutable block
  rename_i ac b off len cap hu;rw[cond_eq_ite]at hl;split at hl
  case isFalse=>cases hl
  rename_i he;obtain⟨de,bD⟩:=f4k.1 he;split at hl
  case h_2=>cases hl
  rename_i k aa hb;rw[cond_eq_ite]at hl;split at hl
  case isFalse=>cases hl
  rename_i hk;have hk:k=E.sz ac:=by simpa using hk
  have gW:=hx;simp only[VRel]at gW;obtain⟨a,cc,rfl,bC,a8,cw⟩:=gW;have lN:a1s len cap≤cc:=by unfold a1s;cases cap with|none=>exact bC|some c=>rw[a8 c rfl];exact f6l _
  have oE:len≤a1s len cap:=by unfold a1s;cases cap with|none=>exact f6l _|some c=>rw[←a8 c rfl];exact bC
  cases mx with
  |none=>
   simp only[a48]at rm;subst rm;simp only at hl;cases hj:a1k hi (a1s len cap) len with
   |none=>simp[hj]at hl
   |some j=>
    simp only[hj]at hl;cases aG:a1k lo j 0 with
    |none=>simp[aG]at hl
    |some l=>
     simp only[aG,Option.some.injEq]at hl;subst hl;obtain⟨iJ,h1,h2⟩:=c1s (E:=E) hj aG rh rl true len cc rfl lN oE;refine Val.here r (a2k ok hu bD iJ) (b0n r hb hk hx h1 (by omega) (f6l _) ?_);intro q hq;cases cap with
     |none=>simp at hq
     |some c=>simp at hq;rw[a8 c rfl];exact hq
  |some m=>
   simp only[a48]at rm;obtain⟨cm,rfl,rm⟩:=rm;simp only at hl;cases fN:a1k (some m) (a1s len cap) 0 with
   |none=>simp[fN]at hl
   |some mm=>
    simp only[fN]at hl;cases hi with
    |none=>simp at hl
    |some hi=>
     simp only at hl;cases hj:a1k (some hi) mm 0 with
     |none=>simp[hj]at hl
     |some j=>
      simp only[hj]at hl;cases aG:a1k lo j 0 with
      |none=>simp[aG]at hl
      |some l=>simp only[aG,Option.some.injEq]at hl;subst hl;obtain⟨iJ,h1,h2,h3⟩:=c6i (E:=E) fN hj aG rm rh rfl rl true len cc lN;exact Val.here r (a2k ok hu bD iJ) (b0n r hb hk hx h1 h2 (by omega) (λq hq=>by cases hq;rfl))
 · -- immutable memory
  rename_i ac aa cap hu;rw[cond_eq_ite]at hl;split at hl
  case isFalse=>cases hl
  rename_i he;simp only[d14]at he;obtain⟨de,bD⟩:=f4k.1 he.1;have gW:=hx;simp only[VRel]at gW;obtain⟨a,cc,kk,rfl,bC,a8,cw⟩:=gW;cases mx with
  |none=>
   simp only[a48]at rm;subst rm;simp only at hl;cases hj:a1k hi aa.length aa.length with
   |none=>simp[hj]at hl
   |some j=>
    simp only[hj]at hl;cases aG:a1k lo j 0 with
    |none=>simp[aG]at hl
    |some l=>
     simp only[aG,Option.some.injEq]at hl;subst hl;obtain⟨iJ,h1,h2⟩:=c1s (E:=E) hj aG rh rl true aa.length cc rfl bC (f6l _);refine Val.here r (a2k ok hu bD iJ) (a9j he.2 hx h1 (by omega) h2 (f6l _) ?_);intro q hq;cases cap with
     |none=>simp at hq
     |some c=>simp at hq;rw[a8 c rfl];exact hq
  |some m=>
   simp only[a48]at rm;obtain⟨cm,rfl,rm⟩:=rm;simp only at hl;cases fN:a1k (some m) aa.length 0 with
   |none=>simp[fN]at hl
   |some mm=>
    simp only[fN]at hl;cases hi with
    |none=>simp at hl
    |some hi=>
     simp only at hl;cases hj:a1k (some hi) mm 0 with
     |none=>simp[hj]at hl
     |some j=>
      simp only[hj]at hl;cases aG:a1k lo j 0 with
      |none=>simp[aG]at hl
      |some l=>simp only[aG,Option.some.injEq]at hl;subst hl;obtain⟨iJ,h1,h2,h3⟩:=c6i (E:=E) fN hj aG rm rh rfl rl true aa.length cc bC;exact Val.here r (a2k ok hu bD iJ) (a9j he.2 hx h1 h2 (by omega) (by omega) (λq hq=>by cases hq;rfl))
 · -- nil
  rename_i ac hu;rw[cond_eq_ite]at hl;split at hl
  case isFalse=>cases hl
  rename_i he;obtain⟨de,bD⟩:=f4k.1 he;simp only[VRel]at hx;subst hx;cases mx with
  |none=>
   simp only[a48]at rm;subst rm;simp only at hl;cases hj:a1k hi 0 0 with
   |none=>simp[hj]at hl
   |some j=>
    simp only[hj]at hl;cases aG:a1k lo j 0 with
    |none=>simp[aG]at hl
    |some l=>
     simp only[aG,Option.some.injEq]at hl;subst hl;obtain⟨iJ,h1,h2⟩:=c1s (E:=E) hj aG rh rl true 0 0 rfl (f6l _) (f6l _);obtain rfl:j=0:=by omega
     obtain rfl:l=0:=by omega
     exact Val.here (c:=.slice none 0 0) r (by rw[a2k ok hu bD iJ];rfl) (by simp[VRel])
  |some m=>
   simp only[a48]at rm;obtain⟨cm,rfl,rm⟩:=rm;simp only at hl;cases fN:a1k (some m) 0 0 with
   |none=>simp[fN]at hl
   |some mm=>
    simp only[fN]at hl;cases hi with
    |none=>simp at hl
    |some hi=>
     simp only at hl;cases hj:a1k (some hi) mm 0 with
     |none=>simp[hj]at hl
     |some j=>
      simp only[hj]at hl;cases aG:a1k lo j 0 with
      |none=>simp[aG]at hl
      |some l=>
       simp only[aG,Option.some.injEq]at hl;subst hl;obtain⟨iJ,h1,h2,h3⟩:=c6i (E:=E) fN hj aG rm rh rfl rl true 0 0 (f6l _);obtain rfl:mm=0:=by omega
       obtain rfl:j=0:=by omega
       obtain rfl:l=0:=by omega
       exact Val.here (c:=.slice none 0 0) r (by rw[a2k ok hu bD iJ];rfl) (by simp[VRel])
 ·cases hl
end
end Go.Ax
/- AxMake: composite values, slice literals, make. -/
namespace Go.Ax
section
variable {E:Env}{I K:Nat→Prop}{ρ:PMap}{h:FHeap}{n:Nat}{w:World}
def AV.isJunk:AV→Bool
 |.junk=>true
 |_=>false
theorem AV.not_junk{v:AV}(h:v.isJunk=false):v≠ .junk:=by rintro rfl;simp[AV.isJunk]at h
def b3v(fh:Nat→Option (Nat×Nat))(cells:List AV):List (Nat×AV)→Option (List AV)
 | []=>some cells
 |(i,v)::af=>match fh i with
  |none=>none
  |some (off,size)=>bif !v.isJunk&&v.cells.length==size&&Nat.ble (off+size) cells.length then b3v fh (splice cells off v.cells) af else none
def a6s(I:Nat→Prop)(w:World)(ρ:PMap):List (Nat×AV)→List (Nat×Value)→Prop
 | [],l=>l=[]
 |(i,v)::r,l=>∃c r',l=(i,c)::r'∧VRel I w ρ v c∧a6s I w ρ r r'
def e9p(a:List Value)(off:Nat)(cs:List Value):List Value:=a.take off++cs++a.drop (off+cs.length)
theorem c3x(off:Nat):∀(cs:List Value) (j:Nat) (a:Array Value),off+j+cs.length≤a.size→
 (((cs.zipIdx j).foldl (λ(a:Array Value) (x:Value×Nat)=>a.setIfInBounds (off+x.2) x.1) a).toList=e9p a.toList (off+j) cs)
 | [],j,a,_=>by simp[e9p]
 |c::cs,j,a,hl=>by
  simp only[e12]at hl;simp only[List.zipIdx_cons,List.foldl_cons];rw[c3x off cs (j+1) _ (by simp;omega)];unfold e9p;simp only[Array.toList_setIfInBounds,e12];rw[show off+(j+1)=(off+j)+1 by omega,show(off+j)+(cs.length+1)=(off+j)+1+cs.length by omega];have ah:off+j<a.toList.length:=by simp;omega
  rw[List.take_succ_eq_append_getElem (by simpa using ah),List.take_set_of_le (f6l _),List.drop_set_of_lt (by omega)];simp
theorem VRels.splice{vs cs:List AV}{xs ys:List Value}{off:Nat}(h:VRels I w ρ vs xs)(k:VRels I w ρ cs ys):VRels I w ρ (Ax.splice vs off cs) (e9p xs off ys):=by unfold Ax.splice e9p;rw[VRels.length k];exact VRels.append (VRels.append (VRels.take off h) k) (VRels.drop _ h)
theorem b55{fh:Nat→Option (Nat×Nat)}:∀{aq:List (Nat×AV)} {cells jq:List AV} {cv:Array Value} {cB:List (Nat×Value)},
 b3v fh cells aq=some jq→VRels I w ρ cells cv.toList→a6s I w ρ aq cB→∃iM,Instr.fill fh cv cB=some iM∧VRels I w ρ jq iM.toList
 | [],cells,jq,cv,cB,hf,hc,hp=>by simp only[a6s]at hp;subst hp;simp only[b3v,Option.some.injEq]at hf;subst hf;exact⟨cv,rfl,hc⟩
 |(i,v)::af,cells,jq,cv,cB,hf,hc,hp=>by
  simp only[a6s]at hp;obtain⟨c,r',rfl,hv,hp⟩:=hp;simp only[b3v]at hf;cases bV:fh i with
  |none=>simp[bV]at hf
  |some os=>
   obtain⟨off,size⟩:=os;simp only[bV]at hf;rw[cond_eq_ite]at hf;split at hf
   case isFalse=>cases hf
   rename_i gA;simp only[d14,f9y,g0i,g0h]at gA;obtain⟨⟨hj,bU⟩,bY⟩:=gA;have eJ:=VRel.cells hv (AV.not_junk hj);have lC:=VRels.length eJ;have mp:=VRels.length hc;simp only[f8d]at lC mp;have ol:=c3x off c.cells.toList 0 cv (by simp;omega);simp only[g1w]at ol;have bf:VRels I w ρ (splice cells off v.cells) ((c.cells.zipIdx.foldl (λcs (x:Value×Nat)=>cs.setIfInBounds (off+x.2) x.1) cv).toList):=by
    have e:(c.cells.zipIdx.foldl (λcs (x:Value×Nat)=>cs.setIfInBounds (off+x.2) x.1) cv) =
     (c.cells.toList.zipIdx.foldl (λcs (x:Value×Nat)=>cs.setIfInBounds (off+x.2) x.1) cv):=by
     rw[←Array.foldl_toList,Array.toList_zipIdx]
    rw[e,ol];exact VRels.splice hc eJ
   obtain⟨iM,h1,h2⟩:=b55 hf bf hp;refine⟨iM,?_,h2⟩;simp only[Instr.fill,bV];have:¬((c.cells.size≠size||decide (off+c.cells.size>cv.size))=true):=by simp only[ne_eq,g0t,f4p,not_or];omega
   rw[f4n (by simpa using this)];exact h1
def b9v(E:Env)(t:TypeId)(aq:List (Nat×AV)):Option AV:=
 match E.zero t with
 |none=>none
 |some z=>match E.und t with
  |some (.struct fs)=>bif fs.toList.all (λf=>(E.und f.type).isSome)then
   match b3v (λi=>(fs[i]?).map λf=>(f.offset,E.sz f.type)) z aq with
   |some cs=>some (.agg cs)
   |none=>none
   else none
  |some (.array _ ac)=>bif (E.und ac).isSome then
   match b3v (λi=>some (i*E.sz ac,E.sz ac)) z aq with
   |some cs=>some (.agg cs)
   |none=>none
   else none
  |_=>none
theorem b8e(ok:EnvOk E):∀(fs:List Field) (w:World),fs.all (λf=>(E.und f.type).isSome)=true→
 (fs.mapM (λf=>do pure (f.offset,←sizeOf f.type):Field→Sem (Nat×Nat))).run E.P w = .ok (fs.map λ(f:Field)=>(f.offset,E.sz f.type)) w
 | [],w,_=>by simp
 |f::fs,w,hf=>by simp only[List.all_cons,d14]at hf;obtain⟨d,hd⟩:=f4k.1 hf.1;have ih:=b8e ok fs w hf.2;simp only[List.mapM_cons,Sem.run_bind,a3v ok w hd,Result.andThen_ok,Sem.run_pure,ih,c10]
theorem d5x(ok:EnvOk E)(r:HRel E.G I K ρ h w){t:TypeId}{aq:List (Nat×AV)}{cB:List (Nat×Value)}{v:AV}(hl:b9v E t aq=some v)(hp:a6s I w ρ aq cB) :
 Val E I K ρ h n w (Instr.build t cB.toArray) v .none:=by
 unfold b9v at hl;cases hz:E.zero t with
 |none=>simp[hz]at hl
 |some z=>
  simp only[hz]at hl;obtain⟨zv,eZ,_,bP⟩:=a8l ok w hz;have bS:VRels I w ρ z zv.cells.toList:=VRels.noRef_any (bP I w);split at hl
  ·rename_i fs hu;rw[cond_eq_ite]at hl;split at hl
   case isFalse=>cases hl
   rename_i bd;split at hl
   case h_2=>cases hl
   rename_i cs hf;cases hl;obtain⟨iM,h1,h2⟩:=b55 hf bS hp;refine Val.here (c:=.agg iM) r ?_ (by simp only[VRel];exact⟨iM,rfl,h2⟩);have bV:=b8e ok fs.toList w bd;have hm:(fs.mapM (λf=>do pure (f.offset,←sizeOf f.type):Field→Sem (Nat×Nat))).run E.P w = .ok (fs.map λ(f:Field)=>(f.offset,E.sz f.type)) w:=by
    rw[Array.mapM_eq_mapM_toList,Sem.run_map,bV];simp only[Result.andThen_ok]
    congr 1
    apply g15;simp
   have fJ:(λ(i:Nat)=>(fs.map λ(f:Field)=>(f.offset,E.sz f.type))[i]?)=(λ(i:Nat)=>(fs[i]?).map λ(f:Field)=>(f.offset,E.sz f.type)):=by funext i;simp
   simp only[Instr.build,Sem.run_bind,eZ,Result.andThen_ok,a0d ok w hu,hm,fJ,h1,Sem.run_pure]
  ·rename_i m ac hu;rw[cond_eq_ite]at hl;split at hl
   case isFalse=>cases hl
   rename_i he;obtain⟨de,bD⟩:=f4k.1 he;split at hl
   case h_2=>cases hl
   rename_i cs hf;cases hl;obtain⟨iM,h1,h2⟩:=b55 hf bS hp;refine Val.here (c:=.agg iM) r ?_ (by simp only[VRel];exact⟨iM,rfl,h2⟩);simp only[Instr.build,Sem.run_bind,eZ,Result.andThen_ok,a0d ok w hu,a3v ok w bD,h1,Sem.run_pure]
  ·cases hl
/-! ### rows of equal elements -/
theorem a4c{α:Type}[Inhabited α](zs:List α):∀c:Nat,((List.range (c*zs.length)).map λi=>zs[i%zs.length]!)=(List.replicate c zs).flatten
 |0=>by simp
 |c+1=>by
  rw[g2h,List.range_add,f6c,a4c zs c,List.replicate_succ',List.flatten_append]
  congr 1
  simp only[g1o,g00,List.flatten_nil,f4g];apply List.ext_getElem
  ·simp
  ·intro i h1 h2;simp only[List.getElem_map,List.getElem_range,Function.comp];rw[Nat.add_comm,Nat.add_mul_mod_self_right,Nat.mod_eq_of_lt h2];simp[h2]
theorem VRels.flatten_replicate{z:List AV}{zs:List Value}(hz:VRels I w ρ z zs):∀c,VRels I w ρ (List.replicate c z).flatten (List.replicate c zs).flatten
 |0=>by simp[VRels]
 |c+1=>by simp only[g0l,g00];exact VRels.append hz (VRels.flatten_replicate hz c)
def a51(E:Env)(n:Nat)(t:TypeId)(len cap:AV):Option (AV×Eff):=
 match E.und t,len,cap with
 |some (.slice ac),.int _ l,.int _ c=>
  match E.zero ac with
  |some z=>bif decide (0≤l)&&decide (l≤c)&&decide (c≤281474976710656)&&decide ((E.bytes ac:Int)*c≤281474976710656)&&Nat.blt 0 z.length then
   some (.slice n 0 l.toNat (some c.toNat),.new (.row z.length (List.replicate c.toNat z)))else none
  |none=>none
 |_,_,_=>none
theorem b2s{x:Int}(h0:0≤x)(h1:x≤281474976710656):IntKind.i64.wrap x=x:=by simp[IntKind.wrap,IntKind.signed,IntKind.bits];omega
theorem c1u(ok:EnvOk E)(r:HRel E.G I K ρ h w)(hn:h n=none)(hρ:ρ n=none){t:TypeId}{len cap v:AV}{e:Eff}{cl cc:Value}(ha:a51 E n t len cap=some (v,e))
 (ai:VRel I w ρ len cl)(a8:VRel I w ρ cap cc):Val E I K ρ h n w (Instr.makeSlice t cl cc) v e:=by
 unfold a51 at ha;split at ha
 ·rename_i ac k1 l k2 c hu;cases hz:E.zero ac with
  |none=>simp[hz]at ha
  |some z=>
   simp only[hz]at ha;rw[cond_eq_ite]at ha;split at ha
   case isFalse=>cases ha
   rename_i hc;simp only[d14,f4p,f8f]at hc;obtain⟨⟨⟨⟨h0,h1⟩,h2⟩,h3⟩,h4⟩:=hc;cases ha;simp only[VRel]at ai a8;subst ai a8;obtain⟨⟨de,bD⟩,_⟩:=ok.zero ac z hz;obtain⟨zv,eZ,ge,bP⟩:=a8l ok w hz;have eF:=bP I w;have ep:=VRels.length eF;obtain⟨i,hi,q8,pJ⟩:=b4s ok w bD;have uw:IntKind.i64.wrap c=c:=b2s (by omega) h2;have ld:IntKind.i64.wrap l=l:=b2s h0 (by omega);have nk:(i.bytes:Int)*c≤281474976710656:=by rw[pJ];exact h3
   have dZ:(i.bytes:Int)*l≤281474976710656:=Int.le_trans (Int.mul_le_mul_of_nonneg_left h1 (by omega)) nk;have gh:∀w',(zeroValue ac).run E.P w' = .ok zv w':=by intro w';obtain⟨_,i',z',i5,e5,_⟩:=ok.zero ac z hz;have:=eZ;simp[zeroValue,typeInfo,i5,e5]at this⊢;exact this
   refine b1s (el:=ac) (k:=z.length) (aa:=List.replicate c.toNat z) (cells:=(Array.range (c.toNat*E.sz ac)).map (λi=>zv.cells[i%zv.cells.size]!))
    (mk:=λa=>.slice (some a) l.toNat c.toNat) r hn hρ h4 (by intro x hx;rw[f9u hx]) ?_ ⟨rfl,rfl,rfl,rfl⟩ ?_ ?_
   ·rw[show((Array.range (c.toNat*E.sz ac)).map (λi=>zv.cells[i%zv.cells.size]!)).toList=(List.replicate c.toNat zv.cells.toList).flatten by
     rw[←a4c];simp only[g0n,Array.toList_range,f8d];rw[show E.sz ac=zv.cells.size by rw[←ge,ep];simp];apply f8e;intro a _;rw[Array.getElem!_toList]]
    exact VRels.flatten_replicate (VRels.noRef_any eF) _
   ·have oz:¬(c<0∨281474976710656<(i.bytes:Int)*c):=by omega
    have e1:(decide (c<0)||decide ((i.bytes:Int)*c>2^48)||decide (l<0)||decide (l>c))=false:=by simp only[Bool.or_eq_false_iff,g11];omega
    simp only[Instr.makeSlice,Sem.run_bind,a0d ok w hu,Result.andThen_ok,asInt,asIntOf,Sem.run_pure,hi,uw,ld];simp only[e1,f9h,g0z];by_cases dc:c.toNat*E.sz ac=0
    ·have:c.toNat=0:=by
      rcases Nat.mul_eq_zero.1 dc with h|h
      ·exact h
      ·omega
     have eA:∀f:Nat→Value,Array.map f (Array.range 0) = #[]:=by intro f;simp
     simp[a3v ok w bD,this,a4x];rw[eA,eA]
    ·simp[a3v ok w bD,dc,gh,a4x]
   ·intro w' ρ' h';simp only[VRel];exact⟨_,c.toNat,rfl,by omega,λq hq=>by cases hq;rfl,.inr ⟨_,h',by simp,by simp[ge]⟩⟩
 ·cases ha
def b7m(k:Nat)(aa:List (List AV)):List (Nat×AV)→Option (List (List AV))
 | []=>some aa
 |(i,v)::af=>bif !v.isJunk&&v.cells.length==k&&Nat.blt i aa.length then b7m k (aa.set i v.cells) af else none
theorem b6u{k:Nat}:∀(aa:List (List AV)) (i:Nat) (cs:List AV),(∀r∈aa,r.length=k)→cs.length=k→i<aa.length→(aa.set i cs).flatten=splice aa.flatten (i*k) cs
 | [],i,cs,_,_,hi=>by simp at hi
 |r::aa,0,cs,hr,hc,_=>by
  have:r.length=cs.length:=by rw[hr r (by simp),hc]
  simp[splice,←this]
 |r::aa,i+1,cs,hr,hc,hi=>by have hk:r.length=k:=hr r (by simp);have ih:=b6u aa i cs (λr jG=>hr r (by simp[jG])) hc (by simpa using hi);simp only[List.set_cons_succ,g00,ih];unfold splice;rw[g2h,List.take_append,List.drop_append];have e1:r.take (i*k+k)=r:=f4l (by omega);have e2:r.drop (i*k+k+cs.length)=[]:=g14 (by omega);rw[e1,e2];rw[show i*k+k-r.length=i*k by omega,show i*k+k+cs.length-r.length=i*k+cs.length by omega];simp
theorem b9s{k:Nat}(len:Nat):∀{aq:List (Nat×AV)} {aa jq:List (List AV)},b7m k aa aq=some jq→(∀r∈aa,r.length=k)→aa.length=len→
 b3v (λi=>some (i*k,k)) aa.flatten aq=some jq.flatten∧(∀r∈jq,r.length=k)∧jq.length=len
 | [],aa,jq,hf,hr,ai=>by simp only[b7m,Option.some.injEq]at hf;subst hf;exact⟨rfl,hr,ai⟩
 |(i,v)::af,aa,jq,hf,hr,ai=>by
  simp only[b7m]at hf;rw[cond_eq_ite]at hf;split at hf
  case isFalse=>cases hf
  rename_i hc;simp only[d14,f9y,g0i,f8f]at hc;obtain⟨⟨hj,hk⟩,hi⟩:=hc;have ih:=b9s len hf (by
   intro r jG;rcases g0u jG with h|h
   ·exact hr r h
   ·rw[h,hk]) (by simpa using ai)
  refine⟨?_,ih.2⟩;simp only[b3v];have aY:=a0z hr;have bY:Nat.ble (i*k+k) aa.flatten.length=true:=by rw[g0h,aY,←g2h];exact g05 k hi
  simp only[hj,hk,bY,Bool.not_false,beq_self_eq_true,f9v,f6g];rw[←b6u aa i v.cells hr hk hi];exact ih.1
def a47(E:Env)(n:Nat)(t:TypeId)(len:Nat)(aq:List (Nat×AV)):Option (AV×Eff):=
 match E.und t with
 |some (.slice ac)=>match E.zero ac with
  |some z=>bif Nat.blt 0 z.length&&Nat.ble (len*z.length) 16777216 then
   match b7m z.length (List.replicate len z) aq with
   |some aa=>some (.slice n 0 len (some len),.new (.row z.length aa))
   |none=>none
   else none
  |none=>none
 |_=>none
theorem b86(ok:EnvOk E)(r:HRel E.G I K ρ h w)(hn:h n=none)(hρ:ρ n=none){t:TypeId}{len:Nat}{aq:List (Nat×AV)}{cB:List (Nat×Value)}{v:AV}{e:Eff}
 (ha:a47 E n t len aq=some (v,e))(hp:a6s I w ρ aq cB):Val E I K ρ h n w (Instr.buildSlice t len cB.toArray) v e:=by
 unfold a47 at ha;split at ha
 ·rename_i ac hu;cases hz:E.zero ac with
  |none=>simp[hz]at ha
  |some z=>
   simp only[hz]at ha;rw[cond_eq_ite]at ha;split at ha
   case isFalse=>cases ha
   rename_i hc;simp only[d14,f8f,g0h]at hc;split at ha
   case h_2=>cases ha
   rename_i aa aA;cases ha;obtain⟨⟨de,bD⟩,_⟩:=ok.zero ac z hz;obtain⟨zv,eZ,ge,bP⟩:=a8l ok w hz;have eF:=bP I w;have ep:=VRels.length eF;simp only[f8d]at ep;obtain⟨oO,lA,ai⟩:=b9s len aA (by intro x hx;rw[f9u hx]) (by simp);have mJ:VRels I w ρ (List.replicate len z).flatten ((Array.range (len*E.sz ac)).map (λi=>zv.cells[i%zv.cells.size]!)).toList:=by rw[show((Array.range (len*E.sz ac)).map (λi=>zv.cells[i%zv.cells.size]!)).toList=(List.replicate len zv.cells.toList).flatten by rw[←a4c];simp only[g0n,Array.toList_range,f8d];rw[show E.sz ac=zv.cells.size by rw[←ge,ep]];apply f8e;intro a _;rw[Array.getElem!_toList]];exact VRels.flatten_replicate (VRels.noRef_any eF) _
   obtain⟨iM,h1,h2⟩:=b55 oO mJ hp;refine b1s (el:=ac) (k:=z.length) (cells:=iM) (mk:=λa=>.slice (some a) len len) r hn hρ hc.1 lA h2 ⟨rfl,rfl,rfl,rfl⟩ ?_ ?_
   ·have bC:¬(len*E.sz ac>2^24):=by rw[←ge];omega
    rw[ge]at h1;simp only[Instr.buildSlice,Sem.run_bind,a0d ok w hu,Result.andThen_ok,a3v ok w bD,bC,g0z];by_cases dc:len*E.sz ac=0
    ·have eA:∀f:Nat→Value,Array.map f (Array.range 0) = #[]:=by intro f;simp
     simp only[dc,f9q,eA]at h1⊢;simp[h1,a4x]
    ·simp only[dc,g0z,Sem.run_bind,eZ,Result.andThen_ok,Sem.run_pure];simp[h1,a4x]
   ·intro w' ρ' h';simp only[VRel];exact⟨_,len,rfl,f6l _,λq hq=>by cases hq;rfl,.inr ⟨_,h',by simp,by
     have h3:len*z.length=iM.size:=by have:=VRels.length h2;rw[a0z lA,ai,f8d]at this;exact this
     show 0+(0+len)*z.length≤iM.size;rw[f8j,f8j,h3];exact f6l _⟩⟩
 ·cases ha
end
end Go.Ax
/- AxBin: arithmetic, comparisons, equality, conversions. -/
namespace Go.Ax
section
variable {E:Env}{I K:Nat→Prop}{ρ:PMap}{h:FHeap}{n:Nat}{w:World}
def c26(op:BinOp)(k:IntKind)(a b:Int):Option AV:=
 match op with
 |.add=>some (.int k (k.wrap (a+b)))
 |.sub=>some (.int k (k.wrap (a-b)))
 |.mul=>some (.int k (k.wrap (a*b)))
 |.quo=>bif b==0 then none else some (.int k (k.wrap (a.tdiv b)))
 |.rem=>bif b==0 then none else some (.int k (a.tmod b))
 |.and=>some (.int k (k.wrap (BitVec.ofInt k.bits a&&&BitVec.ofInt k.bits b).toNat))
 |.or=>some (.int k (k.wrap (BitVec.ofInt k.bits a|||BitVec.ofInt k.bits b).toNat))
 |.xor=>some (.int k (k.wrap (BitVec.ofInt k.bits a^^^BitVec.ofInt k.bits b).toNat))
 |.andNot=>some (.int k (k.wrap (BitVec.ofInt k.bits a &&& ~~~ BitVec.ofInt k.bits b).toNat))
 |.eql=>some (.bool (a==b))
 |.neq=>some (.bool (a != b))
 |.lss=>some (.bool (decide (a<b)))
 |.leq=>some (.bool (decide (a≤b)))
 |.gtr=>some (.bool (decide (b<a)))
 |.geq=>some (.bool (decide (b≤a)))
 |_=>none
def f7c(op:BinOp)(a b:List UInt8):Option AV:=
 match op with
 |.add=>bif decide (a.length+b.length≤4611686018427387904)then some (.str (a++b))else none
 |.eql=>some (.bool (a==b))
 |.neq=>some (.bool (!(a==b)))
 |.lss=>some (.bool (Op.bytesLess a b))
 |.leq=>some (.bool (Op.bytesLess a b||a==b))
 |.gtr=>some (.bool (!(Op.bytesLess a b||a==b)))
 |.geq=>some (.bool (!(Op.bytesLess a b)))
 |_=>none
def b08(E:Env)(eq:TypeId→AV→AV→Option Bool):List Field→List AV→List AV→Option Bool
 | [],_,_=>some true
 |f::fs,xs,ys=>
  match a39 E f.type ((xs.drop f.offset).take (E.sz f.type)),a39 E f.type ((ys.drop f.offset).take (E.sz f.type))with
  |some a,some b=>match eq f.type a b,b08 E eq fs xs ys with
   |some p,some q=>some (p&&q)
   |_,_=>none
  |_,_=>none
def b2m(E:Env)(eq:TypeId→AV→AV→Option Bool)(ac:TypeId)(xs ys:List AV):Nat→Nat→Option Bool
 |_,0=>some true
 |i,m+1=>
  match a39 E ac ((xs.drop (i*E.sz ac)).take (E.sz ac)),a39 E ac ((ys.drop (i*E.sz ac)).take (E.sz ac))with
  |some a,some b=>match eq ac a b,b2m E eq ac xs ys (i+1) m with
   |some p,some q=>some (p&&q)
   |_,_=>none
  |_,_=>none
def a8h:TypeDesc→AV→Option Bool
 |.pointer _,.nilptr=>some true
 |.pointer _,.ptr ..=>some false
 |.pointer _,.iptr ..=>some false
 |.slice _,.nilslice=>some true
 |.slice _,.slice ..=>some false
 |.slice _,.islice ..=>some false
 |.map _ _,.nilmap=>some true
 |.map _ _,.map ..=>some false
 |.map _ _,.imap ..=>some false
 |.map _ _,.iset ..=>some false
 |.func _ _ _,.nilfunc=>some true
 |.func _ _ _,.func ..=>some false
 |_,_=>none
def a3a:TypeDesc→AV→Bool
 |.pointer _,.nilptr=>true
 |.slice _,.nilslice=>true
 |.map _ _,.nilmap=>true
 |.func _ _ _,.nilfunc=>true
 |_,_=>false
def b7y:TypeDesc→Value
 |.pointer _=>.pointer none
 |.slice _=>.slice none 0 0
 |.map _ _=>.map none
 |_=>.nilFunc
def aeq(E:Env):Nat→TypeId→AV→AV→Option Bool
 |0,_,_,_=>none
 |d+1,t,x,y=>
  match E.und t,x,y with
  |some .bool,.bool a,.bool b=>some (a==b)
  |some (.int _),.int k a,.int k' b=>bif k==k' then some (a==b)else none
  |some .string,.str a,.str b=>some (a==b)
  |some (.struct fs),.agg xs,.agg ys=>bif E.eqok t then b08 E (aeq E d) fs.toList xs ys else none
  |some (.array len ac),.agg xs,.agg ys=>bif (E.und ac).isSome then b2m E (aeq E d) ac xs ys 0 len else none
  |some d,.nilptr,y=>bif a3a d .nilptr then a8h d y else none
  |some d,x,.nilptr=>bif a3a d .nilptr then a8h d x else none
  |some d,.nilslice,y=>bif a3a d .nilslice then a8h d y else none
  |some d,x,.nilslice=>bif a3a d .nilslice then a8h d x else none
  |some d,.nilmap,y=>bif a3a d .nilmap then a8h d y else none
  |some d,x,.nilmap=>bif a3a d .nilmap then a8h d x else none
  |some d,.nilfunc,y=>bif a3a d .nilfunc then a8h d y else none
  |some d,x,.nilfunc=>bif a3a d .nilfunc then a8h d x else none
  |some (.interface _),.nilifc,.iface _ _=>some false
  |some (.interface _),.iface _ _,.nilifc=>some false
  |some (.interface _),.iface t1 a,.iface t2 b=>bif t1==t2 then bif E.eqok t1 then aeq E d t1 a b else none else some false
  |_,_,_=>none
theorem b8f(ok:EnvOk E){eq:TypeId→Value→Value→Sem Bool}{iq:TypeId→AV→AV→Option Bool}
 (dy:∀t a b ca cb p,iq t a b=some p→VRel I w ρ a ca→VRel I w ρ b cb→(eq t ca cb).run E.P w = .ok p w)
 {xs ys:List AV}{cx cy:Array Value}(hx:VRels I w ρ xs cx.toList)(hy:VRels I w ρ ys cy.toList) :
 ∀(fs:List Field) (q:Bool),b08 E iq fs xs ys=some q→(∀f∈fs,f.name≠ "_")→
  (forIn fs ((none,()):Option Bool×Unit) (λf _=>
   if f.name≠ "_" then do
    let a←part f.type cx f.offset
    let b←part f.type cy f.offset
    let c←eq f.type a b
    if(!c)=true then pure (ForInStep.done (some false,()))else pure (ForInStep.yield (none,()))
   else pure (ForInStep.yield (none,())):Field→Option Bool×Unit→Sem (ForInStep (Option Bool×Unit)))).run E.P w
  = .ok (if q then(none,())else(some false,())) w
 | [],q,hq,_=>by simp only[b08,Option.some.injEq]at hq;subst hq;simp
 |f::fs,q,hq,hn=>by
  simp only[b08]at hq;split at hq
  case h_2=>cases hq
  rename_i a b ha hb;split at hq
  case h_2=>cases hq
  rename_i p q' hp iX;cases hq;obtain⟨ca,h1,h2⟩:=b0g ok ha hx;obtain⟨cb,h3,h4⟩:=b0g ok hb hy;have h5:=dy f.type a b ca cb p hp h2 h4;have ih:=b8f ok dy hx hy fs q' iX (λf hf=>hn f (by simp[hf]))
  have jK:f.name≠ "_" := hn f (by simp)
  rw[List.forIn_cons];simp only[ne_eq,jK,not_false_eq_true,f9q,Sem.run_bind,h1,h3,h5,Result.andThen_ok];cases p
  ·simp
  ·simp only[g17,f9h,g0z,Sem.run_pure,Result.andThen_ok,f9p];exact ih
theorem c2j(ok:EnvOk E){eq:TypeId→Value→Value→Sem Bool}{iq:TypeId→AV→AV→Option Bool}{ac:TypeId}
 (dy:∀t a b ca cb p,iq t a b=some p→VRel I w ρ a ca→VRel I w ρ b cb→(eq t ca cb).run E.P w = .ok p w)
 {xs ys:List AV}{cx cy:Array Value}(hx:VRels I w ρ xs cx.toList)(hy:VRels I w ρ ys cy.toList) :
 ∀(m i:Nat) (q:Bool),b2m E iq ac xs ys i m=some q→
  (forIn (List.range' i m) ((none,()):Option Bool×Unit) (λi _=>do
   let a←part ac cx (i*E.sz ac)
   let b←part ac cy (i*E.sz ac)
   let c←eq ac a b
   if(!c)=true then pure (ForInStep.done (some false,()))else pure (ForInStep.yield (none,())):Nat→Option Bool×Unit→Sem (ForInStep (Option Bool×Unit)))).run E.P w
  = .ok (if q then(none,())else(some false,())) w
 |0,i,q,hq=>by simp only[b2m,Option.some.injEq]at hq;subst hq;simp
 |m+1,i,q,hq=>by
  simp only[b2m]at hq;split at hq
  case h_2=>cases hq
  rename_i a b ha hb;split at hq
  case h_2=>cases hq
  rename_i p q' hp iX;cases hq;obtain⟨ca,h1,h2⟩:=b0g ok ha hx;obtain⟨cb,h3,h4⟩:=b0g ok hb hy;have h5:=dy ac a b ca cb p hp h2 h4;have ih:=c2j ok dy hx hy m (i+1) q' iX;rw[List.range'_succ,List.forIn_cons];simp only[Sem.run_bind,h1,h3,h5,Result.andThen_ok];cases p
  ·simp
  ·simp only[g17,f9h,g0z,Sem.run_pure,Result.andThen_ok,f9p];exact ih
section
variable {t:TypeId}{d:Nat}
theorem c1k{e:TypeId}(ht:(underlying t).run E.P w = .ok (.pointer e) w)(b:Option Addr):(Op.equalIn (d+1) t (.pointer none) (.pointer b)).run E.P w = .ok b.isNone w:=by unfold Op.equalIn;simp only[Sem.run_bind,ht,Result.andThen_ok];rfl
theorem c1j{e:TypeId}(ht:(underlying t).run E.P w = .ok (.pointer e) w)(b:Option Addr):(Op.equalIn (d+1) t (.pointer b) (.pointer none)).run E.P w = .ok b.isNone w:=by unfold Op.equalIn;simp only[Sem.run_bind,ht,Result.andThen_ok];cases b<;>rfl
theorem b3m{e:TypeId}(ht:(underlying t).run E.P w = .ok (.slice e) w)(b:Option Addr)(l c:Nat):(Op.equalIn (d+1) t (.slice none 0 0) (.slice b l c)).run E.P w = .ok b.isNone w:=by unfold Op.equalIn;simp only[Sem.run_bind,ht,Result.andThen_ok];rfl
theorem b3l{e:TypeId}(ht:(underlying t).run E.P w = .ok (.slice e) w)(b:Option Addr)(l c:Nat):(Op.equalIn (d+1) t (.slice b l c) (.slice none 0 0)).run E.P w = .ok b.isNone w:=by unfold Op.equalIn;simp only[Sem.run_bind,ht,Result.andThen_ok];cases b<;>rfl
theorem b52{k e:TypeId}(ht:(underlying t).run E.P w = .ok (.map k e) w)(b:Option Nat):(Op.equalIn (d+1) t (.map none) (.map b)).run E.P w = .ok b.isNone w:=by unfold Op.equalIn;simp only[Sem.run_bind,ht,Result.andThen_ok];rfl
theorem b51{k e:TypeId}(ht:(underlying t).run E.P w = .ok (.map k e) w)(b:Option Nat):(Op.equalIn (d+1) t (.map b) (.map none)).run E.P w = .ok b.isNone w:=by unfold Op.equalIn;simp only[Sem.run_bind,ht,Result.andThen_ok];cases b<;>rfl
theorem c3z{ps rs:Array TypeId}{v:Bool}(ht:(underlying t).run E.P w = .ok (.func ps rs v) w):(Op.equalIn (d+1) t .nilFunc .nilFunc).run E.P w = .ok true w:=by unfold Op.equalIn;simp only[Sem.run_bind,ht,Result.andThen_ok];rfl
theorem d4j{ps rs:Array TypeId}{v:Bool}(ht:(underlying t).run E.P w = .ok (.func ps rs v) w)(f:Fn)(a b:Array Value):(Op.equalIn (d+1) t .nilFunc (.func f a b)).run E.P w = .ok false w:=by unfold Op.equalIn;simp only[Sem.run_bind,ht,Result.andThen_ok];rfl
theorem d4i{ps rs:Array TypeId}{v:Bool}(ht:(underlying t).run E.P w = .ok (.func ps rs v) w)(f:Fn)(a b:Array Value):(Op.equalIn (d+1) t (.func f a b) .nilFunc).run E.P w = .ok false w:=by unfold Op.equalIn;simp only[Sem.run_bind,ht,Result.andThen_ok];rfl
theorem d5u{dd:TypeDesc}{y:AV}{q:Bool}{c:Value}(ht:(underlying t).run E.P w = .ok dd w)(hq:a8h dd y=some q)(hy:VRel I w ρ y c) :
 (Op.equalIn (d+1) t (b7y dd) c).run E.P w = .ok q w∧(Op.equalIn (d+1) t c (b7y dd)).run E.P w = .ok q w:=by
 unfold a8h at hq;split at hq<;>cases hq<;>simp only[VRel]at hy<;>simp only[b7y]
 ·subst hy;exact⟨c1k ht _,c1j ht _⟩
 ·obtain⟨_,_,rfl⟩:=hy;exact⟨c1k ht _,c1j ht _⟩
 ·obtain⟨_,_,rfl,_⟩:=hy;exact⟨c1k ht _,c1j ht _⟩
 ·subst hy;exact⟨b3m ht _ _ _,b3l ht _ _ _⟩
 ·obtain⟨_,_,rfl,_⟩:=hy;exact⟨b3m ht _ _ _,b3l ht _ _ _⟩
 ·obtain⟨_,_,_,rfl,_⟩:=hy;exact⟨b3m ht _ _ _,b3l ht _ _ _⟩
 ·subst hy;exact⟨b52 ht _,b51 ht _⟩
 ·obtain⟨_,_,rfl⟩:=hy;exact⟨b52 ht _,b51 ht _⟩
 ·obtain⟨_,_,rfl,_⟩:=hy;exact⟨b52 ht _,b51 ht _⟩
 ·obtain⟨_,_,_,rfl,_⟩:=hy;exact⟨b52 ht _,b51 ht _⟩
 ·subst hy;exact⟨c3z ht,c3z ht⟩
 ·obtain⟨_,_,rfl,_⟩:=hy;exact⟨d4j ht _ _ _,d4i ht _ _ _⟩
theorem d8w(ht:(underlying t).run E.P w = .ok .bool w)(a b:Bool):(Op.equalIn (d+1) t (.bool a) (.bool b)).run E.P w = .ok (a==b) w:=by unfold Op.equalIn;simp only[Sem.run_bind,ht,Result.andThen_ok];rfl
theorem e4u{k0:IntKind}(ht:(underlying t).run E.P w = .ok (.int k0) w)(k:IntKind)(a b:Int):(Op.equalIn (d+1) t (.int k a) (.int k b)).run E.P w = .ok (a==b) w:=by unfold Op.equalIn;simp only[Sem.run_bind,ht,Result.andThen_ok,f9q];rfl
theorem e4t(ht:(underlying t).run E.P w = .ok .string w)(a b:ByteArray):(Op.equalIn (d+1) t (.string a) (.string b)).run E.P w = .ok (a==b) w:=by unfold Op.equalIn;simp only[Sem.run_bind,ht,Result.andThen_ok];rfl
theorem b9k{ms:Array (String×TypeId)}(ht:(underlying t).run E.P w = .ok (.interface ms) w)(u:TypeId)(x:Value) :
 (Op.equalIn (d+1) t .nilIface (.iface u x)).run E.P w = .ok false w∧(Op.equalIn (d+1) t (.iface u x) .nilIface).run E.P w = .ok false w:=by
 unfold Op.equalIn;simp only[Sem.run_bind,ht,Result.andThen_ok];exact⟨rfl,rfl⟩
theorem d03{ms:Array (String×TypeId)}(ht:(underlying t).run E.P w = .ok (.interface ms) w)(u u':TypeId)(x x':Value)(aF:u≠u') :
 (Op.equalIn (d+1) t (.iface u x) (.iface u' x')).run E.P w = .ok false w:=by
 unfold Op.equalIn;simp only[Sem.run_bind,ht,Result.andThen_ok,ne_eq,aF,not_false_eq_true,f9q];rfl
theorem e4v{ms:Array (String×TypeId)}{i:TypeInfo}(ht:(underlying t).run E.P w = .ok (.interface ms) w)(u:TypeId)(x x':Value)(hi:(typeInfo u).run E.P w = .ok i w)(hc:i.comparable=true) :
 (Op.equalIn (d+1) t (.iface u x) (.iface u x')).run E.P w=(Op.equalIn d u x x').run E.P w:=by
 conv=>lhs;unfold Op.equalIn
 simp only[Sem.run_bind,ht,Result.andThen_ok,ne_eq,not_true_eq_false,g0z,hi,hc,g17,f9h]
end
theorem b7g(a b:ByteArray):(a==b)=(a.data.toList==b.data.toList):=by have e:(a==b)=(a.data==b.data):=rfl;rw[e,f9r];simp only[g0i,Array.toList_inj]
theorem c8k(ok:EnvOk E):∀(d:Nat) {t:TypeId} {x y:AV} {q:Bool} {cx cy:Value},aeq E d t x y=some q→VRel I w ρ x cx→VRel I w ρ y cy→
 ∀D,d≤D→(Op.equalIn D t cx cy).run E.P w = .ok q w
 |0,t,x,y,q,cx,cy,hq,hx,hy,D,hD=>by simp[aeq]at hq
 |d+1,t,x,y,q,cx,cy,hq,hx,hy,D,hD=>by
  obtain⟨D,rfl⟩:∃D',D=D'+1:=⟨D-1,by omega⟩
  unfold aeq at hq;have cu:∀{dd:TypeDesc} {z nz:AV} {c:Value},E.und t=some dd→(bif a3a dd nz then a8h dd z else none)=some q→VRel I w ρ z c→
   a3a dd nz=true∧(Op.equalIn (D+1) t (b7y dd) c).run E.P w = .ok q w∧(Op.equalIn (D+1) t c (b7y dd)).run E.P w = .ok q w:=by
   intro dd z nz c hu hb hz;cases hk:a3a dd nz with
   |false=>rw[hk]at hb;cases hb
   |true=>rw[hk,f6g]at hb;exact⟨rfl,d5u (a0d ok w hu) hb hz⟩
  have ga:∀{dd:TypeDesc},(a3a dd .nilptr=true→b7y dd = .pointer none)∧(a3a dd .nilslice=true→b7y dd = .slice none 0 0)∧
   (a3a dd .nilmap=true→b7y dd = .map none)∧(a3a dd .nilfunc=true→b7y dd = .nilFunc):=by
   intro dd;cases dd<;>simp[a3a,b7y]
  split at hq
  ·rename_i hu;simp only[VRel]at hx hy;subst hx hy;cases hq;exact d8w (a0d ok w hu) _ _
  ·rename_i hu;simp only[VRel]at hx hy;subst hx hy;rw[cond_eq_ite]at hq;split at hq
   ·rename_i hk;cases hq;have hk:=eq_of_beq hk;subst hk;exact e4u (a0d ok w hu) _ _ _
   ·cases hq
  ·rename_i hu;simp only[VRel]at hx hy;obtain⟨a,rfl,ha⟩:=hx;obtain⟨b,rfl,hb⟩:=hy;cases hq;rw[e4t (a0d ok w hu),b7g,ha,hb]
  ·rename_i fs xs ys hu;simp only[VRel]at hx hy;obtain⟨ax,rfl,hx⟩:=hx;obtain⟨ay,rfl,hy⟩:=hy;rw[cond_eq_ite]at hq;split at hq
   case isFalse=>cases hq
   rename_i he;obtain⟨_,az,_,g9⟩:=ok.eqok t he;have hf:=b8f (I:=I) (w:=w) (ρ:=ρ) ok (eq:=Op.equalIn D) (iq:=aeq E d) (λt a b ca cb p hp h1 h2=>c8k ok d hp h1 h2 D (by omega)) hx hy fs.toList q hq (λf hf=>g9 fs hu f hf);unfold Op.equalIn;simp only[Sem.run_bind,a0d ok w hu,Result.andThen_ok,run_program,az,f9h,g0z];rw[←Array.forIn_toList];rw[hf];cases q<;>rfl
  ·rename_i len ac xs ys hu;simp only[VRel]at hx hy;obtain⟨ax,rfl,hx⟩:=hx;obtain⟨ay,rfl,hy⟩:=hy;rw[cond_eq_ite]at hq;split at hq
   case isFalse=>cases hq
   rename_i he;obtain⟨de,bD⟩:=f4k.1 he;have hf:=c2j (I:=I) (w:=w) (ρ:=ρ) ok (eq:=Op.equalIn D) (iq:=aeq E d) (ac:=ac) (λt a b ca cb p hp h1 h2=>c8k ok d hp h1 h2 D (by omega)) hx hy len 0 q hq;unfold Op.equalIn;simp only[Sem.run_bind,a0d ok w hu,Result.andThen_ok,a3v ok w bD];rw[Std.Legacy.Range.forIn_eq_forIn_range'];have bU:(Std.Legacy.Range.size [:len])=len:=by simp[Std.Legacy.Range.size]
   simp only[bU];rw[hf];cases q<;>rfl
  ·simp only[VRel]at hx;subst hx;obtain⟨h1,h2,_⟩:=cu (by assumption) hq hy;rw[ga.1 h1]at h2;exact h2
  ·simp only[VRel]at hy;subst hy;obtain⟨h1,_,h2⟩:=cu (by assumption) hq hx;rw[ga.1 h1]at h2;exact h2
  ·simp only[VRel]at hx;subst hx;obtain⟨h1,h2,_⟩:=cu (by assumption) hq hy;rw[ga.2.1 h1]at h2;exact h2
  ·simp only[VRel]at hy;subst hy;obtain⟨h1,_,h2⟩:=cu (by assumption) hq hx;rw[ga.2.1 h1]at h2;exact h2
  ·simp only[VRel]at hx;subst hx;obtain⟨h1,h2,_⟩:=cu (by assumption) hq hy;rw[ga.2.2.1 h1]at h2;exact h2
  ·simp only[VRel]at hy;subst hy;obtain⟨h1,_,h2⟩:=cu (by assumption) hq hx;rw[ga.2.2.1 h1]at h2;exact h2
  ·simp only[VRel]at hx;subst hx;obtain⟨h1,h2,_⟩:=cu (by assumption) hq hy;rw[ga.2.2.2 h1]at h2;exact h2
  ·simp only[VRel]at hy;subst hy;obtain⟨h1,_,h2⟩:=cu (by assumption) hq hx;rw[ga.2.2.2 h1]at h2;exact h2
  ·rename_i hu;simp only[VRel]at hx hy;subst hx;obtain⟨x',rfl,_⟩:=hy;cases hq;exact(b9k (a0d ok w hu) _ _).1
  ·rename_i hu;simp only[VRel]at hx hy;subst hy;obtain⟨x',rfl,_⟩:=hx;cases hq;exact(b9k (a0d ok w hu) _ _).2
  ·rename_i hu;simp only[VRel]at hx hy;obtain⟨x',rfl,hx⟩:=hx;obtain⟨y',rfl,hy⟩:=hy;rw[cond_eq_ite]at hq;split at hq
   ·rename_i he;have he:=eq_of_beq he;subst he;rw[cond_eq_ite]at hq;split at hq
    case isFalse=>cases hq
    rename_i hk;obtain⟨_,_,⟨i,hi,hc⟩,_⟩:=ok.eqok _ hk;rw[e4v (i:=i) (a0d ok w hu) _ _ _ (by simp[typeInfo,hi]) hc];exact c8k ok d hq hx hy D (by omega)
   ·rename_i aF;cases hq;exact d03 (a0d ok w hu) _ _ _ _ (by simpa using aF)
  ·cases hq
end
end Go.Ax
/- AxOp1: the model's binary and unary operations and conversions, against the abstract ones. -/
namespace Go.Ax
section
variable {E:Env}{I K:Nat→Prop}{ρ:PMap}{h:FHeap}{n:Nat}{w:World}
theorem e63{op:BinOp}{k:IntKind}{a b:Int}{v:AV}(hv:c26 op k a b=some v)(t:TypeId)(hs:op≠ .shl∧op≠ .shr) :
 ∃c,(binOp op t (.int k a) (.int k b)).run E.P w = .ok c w∧VRel I w ρ v c:=by
 cases op<;>simp only[c26]at hv
 case shl=>cases hv
 case shr=>cases hv
 case quo=>
  rw[cond_eq_ite]at hv;split at hv
  ·cases hv
  ·rename_i hb;cases hv;have hb:b≠0:=by simpa using hb
   exact⟨_,by simp[binOp,Op.intDiv,hb];rfl,by simp[VRel]⟩
 case rem=>
  rw[cond_eq_ite]at hv;split at hv
  ·cases hv
  ·rename_i hb;cases hv;have hb:b≠0:=by simpa using hb
   exact⟨_,by simp[binOp,Op.intDiv,hb];rfl,by simp[VRel]⟩
 all_goals cases hv
 all_goals exact⟨_,by simp[binOp,Op.intArith,Op.intBits,Op.intCmp];rfl,by simp[VRel]⟩
theorem e5p{op:BinOp}{a b:ByteArray}{v:AV}(hv:f7c op a.data.toList b.data.toList=some v)(t:TypeId) :
 ∃c,(binOp op t (.string a) (.string b)).run E.P w = .ok c w∧VRel I w ρ v c:=by
 have ta:=ByteArray.toList_eq a;have tb:=ByteArray.toList_eq b;cases op<;>simp only[f7c]at hv
 case add=>
  rw[cond_eq_ite]at hv;split at hv
  case isFalse=>cases hv
  rename_i hl;cases hv;have hl:a.data.toList.length+b.data.toList.length≤4611686018427387904:=by simpa using hl
  have h1:¬(((a.size+b.size:Nat):Int)>IntKind.i64.max):=by simp only[f8d]at hl;have:a.size=a.data.size:=rfl;have:b.size=b.data.size:=rfl;simp only[IntKind.max,IntKind.signed,IntKind.bits];simp;omega
  refine⟨.string (a++b),?_,by simp only[VRel];exact⟨_,rfl,by simp[ByteArray.data_append]⟩⟩;simp only[binOp,Op.stringOp,h1,g0z,Sem.run_pure]
 all_goals cases hv
 all_goals
  refine⟨_,by simp only[binOp,Op.stringOp,ta,tb,Sem.run_pure];rfl,by simp[VRel]⟩
def AV.eqShape:AV→Bool
 |.bool _|.nilptr|.nilslice|.nilmap|.nilfunc|.nilifc|.ptr ..|.iptr ..|.slice ..|.islice ..|.map ..|.imap ..|.iset _|.yfn _|.func ..|.iface ..|.agg ..=>true
 |_=>false
def a6n(E:Env)(op:BinOp)(t:TypeId)(x y:AV)(qa:Bool):Option AV:=
 match op,x,y with
 |.shl,.int k a,.int _ b=>bif decide (b<0)then none else some (.int k (k.wrap (a*2^(min b.toNat k.bits))))
 |.shr,.int k a,.int _ b=>bif decide (b<0)then none else some (.int k (a.fdiv (2^(min b.toNat k.bits))))
 |op,.int k a,.int k' b=>bif k==k' then c26 op k a b else none
 |op,.str a,.str b=>f7c op a b
 |.eql,.nilifc,.nilifc=>match E.und t with|some (.interface _)=>bif qa then some (.bool true)else none|_=>none
 |.neq,.nilifc,.nilifc=>match E.und t with|some (.interface _)=>bif qa then some (.bool false)else none|_=>none
 |.eql,.agg a,.agg b=>bif E.eqok t then(aeq E 6 t (.agg a) (.agg b)).map .bool else none
 |.neq,.agg a,.agg b=>bif E.eqok t then(aeq E 6 t (.agg a) (.agg b)).map (λq=>.bool (!q))else none
 |.eql,x,y=>bif x.eqShape then(aeq E 6 t x y).map .bool else none
 |.neq,x,y=>bif x.eqShape then(aeq E 6 t x y).map (λq=>.bool (!q))else none
 |_,_,_=>none
def Value.eqShape:Value→Bool
 |.bool _|.pointer _|.slice ..|.map _|.func ..|.nilFunc|.iface ..|.nilIface|.agg _=>true
 |_=>false
theorem VRel.eqShape{x:AV}{c:Value}(hx:VRel I w ρ x c)(hs:x.eqShape=true):Value.eqShape c=true:=by
 cases x<;>simp[AV.eqShape]at hs<;>simp only[VRel]at hx
 all_goals first
  |(subst hx;rfl)
  |(obtain⟨_,rfl,_⟩:=hx;rfl)
  |(obtain⟨_,_,rfl⟩:=hx;rfl)
  |(obtain⟨_,_,rfl,_⟩:=hx;rfl)
  |(obtain⟨_,_,_,rfl,_⟩:=hx;rfl)
theorem b7i(t:TypeId)(cx cy:Value)(hs:Value.eqShape cx=true):binOp .eql t cx cy=(do pure (.bool (←Op.equal t cx cy))):=by cases cx<;>simp[Value.eqShape]at hs<;>first|rfl|(cases cy<;>rfl)
theorem b7h(t:TypeId)(cx cy:Value)(hs:Value.eqShape cx=true):binOp .neq t cx cy=(do pure (.bool (!(←Op.equal t cx cy)))):=by cases cx<;>simp[Value.eqShape]at hs<;>first|rfl|(cases cy<;>rfl)
def b00:Value→Value→Bool
 |.nilIface,.nilIface=>false
 |.agg _,.agg _=>false
 |_,_=>true
theorem a91(op:BinOp)(t:TypeId)(x y:Operand)(a b:Value)(hf:op≠ .eql∧op≠ .neq):(eqGuard op t x y a b).run E.P w = .ok () w:=by unfold eqGuard;cases op<;>first|rfl|(exact absurd rfl hf.1)|(exact absurd rfl hf.2)
theorem a4z(op:BinOp)(t:TypeId)(x y:Operand)(a b:Value)(hf:b00 a b=true):(eqGuard op t x y a b).run E.P w = .ok () w:=by
 by_cases du:op≠ .eql∧op≠ .neq
 ·exact a91 op t x y a b du
 ·have:op = .eql∨op = .neq:=by cases op<;>simp at du⊢
  unfold b00 at hf;rcases this with rfl|rfl
  all_goals
   unfold eqGuard;simp only[g17,f9h,g0z];split
   ·simp at hf
   ·simp at hf
   ·rfl
theorem b72(ok:EnvOk E)(op:BinOp)(t:TypeId)(x y:Operand)(a b:Array Value)(hf:E.eqok t=true):(eqGuard op t x y (.agg a) (.agg b)).run E.P w = .ok () w:=by
 by_cases du:op≠ .eql∧op≠ .neq
 ·exact a91 op t x y _ _ du
 ·have:op = .eql∨op = .neq:=by cases op<;>simp at du⊢
  rcases this with rfl|rfl
  all_goals
   unfold eqGuard;simp only[g17,f9h,g0z,Sem.run_bind,run_program,Result.andThen_ok,(ok.eqok t hf).1,Bool.not_false,f9q];rfl
def a5j:Operand→Bool
 |.const _=>true
 |_=>false
theorem b71(op:BinOp)(t:TypeId)(x y:Operand)(hc:(a5j x||a5j y)=true):(eqGuard op t x y .nilIface .nilIface).run E.P w = .ok () w:=by
 by_cases du:op≠ .eql∧op≠ .neq
 ·exact a91 op t x y _ _ du
 ·have:op = .eql∨op = .neq:=by cases op<;>simp at du⊢
  rcases this with rfl|rfl
  all_goals
   unfold eqGuard;cases x<;>cases y<;>simp[a5j]at hc<;>rfl
theorem b4b(ok:EnvOk E){t:TypeId}{ms:Array (String×TypeId)}(hu:E.und t=some (.interface ms)):(Op.equal t .nilIface .nilIface).run E.P w = .ok true w:=by unfold Op.equal Op.maxDepth Op.equalIn;simp only[Sem.run_bind,a0d ok w hu,Result.andThen_ok];rfl
theorem b45{x y:AV}{cx cy:Value}(hx:VRel I w ρ x cx)(hy:VRel I w ρ y cy)(hs:x.eqShape=true)(h1:¬(x = .nilifc∧(y = .nilifc∨y = .junk)))
 (h2:∀a,x = .agg a→(∀b,y≠ .agg b)∧y≠ .junk):b00 cx cy=true:=by
 have fe:=VRel.eqShape hx hs;cases x<;>simp[AV.eqShape]at hs<;>simp only[VRel]at hx
 case nilifc=>subst hx;cases cy<;>simp[b00];cases y<;>simp only[VRel]at hy<;>first|(simp at hy;done)|(exact h1 ⟨rfl,by simp⟩)|(obtain⟨_,h,_⟩:=hy;simp at h;done)|(obtain⟨_,_,h⟩:=hy;simp at h;done)|(obtain⟨_,_,h,_⟩:=hy;simp at h;done)|(obtain⟨_,_,_,h,_⟩:=hy;simp at h;done)
 case agg a=>obtain⟨ca,rfl,_⟩:=hx;obtain⟨h3,h4⟩:=h2 a rfl;cases cy<;>simp[b00];cases y<;>simp only[VRel]at hy<;>first|(simp at hy;done)|(exact h4 rfl)|(exact h3 _ rfl)|(obtain⟨_,h,_⟩:=hy;simp at h;done)|(obtain⟨_,_,h⟩:=hy;simp at h;done)|(obtain⟨_,_,h,_⟩:=hy;simp at h;done)|(obtain⟨_,_,_,h,_⟩:=hy;simp at h;done)
 all_goals first
  |(subst hx;rfl)
  |(obtain⟨_,rfl,_⟩:=hx;rfl)
  |(obtain⟨_,_,rfl⟩:=hx;rfl)
  |(obtain⟨_,_,rfl,_⟩:=hx;rfl)
  |(obtain⟨_,_,_,rfl,_⟩:=hx;rfl)
theorem a66{α β:Type}{x:Sem α}{y:Sem β}{a:α}{P:Program}{w w':World}(hx:x.run P w = .ok a w'):(do let _←x;y).run P w=y.run P w':=by simp[hx]
theorem a6k(ok:EnvOk E){t:TypeId}{x y:AV}{q:Bool}{cx cy:Value}(hq:aeq E 6 t x y=some q)(hx:VRel I w ρ x cx)(hy:VRel I w ρ y cy) :
 (Op.equal t cx cy).run E.P w = .ok q w:=c8k ok 6 hq hx hy 10000 (by omega)
theorem c8l{d:Nat}{t:TypeId}{x:AV}:aeq E d t x .junk=none:=by
 cases d with
 |zero=>rfl
 |succ d=>
  unfold aeq;split<;>first|rfl|skip
  all_goals simp_all[a8h]
  all_goals (cases h:a3a _ _<;>simp[a8h])
theorem e6e(ok:EnvOk E){op:BinOp}{t:TypeId}{x y v:AV}{xo yo:Operand}{cx cy:Value}(hv:a6n E op t x y (a5j xo||a5j yo)=some v)
 (hx:VRel I w ρ x cx)(hy:VRel I w ρ y cy):∃c,(do eqGuard op t xo yo cx cy;binOp op t cx cy).run E.P w = .ok c w∧VRel I w ρ v c:=by
 unfold a6n at hv;split at hv
 ·simp only[VRel]at hx hy;subst hx hy;rw[cond_eq_ite]at hv;split at hv
  ·cases hv
  ·rename_i hb;cases hv;rw[a66 (a4z _ _ _ _ _ _ rfl)];simp only[f4p]at hb;exact⟨_,by simp[binOp,Op.shift,hb];rfl,by simp[VRel]⟩
 ·simp only[VRel]at hx hy;subst hx hy;rw[cond_eq_ite]at hv;split at hv
  ·cases hv
  ·rename_i hb;cases hv;rw[a66 (a4z _ _ _ _ _ _ rfl)];simp only[f4p]at hb;exact⟨_,by simp[binOp,Op.shift,hb];rfl,by simp[VRel]⟩
 ·rename_i h1 h2;simp only[VRel]at hx hy;subst hx hy;rw[cond_eq_ite]at hv;split at hv
  case isFalse=>cases hv
  rename_i hk;have hk:=eq_of_beq hk;subst hk;rw[a66 (a4z _ _ _ _ _ _ rfl)];exact e63 hv t ⟨by rintro rfl;simp_all,by rintro rfl;simp_all⟩
 ·simp only[VRel]at hx hy;obtain⟨a,rfl,ha⟩:=hx;obtain⟨b,rfl,hb⟩:=hy;rw[a66 (a4z _ _ _ _ _ _ rfl)];subst ha hb;exact e5p hv t
 ·simp only[VRel]at hx hy;subst hx hy;split at hv
  case h_2=>cases hv
  rename_i ms hu;rw[cond_eq_ite]at hv;split at hv
  case isFalse=>cases hv
  rename_i hc;cases hv;rw[a66 (b71 _ _ _ _ hc),b7i _ _ _ rfl];exact⟨.bool true,by simp[b4b ok hu],by simp[VRel]⟩
 ·simp only[VRel]at hx hy;subst hx hy;split at hv
  case h_2=>cases hv
  rename_i ms hu;rw[cond_eq_ite]at hv;split at hv
  case isFalse=>cases hv
  rename_i hc;cases hv;rw[a66 (b71 _ _ _ _ hc),b7h _ _ _ rfl];exact⟨.bool false,by simp[b4b ok hu],by simp[VRel]⟩
 ·rename_i a b;rw[cond_eq_ite]at hv;split at hv
  case isFalse=>cases hv
  rename_i he;cases hq:aeq E 6 t (.agg a) (.agg b)with
  |none=>simp[hq]at hv
  |some q=>simp only[hq,f5x,Option.some.injEq]at hv;subst hv;have dy:=a6k ok hq hx hy;simp only[VRel]at hx hy;obtain⟨ca,rfl,_⟩:=hx;obtain⟨cb,rfl,_⟩:=hy;rw[a66 (b72 ok _ _ _ _ _ _ he),b7i _ _ _ rfl];exact⟨.bool q,by simp[dy],by simp[VRel]⟩
 ·rename_i a b;rw[cond_eq_ite]at hv;split at hv
  case isFalse=>cases hv
  rename_i he;cases hq:aeq E 6 t (.agg a) (.agg b)with
  |none=>simp[hq]at hv
  |some q=>simp only[hq,f5x,Option.some.injEq]at hv;subst hv;have dy:=a6k ok hq hx hy;simp only[VRel]at hx hy;obtain⟨ca,rfl,_⟩:=hx;obtain⟨cb,rfl,_⟩:=hy;rw[a66 (b72 ok _ _ _ _ _ _ he),b7h _ _ _ rfl];exact⟨.bool (!q),by simp[dy],by simp[VRel]⟩
 ·rename_i bH eG jM lw;rw[cond_eq_ite]at hv;split at hv
  case isFalse=>cases hv
  rename_i he;cases hq:aeq E 6 t x y with
  |none=>simp[hq]at hv
  |some q=>
   simp only[hq,f5x,Option.some.injEq]at hv;subst hv;have dy:=a6k ok hq hx hy;have gq:y≠ .junk:=by rintro rfl;rw[c8l]at hq;cases hq
   have hg:=b45 hx hy he (by
    rintro⟨rfl,h|h⟩
    ·subst h;simp_all
    ·exact gq h) (by
    rintro a rfl
    exact⟨λb hb=>by subst hb;simp_all,gq⟩)
   rw[a66 (a4z _ _ _ _ _ _ hg),b7i _ _ _ (VRel.eqShape hx he)];exact⟨.bool q,by simp[dy],by simp[VRel]⟩
 ·rename_i bH eG jM lw;rw[cond_eq_ite]at hv;split at hv
  case isFalse=>cases hv
  rename_i he;cases hq:aeq E 6 t x y with
  |none=>simp[hq]at hv
  |some q=>
   simp only[hq,f5x,Option.some.injEq]at hv;subst hv;have dy:=a6k ok hq hx hy;have gq:y≠ .junk:=by rintro rfl;rw[c8l]at hq;cases hq
   have hg:=b45 hx hy he (by
    rintro⟨rfl,h|h⟩
    ·subst h;simp_all
    ·exact gq h) (by
    rintro a rfl
    exact⟨λb hb=>by subst hb;simp_all,gq⟩)
   rw[a66 (a4z _ _ _ _ _ _ hg),b7h _ _ _ (VRel.eqShape hx he)];exact⟨.bool (!q),by simp[dy],by simp[VRel]⟩
 ·cases hv
def aun(op:UnOp)(x:AV):Option AV:=
 match op,x with
 |.neg,.int k a=>some (.int k (k.wrap (0-a)))
 |.not,.bool b=>some (.bool (!b))
 |.xor,.int k a=>some (.int k (k.wrap (BitVec.ofInt k.bits (if k.signed then -1 else k.max)^^^BitVec.ofInt k.bits a).toNat))
 |_,_=>none
theorem f01{op:UnOp}{x v:AV}{c:Value}(hv:aun op x=some v)(hx:VRel I w ρ x c):∃d,(Op.unary op c).run E.P w = .ok d w∧VRel I w ρ v d:=by
 unfold aun at hv;split at hv
 all_goals first|(cases hv;done)|skip
 all_goals simp only[VRel]at hx;subst hx;cases hv
 ·exact⟨_,by simp[Op.unary,Op.intArith];rfl,by simp[VRel]⟩
 ·exact⟨_,by simp[Op.unary];rfl,by simp[VRel]⟩
 ·exact⟨_,by simp[Op.unary,Op.intBits];rfl,by simp[VRel]⟩
def e04(E:Env)(ka dst:TypeId)(x:AV):Option AV:=
 match E.und ka,E.und dst,x with
 |some _,some (.int k),.int _ n=>some (.int k (k.wrap n))
 |some .string,some .string,.str s=>some (.str s)
 |_,_,_=>none
theorem e03(ok:EnvOk E){ka dst:TypeId}{x v:AV}{c:Value}(hv:e04 E ka dst x=some v)(hx:VRel I w ρ x c):∃d,(convert ka dst c).run E.P w = .ok d w∧VRel I w ρ v d:=by
 unfold e04 at hv;split at hv
 ·rename_i hs hd;simp only[VRel]at hx;subst hx;cases hv;exact⟨_,by simp[convert,a0d ok w hs,a0d ok w hd,Conv.intToInt];rfl,by simp[VRel]⟩
 ·rename_i hs hd;simp only[VRel]at hx;obtain⟨t,rfl,ht⟩:=hx;cases hv;exact⟨.string t,by simp[convert,a0d ok w hs,a0d ok w hd],by simp only[VRel];exact⟨t,rfl,ht⟩⟩
 ·cases hv
end
end Go.Ax
/- AxApp: append. -/
namespace Go.Ax
section
variable {E:Env}{I K:Nat→Prop}{ρ:PMap}{h:FHeap}{n:Nat}{w:World}
def a3c(h:FHeap)(k:Nat):AV→Option (List (List AV))
 |.nilslice=>some []
 |.islice aa _=>bif aa.all (λr=>r.length==k)then some aa else none
 |.slice b off len _=>match h b with
  |some (.row k' aa)=>bif k'==k&&Nat.ble (off+len) aa.length then some ((aa.drop off).take len)else none
  |_=>none
 |.str s=>bif k==1 then some (s.map λb=>[.int .u8 b.toNat])else none
 |_=>none
theorem b0u:∀l:List UInt8,VRels I w ρ (l.map λb=>[AV.int .u8 b.toNat]).flatten (l.map λb=>Value.int .u8 b.toNat)
 | []=>by simp[VRels]
 |b::l=>by simp only[c10,g00,f6a,e14,VRels];exact⟨_,_,rfl,by simp[VRel],b0u l⟩
theorem SameMem.cell{w w':World}(s:SameMem w w')(a:Addr):w'.cell? a=w.cell? a:=by simp[World.cell?,s.1]
theorem a61(r:HRel E.G I K ρ h w){k:Nat}{x:AV}{xs:List (List AV)}{c:Value}(ha:a3c h k x=some xs)(hx:VRel I w ρ x c) :
 (Builtin.lenOf c).run E.P w = .ok xs.length w∧(∃cv:Array Value,(∀w',SameMem w w'→(Builtin.firstCells k xs.length c).run E.P w' = .ok cv w')∧VRels I w ρ xs.flatten cv.toList)∧∀r∈xs,r.length=k:=by
 unfold a3c at ha;split at ha
 ·cases ha;simp only[VRel]at hx;subst hx;exact⟨rfl,⟨#[],λ_ _=>rfl,by simp[VRels]⟩,by simp⟩
 ·rename_i aa cap;rw[cond_eq_ite]at ha;split at ha
  case isFalse=>cases ha
  rename_i bd;cases ha;simp only[f8c,g0i]at bd;simp only[VRel]at hx;obtain⟨a,cc,kk,rfl,bC,_,cw⟩:=hx;refine⟨rfl,?_,bd⟩;rcases cw with rfl|⟨hs,hI,aA⟩
  ·exact⟨#[],λw' _=>by simp[Builtin.firstCells,loadCells,loadCellsFrom],by simp[VRels]⟩
  ·rw[VRows.iff]at aA;obtain⟨cv,h1,h2⟩:=VAt.cells aA.2;have hl:cv.length=xs.length*k:=by rw[←VRels.length h2,a0z bd]
   have ha:a=⟨a.block,a.off,none⟩:=by cases a;simp_all
   refine⟨cv.toArray,λw' lY=>?_,by simpa using VRels.noRef_any h2⟩;have:=run_loadCells_list (P:=E.P) w' a cv (λj v hj=>by rw[ha,a5o,lY.cell];exact h1 j v hj);rw[hl]at this;simpa[Builtin.firstCells]using this
 ·rename_i b off len cap;split at ha
  case h_2=>cases ha
  rename_i k' aa hb;rw[cond_eq_ite]at ha;split at ha
  case isFalse=>cases ha
  rename_i hc;cases ha;simp only[d14,g0i,g0h]at hc;obtain⟨rfl,bY⟩:=hc;obtain⟨m,hm,_,_,ho⟩:=r.live b _ hb;obtain⟨hk,hk0,_,aA⟩:=ho;have ai:((aa.drop off).take len).length=len:=by simp;omega
  simp only[VRel]at hx;obtain⟨a,cc,rfl,bC,_,cw⟩:=hx;have aV:=VRows.take len (VRows.drop off (by omega) aA);rw[VRows.iff]at aV;refine⟨by simp[Builtin.lenOf,ai],?_,aV.1⟩;rw[ai];rcases cw with rfl|⟨m',bA,rfl,bm⟩
  ·have:len=0:=by omega
   subst this;exact⟨#[],λw' _=>by simp[Builtin.firstCells,loadCells,loadCellsFrom],by simp[VRels]⟩
  ·obtain rfl:m=m':=z9o (hm.symm.trans bA);obtain⟨cv,h1,h2⟩:=VAt.cells aV.2;have hl:cv.length=len*k':=by rw[←VRels.length h2,a0z aV.1,ai]
   refine⟨cv.toArray,λw' lY=>?_,by simpa using h2⟩;have:=run_loadCells_list (P:=E.P) w' ⟨m.blk,m.off+off*m.k,none⟩ cv (λj v hj=>by rw[a5o,hk,lY.cell];exact h1 j v hj);rw[hl]at this;simpa[Builtin.firstCells]using this
 ·rename_i s;rw[cond_eq_ite]at ha;split at ha
  case isFalse=>cases ha
  rename_i hk;cases ha;have hk:k=1:=by simpa using hk
  subst hk;simp only[VRel]at hx;obtain⟨t,rfl,ht⟩:=hx;have bU:t.size=s.length:=by rw[←ht,f8d];rfl
  refine⟨by simp[Builtin.lenOf,bU],⟨_,λw' _=>by simp only[Builtin.firstCells,Sem.run_pure];rfl,?_⟩,by simp⟩;rw[g0n,a7z];simp only[f9o,f4j,ht,f6i];exact b0u s
 ·cases ha
def a42:TypeDesc→Bool
 |.int _=>true
 |_=>false
def a3d(E:Env)(ac:TypeId)(b1u:Nat):Bool:=decide (b1u≤17592186044416)&&decide (E.bytes ac*(2*b1u+192)≤281474976710656)
theorem c3q(b1u:Nat):∀(r c:Nat),c≤2*b1u+192→Builtin.growBy b1u r c≤2*b1u+192
 |0,c,h=>h
 |r+1,c,h=>by
  simp only[Builtin.growBy];split
  ·exact h
  ·rename_i hc;exact c3q b1u r _ (by omega)
theorem a9t{b1u old:Nat}(h:old<b1u):Builtin.nextslicecap b1u old≤2*b1u+192:=by
 unfold Builtin.nextslicecap;split
 ·omega
 ·split
  ·omega
  ·exact c3q b1u 4 old (by omega)
theorem a65(z:Array Value)(m:Nat):(Builtin.zeroCells z m).toList=(List.replicate m z.toList).flatten:=by rw[←a4c];simp only[Builtin.zeroCells,g0n,Array.toList_range,f8d];apply f8e;intro a _;rw[Array.getElem!_toList]
theorem b5h(ok:EnvOk E){st xt ac:TypeId}{dx:TypeDesc}(hu:E.und st=some (.slice ac))(eU:E.und xt=some dx)(bG:a42 dx=false)
 {z:List AV}(hz:E.zero ac=some z){base:Option Addr}{aN bO m:Nat}{cx:Value}{old new:Array Value}(ty:TypeId)
 (ai:(Builtin.lenOf cx).run E.P w = .ok m w)(jI:bO<aN+m)(bm:a3d E ac (aN+m)=true)
 (aT:∀w',SameMem w w'→(Builtin.firstCells (E.sz ac) aN (.slice base aN bO)).run E.P w' = .ok old w')
 (bf:∀w',SameMem w w'→(Builtin.firstCells (E.sz ac) m cx).run E.P w' = .ok new w') :
 ∃(bw:Nat) (zs:List Value) (w0:World),SameMem w w0∧aN+m≤bw∧zs.length=E.sz ac∧
  (Builtin.append_ #[st,xt] ty #[.slice base aN bO,cx]).run E.P w =
   .ok (.slice (some ⟨w.heap.size,0,none⟩) (aN+m) bw)
    { w0 with heap:=w0.heap.push (.cells (old++new++(List.replicate (bw-(aN+m)) zs).flatten.toArray) ac) }:=by
 obtain⟨⟨de,bD⟩,i',z',i5,e5,kw,kv⟩:=ok.zero ac z hz;simp only[a3d,d14,f4p]at bm;have gh:∀w',(zeroValue ac).run E.P w' = .ok z' w':=by intro w';simp[zeroValue,typeInfo,i5,e5]
 have ep:z'.cells.toList.length=E.sz ac:=by rw[←kw,VRels.length (kv (λ_=>False) w)]
 obtain⟨i,hi,_,km⟩:=b4s ok w bD;have gu:∀w',(typeInfo ac).run E.P w' = .ok i w':=by intro w';have:=hi;simp[typeInfo,i5]at this⊢;exact this
 have ur:∀w',(underlying xt).run E.P w' = .ok dx w':=λw'=>a0d ok w' eU;refine⟨aN+m+(w.tape w.drawn (.appendCap (aN+m) bO ac))%(2^63-(aN+m)),z'.cells.toList,{ w with drawn:=w.drawn+1 },⟨rfl,rfl,rfl,rfl⟩,by omega,ep,?_⟩;have bC:¬(aN+m≤bO):=by omega
 have a8:=a9t jI;have h48:¬(Builtin.nextslicecap (aN+m) bO*i.bytes>2^48):=by rw[km];have:Builtin.nextslicecap (aN+m) bO*E.bytes ac≤(2*(aN+m)+192)*E.bytes ac:=g05 _ a8;rw[Nat.mul_comm (2*(aN+m)+192)]at this;omega
 have iZ:¬(((aN+m:Nat):Int)>IntKind.i64.max):=by simp only[IntKind.max,IntKind.signed,IntKind.bits];simp;omega
 have sY:¬((((aN+m:Nat):Int)>IntKind.i64.max)∧(False∨i.bytes=0)):=λhh=>iZ hh.1;have ow:=aT { w with drawn:=w.drawn+1 } ⟨rfl,rfl,rfl,rfl⟩;have oB:=bf { w with drawn:=w.drawn+1 } ⟨rfl,rfl,rfl,rfl⟩;have oz:∀k:IntKind,dx≠ .int k:=by rintro k rfl;simp[a42]at bG
 unfold Builtin.append_;simp only[g02,f6n,f8h,Sem.run_bind,a0d ok w hu,Result.andThen_ok,a3v ok w bD];simp only[ur w,Result.andThen_ok,Sem.run_pure];simp only[f9h,g0z,Sem.run_bind,ai,Result.andThen_ok,bC,gu,false_or,iZ,false_and,h48,Bool.not_false,f9q,run_choose,run_askRoom,
  Question.forced,Question.cut,ow,oB,gh,a4x,Sem.run_pure]
 congr 4
 apply g15;simp only[Array.toList_append,a65]
theorem a3x(ok:EnvOk E){st xt ac:TypeId}{dx de:TypeDesc}(hu:E.und st=some (.slice ac))(bD:E.und ac=some de)(eU:E.und xt=some dx)(bG:a42 dx=false)
 {base:Option Addr}{aN bO m:Nat}{cx:Value}{new:Array Value}(ty:TypeId){w':World}
 (ai:(Builtin.lenOf cx).run E.P w = .ok m w)(bC:aN+m≤bO)
 (bf:(Builtin.firstCells (E.sz ac) m cx).run E.P w = .ok new w)
 (az:∀a,base=some a→(storeCells (a.add (aN*E.sz ac)) new.toList).run E.P w = .ok () w')(dP:base=none→w'=w) :
 (Builtin.append_ #[st,xt] ty #[.slice base aN bO,cx]).run E.P w = .ok (.slice base (aN+m) bO) w':=by
 have oz:∀k:IntKind,dx≠ .int k:=by rintro k rfl;simp[a42]at bG
 unfold Builtin.append_;simp only[g02,f6n,f8h,Sem.run_bind,a0d ok w hu,Result.andThen_ok,a3v ok w bD,a0d ok w eU,Sem.run_pure];simp only[f9h,g0z,Sem.run_bind,ai,Result.andThen_ok,bC,Bool.not_false,f9q,bf];cases base with
 |none=>simp[dP rfl]
 |some a=>simp[az a rfl]
def a5p(E:Env)(h:FHeap)(n:Nat)(st xt:TypeId)(s x:AV):Option (AV×Eff):=
 match E.und st,E.und xt with
 |some (.slice ac),some dx=>
  bif a42 dx || !(E.zero ac).isSome || !(Nat.blt 0 (E.sz ac))then none else
  match a3c h (E.sz ac) x with
  |none=>none
  |some xs=>match s with
   |.nilslice=>match xs with
    | []=>some (.nilslice,.none)
    |y::ys=>bif a3d E ac (y::ys).length then some (.slice n 0 (y::ys).length none,.new (.row (E.sz ac) (y::ys)))else none
   |.islice aa cap=>bif aa.all (λr=>r.length==E.sz ac)then match xs with
    | []=>some (.islice aa cap,.none)
    |y::ys=>match cap with
     |some c=>bif Nat.blt c (aa.length+(y::ys).length)&&a3d E ac (aa.length+(y::ys).length)then
      some (.slice n 0 (aa.length+(y::ys).length) none,.new (.row (E.sz ac) (aa++(y::ys))))else none
     |none=>none
    else none
   |.slice b off len cap=>match h b with
    |some (.row kk aa)=>bif kk==E.sz ac&&Nat.ble (off+len) aa.length then
     match cap with
     |none=>bif a3d E ac (len+xs.length)&&xs.all (λr=>r.all AV.storable)then
      some (.slice n 0 (len+xs.length) none,.kill b (.row (E.sz ac) (bif Nat.beq (off+len) aa.length then aa.drop off++xs else(aa.drop off).take len++xs)))else none
     |some c=>bif Nat.ble (len+xs.length) c then
      bif Nat.ble (off+len+xs.length) aa.length&&xs.all (λr=>r.all AV.storable)then
       some (.slice b off (len+xs.length) (some c),.set b (.row (E.sz ac) (aa.take (off+len)++xs++aa.drop (off+len+xs.length))))else none
      else bif a3d E ac (len+xs.length)then
       some (.slice n 0 (len+xs.length) none,.new (.row (E.sz ac) ((aa.drop off).take len++xs)))else none
     else none
    |_=>none
   |_=>none
 |_,_=>none
theorem VRels.flat_append{as bs:List (List AV)}{xs ys:List Value}(h:VRels I w ρ as.flatten xs)(k:VRels I w ρ bs.flatten ys):VRels I w ρ (as++bs).flatten (xs++ys):=by rw[List.flatten_append];exact VRels.append h k
theorem b4z(ok:EnvOk E)(r:HRel E.G I K ρ h w)(hn:h n=none)(hρ:ρ n=none){st xt ac:TypeId}{dx:TypeDesc}(hu:E.und st=some (.slice ac))(eU:E.und xt=some dx)
 (bG:a42 dx=false){z:List AV}(hz:E.zero ac=some z)(bU:0<E.sz ac){base:Option Addr}{aN bO m:Nat}{cx:Value}{old new:Array Value}(ty:TypeId){ss xs:List (List AV)}
 (ai:(Builtin.lenOf cx).run E.P w = .ok m w)(jI:bO<aN+m)(bm:a3d E ac (aN+m)=true)
 (aT:∀w',SameMem w w'→(Builtin.firstCells (E.sz ac) aN (.slice base aN bO)).run E.P w' = .ok old w')
 (bf:∀w',SameMem w w'→(Builtin.firstCells (E.sz ac) m cx).run E.P w' = .ok new w')
 (jf:VRels I w ρ ss.flatten old.toList)(ce:VRels I w ρ xs.flatten new.toList)(l8:∀r∈ss,r.length=E.sz ac)(ey:∀r∈xs,r.length=E.sz ac)
 (ir:ss.length=aN)(mW:xs.length=m){e:Eff}(he:e = .new (.row (E.sz ac) (ss++xs))∨∃b,e = .kill b (.row (E.sz ac) (ss++xs))) :
 Val E I K ρ h n w (Builtin.append_ #[st,xt] ty #[.slice base aN bO,cx]) (.slice n 0 (aN+m) none) e:=by
 obtain⟨bw,zs,w0,bM,a8,ge,ae⟩:=b5h ok hu eU bG hz ty ai jI bm aT bf;generalize bS:old++new++(List.replicate (bw-(aN+m)) zs).flatten.toArray=cells at ae;have gx:∀m,(List.replicate m zs).flatten.length=m*E.sz ac:=by
  intro m;induction m with
  |zero=>simp
  |succ m ih=>rw[g0l,g00,f5z,ih,ge,g2h,Nat.add_comm]
 have bW:old.size=aN*E.sz ac:=by have:=VRels.length jf;rw[a0z l8,ir,f8d]at this;exact this.symm
 have cG:new.size=m*E.sz ac:=by have:=VRels.length ce;rw[a0z ey,mW,f8d]at this;exact this.symm
 have aZ:cells.size=bw*E.sz ac:=by
  subst bS;simp only[Array.size_append,bW,cG,List.size_toArray,gx];rw[←g0j,←g0j]
  congr 1;omega
 have lX:∀c,I c→({ w0 with heap:=w0.heap.push (.cells cells ac) }:World).heap[c]?=w.heap[c]?:=by intro c hc;have:=r.imm c hc;show(w0.heap.push _)[c]?=_;rw[bM.1,g16,f4n (by omega)]
 have gn:({ w0 with heap:=w0.heap.push (.cells cells ac) }:World).heap[w.heap.size]?=some (.cells cells ac (0,0)):=by show(w0.heap.push _)[_]?=_;rw[bM.1];simp
 have bi:=PMap.set_old (m:=⟨w.heap.size,0,E.sz ac,cells.size⟩) hρ;have ho:ORel E.G I { w0 with heap:=w0.heap.push (.cells cells ac) } (ρ.set n ⟨w.heap.size,0,E.sz ac,cells.size⟩) ⟨w.heap.size,0,E.sz ac,cells.size⟩ (.row (E.sz ac) (ss++xs)):=by
  refine⟨rfl,bU,⟨cells,ac,gn,rfl,?_⟩,?_⟩
  ·show 0+(ss++xs).length*E.sz ac≤cells.size;rw[f5z,ir,mW,aZ,f8j];exact g05 _ a8
  ·rw[VRows.iff];refine⟨by intro x hx;rcases f8n.1 hx with h|h;exact l8 x h;exact ey x h,?_⟩;refine VAt.of_cells (cs:=(old++new).toList) (CellsAt.of_heap gn (λj v hj=>?_)) ?_
   ·subst bS;have lG:=(c13.1 hj).1;simp only[f8d]at lG;rw[f8j,Array.getElem?_append_left lG,←g0k];exact hj
   ·rw[Array.toList_append];exact VRels.mono (λ_ h=>h) lX _ bi (VRels.flat_append jf ce)
 refine⟨_,_,ρ.set n ⟨w.heap.size,0,E.sz ac,cells.size⟩,ae,?_,?_,Moves.set _ _ _ (by rcases he with rfl|⟨b,rfl⟩<;>rfl)⟩
 ·rcases he with rfl|⟨b,rfl⟩
  ·exact a2v (ob:=.cells cells ac) r hn hρ (by show w0.heap.push _=_;rw[bM.1]) bM.2.1 bM.2.2.1 bM.2.2.2 rfl ho
  ·exact b4j (ob:=.cells cells ac) r hn hρ b (by show w0.heap.push _=_;rw[bM.1]) bM.2.1 bM.2.2.1 bM.2.2.2 rfl ho
 ·simp only[VRel];refine⟨_,bw,rfl,a8,(λq hq=>by cases hq),.inr ⟨_,by simp[PMap.set];rfl,by simp,?_⟩⟩;show 0+(0+bw)*E.sz ac≤cells.size;rw[aZ,f8j,f8j];exact f6l _
theorem b98(ok:EnvOk E)(r:HRel E.G I K ρ h w){st xt ac:TypeId}{dx de:TypeDesc}(hu:E.und st=some (.slice ac))(bD:E.und ac=some de)(eU:E.und xt=some dx)
 (bG:a42 dx=false){m:Pl}{b off aN bO nn:Nat}{aa xs:List (List AV)}{cx:Value}{new:Array Value}(ty:TypeId)
 (hb:h b=some (.row (E.sz ac) aa))(hm:ρ b=some m)(dM:off+aN≤aa.length)(bm:m.off+(off+bO)*m.k≤m.room)
 (ai:(Builtin.lenOf cx).run E.P w = .ok nn w)(bC:aN+nn≤bO)(bf:(Builtin.firstCells (E.sz ac) nn cx).run E.P w = .ok new w)
 (ce:VRels I w ρ xs.flatten new.toList)(ey:∀r∈xs,r.length=E.sz ac)(mW:xs.length=nn)(az:xs.all (λr=>r.all AV.storable)=true) :
 ∃w',(Builtin.append_ #[st,xt] ty #[.slice (some ⟨m.blk,m.off+off*m.k,none⟩) aN bO,cx]).run E.P w = .ok (.slice (some ⟨m.blk,m.off+off*m.k,none⟩) (aN+nn) bO) w'∧
  w'.heap.size=w.heap.size∧(∀c,c≠m.blk→w'.heap[c]?=w.heap[c]?)∧w'.tape=w.tape∧w'.os=w.os∧w'.output=w.output∧
  (∃cL e,w'.heap[m.blk]?=some (.cells cL e (0,0))∧cL.size=m.room)∧VRows I w' (E.sz ac) ρ (aa.take (off+aN)++xs) m.blk m.off∧
  (∀x,m.off+(off+aN+nn)*E.sz ac≤x→w'.cell? ⟨m.blk,x,none⟩=w.cell? ⟨m.blk,x,none⟩):=by
 obtain⟨m',bA,dL,_,ho⟩:=r.live b _ hb;obtain rfl:m=m':=z9o (hm.symm.trans bA);obtain⟨hk,hk0,⟨cL,el,ej,aZ,_⟩,aA⟩:=ho;have cG:new.toList.length=nn*E.sz ac:=by have:=VRels.length ce;rw[a0z ey,mW]at this;exact this.symm
 have gx:xs.flatten.all AV.storable=true:=by rw[f8c]at az⊢;intro v hv;obtain⟨l,hl,jd⟩:=List.mem_flatten.1 hv;exact f8c.1 (az l hl) v jd
 have o6:(⟨m.blk,m.off+off*m.k,none⟩:Addr).add (aN*E.sz ac)=⟨m.blk,m.off+(off+aN)*E.sz ac,none⟩:=by rw[a5o,hk,g0j,Nat.add_assoc]
 have bY:m.off+(off+aN)*E.sz ac+new.toList.length≤cL.size:=by rw[aZ,cG,Nat.add_assoc,←g0j];rw[hk]at bm;have:(off+aN+nn)*E.sz ac≤(off+bO)*E.sz ac:=g05 _ (by omega);omega
 obtain⟨w',ae,⟨dJ,bq,iR⟩,cf,bU,ht,e9,a6,bS,cP⟩:=b9y (w:=w) (blk:=m.blk) (o:=m.off+(off+aN)*E.sz ac) new.toList ej bY (VRels.storable ce gx) E.P;have cJ:∀c,I c→w'.heap[c]?=w.heap[c]?:=λc hc=>cf c (λe=>dL (e▸hc));refine⟨w',?_,bU,cf,ht,e9,a6,⟨dJ,el,bq,by omega⟩,?_,?_⟩
 ·exact a3x ok hu bD eU bG ty ai bC bf (λa ha=>by cases ha;rw[o6];exact ae) (λh=>by cases h)
 ·rw[VRows.append];have bJ:(aa.take (off+aN)).length=off+aN:=by simp;omega
  refine⟨?_,?_⟩
  ·refine VRows.mono_cells (λ_ h=>h) cJ (λ_ _ h=>h) (λj hj=>cP _ (.inl ?_)) (VRows.take (off+aN) aA);rw[bJ]at hj;omega
  ·rw[VRows.iff,bJ];exact⟨ey,VAt.of_cells bS (VRels.mono (λ_ h=>h) cJ _ (λ_ _ h=>h) ce)⟩
 ·intro x hx;refine cP x (.inr ?_);rw[cG,Nat.add_assoc,←g0j];exact hx
theorem d0v(ok:EnvOk E)(r:HRel E.G I K ρ h w)(hn:h n=none)(hρ:ρ n=none){st xt:TypeId}{s x v:AV}{e:Eff}{cs cx:Value}(ty:TypeId)
 (ha:a5p E h n st xt s x=some (v,e))(hs:VRel I w ρ s cs)(hx:VRel I w ρ x cx):Val E I K ρ h n w (Builtin.append_ #[st,xt] ty #[cs,cx]) v e:=by
 unfold a5p at ha;split at ha
 case h_2=>cases ha
 rename_i ac dx hu eU;rw[cond_eq_ite]at ha;split at ha
 case isTrue=>cases ha
 rename_i hc;simp only[g0t,f9y,not_or,Bool.not_eq_true,Bool.not_eq_false,f8f]at hc;obtain⟨⟨bG,po⟩,bU⟩:=hc;obtain⟨z,hz⟩:=f4k.1 po;obtain⟨⟨de,bD⟩,_⟩:=ok.zero ac z hz;split at ha
 case h_1=>cases ha
 rename_i xs ce;obtain⟨ai,⟨new,bf,kE⟩,ey⟩:=a61 r ce hx;have fv:=bf w ⟨rfl,rfl,rfl,rfl⟩;split at ha
 · -- nil
  simp only[VRel]at hs;subst hs;split at ha
  ·cases ha;refine Val.here (c:=.slice none 0 0) r ?_ (by simp[VRel]);exact a3x ok hu bD eU bG ty ai (by simp) fv (λa h=>by cases h) (λ_=>rfl)
  ·rename_i y ys;rw[cond_eq_ite]at ha;split at ha
   case isFalse=>cases ha
   rename_i bm;cases ha;have:=b4z (ss:=[]) (old:=#[]) (base:=none) (aN:=0) (bO:=0) (e:=.new (.row (E.sz ac) ([]++(y::ys)))) ok r hn hρ hu eU bG hz bU ty ai (by simp) (by simpa using bm)
    (λw' _=>rfl) bf (by simp[VRels]) kE (by simp) ey rfl rfl (.inl rfl)
   simpa using this
 · -- immutable memory
  rename_i aa cap;rw[cond_eq_ite]at ha;split at ha
  case isFalse=>cases ha
  rename_i bd;have oa:=hs;simp only[VRel]at oa;obtain⟨a,cc,kk,rfl,bC,a8,cw⟩:=oa;split at ha
  ·cases ha;refine Val.here r ?_ hs;have:=a3x ok hu bD eU bG (base:=some a) (aN:=aa.length) (bO:=cc) ty (w':=w) ai (by simpa using bC) fv (λa' h=>by
    have:new.toList=[]:=by have:=VRels.length kE;simpa using this.symm
    rw[this];rfl) (λh=>by cases h)
   simpa using this
  ·rename_i y ys;split at ha
   case h_2=>cases ha
   rename_i c;rw[cond_eq_ite]at ha;split at ha
   case isFalse=>cases ha
   rename_i bm;cases ha;simp only[d14,f8f]at bm;obtain⟨_,⟨old,aT,kD⟩,l8⟩:=a61 (k:=E.sz ac) (xs:=aa) r (by simp only[a3c,bd,f6g]) hs;have dl:=a8 c rfl;exact b4z ok r hn hρ hu eU bG hz bU ty ai (by omega) bm.2 aT bf kD kE l8 ey rfl rfl (.inl rfl)
 · -- a mutable block
  rename_i b off len cap;split at ha
  case h_2=>cases ha
  rename_i kk aa hb;rw[cond_eq_ite]at ha;split at ha
  case isFalse=>cases ha
  rename_i dl;simp only[d14,g0i,g0h]at dl;obtain⟨rfl,bY⟩:=dl;have oa:=hs;simp only[VRel]at oa;obtain⟨a,c,rfl,bC,a8,cw⟩:=oa;obtain⟨sK,⟨old,aT,kD⟩,l8⟩:=a61 (k:=E.sz ac) (xs:=(aa.drop off).take len) r (by simp only[a3c,hb,beq_self_eq_true,f9p,Nat.ble_eq_true_of_le bY,f6g]) hs;have ir:((aa.drop off).take len).length=len:=by simp;omega
  rw[ir]at aT;split at ha
  · -- capacity unknown
   rw[cond_eq_ite]at ha;split at ha
   case isFalse=>cases ha
   rename_i bd;cases ha;simp only[d14]at bd;obtain⟨bm,az⟩:=bd;have hR:(bif Nat.beq (off+len) aa.length then aa.drop off++xs else(aa.drop off).take len++xs)=(aa.drop off).take len++xs:=by
    cases hq:Nat.beq (off+len) aa.length with
    |false=>rfl
    |true=>have dy:=g03 hq;rw[f6g,f4l (by simp;omega)]
   rw[hR];by_cases fy:len+xs.length≤c
   ·rcases cw with rfl|⟨m,hm,rfl,eR⟩
    · -- no capacity at all: nothing is appended to nothing
     have h0:len=0:=by omega
     have mX:xs=[]:=g0q.1 (by omega);subst h0 mX;obtain⟨m,hm,dL,gH,hk,hk0,⟨cL,el,ej,aZ,gy⟩,aA⟩:=r.live b _ hb;have hd:(aa.drop off).take 0=[]:=f6b;have bi:=PMap.set_old (m:=⟨m.blk,m.off,m.k,m.room⟩) hρ;refine⟨.slice (some a) 0 0,w,ρ.set n ⟨m.blk,m.off,m.k,m.room⟩,?_,?_,?_,Moves.set _ _ _ rfl⟩
     ·have:=a3x ok hu bD eU bG (base:=some a) (aN:=0) (bO:=0) ty (w':=w) ai (by simp) fv (λa' h=>by
       have:new.toList=[]:=by have:=VRels.length kE;simpa using this.symm
       rw[this];rfl) (λh=>by cases h)
      simpa using this
     ·refine a84 (mb:=m) r hn hρ hb hm rfl rfl (λ_ _=>rfl) rfl rfl rfl ?_;refine⟨hk,hk0,⟨cL,el,ej,aZ,?_⟩,?_⟩
      ·simp[hd];omega
      ·simp[hd,VRows]
     ·simp only[VRel];exact⟨a,0,rfl,by simp,(λq hq=>by cases hq),.inl rfl⟩
    ·obtain⟨w',ae,iR,cf,ht,e9,a6,⟨cL,el,bq,bF⟩,gY,_⟩:=b98 (nn:=xs.length) ok r hu bD eU bG ty hb hm bY eR ai fy fv kE ey rfl az;obtain⟨m',bA,dL,gH,hk,hk0,_,_⟩:=r.live b _ hb;obtain rfl:m=m':=z9o (hm.symm.trans bA);have bi:=PMap.set_old (m:=⟨m.blk,m.off+off*m.k,m.k,m.room⟩) hρ;have cJ:∀c,I c→w'.heap[c]?=w.heap[c]?:=λc hc=>cf c (λe=>dL (e▸hc));refine⟨_,w',ρ.set n ⟨m.blk,m.off+off*m.k,m.k,m.room⟩,ae,?_,?_,Moves.set _ _ _ rfl⟩
     ·refine a84 (mb:=m) r hn hρ hb hm rfl iR cf ht e9 a6 ?_;have iA:((aa.drop off).take len++xs).length=len+xs.length:=by rw[f5z,ir]
      refine⟨hk,hk0,⟨cL,el,bq,bF,?_⟩,?_⟩
      ·rw[iA,←hk,Nat.add_assoc,←g0j];have:(off+(len+xs.length))*m.k≤(off+c)*m.k:=g05 _ (by omega);exact g1v (Nat.add_le_add_left this m.off) eR
      ·have h1:=VRows.drop (rs:=aa.take (off+len)++xs) off (by simp;omega) gY;rw[List.drop_append_of_le_length (by rw[f9f];omega),List.drop_take,g10]at h1;rw[show off*E.sz ac=off*m.k by rw[hk]]at h1;exact VRows.mono (λ_ h=>h) (λ_ _=>rfl) _ bi rfl h1
     ·simp only[VRel];refine⟨_,c,rfl,fy,(λq hq=>by cases hq),.inr ⟨_,by simp[PMap.set];rfl,by simp,?_⟩⟩;show m.off+off*m.k+(0+c)*m.k≤m.room;rw[f8j,Nat.add_assoc,←g0j];exact eR
   ·have:=b4z (e:=.kill b (.row (E.sz ac) ((aa.drop off).take len++xs))) ok r hn hρ hu eU bG hz bU ty ai (by omega) bm aT bf kD kE l8 ey ir rfl (.inr ⟨b,rfl⟩);exact this
  · -- capacity known
   rename_i c';have rE:c=c':=a8 c' rfl;subst rE;rw[cond_eq_ite]at ha;split at ha
   ·rename_i fy;simp only[g0h]at fy;rw[cond_eq_ite]at ha;split at ha
    case isFalse=>cases ha
    rename_i bd;cases ha;simp only[d14,g0h]at bd;obtain⟨cq,az⟩:=bd;rcases cw with rfl|⟨m,hm,rfl,eR⟩
    ·have h0:len=0:=by omega
     have mX:xs=[]:=g0q.1 (by omega);subst h0 mX;have aA:aa.take (off+0)++[]++aa.drop (off+0+([]:List (List AV)).length)=aa:=by simp
     rw[aA];refine⟨.slice (some a) 0 0,w,ρ,?_,?_,?_,Moves.same _ _ _⟩
     ·have:=a3x ok hu bD eU bG (base:=some a) (aN:=0) (bO:=0) ty (w':=w) ai (by simp) fv (λa' h=>by
       have:new.toList=[]:=by have:=VRels.length kE;simpa using this.symm
       rw[this];rfl) (λh=>by cases h)
      simpa using this
     ·obtain⟨m,hm,_,_,ho⟩:=r.live b _ hb;exact a2n r hb hm rfl (λ_ _=>rfl) rfl rfl rfl ho
     ·simp only[VRel];exact⟨a,0,rfl,by simp,(λq hq=>by cases hq;rfl),.inl rfl⟩
    ·obtain⟨w',ae,iR,cf,ht,e9,a6,⟨cL,el,bq,bF⟩,gY,cP⟩:=b98 (nn:=xs.length) ok r hu bD eU bG ty hb hm bY eR ai fy fv kE ey rfl az;obtain⟨m',bA,dL,gH,hk,hk0,⟨_,_,_,_,gy⟩,ma⟩:=r.live b _ hb;obtain rfl:m=m':=z9o (hm.symm.trans bA);have cJ:∀c,I c→w'.heap[c]?=w.heap[c]?:=λc hc=>cf c (λe=>dL (e▸hc));have iA:(aa.take (off+len)++xs).length=off+len+xs.length:=by simp;omega
     refine⟨_,w',ρ,ae,?_,?_,Moves.same _ _ _⟩
     ·refine a2n r hb hm iR cf ht e9 a6 ⟨hk,hk0,⟨cL,el,bq,bF,?_⟩,?_⟩
      ·have:(aa.take (off+len)++xs++aa.drop (off+len+xs.length)).length=aa.length:=by
        rw[f5z,iA];simp;omega
       rw[this];exact gy
      ·rw[VRows.append];refine⟨gY,?_⟩;rw[iA];refine VRows.mono_cells (λ_ h=>h) cJ (λ_ _ h=>h) (λj hj=>cP _ (by omega)) (VRows.drop (off+len+xs.length) cq ma)
     ·simp only[VRel];exact⟨_,c,rfl,fy,(λq hq=>by cases hq;rfl),.inr ⟨m,hm,rfl,eR⟩⟩
   ·rename_i sW;rw[cond_eq_ite]at ha;split at ha
    case isFalse=>cases ha
    rename_i bm;cases ha;have sW:¬(len+xs.length≤c):=by simpa using sW
    exact b4z ok r hn hρ hu eU bG hz bU ty ai (by omega) bm aT bf kD kE l8 ey ir rfl (.inl rfl)
 ·cases ha
end
end Go.Ax
/- AxBlt: len, cap, min, max, copy. -/
namespace Go.Ax
section
variable {E:Env}{I K:Nat→Prop}{ρ:PMap}{h:FHeap}{n:Nat}{w:World}
def c4t(E:Env)(h:FHeap)(t:TypeId)(x:AV):Option AV:=
 match E.und t,x with
 |some .string,.str s=>some (.int .i64 s.length)
 |some (.array n _),x=>bif x.isJunk then none else some (.int .i64 n)
 |some (.slice _),.nilslice=>some (.int .i64 0)
 |some (.slice _),.slice _ _ len _=>some (.int .i64 len)
 |some (.slice _),.islice aa _=>some (.int .i64 aa.length)
 |some (.map _ _),.nilmap=>some (.int .i64 0)
 |some (.map _ _),.imap ks _ _ _=>some (.int .i64 ks.length)
 |some (.map _ _),.iset ks=>some (.int .i64 ks.length)
 |some (.map _ _),.map b=>match h b with
  |some (.map ks _ _ _)=>some (.int .i64 ks.length)
  |some (.uset ks)=>some (.int .i64 ks.length)
  |_=>none
 |_,_=>none
theorem e61(ok:EnvOk E)(r:HRel E.G I K ρ h w){t:TypeId}{x v:AV}{c:Value}(ty:TypeId)(hv:c4t E h t x=some v)(hx:VRel I w ρ x c) :
 Val E I K ρ h n w (Builtin.len_ #[t] ty #[c]) v .none:=by
 unfold c4t at hv;split at hv
 ·rename_i hu;cases hv;simp only[VRel]at hx;obtain⟨tb,rfl,ht⟩:=hx;have:tb.size=tb.data.toList.length:=by rw[f8d];rfl
  exact Val.here (c:=goInt tb.size) r (by simp[Builtin.len_,a0d ok w hu]) (by rw[←ht,this];simp[goInt,VRel])
 ·rename_i y m e hu;rw[cond_eq_ite]at hv;split at hv
  ·cases hv
  ·cases hv;refine Val.here (c:=goInt m) r ?_ (by simp[goInt,VRel]);cases c<;>simp[Builtin.len_,a0d ok w hu]
 ·rename_i hu;cases hv;simp only[VRel]at hx;subst hx;exact Val.here (c:=goInt 0) r (by simp[Builtin.len_,a0d ok w hu]) (by simp[goInt,VRel])
 ·rename_i hu;cases hv;simp only[VRel]at hx;obtain⟨a,cc,rfl,_⟩:=hx;exact Val.here (c:=goInt _) r (by simp[Builtin.len_,a0d ok w hu];rfl) (by simp[goInt,VRel])
 ·rename_i hu;cases hv;simp only[VRel]at hx;obtain⟨a,cc,k,rfl,_⟩:=hx;exact Val.here (c:=goInt _) r (by simp[Builtin.len_,a0d ok w hu];rfl) (by simp[goInt,VRel])
 ·rename_i hu;cases hv;simp only[VRel]at hx;subst hx;exact Val.here (c:=goInt 0) r (by simp[Builtin.len_,a0d ok w hu]) (by simp[goInt,VRel])
 ·rename_i hu;cases hv;simp only[VRel]at hx;obtain⟨cc,es,rfl,_,he,cQ,_,_⟩:=hx;have hl:=VRels.length cQ;simp only[f4j,f8d]at hl;refine Val.here (c:=goInt es.size) r ?_ (by rw[hl];simp[goInt,VRel]);simp[Builtin.len_,a0d ok w hu,getObj,Sem.run,he]
 ·rename_i hu;cases hv;simp only[VRel]at hx;obtain⟨cc,es,cl,rfl,_,he,hs⟩:=hx;have hl:=hs.1.length_eq;simp only[f4j,f8d]at hl;refine Val.here (c:=goInt es.size) r ?_ (by rw[hl];simp[goInt,VRel]);simp[Builtin.len_,a0d ok w hu,getObj,Sem.run,he]
 ·rename_i b hu;split at hv
  case h_3=>cases hv
  case h_2=>rename_i ks hb;cases hv;simp only[VRel]at hx;obtain⟨m,hm,rfl⟩:=hx;obtain⟨m',bA,_,_,ho⟩:=r.live b _ hb;obtain rfl:m=m':=z9o (hm.symm.trans bA);obtain⟨es,cl,he,hs⟩:=ho;have hl:=hs.1.length_eq;simp only[f4j,f8d]at hl;refine Val.here (c:=goInt es.size) r ?_ (by rw[hl];simp[goInt,VRel]);simp[Builtin.len_,a0d ok w hu,getObj,Sem.run,he]
  rename_i ks vs bs cl hb;cases hv;simp only[VRel]at hx;obtain⟨m,hm,rfl⟩:=hx;obtain⟨m',bA,_,_,ho⟩:=r.live b _ hb;obtain rfl:m=m':=z9o (hm.symm.trans bA);obtain⟨es,he,cQ,_,_⟩:=ho;have hl:=VRels.length cQ;simp only[f4j,f8d]at hl;refine Val.here (c:=goInt es.size) r ?_ (by rw[hl];simp[goInt,VRel]);simp[Builtin.len_,a0d ok w hu,getObj,Sem.run,he]
 ·cases hv
def e05(E:Env)(t:TypeId)(x:AV):Option AV:=
 match E.und t,x with
 |some (.slice _),.nilslice=>some (.int .i64 0)
 |some (.slice _),.slice _ _ _ (some c)=>some (.int .i64 c)
 |some (.slice _),.islice _ (some c)=>some (.int .i64 c)
 |_,_=>none
theorem e67(ok:EnvOk E)(r:HRel E.G I K ρ h w){t:TypeId}{x v:AV}{c:Value}(ty:TypeId)(hv:e05 E t x=some v)(hx:VRel I w ρ x c) :
 Val E I K ρ h n w (Builtin.cap_ #[t] ty #[c]) v .none:=by
 unfold e05 at hv;split at hv
 ·rename_i hu;cases hv;simp only[VRel]at hx;subst hx;exact Val.here (c:=goInt 0) r (by simp[Builtin.cap_,a0d ok w hu]) (by simp[goInt,VRel])
 ·rename_i hu;cases hv;simp only[VRel]at hx;obtain⟨a,cc,rfl,_,hc,_⟩:=hx;have:=hc _ rfl;exact Val.here (c:=goInt cc) r (by simp[Builtin.cap_,a0d ok w hu]) (by rw[this];simp[goInt,VRel])
 ·rename_i hu;cases hv;simp only[VRel]at hx;obtain⟨a,cc,k,rfl,_,hc,_⟩:=hx;have:=hc _ rfl;exact Val.here (c:=goInt cc) r (by simp[Builtin.cap_,a0d ok w hu]) (by rw[this];simp[goInt,VRel])
 ·cases hv
def d5k:AV→List AV→Option AV
 |x,[]=>match x with|.int k a=>some (.int k a)|_=>none
 |.int k a,.int _ b::r=>d5k (.int k (if b<a then b else a)) r
 |_,_::_=>none
def d9y:AV→List AV→Option AV
 |x,[]=>match x with|.int k a=>some (.int k a)|_=>none
 |.int k a,.int _ b::r=>d9y (.int k (if b>a then b else a)) r
 |_,_::_=>none
theorem d5j:∀{xs:List AV} {x v:AV} {c:Value} {cs:List Value},d5k x xs=some v→VRel I w ρ x c→VRels I w ρ xs cs→
 ∃d,(cs.foldlM Builtin.min2 c).run E.P w = .ok d w∧VRel I w ρ v d
 | [],x,v,c,cs,hv,hx,ce=>by
  simp only[VRels]at ce;subst ce;simp only[d5k]at hv;split at hv
  ·cases hv;exact⟨c,by simp,hx⟩
  ·cases hv
 |y::ys,x,v,c,cs,hv,hx,ce=>by
  simp only[VRels]at ce;obtain⟨cy,aO,rfl,hy,lU⟩:=ce;unfold d5k at hv;split at hv
  ·rename_i h;cases h
  ·rename_i k a k' b r he;cases he;simp only[VRel]at hx hy;subst hx hy;obtain⟨d,h1,h2⟩:=d5j (c:=.int k (if b<a then b else a)) hv (by simp[VRel]) lU;exact⟨d,by simp only[List.foldlM_cons,Builtin.min2,Sem.run_bind,Sem.run_pure,Result.andThen_ok,h1],h2⟩
  ·cases hv
theorem d5l:∀{xs:List AV} {x v:AV} {c:Value} {cs:List Value},d9y x xs=some v→VRel I w ρ x c→VRels I w ρ xs cs→
 ∃d,(cs.foldlM Builtin.max2 c).run E.P w = .ok d w∧VRel I w ρ v d
 | [],x,v,c,cs,hv,hx,ce=>by
  simp only[VRels]at ce;subst ce;simp only[d9y]at hv;split at hv
  ·cases hv;exact⟨c,by simp,hx⟩
  ·cases hv
 |y::ys,x,v,c,cs,hv,hx,ce=>by
  simp only[VRels]at ce;obtain⟨cy,aO,rfl,hy,lU⟩:=ce;unfold d9y at hv;split at hv
  ·rename_i h;cases h
  ·rename_i k a k' b r he;cases he;simp only[VRel]at hx hy;subst hx hy;obtain⟨d,h1,h2⟩:=d5l (c:=.int k (if b>a then b else a)) hv (by simp[VRel]) lU;exact⟨d,by simp only[List.foldlM_cons,Builtin.max2,Sem.run_bind,Sem.run_pure,Result.andThen_ok,h1],h2⟩
  ·cases hv
theorem b1e(r:HRel E.G I K ρ h w){k:Nat}{x:AV}{xs:List (List AV)}{c:Value}(ha:a3c h k x=some xs)(hx:VRel I w ρ x c)(j:Nat)(hj:j≤xs.length) :
 ∃cv:Array Value,(Builtin.firstCells k j c).run E.P w = .ok cv w∧VRels I w ρ (xs.take j).flatten cv.toList:=by
 have aS:(xs.take j).length=j:=by simp;omega
 have key:∀(a:Addr) (n cap:Nat),a.spot=none→VAt I w ρ (xs.take j).flatten a.block a.off→(∀r∈xs.take j,r.length=k)→∃cv:Array Value,(Builtin.firstCells k j (.slice (some a) n cap)).run E.P w = .ok cv w∧VRels I w ρ (xs.take j).flatten cv.toList:=by
  intro a n cap hs bg hk;obtain⟨cv,h1,h2⟩:=VAt.cells bg;have hl:cv.length=j*k:=by rw[←VRels.length h2,a0z hk,aS]
  have ha:a=⟨a.block,a.off,none⟩:=by cases a;simp_all
  refine⟨cv.toArray,?_,by simpa using h2⟩;have:=run_loadCells_list (P:=E.P) w a cv (λi v hi=>by rw[ha,a5o];exact h1 i v hi);rw[hl]at this;simpa[Builtin.firstCells]using this
 obtain⟨_,_,bd⟩:=a61 r ha hx;have lP:∀r∈xs.take j,r.length=k:=λr hr=>bd r (List.mem_of_mem_take hr);unfold a3c at ha;split at ha
 ·cases ha;simp only[VRel]at hx;subst hx;exact⟨#[],rfl,by simp[VRels]⟩
 ·rename_i aa cap;rw[cond_eq_ite]at ha;split at ha
  case isFalse=>cases ha
  cases ha;simp only[VRel]at hx;obtain⟨a,cc,kk,rfl,bC,_,cw⟩:=hx;rcases cw with rfl|⟨hs,hI,aA⟩
  ·have:j=0:=by simpa using hj
   subst this;exact⟨#[],by simp[Builtin.firstCells,loadCells,loadCellsFrom],by simp[VRels]⟩
  ·exact key a _ _ hs (VAt.noRef_any (VRows.iff.1 (VRows.take j aA)).2) lP
 ·rename_i b off len cap;split at ha
  case h_2=>cases ha
  rename_i k' aa hb;rw[cond_eq_ite]at ha;split at ha
  case isFalse=>cases ha
  rename_i hc;cases ha;simp only[d14,g0i,g0h]at hc;obtain⟨rfl,bY⟩:=hc;obtain⟨m,hm,_,_,ho⟩:=r.live b _ hb;obtain⟨hk,hk0,_,aA⟩:=ho;simp only[VRel]at hx;obtain⟨a,cc,rfl,bC,_,cw⟩:=hx;rcases cw with rfl|⟨m',bA,rfl,bm⟩
  ·have:j=0:=by simp at hj;omega
   subst this;exact⟨#[],by simp[Builtin.firstCells,loadCells,loadCellsFrom],by simp[VRels]⟩
  ·obtain rfl:m=m':=z9o (hm.symm.trans bA);refine key _ _ _ rfl ?_ lP;rw[hk];exact(VRows.iff.1 (VRows.take j (VRows.take len (VRows.drop off (by omega) aA)))).2
 ·rename_i s;rw[cond_eq_ite]at ha;split at ha
  case isFalse=>cases ha
  cases ha;simp only[VRel]at hx;obtain⟨t,rfl,ht⟩:=hx;refine⟨_,by simp only[Builtin.firstCells,Sem.run_pure];rfl,?_⟩;rw[g0n,a7z,←List.map_take];simp only[f9o,ht,Nat.sub_zero];exact b0u _
 ·cases ha
theorem b8l(r:HRel E.G I K ρ h w){m:Pl}{b off k:Nat}{aa xs:List (List AV)}{new:List Value}(hb:h b=some (.row k aa))(hm:ρ b=some m)(bY:off+xs.length≤aa.length)
 (ce:VRels I w ρ xs.flatten new)(ey:∀r∈xs,r.length=k)(az:xs.all (λr=>r.all AV.storable)=true) :
 ∃w',(storeCells ⟨m.blk,m.off+off*m.k,none⟩ new).run E.P w = .ok () w'∧Stepped E.G I K ρ w I ρ (h.eff n (.set b (.row k (aa.take off++xs++aa.drop (off+xs.length))))) w':=by
 obtain⟨m',bA,dL,_,ho⟩:=r.live b _ hb;obtain rfl:m=m':=z9o (hm.symm.trans bA);obtain⟨hk,hk0,⟨cL,el,ej,aZ,gy⟩,aA⟩:=ho;have cG:new.length=xs.length*k:=by have:=VRels.length ce;rw[a0z ey]at this;exact this.symm
 have gx:xs.flatten.all AV.storable=true:=by rw[f8c]at az⊢;intro v hv;obtain⟨l,hl,jd⟩:=List.mem_flatten.1 hv;exact f8c.1 (az l hl) v jd
 have dS:m.off+off*m.k+new.length≤cL.size:=by rw[aZ,cG,hk,Nat.add_assoc,←g0j];exact g1v (Nat.add_le_add_left (g05 k bY) _) gy
 obtain⟨w',ae,⟨dJ,bq,iR⟩,cf,bU,ht,e9,a6,bS,cP⟩:=b9y (w:=w) (blk:=m.blk) (o:=m.off+off*m.k) new ej dS (VRels.storable ce gx) E.P;have cJ:∀c,I c→w'.heap[c]?=w.heap[c]?:=λc hc=>cf c (λe=>dL (e▸hc));have bJ:(aa.take off).length=off:=by simp;omega
 refine⟨w',ae,a2n r hb hm bU cf ht e9 a6 ⟨hk,hk0,⟨dJ,el,bq,by omega,?_⟩,?_⟩⟩
 ·have:(aa.take off++xs++aa.drop (off+xs.length)).length=aa.length:=by simp;omega
  rw[this];exact gy
 ·rw[VRows.append,VRows.append];refine⟨⟨?_,?_⟩,?_⟩
  ·refine VRows.mono_cells (λ_ h=>h) cJ (λ_ _ h=>h) (λj hj=>cP _ (.inl ?_)) (VRows.take off aA);rw[bJ]at hj;rw[hk];omega
  ·rw[VRows.iff,bJ,←hk];exact⟨by rw[hk];exact ey,VAt.of_cells bS (VRels.mono (λ_ h=>h) cJ _ (λ_ _ h=>h) ce)⟩
  ·rw[f5z,bJ];refine VRows.mono_cells (λ_ h=>h) cJ (λ_ _ h=>h) (λj hj=>cP _ (.inr ?_)) (VRows.drop (off+xs.length) bY aA);rw[cG,hk,g0j];omega
def d0s(E:Env)(h:FHeap)(dt:TypeId)(d x:AV):Option (AV×Eff):=
 match E.und dt with
 |some (.slice ac)=>bif (E.und ac).isSome then
  match a3c h (E.sz ac) x with
  |none=>none
  |some xs=>match d with
   |.nilslice=>some (.int .i64 0,.none)
   |.slice b off len _=>bif Nat.beq len 0 then some (.int .i64 0,.none)else match h b with
    |some (.row kk aa)=>bif kk==E.sz ac&&Nat.ble (off+len) aa.length&&Nat.blt 0 len&&(xs.take len).all (λr=>r.all AV.storable)then
     some (.int .i64 ((xs.take len).length:Nat),.set b (.row kk (aa.take off++xs.take len++aa.drop (off+(xs.take len).length))))else none
    |_=>none
   |_=>none else none
 |_=>none
theorem e02(ok:EnvOk E)(r:HRel E.G I K ρ h w){dt xt:TypeId}{d x v:AV}{e:Eff}{cd cx:Value}(ty:TypeId)
 (ha:d0s E h dt d x=some (v,e))(hd:VRel I w ρ d cd)(hx:VRel I w ρ x cx):Val E I K ρ h n w (Builtin.copy_ #[dt,xt] ty #[cd,cx]) v e:=by
 unfold d0s at ha;split at ha
 case h_2=>cases ha
 rename_i ac hu;rw[cond_eq_ite]at ha;split at ha
 case isFalse=>cases ha
 rename_i jY;obtain⟨de,bD⟩:=f4k.1 jY;split at ha
 case h_1=>cases ha
 rename_i xs ce;obtain⟨ai,_,ey⟩:=a61 r ce hx;split at ha
 ·cases ha;simp only[VRel]at hd;subst hd;obtain⟨cv,h1,h2⟩:=b1e r ce hx 0 (by omega);refine Val.here (c:=goInt 0) r ?_ (by simp[goInt,VRel]);have mh:Nat.min xs.length 0=0:=Nat.min_zero _;simp only[Builtin.copy_,g02,f6n,f8h,Sem.run_bind,a0d ok w hu,Result.andThen_ok,ai,a3v ok w bD,mh,h1,Sem.run_pure];rfl
 ·rename_i b off len cap;rw[cond_eq_ite]at ha;split at ha
  ·rename_i h0;have h0:=g03 h0;subst h0;cases ha;simp only[VRel]at hd;obtain⟨a,c,rfl,bC,_,_⟩:=hd;obtain⟨cv,h1,h2⟩:=b1e r ce hx 0 (by omega);have a7:cv.toList=[]:=by have:=VRels.length h2;simpa using this.symm
   refine Val.here (c:=goInt 0) r ?_ (by simp[goInt,VRel]);have mh:Nat.min xs.length 0=0:=Nat.min_zero _;simp only[Builtin.copy_,g02,f6n,f8h,Sem.run_bind,a0d ok w hu,Result.andThen_ok,ai,a3v ok w bD,mh,h1,a7];cases a<;>rfl
  split at ha
  case h_2=>cases ha
  rename_i kk aa hb;rw[cond_eq_ite]at ha;split at ha
  case isFalse=>cases ha
  rename_i dl;cases ha;simp only[d14,g0i,g0h,f8f]at dl;obtain⟨⟨⟨rfl,bY⟩,ig⟩,az⟩:=dl;simp only[VRel]at hd;obtain⟨a,c,rfl,bC,_,cw⟩:=hd;rcases cw with rfl|⟨m,hm,rfl,bm⟩
  ·omega
  have cH:(xs.take len).length=Nat.min xs.length len:=by rw[f9f,Nat.min_comm]
  have qS:Nat.min xs.length len≤xs.length:=Nat.min_le_left _ _;have sX:Nat.min xs.length len≤len:=Nat.min_le_right _ _;obtain⟨cv,h1,h2⟩:=b1e r ce hx _ qS;have fj:xs.take (Nat.min xs.length len)=xs.take len:=by
   rcases Nat.le_total xs.length len with h|h
   ·rw[show Nat.min xs.length len=xs.length from Nat.min_eq_left h,f6i,f4l h]
   ·rw[show Nat.min xs.length len=len from Nat.min_eq_right h]
  rw[fj]at h2;obtain⟨w',ae,br⟩:=b8l (n:=n) r hb hm (off:=off) (xs:=xs.take len) (by omega) h2 (λr hr=>ey r (List.mem_of_mem_take hr)) az;refine⟨goInt (xs.take len).length,w',ρ,?_,br,by simp[goInt,VRel],Moves.same _ _ _⟩;simp only[Builtin.copy_,g02,f6n,f8h,Sem.run_bind,a0d ok w hu,Result.andThen_ok,ai,a3v ok w bD,h1,ae,Sem.run_pure,cH]
 ·cases ha
def b9t(E:Env)(h:FHeap)(t:TypeId)(x:AV):Option (AV×Eff):=
 match E.und t,x with
 |some (.slice _),.nilslice=>some (.tuple [],.none)
 |some (.slice ac),.slice b off len _=>bif Nat.beq len 0 then some (.tuple [],.none)else match E.zero ac with
  |some z=>match h b with
   |some (.row kk aa)=>bif kk==E.sz ac&&Nat.ble (off+len) aa.length&&z.all AV.storable then
    some (.tuple [],.set b (.row kk (aa.take off++List.replicate len z++aa.drop (off+(List.replicate len z).length))))else none
   |_=>none
  |none=>none
 |_,_=>none
theorem a9i{z:List AV}{zs:List Value}(hz:VRels I w ρ z zs):∀n:Nat,VRels I w ρ (List.replicate n z).flatten (List.replicate n zs).flatten
 |0=>by simp[VRels]
 |n+1=>by rw[g0l,g0l,g00,g00];exact VRels.append hz (a9i hz n)
theorem d5w(ok:EnvOk E)(r:HRel E.G I K ρ h w){t:TypeId}{x v:AV}{e:Eff}{cx:Value}(ty:TypeId)
 (ha:b9t E h t x=some (v,e))(hx:VRel I w ρ x cx):Val E I K ρ h n w (Builtin.clear_ #[t] ty #[cx]) v e:=by
 unfold b9t at ha;split at ha
 ·rename_i ac hu;cases ha;simp only[VRel]at hx;subst hx;refine Val.here (c:=.tuple #[]) r ?_ (by simp only[VRel];exact⟨#[],rfl,by simp[VRels]⟩);simp[Builtin.clear_,a0d ok w hu]
 ·rename_i ac b off len cap hu;simp only[VRel]at hx;obtain⟨a,c,rfl,bC,_,cw⟩:=hx;rw[cond_eq_ite]at ha;split at ha
  ·rename_i h0;have h0:=g03 h0;subst h0;cases ha;refine Val.here (c:=.tuple #[]) r ?_ (by simp only[VRel];exact⟨#[],rfl,by simp[VRels]⟩);simp[Builtin.clear_,a0d ok w hu]
  rename_i h0;have ig:len≠0:=λe=>h0 (by subst e;rfl);split at ha
  case h_2=>cases ha
  rename_i z hz;split at ha
  case h_2=>cases ha
  rename_i kk aa hb;rw[cond_eq_ite]at ha;split at ha
  case isFalse=>cases ha
  rename_i dl;cases ha;simp only[d14,g0i,g0h]at dl;obtain⟨⟨rfl,bY⟩,az⟩:=dl;rcases cw with rfl|⟨m,hm,rfl,bm⟩
  ·omega
  obtain⟨z',e5,ge,eF⟩:=a8l ok w hz;have dM:=List.length_replicate (n:=len) (a:=z);obtain⟨w',ae,br⟩:=b8l (n:=n) r hb hm (off:=off) (xs:=List.replicate len z) (new:=(List.replicate len z'.cells.toList).flatten) (by omega) (a9i (VRels.noRef_any (eF I w)) len)
   (λr hr=>by rw[f9u hr];exact ge) (by rw[f8c];intro r hr;rw[f9u hr];exact az)
  refine⟨.tuple #[],w',ρ,?_,br,by simp only[VRel];exact⟨#[],rfl,by simp[VRels]⟩,Moves.same _ _ _⟩;obtain⟨uj,rfl⟩:∃l,len=l+1:=⟨len-1,by omega⟩
  simp only[Builtin.clear_,g02,f6n,Sem.run_bind,a0d ok w hu,Result.andThen_ok,e5,a65,ae,Sem.run_pure]
 ·cases ha
end
end Go.Ax
/- AxMap: maps with plain keys: lookup, update, delete. -/
namespace Go.Ax
section
variable {E:Env}{I K:Nat→Prop}{ρ:PMap}{h:FHeap}{n:Nat}{w:World}
def a74:TypeDesc→Bool
 |.int _|.string|.bool=>true
 |_=>false
def c5v(E:Env)(t:TypeId):Bool:=
 match E.und t with
 |some (.struct fs)=>E.eqok t&&fs.toList.all λf=>match E.und f.type with|some d=>a74 d|none=>false
 |some d=>a74 d
 |none=>false
def b7l:AV→AV→Bool
 |.int k a,.int k' b=>k==k'&&a==b
 |.str a,.str b=>a==b
 |.bool a,.bool b=>a==b
 |_,_=>false
def b4g:List AV→List AV→Bool
 | [],[]=>true
 |a::as,b::bs=>b7l a b&&b4g as bs
 |_,_=>false
def c4l:AV→AV→Bool
 |.agg a,.agg b=>b4g a b
 |a,b=>b7l a b
theorem c4k{a b:AV}(hs:b7l a b=true){ca cb:Value}(ha:VRel I w ρ a ca)(hb:VRel I w ρ b cb):ca=cb∧∀m,Instr.sameBits m ca cb=true:=by
 unfold b7l at hs;split at hs
 ·simp only[d14,g0i]at hs;obtain⟨rfl,rfl⟩:=hs;simp only[VRel]at ha hb;subst ha hb;exact⟨rfl,λm=>by cases m<;>simp[Instr.sameBits]⟩
 ·simp only[g0i]at hs;subst hs;simp only[VRel]at ha hb;obtain⟨t,rfl,ht⟩:=ha;obtain⟨t',rfl,uz⟩:=hb;have:t=t':=by
   cases t;cases t';simp only[ByteArray.mk.injEq];exact Array.toList_inj.1 (ht.trans uz.symm)
  subst this;exact⟨rfl,λm=>by cases m<;>simp[Instr.sameBits,b7g]⟩
 ·simp only[g0i]at hs;subst hs;simp only[VRel]at ha hb;subst ha hb;exact⟨rfl,λm=>by cases m<;>simp[Instr.sameBits]⟩
 ·cases hs
theorem c4j:∀{as bs:List AV} {cs ds:List Value},b4g as bs=true→VRels I w ρ as cs→VRels I w ρ bs ds→
 cs=ds∧∀m,(cs.zip ds).all (λ(x,y)=>Instr.sameBits m x y)=true
 | [],[],cs,ds,_,ha,hb=>by simp only[VRels]at ha hb;subst ha hb;exact⟨rfl,by simp⟩
 |a::as,b::bs,cs,ds,hs,ha,hb=>by simp only[VRels]at ha hb;obtain⟨c,aO,rfl,h1,h2⟩:=ha;obtain⟨d,wJ,rfl,h3,h4⟩:=hb;simp only[b4g,d14]at hs;obtain⟨rfl,h5⟩:=c4k hs.1 h1 h3;obtain⟨rfl,h6⟩:=c4j hs.2 h2 h4;exact⟨rfl,λm=>by simp only[List.zip_cons_cons,List.all_cons,h5 m,f9p];exact h6 m⟩
 | [],_::_,cs,ds,hs,_,_=>by simp[b4g]at hs
 |_::_,[],cs,ds,hs,_,_=>by simp[b4g]at hs
theorem d9s{a b:AV}(hs:c4l a b=true){ca cb:Value}(ha:VRel I w ρ a ca)(hb:VRel I w ρ b cb):ca=cb∧Instr.sameBits 10000 ca cb=true:=by
 unfold c4l at hs;split at hs
 ·simp only[VRel]at ha hb;obtain⟨ca,rfl,ha⟩:=ha;obtain⟨cb,rfl,hb⟩:=hb;obtain⟨he,h1⟩:=c4j hs ha hb;have he:ca=cb:=Array.toList_inj.1 he;subst he;refine⟨rfl,?_⟩;show(ca.size==ca.size&&(ca.toList.zip ca.toList).all λ(x,y)=>Instr.sameBits 9999 x y)=true;rw[h1 9999];simp
 ·obtain⟨h1,h2⟩:=c4k hs ha hb;exact⟨h1,h2 10000⟩
def a2j(eq:AV→AV→Option Bool)(k:AV):List AV→Nat→Option (Option Nat)
 | [],_=>some none
 |x::xs,i=>match eq k x with
  |some q=>bif q then some (some i)else a2j eq k xs (i+1)
  |none=>none
theorem b26(ok:EnvOk E){kt:TypeId}{k:AV}{ck:Value}(hk:VRel I w ρ k ck):∀{ks:List AV} {es:List MapEntry} {i:Nat} {r:Option Nat},
 a2j (aeq E 6 kt) k ks i=some r→VRels I w ρ ks (es.map (·.key))→
 (Instr.findAsking kt ck es i).run E.P w = .ok (r.map λj=>(j,((es[j-i]?).map (·.val)).getD undef)) w∧∀j,r=some j→i≤j∧j-i<es.length
 | [],es,i,r,hf,cQ=>by simp only[VRels,g1x]at cQ;subst cQ;simp only[a2j,Option.some.injEq]at hf;subst hf;exact⟨rfl,by simp⟩
 |x::ks,es,i,r,hf,cQ=>by
  cases es with
  |nil=>simp[VRels]at cQ
  |cons e es=>
   simp only[c10,VRels,List.cons.injEq]at cQ;obtain⟨c,cs,⟨rfl,rfl⟩,hx,cQ⟩:=cQ;simp only[a2j]at hf;split at hf
   case h_2=>cases hf
   rename_i q hq;have dy:=a6k ok hq hk hx;unfold Instr.findAsking;simp only[Sem.run_bind,dy,Result.andThen_ok];cases q with
   |true=>simp only[f6g,Option.some.injEq]at hf;subst hf;exact⟨by simp,by simp⟩
   |false=>
    simp only[f7z]at hf;obtain⟨h1,h2⟩:=b26 ok hk (es:=es) hf cQ;simp only[f9h,g0z];rw[h1];refine⟨?_,λj hj=>?_⟩
    ·cases r with
     |none=>rfl
     |some j=>obtain⟨h3,h4⟩:=h2 j rfl;simp only[f5x];rw[show j-i=(j-(i+1))+1 by omega];simp
    ·obtain⟨h3,h4⟩:=h2 j hj;simp;omega
theorem e66{t:TypeId}{k0:IntKind}(hu:E.und t=some (.int k0)){d:Nat}{x y:AV}{q:Bool}(hq:aeq E (d+1) t x y=some q):∃k a b,x = .int k a∧y = .int k b∧q=(a==b):=by
 unfold aeq at hq;rw[hu]at hq;split at hq
 case h_2=>
  rw[cond_eq_ite]at hq;split at hq
  ·rename_i hk;cases hq;have hk:=eq_of_beq hk;subst hk;exact⟨_,_,_,rfl,rfl,rfl⟩
  ·cases hq
 all_goals (try simp only[Option.some.injEq]at *);subst_vars;simp_all[a3a]
theorem e65{t:TypeId}(hu:E.und t=some .string){d:Nat}{x y:AV}{q:Bool}(hq:aeq E (d+1) t x y=some q):∃a b,x = .str a∧y = .str b∧q=(a==b):=by
 unfold aeq at hq;rw[hu]at hq;split at hq
 case h_3=>cases hq;exact⟨_,_,rfl,rfl,rfl⟩
 all_goals (try simp only[Option.some.injEq]at *);subst_vars;simp_all[a3a]
theorem e00{t:TypeId}(hu:E.und t=some .bool){d:Nat}{x y:AV}{q:Bool}(hq:aeq E (d+1) t x y=some q):∃a b,x = .bool a∧y = .bool b∧q=(a==b):=by
 unfold aeq at hq;rw[hu]at hq;split at hq
 case h_1=>cases hq;exact⟨_,_,rfl,rfl,rfl⟩
 all_goals (try simp only[Option.some.injEq]at *);subst_vars;simp_all[a3a]
theorem c8y{d:TypeDesc}(hd:a74 d=true){kt:TypeId}(hu:E.und kt=some d){k x:AV}{ck cx:Value}{q:Bool}(hk:VRel I w ρ k ck)(hx:VRel I w ρ x cx)
 (hq:aeq E 6 kt k x=some q):Instr.sameNow d ck cx=some q:=by
 cases d<;>simp[a74]at hd
 ·obtain⟨a,b,rfl,rfl,rfl⟩:=e00 hu hq;simp only[VRel]at hk hx;subst hk hx;rfl
 ·obtain⟨kk,a,b,rfl,rfl,rfl⟩:=e66 hu hq;simp only[VRel]at hk hx;subst hk hx;simp[Instr.sameNow]
 ·obtain⟨a,b,rfl,rfl,rfl⟩:=e65 hu hq;simp only[VRel]at hk hx;obtain⟨t,rfl,rfl⟩:=hk;obtain⟨t',rfl,rfl⟩:=hx;simp only[Instr.sameNow,b7g]
theorem b9g{k:AV}{ck:Value}{d:TypeDesc}(hd:a74 d=true){kt:TypeId}(hu:E.und kt=some d)(hk:VRel I w ρ k ck):∀{ks:List AV} {es:List MapEntry} {i:Nat} {r:Option Nat},
 a2j (aeq E 6 kt) k ks i=some r→VRels I w ρ ks (es.map (·.key))→
 Instr.findNow d ck es i=some (r.map λj=>(j,((es[j-i]?).map (·.val)).getD undef))∧∀j,r=some j→i≤j∧j-i<es.length
 | [],es,i,r,hf,cQ=>by simp only[VRels,g1x]at cQ;subst cQ;simp only[a2j,Option.some.injEq]at hf;subst hf;exact⟨rfl,by simp⟩
 |x::ks,es,i,r,hf,cQ=>by
  cases es with
  |nil=>simp[VRels]at cQ
  |cons e es=>
   simp only[c10,VRels,List.cons.injEq]at cQ;obtain⟨c,cs,⟨rfl,rfl⟩,hx,cQ⟩:=cQ;simp only[a2j]at hf;split at hf
   case h_2=>cases hf
   rename_i q hq;have aj:=c8y hd hu hk hx hq;unfold Instr.findNow;rw[aj];cases q with
   |true=>simp only[f6g,Option.some.injEq]at hf;subst hf;exact⟨by simp,by simp⟩
   |false=>
    simp only[f7z]at hf;obtain⟨h1,h2⟩:=b9g hd hu hk (es:=es) hf cQ;dsimp only;rw[h1];refine⟨?_,λj hj=>?_⟩
    ·cases r with
     |none=>rfl
     |some j=>obtain⟨h3,h4⟩:=h2 j rfl;simp only[f5x];rw[show j-i=(j-(i+1))+1 by omega];simp
    ·obtain⟨h3,h4⟩:=h2 j hj;simp;omega
theorem b83{ck:Value}{fs:Array Field}:∀(es:List MapEntry) (i:Nat),Instr.findNow (.struct fs) ck es i=if es=[]then some none else none
 | [],i=>by simp[Instr.findNow]
 |e::es,i=>by simp[Instr.findNow,Instr.sameNow]
theorem b3k(ok:EnvOk E){kt:TypeId}(fT:c5v E kt=true){k:AV}{ck:Value}(hk:VRel I w ρ k ck){ks:List AV}{es:List MapEntry}{r:Option Nat}
 (hf:a2j (aeq E 6 kt) k ks 0=some r)(cQ:VRels I w ρ ks (es.map (·.key))) :
 (Instr.findKey kt ck es).run E.P w = .ok (r.map λj=>(j,((es[j]?).map (·.val)).getD undef)) w∧∀j,r=some j→j<es.length:=by
 unfold c5v at fT;split at fT
 ·rename_i fs hu;obtain⟨h1,h2⟩:=b26 ok hk hf cQ;refine⟨?_,λj hj=>(h2 j hj).2⟩;unfold Instr.findKey;simp only[Sem.run_bind,a0d ok w hu,Result.andThen_ok,b83];by_cases he:es=[]
  ·subst he;simp at cQ;have:ks=[]:=by cases ks with|nil=>rfl|cons a b=>simp[VRels]at cQ
   subst this;simp only[a2j,Option.some.injEq]at hf;subst hf;simp
  ·simp only[he,g0z];simpa using h1
 ·rename_i d _ hu;obtain⟨h1,h2⟩:=b9g fT hu hk hf cQ;refine⟨?_,λj hj=>(h2 j hj).2⟩;unfold Instr.findKey;simp only[Sem.run_bind,a0d ok w hu,Result.andThen_ok,h1];simp
 ·cases fT
theorem a4q(ok:EnvOk E){t:TypeId}{d:TypeDesc}(hd:a74 d=true)(hu:E.und t=some d)(b:Bool)(m:Nat)(c:Value):(Instr.checkKey b (m+1) t c).run E.P w = .ok () w:=by unfold Instr.checkKey;simp only[Sem.run_bind,a0d ok w hu,Result.andThen_ok];cases d<;>simp[a74]at hd<;>rfl
def b4y(E:Env):List Field→List AV→Bool
 | [],_=>true
 |f::fs,cs=>(a39 E f.type ((cs.drop f.offset).take (E.sz f.type))).isSome&&b4y E fs cs
def c3h(E:Env)(t:TypeId)(x:AV):Bool:=
 match E.und t,x with
 |some (.struct fs),.agg cs=>b4y E fs.toList cs
 |some (.struct _),_=>false
 |_,_=>true
theorem b7d(ok:EnvOk E){t:TypeId}(ht:c5v E t=true){x:AV}{c:Value}(hx:VRel I w ρ x c)(hv:c3h E t x=true)(b:Bool):(Instr.checkKey b 10000 t c).run E.P w = .ok () w:=by
 unfold c5v at ht;split at ht
 ·rename_i fs hu;simp only[d14]at ht;unfold c3h at hv;rw[hu]at hv;cases x<;>simp at hv;rename_i cs;simp only[VRel]at hx;obtain⟨cv,rfl,hc⟩:=hx;obtain⟨_,_,_,g9⟩:=ok.eqok t ht.1;unfold Instr.checkKey;simp only[Sem.run_bind,a0d ok w hu,Result.andThen_ok];have key:∀(l:List Field),(∀f∈l,f∈fs.toList)→b4y E l cs=true→
   (forIn l () (λf _=>if f.name≠ "_" then do
    Instr.checkKey b 9999 f.type (←part f.type cv f.offset)
    pure (ForInStep.yield ())
    else pure (ForInStep.yield ()):Field→Unit→Sem (ForInStep Unit))).run E.P w = .ok () w:=by
   intro l
   induction l with
   |nil=>intro _ _;simp
   |cons f l ih=>
    intro hm hp;simp only[b4y,d14]at hp;obtain⟨v,hv⟩:=f4k.1 hp.1;obtain⟨cc,h1,_⟩:=b0g ok hv hc;have hf:=hm f (by simp);have om:=f8c.1 ht.2 f hf;split at om
    case h_2=>cases om
    rename_i d hd;have jK:=g9 fs hu f hf;rw[List.forIn_cons];simp only[ne_eq,jK,not_false_eq_true,f9q,Sem.run_bind,h1,Result.andThen_ok,a4q ok om hd,Sem.run_pure];exact ih (λg hg=>hm g (by simp[hg])) hp.2
  rw[←Array.forIn_toList];exact(congrArg (λr=>Result.andThen r (λ_ w'=>(pure ():Sem Unit).run E.P w')) (key fs.toList (λ_ h=>h) hv)).trans rfl
 ·rename_i d _ hu;exact a4q ok ht hu b 9999 c
 ·cases ht
def b0r(h:FHeap):AV→Option (List AV×List AV)
 |.nilmap=>some ([],[])
 |.imap ks vs _ _=>some (ks,vs)
 |.map b=>match h b with
  |some (.map ks vs _ _)=>some (ks,vs)
  |_=>none
 |_=>none
def a2f(E:Env)(h:FHeap)(t:TypeId)(x k:AV)(ok:Bool):Option AV:=
 match E.und t with
 |some (.map kt et)=>bif c5v E kt&&c3h E kt k then
  match b0r h x,E.zero et,E.und et with
  |some (ks,vs),some z,some d=>match a2j (aeq E 6 kt) k ks 0 with
   |some (some i)=>match vs[i]? with
    |some v=>some (bif ok then .tuple [v,.bool true]else v)
    |none=>none
   |some none=>bif a2q d then some (bif ok then .tuple [.agg z,.bool false]else .agg z)else
    match z with
    | [v]=>some (bif ok then .tuple [v,.bool false]else v)
    |_=>none
   |none=>none
  |_,_,_=>none
  else none
 |_=>none
theorem d5m(r:HRel E.G I K ρ h w){x:AV}{ks vs:List AV}{c:Value}(ha:b0r h x=some (ks,vs))(hx:VRel I w ρ x c) :
 (c = .map none∧ks=[]∧vs=[])∨∃b es cl,c = .map (some b)∧w.heap[b]?=some (.map es cl)∧VRels I w ρ ks (es.toList.map (·.key))∧VRels I w ρ vs (es.toList.map (·.val)):=by
 unfold b0r at ha;split at ha
 ·cases ha;simp only[VRel]at hx;exact .inl ⟨hx,rfl,rfl⟩
 ·cases ha;simp only[VRel]at hx;obtain⟨b,es,rfl,_,he,h1,h2,_⟩:=hx;exact .inr ⟨b,es,_,rfl,he,VRels.noRef_any h1,VRels.noRef_any h2⟩
 ·rename_i b;split at ha
  case h_2=>cases ha
  rename_i ku eE bs cl hb;cases ha;simp only[VRel]at hx;obtain⟨m,hm,rfl⟩:=hx;obtain⟨m',bA,_,_,ho⟩:=r.live b _ hb;obtain rfl:m=m':=z9o (hm.symm.trans bA);obtain⟨es,he,h1,h2,_⟩:=ho;exact .inr ⟨m.blk,es,cl,rfl,he,h1,h2⟩
 ·cases ha
theorem b9x(ok:EnvOk E){t:TypeId}{d:TypeDesc}{z:List AV}{zv:Value}(hd:E.und t=some d)(hz:E.zero t=some z)(eZ:(zeroValue t).run E.P w = .ok zv w) :
 (a2q d=true→∃a,zv = .agg a)∧(a2q d=false→zv.cells = #[zv]):=by
 obtain⟨_,i,z',hi,e5,_⟩:=ok.zero t z hz;have:zv=z':=by simp[zeroValue,typeInfo,hi,e5]at eZ;exact eZ.symm
 subst this;exact ok.zshape t d i zv hd hi e5
theorem d0o(ok:EnvOk E)(r:HRel E.G I K ρ h w){t:TypeId}{x k v:AV}{c ck:Value}{b:Bool}(hv:a2f E h t x k b=some v)(hx:VRel I w ρ x c)(hk:VRel I w ρ k ck) :
 Val E I K ρ h n w (Instr.lookup t c ck b) v .none:=by
 unfold a2f at hv;split at hv
 case h_2=>cases hv
 rename_i kt et hu;rw[cond_eq_ite]at hv;split at hv
 case isFalse=>cases hv
 rename_i cA;simp only[d14]at cA;split at hv
 case h_2=>cases hv
 rename_i ks vs z d hm hz hd;obtain⟨zv,eZ,_,bP⟩:=a8l ok w hz;have eF:VRels I w ρ z zv.cells.toList:=VRels.noRef_any (bP I w);have kq:∃es:List MapEntry,((c = .map none∧es=[])∨∃b cl,c = .map (some b)∧w.heap[b]?=some (.map es.toArray cl))∧VRels I w ρ ks (es.map (·.key))∧VRels I w ρ vs (es.map (·.val)):=by
  rcases d5m r hm hx with ⟨rfl,rfl,rfl⟩|⟨b,es,cl,rfl,he,h1,h2⟩
  ·exact⟨[],.inl ⟨rfl,rfl⟩,by simp[VRels],by simp[VRels]⟩
  ·exact⟨es.toList,.inr ⟨b,cl,rfl,by simpa using he⟩,h1,h2⟩
 obtain⟨es,ae,cQ,fF⟩:=kq;cases hf:a2j (aeq E 6 kt) k ks 0 with
 |none=>simp[hf]at hv
 |some ri=>
  obtain⟨eC,ah⟩:=b3k ok cA.1 hk hf cQ;have bZ:=b7d ok cA.1 hk cA.2 es.toArray.isEmpty;simp only[hf]at hv;cases ri with
  |some i=>
   simp only at hv;cases ke:vs[i]? with
   |none=>simp[ke]at hv
   |some v0=>
    simp only[ke,Option.some.injEq]at hv;obtain⟨cv,a7,mZ⟩:=VRels.get i fF ke;have cW:((es[i]?).map (·.val)).getD undef=cv:=by rw[f4q]at a7;rw[a7];rfl
    refine Val.here (c:=if b then .tuple #[cv,.bool true]else cv) r ?_ ?_
    ·rcases ae with ⟨rfl,rfl⟩|⟨b',cl,rfl,he⟩
     ·simp at a7
     ·simp only[Instr.lookup,Sem.run_bind,a0d ok w hu,Result.andThen_ok,getObj,Sem.run,he,Sem.run_pure,bZ,eC,f5x,cW]
    ·subst hv;cases b
     ·exact mZ
     ·simp only[f6g,f9q,VRel];exact⟨_,rfl,by simp only[VRels];exact⟨_,_,rfl,mZ,_,_,rfl,by simp[VRel],rfl⟩⟩
  |none=>
   simp only at hv;have oC:(Instr.lookup t c ck b).run E.P w = .ok (if b then .tuple #[zv,.bool false]else zv) w:=by
    rcases ae with ⟨rfl,rfl⟩|⟨b',cl,rfl,he⟩
    ·simp only[Instr.lookup,Sem.run_bind,a0d ok w hu,Result.andThen_ok,Sem.run_pure,bZ,eC,Option.map_none,eZ]
    ·simp only[Instr.lookup,Sem.run_bind,a0d ok w hu,Result.andThen_ok,getObj,Sem.run,he,Sem.run_pure,bZ,eC,Option.map_none,eZ]
   have fin:∀v0,VRel I w ρ v0 zv→(bif b then AV.tuple [v0,.bool false]else v0)=v→Val E I K ρ h n w (Instr.lookup t c ck b) v .none:=by
    intro v0 h0 nX;refine Val.here r oC ?_;subst nX;cases b
    ·exact h0
    ·simp only[f6g,f9q,VRel];exact⟨_,rfl,by simp only[VRels];exact⟨_,_,rfl,h0,_,_,rfl,by simp[VRel],rfl⟩⟩
   rw[cond_eq_ite]at hv;split at hv
   ·rename_i d5;obtain⟨a,rfl⟩:=(b9x ok hd hz eZ).1 d5;simp only[Option.some.injEq]at hv;exact fin (.agg z) (by simp only[VRel];exact⟨a,rfl,eF⟩) hv
   ·rename_i d5;split at hv
    case h_2=>cases hv
    rename_i v0 _;simp only[Option.some.injEq]at hv;have hc:=(b9x ok hd hz eZ).2 (by simpa using d5);rw[hc]at eF;simp only[VRels]at eF;obtain⟨c0,qb,he,h0,_⟩:=eF;simp only[List.cons.injEq]at he;exact fin v0 (by rw[he.1];exact h0) hv
end
end Go.Ax
/- AxMap2: maps that are b9y. -/
namespace Go.Ax
section
variable {E:Env}{I K:Nat→Prop}{ρ:PMap}{h:FHeap}{n:Nat}{w:World}
def a9d(E:Env)(h:FHeap)(t:TypeId)(m k:AV):Option (Nat×List AV×List AV×List Nat×Nat×Option Nat):=
 match E.und t,m with
 |some (.map kt _),.map b=>bif c5v E kt&&c3h E kt k then
  match h b with
  |some (.map ks vs bs cl)=>match a2j (aeq E 6 kt) k ks 0 with
   |some (some i)=>match ks[i]? with
    |some k0=>bif c4l k0 k then some (b,ks,vs,bs,cl,some i)else none
    |none=>none
   |some none=>some (b,ks,vs,bs,cl,none)
   |none=>none
  |_=>none
  else none
 |_,_=>none
def a16(E:Env)(h:FHeap)(t:TypeId)(m k v:AV):Option Eff:=
 match a9d E h t m k with
 |some (b,ks,vs,bs,cl,some i)=>some (.set b (.map ks (vs.set i v) bs cl))
 |some (b,ks,vs,bs,cl,none)=>some (.set b (.map (ks++[k]) (vs++[v]) (bs++[cl]) (cl+1)))
 |none=>none
theorem a5v{ks:List AV}{es:Array MapEntry}(i:Nat)(f:MapEntry→MapEntry)(hf:∀e,es[i]?=some e→(f e).key=e.key)(hk:VRels I w ρ ks (es.toList.map (·.key))) :
 VRels I w ρ ks ((es.modify i f).toList.map (·.key)):=by
 have:(es.modify i f).toList.map (·.key)=es.toList.map (·.key):=by
  apply f8l;intro j;simp only[f4q,g0k,Array.getElem?_modify];split
  ·rename_i hj;subst hj;cases he:es[i]? with
   |none=>simp
   |some e=>simp[hf e he]
  ·rfl
 rw[this];exact hk
theorem a82{vs:List AV}{v:AV}{c:Value}{es:Array MapEntry}(i:Nat)(f:MapEntry→MapEntry)(hf:∀e,(f e).val=c)(hv:VRel I w ρ v c)(hk:VRels I w ρ vs (es.toList.map (·.val))) :
 VRels I w ρ (vs.set i v) ((es.modify i f).toList.map (·.val)):=by
 have:(es.modify i f).toList.map (·.val)=(es.toList.map (·.val)).set i c:=by
  apply f8l;intro j;simp only[f4q,g0k,Array.getElem?_modify,f6k,f4j,f8d];split
  ·rename_i hj;subst hj;split
   ·rename_i ah;simp[ah,hf]
   ·rename_i ah;simp[Array.getElem?_eq_none (f6o ah)]
  ·rfl
 rw[this];exact VRels.set i hk hv
theorem b06{es:Array MapEntry}(i:Nat)(f:MapEntry→MapEntry)(hf:∀e,(f e).born=e.born):(es.modify i f).toList.map (·.born)=es.toList.map (·.born):=by
 apply f8l;intro j;simp only[f4q,g0k,Array.getElem?_modify];split
 ·rename_i hj;subst hj;cases es[i]?<;>simp[hf]
 ·rfl
theorem a49{b:Nat}{es:Array MapEntry}{cl:Nat}(o:Obj)(he:w.heap[b]?=some (.map es cl)):(setObj b o).run E.P w = .ok () { w with heap:=w.heap.setIfInBounds b o }:=by simp[setObj,Sem.run,he]
theorem a6z(r:HRel E.G I K ρ h w){b:Nat}{m:Pl}{o0:AObj}(hb:h b=some o0)(hm:ρ b=some m){es dm:Array MapEntry}{cl gR:Nat}(he:w.heap[m.blk]?=some (.map es cl))
 {ks vs:List AV}{bs:List Nat}(hk:VRels I w ρ ks (dm.toList.map (·.key)))(hv:VRels I w ρ vs (dm.toList.map (·.val)))(rG:dm.toList.map (·.born)=bs) :
 Stepped E.G I K ρ w I ρ (h.eff n (.set b (.map ks vs bs gR))) { w with heap:=w.heap.setIfInBounds m.blk (.map dm gR) }:=by
 have ah:m.blk<w.heap.size:=(f8m.1 he).1;obtain⟨m',bA,dL,_,_⟩:=r.live b _ hb;obtain rfl:m=m':=z9o (hm.symm.trans bA);have cf:∀c,c≠m.blk→({ w with heap:=w.heap.setIfInBounds m.blk (.map dm gR) }:World).heap[c]?=w.heap[c]?:=by intro c hc;show(w.heap.setIfInBounds _ _)[c]?=_;rw[f9d,f4n (λh=>hc h.symm)]
 have cJ:∀c,I c→({ w with heap:=w.heap.setIfInBounds m.blk (.map dm gR) }:World).heap[c]?=w.heap[c]?:=λc hc=>cf c (λe=>dL (e▸hc));refine a2n r hb hm (by simp) cf rfl rfl rfl ?_;refine⟨dm,?_,VRels.mono (λ_ h=>h) cJ ks (λ_ _ h=>h) hk,VRels.mono (λ_ h=>h) cJ vs (λ_ _ h=>h) hv,rG⟩;show(w.heap.setIfInBounds _ _)[_]?=_;rw[f9d,f6e rfl,f6e ah]
theorem b2g(ok:EnvOk E)(r:HRel E.G I K ρ h w){t:TypeId}{m k:AV}{c ck:Value}{b cl:Nat}{ks vs:List AV}{bs:List Nat}{oi:Option Nat}
 (hp:a9d E h t m k=some (b,ks,vs,bs,cl,oi))(hm:VRel I w ρ m c)(hk:VRel I w ρ k ck) :
 ∃(pl:Pl) (es:Array MapEntry) (kt et:TypeId),c = .map (some pl.blk)∧h b=some (.map ks vs bs cl)∧ρ b=some pl∧w.heap[pl.blk]?=some (.map es cl)∧
  VRels I w ρ ks (es.toList.map (·.key))∧VRels I w ρ vs (es.toList.map (·.val))∧es.toList.map (·.born)=bs∧(underlying t).run E.P w = .ok (.map kt et) w∧E.und t=some (.map kt et)∧
  (Instr.checkKey false 10000 kt ck).run E.P w = .ok () w∧
  (Instr.findKey kt ck es.toList).run E.P w = .ok (oi.map λj=>(j,((es.toList[j]?).map (·.val)).getD undef)) w∧
  (∀i,oi=some i→∃e,es[i]?=some e∧e.key=ck∧Instr.sameBits 10000 e.key ck=true):=by
 unfold a9d at hp;split at hp
 case h_2=>cases hp
 rename_i kt et b' hu;rw[cond_eq_ite]at hp;split at hp
 case isFalse=>cases hp
 rename_i cA;simp only[d14]at cA;split at hp
 case h_2=>cases hp
 rename_i ku eE wL gR hb;simp only[VRel]at hm;obtain⟨pl,bV,rfl⟩:=hm;obtain⟨m',bA,_,_,ho⟩:=r.live b' _ hb;obtain rfl:pl=m':=z9o (bV.symm.trans bA);obtain⟨es,he,h1,h2,h3⟩:=ho;have bZ:=b7d (w:=w) ok cA.1 hk cA.2 false;split at hp
 ·rename_i i hf;split at hp
  case h_2=>cases hp
  rename_i k0 hk0;rw[cond_eq_ite]at hp;split at hp
  case isFalse=>cases hp
  rename_i hs;cases hp;obtain⟨eC,ah⟩:=b3k ok cA.1 hk hf h1;obtain⟨cv,a7,mZ⟩:=VRels.get i h1 hk0;obtain⟨dy,l9⟩:=d9s hs mZ hk;rw[f4q]at a7;cases jn:es.toList[i]? with
  |none=>rw[jn]at a7;cases a7
  |some e=>rw[jn]at a7;simp only[f5x,Option.some.injEq]at a7;refine⟨pl,es,kt,et,rfl,hb,bV,he,h1,h2,h3,a0d ok w hu,hu,bZ,eC,?_⟩;intro i' i5;cases i5;exact⟨e,by simpa using jn,by rw[a7];exact dy,by rw[a7];exact l9⟩
 ·rename_i hf;cases hp;obtain⟨eC,ah⟩:=b3k ok cA.1 hk hf h1;exact⟨pl,es,kt,et,rfl,hb,bV,he,h1,h2,h3,a0d ok w hu,hu,bZ,eC,λi hi=>by cases hi⟩
 ·cases hp
theorem b2j(ok:EnvOk E)(r:HRel E.G I K ρ h w){t:TypeId}{m k v:AV}{c ck cv:Value}{e:Eff}(hu:a16 E h t m k v=some e)(hm:VRel I w ρ m c)(hk:VRel I w ρ k ck)(hv:VRel I w ρ v cv) :
 f0i E I K ρ h n w (Instr.mapUpdate t c ck cv) e:=by
 unfold a16 at hu;split at hu
 ·rename_i b ks vs bs cl i hp;cases hu;obtain⟨pl,es,kt,et,rfl,hb,bV,he,h1,h2,h3,fH,_,bZ,eC,hi⟩:=b2g ok r hp hm hk;obtain⟨e,jn,rv,l9⟩:=hi i rfl;refine⟨_,ρ,?_,a6z (dm:=es.modify i λe=>{ e with key:=ck,val:=cv }) r hb bV he ?_ ?_ ?_,Moves.same _ _ _⟩
  ·have:((es[i]?).map (·.key)).getD ck=e.key:=by simp[jn]
   simp only[Instr.mapUpdate,Sem.run_bind,fH,Result.andThen_ok,getObj,Sem.run,he,bZ,eC,f5x,this,Instr.keyThatStays,l9,f9q,Sem.run_pure,a49 _ he]
  ·exact a5v i _ (λe' fc=>by rw[jn]at fc;cases fc;exact rv.symm) h1
  ·exact a82 i _ (λ_=>rfl) hv h2
  ·exact(b06 (es:=es) i (λe=>{ e with key:=ck,val:=cv }) (λ_=>rfl)).trans h3
 ·rename_i b ks vs bs cl hp;cases hu;obtain⟨pl,es,kt,et,rfl,hb,bV,he,h1,h2,h3,fH,_,bZ,eC,_⟩:=b2g ok r hp hm hk;refine⟨_,ρ,?_,a6z (dm:=es.push { key:=ck,val:=cv,born:=cl }) (gR:=cl+1) r hb bV he ?_ ?_ ?_,Moves.same _ _ _⟩
  ·simp only[Instr.mapUpdate,Sem.run_bind,fH,Result.andThen_ok,getObj,Sem.run,he,bZ,eC,Option.map_none,a49 _ he]
  ·simp only[g0x,f6c,c10,f4h];exact VRels.append h1 (by simp only[VRels];exact⟨_,_,rfl,hk,rfl⟩)
  ·simp only[g0x,f6c,c10,f4h];exact VRels.append h2 (by simp only[VRels];exact⟨_,_,rfl,hv,rfl⟩)
  ·simp[h3]
 ·cases hu
def a7y(d:TypeDesc)(z:List AV):Option AV:=bif a2q d then some (.agg z)else match z with|[v]=>some v|_=>none
def a45(E:Env)(h:FHeap)(t:TypeId)(m k:AV):Option (AV×Eff):=
 match a9d E h t m k with
 |some (b,ks,vs,bs,cl,some i)=>match vs[i]?,bs[i]? with
  |some v,some s=>some (.tuple [v,.int .i64 s],.set b (.map ks vs bs cl))
  |_,_=>none
 |some (b,ks,vs,bs,cl,none)=>match E.und t with
  |some (.map _ et)=>match E.zero et,E.und et with
   |some z,some d=>match a7y d z with
    |some v=>some (.tuple [v,.int .i64 cl],.set b (.map (ks++[k]) (vs++[v]) (bs++[cl]) (cl+1)))
    |none=>none
   |_,_=>none
  |_=>none
 |none=>none
theorem d68(ok:EnvOk E){t:TypeId}{d:TypeDesc}{z:List AV}{v:AV}(hd:E.und t=some d)(hz:E.zero t=some z)
 (hv:a7y d z=some v):∃zv,(∀w',(zeroValue t).run E.P w' = .ok zv w')∧∀I w' ρ,VRel I w' ρ v zv:=by
 obtain⟨_,i,z',hi,e5,_,bP⟩:=ok.zero t z hz;have ae:∀w',(zeroValue t).run E.P w' = .ok z' w':=λw'=>by simp[zeroValue,typeInfo,hi,e5]
 obtain⟨s1,s2⟩:=ok.zshape t d i z' hd hi e5;refine⟨z',ae,λI w' ρ=>?_⟩;have eF:VRels I w' ρ z z'.cells.toList:=VRels.noRef_any (bP I w');unfold a7y at hv;rw[cond_eq_ite]at hv;split at hv
 ·rename_i d5;obtain⟨a,rfl⟩:=s1 d5;simp only[Option.some.injEq]at hv;subst hv;simp only[VRel];exact⟨a,rfl,eF⟩
 ·rename_i d5;split at hv
  case h_2=>cases hv
  cases hv;rw[s2 (by simpa using d5)]at eF;simp only[VRels]at eF;obtain⟨c0,qb,he,h0,_⟩:=eF;simp only[List.cons.injEq]at he;rw[he.1];exact h0
theorem c4p(ok:EnvOk E)(r:HRel E.G I K ρ h w){t:TypeId}{m k v:AV}{c ck:Value}{e:Eff}(hu:a45 E h t m k=some (v,e))(hm:VRel I w ρ m c)(hk:VRel I w ρ k ck) :
 Val E I K ρ h n w (Instr.mapEntry t c ck) v e:=by
 unfold a45 at hu;split at hu
 ·rename_i b ks vs bs cl i hp;split at hu
  case h_2=>cases hu
  rename_i v0 s nX hs;cases hu;obtain⟨pl,es,kt,et,rfl,hb,bV,he,h1,h2,h3,fH,_,bZ,eC,hi⟩:=b2g ok r hp hm hk;obtain⟨e,jn,rv,l9⟩:=hi i rfl;obtain⟨cv,a7,mZ⟩:=VRels.get i h2 nX;have az:(es.toList.map (·.born))[i]?=some s:=by rw[h3];exact hs
  rw[f4q]at a7 az;have rx:es.toList[i]?=some e:=by simpa using jn
  rw[rx]at a7 az;simp only[f5x,Option.some.injEq]at a7 az;have step:=a6z (n:=n) (dm:=es.modify i λe=>{ e with key:=ck }) (gR:=cl) r hb bV he (a5v i _ (λe' fc=>by rw[jn]at fc;cases fc;exact rv.symm) h1)
   (show VRels I w ρ vs _ by
    have:(es.modify i λe=>{ e with key:=ck }).toList.map (·.val)=es.toList.map (·.val):=by
     apply f8l;intro j;simp only[f4q,g0k,Array.getElem?_modify];split
     ·rename_i hj;subst hj;cases es[i]?<;>simp
     ·rfl
    rw[this];exact h2) ((b06 (es:=es) i (λe=>{ e with key:=ck }) (λ_=>rfl)).trans h3)
  refine⟨.tuple #[cv,goInt s],_,ρ,?_,step,?_,Moves.same _ _ _⟩
  ·have h5:((es[i]?).map (·.key)).getD ck=e.key:=by simp[jn]
   have h6:((es[i]?).map (λx=>(x.born:Int))).getD 0=s:=by simp[jn,az]
   have h7:((es.toList[i]?).map (·.val)).getD undef=cv:=by simp[jn,a7]
   simp only[Instr.mapEntry,Sem.run_bind,fH,Result.andThen_ok,getObj,Sem.run,he,bZ,eC,f5x,h5,h6,h7,Instr.keyThatStays,l9,f9q,Sem.run_pure,a49 _ he]
  ·refine step.vrel ?_;simp only[VRel];exact⟨_,rfl,by simp only[VRels];exact⟨_,_,rfl,mZ,_,_,rfl,by simp[VRel,goInt],rfl⟩⟩
 ·rename_i b ks vs bs cl hp;split at hu
  case h_2=>cases hu
  rename_i wc et nY;split at hu
  case h_2=>cases hu
  rename_i z d hz hd;split at hu
  case h_2=>cases hu
  rename_i v0 nX;cases hu;obtain⟨pl,es,kt,wF,rfl,hb,bV,he,h1,h2,h3,fH,jz,bZ,eC,_⟩:=b2g ok r hp hm hk;rw[nY]at jz;simp only[Option.some.injEq,TypeDesc.map.injEq]at jz;obtain⟨rfl,rfl⟩:=jz;obtain⟨zv,eZ,eF⟩:=d68 ok hd hz nX;have step:=a6z (n:=n) (dm:=es.push { key:=ck,val:=zv,born:=cl }) (gR:=cl+1) (ks:=ks++[k]) (vs:=vs++[v0]) (bs:=bs++[cl]) r hb bV he
   (by simp only[g0x,f6c,c10,f4h];exact VRels.append h1 (by simp only[VRels];exact⟨_,_,rfl,hk,rfl⟩))
   (by simp only[g0x,f6c,c10,f4h];exact VRels.append h2 (by simp only[VRels];exact⟨_,_,rfl,eF _ _ _,rfl⟩)) (by simp[h3])
  refine⟨.tuple #[zv,goInt cl],_,ρ,?_,step,?_,Moves.same _ _ _⟩
  ·simp only[Instr.mapEntry,Sem.run_bind,fH,Result.andThen_ok,getObj,Sem.run,he,bZ,eC,Option.map_none,eZ,a49 _ he,Sem.run_pure]
  ·simp only[VRel];exact⟨_,rfl,by simp only[VRels];exact⟨_,_,rfl,eF _ _ _,_,_,rfl,by simp[VRel,goInt],rfl⟩⟩
 ·cases hu
def a2o(h:FHeap)(m s v:AV):Option Eff:=
 match m,s with
 |.map b,.int _ i=>match h b with
  |some (.map ks vs bs cl)=>match bs.findIdx? (λ(x:Nat)=>(x:Int)==i)with
   |some j=>some (.set b (.map ks (vs.set j v) bs cl))
   |none=>none
  |_=>none
 |_,_=>none
theorem b85(r:HRel E.G I K ρ h w){t:TypeId}{m s v:AV}{c cs cv:Value}{e:Eff}(hu:a2o h m s v=some e)(hm:VRel I w ρ m c)(hs:VRel I w ρ s cs)(hv:VRel I w ρ v cv) :
 f0i E I K ρ h n w (Instr.entryStore t c cs cv) e:=by
 unfold a2o at hu;split at hu
 case h_2=>cases hu
 rename_i b kk i;split at hu
 case h_2=>cases hu
 rename_i ks vs bs cl hb;split at hu
 case h_2=>cases hu
 rename_i j hj;cases hu;simp only[VRel]at hm hs;obtain⟨pl,bV,rfl⟩:=hm;subst hs;obtain⟨m',bA,_,_,ho⟩:=r.live b _ hb;obtain rfl:pl=m':=z9o (bV.symm.trans bA);obtain⟨es,he,h1,h2,h3⟩:=ho;have iF:es.findIdx? (λe=>(e.born:Int)==i)=some j:=by rw[←h3,List.findIdx?_map]at hj;rw[show es.findIdx? (λe=>(e.born:Int)==i)=es.toList.findIdx? (λe=>(e.born:Int)==i) by cases es;simp];exact hj
 refine⟨_,ρ,?_,a6z (dm:=es.modify j λe=>{ e with val:=cv }) r hb bV he ?_ ?_ ?_,Moves.same _ _ _⟩
 ·simp only[Instr.entryStore,Sem.run_bind,getObj,Sem.run,he,Result.andThen_ok,asInt,asIntOf,Sem.run_pure,iF,a49 _ he]
 ·exact a5v j _ (λ_ _=>rfl) h1
 ·exact a82 j _ (λ_=>rfl) hv h2
 ·exact(b06 (es:=es) j (λe=>{ e with val:=cv }) (λ_=>rfl)).trans h3
end
end Go.Ax
/- AxSet: sets of numbers: lookup, update, delete, ranging. -/
namespace Go.Ax
section
variable {E:Env}{I K:Nat→Prop}{ρ:PMap}{h:FHeap}{n:Nat}{w:World}
def oor{α:Type}(a b:Option α):Option α:=match a with
 |some x=>some x
 |none=>b
theorem b12{α:Type}{a b:Option α}{x:α}(h:oor a b=some x):a=some x∨b=some x:=by
 cases a with
 |none=>exact .inr h
 |some y=>exact .inl h
def e96:Option TypeDesc→Bool
 |some (.int .i64)=>true
 |_=>false
def d3k:Option TypeDesc→Bool
 |some .bool=>true
 |_=>false
def c7j:Option (List AV)→Bool
 |some [.bool b]=>!b
 |_=>false
def a9f(E:Env)(t:TypeId):Bool:=match E.und t with
 |some (.map kt et)=>e96 (E.und kt)&&(d3k (E.und et)&&c7j (E.zero et))
 |_=>false
theorem b58{t:TypeId}(hu:a9f E t=true):∃kt et,E.und t=some (.map kt et)∧E.und kt=some (.int .i64)∧E.und et=some .bool∧E.zero et=some [.bool false]:=by
 unfold a9f at hu;split at hu
 case h_2=>cases hu
 rename_i kt et he;simp only[d14]at hu;obtain⟨h1,h2,h3⟩:=hu;refine⟨kt,et,he,?_,?_,?_⟩
 ·unfold e96 at h1;split at h1
  ·assumption
  ·cases h1
 ·unfold d3k at h2;split at h2
  ·assumption
  ·cases h2
 ·unfold c7j at h3;split at h3
  ·rename_i b hb;cases b
   ·exact hb
   ·cases h3
  ·cases h3
section
variable {ks:List Int}{es:Array MapEntry}{cl:Nat}
theorem USet.key(hs:USet ks es cl){e:MapEntry}(he:e∈es.toList):∃y∈ks,e.key = .int .i64 y:=by have h1:=hs.1.mem_iff.1 (f9w (f:=(·.key)) he);obtain⟨y,hy,h2⟩:=g01.1 h1;exact⟨y,hy,h2.symm⟩
theorem USet.has(hs:USet ks es cl){x:Int}(hx:x∈ks):∃e∈es.toList,e.key = .int .i64 x:=by have h1:=hs.1.mem_iff.2 (f9w (f:=Value.int .i64) hx);obtain⟨e,he,h2⟩:=g01.1 h1;exact⟨e,he,h2⟩
theorem c17{a b:Int}(h:Value.int .i64 a=Value.int .i64 b):a=b:=by cases h;rfl
theorem USet.keys_nodup(hs:USet ks es cl):(es.toList.map (·.key)).Nodup:=by rw[hs.1.nodup_iff];exact List.Pairwise.map _ (λa b bu e=>bu (c17 e)) hs.2.2.1
theorem b6x(x:Int):∀(es:List MapEntry) (i:Nat),(∀e∈es,∃y,e.key = .int .i64 y)→
 (∃j e,es[j]?=some e∧e.key = .int .i64 x∧Instr.findNow (.int .i64) (.int .i64 x) es i=some (some (i+j,e.val)))∨
  ((∀e∈es,e.key≠ .int .i64 x)∧Instr.findNow (.int .i64) (.int .i64 x) es i=some none)
 | [],i,_=>.inr ⟨by simp,rfl⟩
 |e::es,i,h=>by
  obtain⟨y,hy⟩:=h e (by simp);by_cases qw:x=y
  ·subst qw;exact .inl ⟨0,e,rfl,hy,by simp[Instr.findNow,Instr.sameNow,hy]⟩
  ·have e1:Instr.findNow (.int .i64) (.int .i64 x) (e::es) i=Instr.findNow (.int .i64) (.int .i64 x) es (i+1):=by
    have hb:(x==y)=false:=by simpa using qw
    simp[Instr.findNow,Instr.sameNow,hy,hb]
   rcases b6x x es (i+1) (λe he=>h e (by simp[he]))with ⟨j,e',h1,h2,h3⟩|⟨h1,h2⟩
   ·exact .inl ⟨j+1,e',by simpa using h1,h2,by rw[e1,h3,show i+1+j=i+(j+1) by omega]⟩
   ·refine .inr ⟨?_,by rw[e1,h2]⟩;intro e' fc;rcases f6m.1 fc with rfl|fc
    ·rw[hy];exact λe=>qw (c17 e).symm
    ·exact h1 e' fc
theorem c06(ok:EnvOk E){kt:TypeId}(hk:E.und kt=some (.int .i64))(hs:USet ks es cl)(x:Int) :
 (∃j e,es[j]?=some e∧e.key = .int .i64 x∧x∈ks∧(Instr.findKey kt (.int .i64 x) es.toList).run E.P w = .ok (some (j,.bool true)) w)∨
  (x∉ks∧(Instr.findKey kt (.int .i64 x) es.toList).run E.P w = .ok none w):=by
 rcases b6x x es.toList 0 (λe he=>by obtain⟨y,_,h⟩:=hs.key he;exact⟨y,h⟩)with ⟨j,e,h1,h2,h3⟩|⟨h1,h2⟩
 ·refine .inl ⟨j,e,by simpa using h1,h2,?_,?_⟩
  ·obtain⟨y,hy,h4⟩:=hs.key (c11 h1);rw[h2]at h4;rw[c17 h4];exact hy
  ·unfold Instr.findKey;simp only[Sem.run_bind,a0d ok w hk,Result.andThen_ok,h3,f8j,hs.2.1 e (c11 h1),Sem.run_pure]
 ·refine .inr ⟨λhx=>?_,?_⟩
  ·obtain⟨e,he,h3⟩:=hs.has hx;exact h1 e he h3
  ·unfold Instr.findKey;simp only[Sem.run_bind,a0d ok w hk,Result.andThen_ok,h2,Sem.run_pure]
end
def b59(h:FHeap):AV→Option (List Int)
 |.iset ks=>some ks
 |.map b=>match h b with
  |some (.uset ks)=>some ks
  |_=>none
 |_=>none
theorem d1a(r:HRel E.G I K ρ h w){x:AV}{ks:List Int}{c:Value}(hu:b59 h x=some ks)(hx:VRel I w ρ x c) :
 ∃b es cl,c = .map (some b)∧w.heap[b]?=some (.map es cl)∧USet ks es cl:=by
 unfold b59 at hu;split at hu
 ·cases hu;simp only[VRel]at hx;obtain⟨b,es,cl,rfl,_,he,hs⟩:=hx;exact⟨b,es,cl,rfl,he,hs⟩
 ·rename_i b;split at hu
  case h_2=>cases hu
  rename_i ku hb;cases hu;simp only[VRel]at hx;obtain⟨m,hm,rfl⟩:=hx;obtain⟨m',bA,_,_,es,cl,he,hs⟩:=r.live b _ hb;obtain rfl:m=m':=z9o (hm.symm.trans bA);exact⟨m.blk,es,cl,rfl,he,hs⟩
 ·cases hu
/-! ### lookup -/
def b2k(E:Env)(h:FHeap)(t:TypeId)(x k:AV)(ok:Bool):Option AV:=match b59 h x,k with
 |some ks,.int .i64 i=>bif a9f E t then some (bif ok then .tuple [.bool (ks.contains i),.bool (ks.contains i)]else .bool (ks.contains i))else none
 |_,_=>none
theorem d5n(ok:EnvOk E)(r:HRel E.G I K ρ h w){t:TypeId}{x k v:AV}{c ck:Value}{b:Bool}(hv:b2k E h t x k b=some v)(hx:VRel I w ρ x c)(hk:VRel I w ρ k ck) :
 Val E I K ρ h n w (Instr.lookup t c ck b) v .none:=by
 unfold b2k at hv;split at hv
 case h_2=>cases hv
 rename_i ks i hu;rw[cond_eq_ite]at hv;split at hv
 case isFalse=>cases hv
 rename_i ht;obtain⟨kt,et,h1,h2,h3,h4⟩:=b58 ht;obtain⟨bb,es,cl,rfl,he,hs⟩:=d1a r hu hx;simp only[VRel]at hk;subst hk;have bZ:=a4q (w:=w) ok (d:=.int .i64) rfl h2 es.isEmpty 9999 (.int .i64 i);have fin:∀q:Bool,(Instr.lookup t (.map (some bb)) (.int .i64 i) b).run E.P w = .ok (if b then .tuple #[.bool q,.bool q]else .bool q) w→ks.contains i=q→Val E I K ρ h n w (Instr.lookup t (.map (some bb)) (.int .i64 i) b) v .none:=by
  intro q ae hq;rw[hq]at hv;refine Val.here r ae ?_;cases b
  ·simp only[f7z,Option.some.injEq]at hv;subst hv;simp[VRel]
  ·simp only[f6g,Option.some.injEq]at hv;subst hv;simp only[f9q,VRel];exact⟨_,rfl,by simp only[VRels];exact⟨_,_,rfl,by simp[VRel],_,_,rfl,by simp[VRel],rfl⟩⟩
 rcases c06 (w:=w) ok h2 hs i with ⟨j,e,g1,g2,g3,g4⟩|⟨g1,g2⟩
 ·refine fin true ?_ (by simpa using g3);simp only[Instr.lookup,Sem.run_bind,a0d ok w h1,Result.andThen_ok,getObj,Sem.run,he,Sem.run_pure,bZ,g4]
 ·refine fin false ?_ (by simpa using g1);obtain⟨zv,eZ,_,bP⟩:=a8l ok w h4;have eF:VRels I w ρ [.bool false] zv.cells.toList:=VRels.noRef_any (bP I w);rw[(b9x ok h3 h4 eZ).2 rfl]at eF;simp only[VRels]at eF;obtain⟨c0,qb,tk,h0,_⟩:=eF;simp only[List.cons.injEq]at tk;rw[←tk.1]at h0;simp only[VRel]at h0;subst h0;simp only[Instr.lookup,Sem.run_bind,a0d ok w h1,Result.andThen_ok,getObj,Sem.run,he,Sem.run_pure,bZ,g2,eZ]
/-! ### update -/
def c5y(x:Int):List Int→List Int
 | []=>[x]
 |y::l=>bif decide (x<y)then x::y::l else y::c5y x l
theorem c3k(x:Int):∀l:List Int,(c5y x l).Perm (x::l)
 | []=>g1n _
 |y::l=>by
  simp only[c5y,cond_eq_ite];split
  ·exact g1n _
  ·exact((c3k x l).cons y).trans (List.Perm.swap ..)
theorem b38{α:Type}(g:MapEntry→α){es:Array MapEntry}(i:Nat)(f:MapEntry→MapEntry)(hf:∀e,es[i]?=some e→g (f e)=g e):(es.modify i f).toList.map g=es.toList.map g:=by
 apply f8l;intro j;simp only[f4q,g0k,Array.getElem?_modify];split
 ·rename_i hj;subst hj;cases he:es[i]? with
  |none=>simp
  |some e=>simp[hf e he]
 ·rfl
theorem a83{ks:List Int}{es:Array MapEntry}{cl:Nat}:USet ks es cl↔(es.toList.map (·.key)).Perm (ks.map (Value.int .i64))∧(∀v∈es.toList.map (·.val),v = .bool true)∧ks.Nodup∧(es.toList.map (·.born)).Nodup∧∀b∈es.toList.map (·.born),b<cl:=by unfold USet;simp only[g01,forall_exists_index,and_imp,forall_apply_eq_imp_iff₂]
theorem a7n(r:HRel E.G I K ρ h w){b:Nat}{m:Pl}{o0:AObj}(hb:h b=some o0)(hm:ρ b=some m){es dm:Array MapEntry}{cl gR:Nat}(he:w.heap[m.blk]?=some (.map es cl)){ks:List Int}(hs:USet ks dm gR) :
 Stepped E.G I K ρ w I ρ (h.eff n (.set b (.uset ks))) { w with heap:=w.heap.setIfInBounds m.blk (.map dm gR) }:=by
 have ah:m.blk<w.heap.size:=(f8m.1 he).1;have cf:∀c,c≠m.blk→({ w with heap:=w.heap.setIfInBounds m.blk (.map dm gR) }:World).heap[c]?=w.heap[c]?:=by intro c hc;show(w.heap.setIfInBounds _ _)[c]?=_;rw[f9d,f4n (λh=>hc h.symm)]
 refine a2n r hb hm (by simp) cf rfl rfl rfl ⟨dm,gR,?_,hs⟩;show(w.heap.setIfInBounds _ _)[_]?=_;rw[f9d,f6e rfl,f6e ah]
def b2e(E:Env)(h:FHeap)(t:TypeId)(m k v:AV):Option Eff:=match m,k,v with
 |.map b,.int .i64 i,.bool q=>match h b with
  |some (.uset ks)=>bif a9f E t&&q then some (.set b (.uset (bif ks.contains i then ks else c5y i ks)))else none
  |_=>none
 |_,_,_=>none
theorem c8i(ok:EnvOk E)(r:HRel E.G I K ρ h w){t:TypeId}{m k v:AV}{c ck cv:Value}{e:Eff}(hu:b2e E h t m k v=some e)(hm:VRel I w ρ m c)(hk:VRel I w ρ k ck)(hv:VRel I w ρ v cv) :
 f0i E I K ρ h n w (Instr.mapUpdate t c ck cv) e:=by
 unfold b2e at hu;split at hu
 case h_2=>cases hu
 rename_i b i q;split at hu
 case h_2=>cases hu
 rename_i ks hb;rw[cond_eq_ite]at hu;split at hu
 case isFalse=>cases hu
 rename_i ht;simp only[d14]at ht;obtain⟨ht,rfl⟩:=ht;cases hu;obtain⟨kt,et,h1,h2,h3,h4⟩:=b58 ht;simp only[VRel]at hm hk hv;subst hk hv;obtain⟨pl,bV,rfl⟩:=hm;obtain⟨m',bA,_,_,es,cl,he,hs⟩:=r.live b _ hb;obtain rfl:pl=m':=z9o (bV.symm.trans bA);have bZ:=a4q (w:=w) ok (d:=.int .i64) rfl h2 false 9999 (.int .i64 i);rcases c06 (w:=w) ok h2 hs i with ⟨j,e,g1,g2,g3,g4⟩|⟨g1,g2⟩
 ·have hc:ks.contains i=true:=by simpa using g3
  rw[hc,f6g];obtain⟨s1,s2,s3,s4,s5⟩:=a83.1 hs;have k1:(es.modify j λe=>{ e with key:=.int .i64 i,val:=.bool true }).toList.map (·.key)=es.toList.map (·.key):=b38 _ j _ (λe' fc=>by rw[g1]at fc;cases fc;exact g2.symm);have k2:(es.modify j λe=>{ e with key:=.int .i64 i,val:=.bool true }).toList.map (·.val)=es.toList.map (·.val):=b38 _ j _ (λe' fc=>(hs.2.1 e' (by simpa using Array.mem_of_getElem? fc)).symm);have k3:(es.modify j λe=>{ e with key:=.int .i64 i,val:=.bool true }).toList.map (·.born)=es.toList.map (·.born):=b38 _ j _ (λe' fc=>rfl);refine⟨_,ρ,?_,a7n (dm:=es.modify j λe=>{ e with key:=.int .i64 i,val:=.bool true }) r hb bV he (a83.2 ⟨by rw[k1];exact s1,by rw[k2];exact s2,s3,by rw[k3];exact s4,by rw[k3];exact s5⟩),Moves.same _ _ _⟩;have h5:((es[j]?).map (·.key)).getD (.int .i64 i) = .int .i64 i:=by simp[g1,g2]
  have h6:Instr.sameBits 10000 (.int .i64 i) (.int .i64 i)=true:=by simp[Instr.sameBits]
  simp only[Instr.mapUpdate,Sem.run_bind,a0d ok w h1,Result.andThen_ok,getObj,Sem.run,he,bZ,g4,h5,Instr.keyThatStays,h6,f9q,Sem.run_pure,a49 _ he]
 ·have hc:ks.contains i=false:=by simpa using g1
  rw[hc,f7z];obtain⟨s1,s2,s3,s4,s5⟩:=a83.1 hs;have hp:=c3k i ks;refine⟨_,ρ,?_,a7n (dm:=es.push { key:=.int .i64 i,val:=.bool true,born:=cl }) (gR:=cl+1) r hb bV he (a83.2 ⟨?_,?_,?_,?_,?_⟩),Moves.same _ _ _⟩
  ·simp only[Instr.mapUpdate,Sem.run_bind,a0d ok w h1,Result.andThen_ok,getObj,Sem.run,he,bZ,g2,a49 _ he]
  ·rw[g0x,f6c];refine(List.perm_append_comm.trans ?_).trans (hp.map _).symm;simpa using s1
  ·intro v hv;rw[g0x,f6c]at hv;rcases f8n.1 hv with h|h
   ·exact s2 v h
   ·simpa using h
  ·rw[hp.nodup_iff,g0m];exact⟨g1,s3⟩
  ·rw[g0x,f6c,List.nodup_append];refine⟨s4,by simp,?_⟩;intro a ha b' bq;have:=s5 a ha;simp only[c10,f4h,f6f]at bq;omega
  ·intro a ha;rw[g0x,f6c]at ha;rcases f8n.1 ha with h|h
   ·have:=s5 a h;omega
   ·simp only[c10,f4h,f6f]at h;omega
/-! ### delete -/
theorem b28{α:Type}:∀{l:List α} {j:Nat} {e:α},l[j]?=some e→(e::l.eraseIdx j).Perm l
 | [],j,e,h=>by simp at h
 |a::l,0,e,h=>by simp at h;subst h;exact g1n _
 |a::l,j+1,e,h=>by have ih:=b28 (l:=l) (j:=j) (e:=e) (by simpa using h);simp only[List.eraseIdx_cons_succ];exact(List.Perm.swap ..).trans (ih.cons a)
def b7p(E:Env)(h:FHeap)(t:TypeId)(m k:AV):Option Eff:=match m,k with
 |.map b,.int .i64 i=>match h b with
  |some (.uset ks)=>bif a9f E t then some (.set b (.uset (ks.filter λy=>!decide (y=i))))else none
  |_=>none
 |_,_=>none
theorem e01(ok:EnvOk E)(r:HRel E.G I K ρ h w){t uo:TypeId}{m k:AV}{c ck:Value}{e:Eff}(ty:TypeId)(hu:b7p E h t m k=some e)(hm:VRel I w ρ m c)(hk:VRel I w ρ k ck) :
 Val E I K ρ h n w (Builtin.delete_ #[t,uo] ty #[c,ck]) (.tuple []) e:=by
 unfold b7p at hu;split at hu
 case h_2=>cases hu
 rename_i b i;split at hu
 case h_2=>cases hu
 rename_i ks hb;rw[cond_eq_ite]at hu;split at hu
 case isFalse=>cases hu
 rename_i ht;cases hu;obtain⟨kt,et,h1,h2,h3,h4⟩:=b58 ht;simp only[VRel]at hm hk;subst hk;obtain⟨pl,bV,rfl⟩:=hm;obtain⟨m',bA,_,_,es,cl,he,hs⟩:=r.live b _ hb;obtain rfl:pl=m':=z9o (bV.symm.trans bA);have bZ:=a4q (w:=w) ok (d:=.int .i64) rfl h2 es.isEmpty 9999 (.int .i64 i);have li:∀(w':World) (ρ':PMap),VRel I w' ρ' (.tuple []) (.tuple #[]):=λw' ρ'=>by simp only[VRel];exact⟨#[],rfl,by simp[VRels]⟩
 obtain⟨s1,s2,s3,s4,s5⟩:=a83.1 hs;rcases c06 (w:=w) ok h2 hs i with ⟨j,e,g1,g2,g3,g4⟩|⟨g1,g2⟩
 ·have hj:j<es.toList.length:=by simpa using(f8m.1 g1).1
  have jm:(es.eraseIdxIfInBounds j).toList=es.toList.eraseIdx j:=by unfold Array.eraseIdxIfInBounds;rw[dif_pos (by simpa using hj)];simp
  have fu:(e::es.toList.eraseIdx j).Perm es.toList:=b28 (by simpa using g1);have om:(i::ks.filter λy=>!decide (y=i)).Perm ks:=by
   refine(List.perm_ext_iff_of_nodup ?_ s3).2 λz=>?_
   ·rw[g0m];exact⟨by simp,s3.filter _⟩
   ·simp only[f6m,f9s,f9y,g11];constructor
    ·rintro(rfl|h)
     ·exact g3
     ·exact h.1
    ·intro hz;by_cases sB:z=i
     ·exact .inl sB
     ·exact .inr ⟨hz,sB⟩
  refine⟨.tuple #[],_,ρ,?_,a7n (dm:=es.eraseIdxIfInBounds j) (gR:=cl) r hb bV he (a83.2 ⟨?_,?_,?_,?_,?_⟩),li _ _,Moves.same _ _ _⟩
  ·have aI:(getObj pl.blk).run E.P w = .ok (.map es cl) w:=by simp[getObj,Sem.run,he]
   have bi:=a49 (E:=E) (.map (es.eraseIdxIfInBounds j) cl) he;simp[Builtin.delete_,a0d ok w h1,aI,bZ,g4,bi]
  ·rw[jm];have h5:=(fu.map (·.key)).trans (s1.trans (om.map (Value.int .i64)).symm);simp only[c10,g2]at h5;exact h5.cons_inv
  ·intro v hv;rw[jm]at hv;exact s2 v ((fu.map (·.val)).subset (by simp only[c10];exact g12 _ hv))
  ·exact s3.filter _
  ·rw[jm];have:=(fu.map (·.born)).nodup_iff.2 s4;simp only[c10,g0m]at this;exact this.2
  ·intro v hv;rw[jm]at hv;exact s5 v ((fu.map (·.born)).subset (by simp only[c10];exact g12 _ hv))
 ·have hf:(ks.filter λy=>!decide (y=i))=ks:=List.filter_eq_self.2 λy hy=>by simp;rintro rfl;exact g1 hy
  rw[hf];refine⟨.tuple #[],_,ρ,?_,a7n (dm:=es) (gR:=cl) r hb bV he hs,li _ _,Moves.same _ _ _⟩;have aI:(getObj pl.blk).run E.P w = .ok (.map es cl) w:=by simp[getObj,Sem.run,he]
  have bi:=a49 (E:=E) (.map es cl) he;simp[Builtin.delete_,a0d ok w h1,aI,bZ,g2,bi]
end
end Go.Ax
/- AxSet2: ranging over a set of numbers. -/
namespace Go.Ax
section
variable {E:Env}{I K:Nat→Prop}{ρ:PMap}{h:FHeap}{n:Nat}{w:World}
def b95:Option TypeDesc→Bool
 |some (.map _ _)=>true
 |_=>false
theorem b94{d:Option TypeDesc}(h:b95 d=true):∃kt et,d=some (.map kt et):=by
 unfold b95 at h;split at h
 ·exact⟨_,_,rfl⟩
 ·cases h
def b3u(E:Env)(n:Nat)(t:TypeId)(x:AV):Option (AV×Eff):=match x with
 |.iset ks=>bif b95 (E.und t)then some (.ptr n 0 0,.new (.miter ks [] none))else none
 |.nilmap=>bif b95 (E.und t)then some (.ptr n 0 0,.new (.miter [] [] none))else none
 |_=>none
theorem d0n(ok:EnvOk E)(r:HRel E.G I K ρ h w)(hn:h n=none)(hρ:ρ n=none){t:TypeId}{x v:AV}{c:Value}{e:Eff}(ha:b3u E n t x=some (v,e))(hx:VRel I w ρ x c) :
 Val E I K ρ h n w (Instr.range t c) v e:=by
 unfold b3u at ha;split at ha
 ·rename_i ks;rw[cond_eq_ite]at ha;split at ha
  case isFalse=>cases ha
  rename_i hu;cases ha;obtain⟨kt,et,hu⟩:=b94 hu;simp only[VRel]at hx;obtain⟨b,es,cl,rfl,hI,he,hs⟩:=hx;have ah:b<w.heap.size:=(f8m.1 he).1;refine⟨.pointer (some ⟨w.heap.size,0,none⟩),{ w with heap:=w.heap.push (.mapIter (some b) cl #[] cl) },ρ.set n ⟨w.heap.size,0,0,0⟩,?_,?_,?_,Moves.set _ _ _ rfl⟩
  ·simp[Instr.range,a0d ok w hu,getObj,Sem.run,he,newObj]
  ·refine a2v (ob:=.mapIter (some b) cl #[] cl) r hn hρ rfl rfl rfl rfl rfl ?_;refine⟨rfl,.inr ⟨b,es,cl,#[],hI,?_,hs,by simp,[],by simp,by simp,by simp⟩⟩;show(w.heap.push _)[b]?=_;rw[g16,f4n (by omega)];exact he
  ·simp only[VRel];exact⟨_,by simp[PMap.set];rfl,by simp⟩
 ·rw[cond_eq_ite]at ha;split at ha
  case isFalse=>cases ha
  rename_i hu;cases ha;obtain⟨kt,et,hu⟩:=b94 hu;simp only[VRel]at hx;subst hx;refine⟨.pointer (some ⟨w.heap.size,0,none⟩),{ w with heap:=w.heap.push (.mapIter none 0 #[] 0) },ρ.set n ⟨w.heap.size,0,0,0⟩,?_,?_,?_,Moves.set _ _ _ rfl⟩
  ·simp[Instr.range,a0d ok w hu,newObj,Sem.run]
  ·exact a2v (ob:=.mapIter none 0 #[] 0) r hn hρ rfl rfl rfl rfl rfl ⟨rfl,.inl ⟨rfl,rfl,by simp⟩⟩
  ·simp only[VRel];exact⟨_,by simp[PMap.set];rfl,by simp⟩
 ·cases ha
def a98(h:FHeap)(it:AV):Option AV:=match it with
 |.ptr b 0 0=>match h b with
  |some (.miter _ b9 _)=>match b9.getLast? with
   |some i=>some (.tuple [.int .i64 i,.bool true])
   |none=>none
  |_=>none
 |_=>none
theorem d0r(r:HRel E.G I K ρ h w){it v:AV}{c:Value}(ha:a98 h it=some v)(hx:VRel I w ρ it c):Val E I K ρ h n w (Instr.entry c) v .none:=by
 unfold a98 at ha;split at ha
 case h_2=>cases ha
 rename_i b;split at ha
 case h_2=>cases ha
 rename_i ks b9 bT hb;split at ha
 case h_2=>cases ha
 rename_i i hi;cases ha;simp only[VRel]at hx;obtain⟨m,hm,rfl⟩:=hx;obtain⟨m',bA,_,_,h0,ho⟩:=r.live b _ hb;obtain rfl:m=m':=z9o (hm.symm.trans bA);rcases ho with ⟨_,h2,_⟩|⟨c,es,cl,seen,hI,he,hs,fx,dm,g1,g2,g3⟩
 ·rw[h2]at hi;cases hi
 ·have hl:(dm.map (·.key)).getLast?=some (.int .i64 i):=by rw[g3,List.getLast?_map,hi];rfl
  rw[List.getLast?_map]at hl;cases bC:dm.getLast? with
  |none=>rw[bC]at hl;cases hl
  |some e=>
   rw[bC]at hl;simp only[f5x,Option.some.injEq]at hl;have oQ:=g1 e (List.mem_of_getLast? bC);have cI:seen.back?=some e.born:=by rw[←Array.getLast?_toList,←g2,List.getLast?_map,bC];rfl
   have oN:es.find? (λx=>x.born==e.born)=some e:=by
    rw[←Array.find?_toList];have bQ:=hs.2.2.2.1;have:∀l:List MapEntry,(l.map (·.born)).Nodup→e∈l→l.find? (λx=>x.born==e.born)=some e:=by
     intro l
     induction l with
     |nil=>intro _ h;cases h
     |cons a l ih=>
      intro hn hm;simp only[c10,g0m]at hn;rcases f6m.1 hm with rfl|hm
      ·simp
      ·have aF:(a.born==e.born)=false:=by
        rw[f9i];intro h;exact hn.1 (h▸f9w (f:=(·.born)) hm)
       rw[List.find?_cons,aF];exact ih hn.2 hm
    exact this _ bQ oQ
   refine Val.here (c:=.tuple #[.int .i64 i,.bool true]) r ?_ ?_
   ·simp[Instr.entry,h0,getObj,Sem.run,fx,he,cI,oN,hl,hs.2.1 e oQ]
   ·simp only[VRel];exact⟨_,rfl,by simp only[VRels];exact⟨_,_,rfl,by simp[VRel],_,_,rfl,by simp[VRel],rfl⟩⟩
theorem c6h(k:Nat)(hk:0<k):∃i d,i<k∧(choose (.mapNext k)).run E.P w = .ok i { w with drawn:=d }:=by
 simp only[choose,Sem.run];by_cases h:(Question.mapNext k).forced=true
 ·rw[f6e h];exact⟨0,w.drawn,hk,rfl⟩
 ·rw[f4n h];exact⟨_,w.drawn+1,Nat.mod_lt _ hk,rfl⟩
theorem c8f{es:List MapEntry}{α:Type}(f:MapEntry→α)(hn:(es.map f).Nodup){a b:MapEntry}(ha:a∈es)(hb:b∈es)(h:f a=f b):a=b:=by
 induction es with
 |nil=>cases ha
 |cons x l ih=>
  simp only[c10,g0m]at hn;rcases f6m.1 ha with rfl|ha
  ·rcases f6m.1 hb with rfl|hb
   ·rfl
   ·exact absurd (h▸f9w (f:=f) hb) hn.1
  ·rcases f6m.1 hb with rfl|hb
   ·exact absurd (show f b∈l.map f from h▸f9w (f:=f) (by assumption)) hn.1
   ·exact ih hn.2 ha hb
theorem d7e(r:HRel E.G I K ρ h w){b:Nat}{m:Pl}{ks b9:List Int}{bT:Option (Option Int)}(hb:h b=some (.miter ks b9 bT))(hm:ρ b=some m)(ty:TypeId) :
 (∃i,i∈ks∧i∉b9∧∃w',(Instr.next (.pointer (some ⟨m.blk,0,none⟩)) false ty).run E.P w = .ok (.tuple #[.bool true,.int .i64 i,.bool true]) w'∧Stepped E.G I K ρ w I ρ (h.eff n (.set b (.miter ks (b9++[i]) none))) w')∨
  ((∀i∈ks,i∈b9)∧∃w',(Instr.next (.pointer (some ⟨m.blk,0,none⟩)) false ty).run E.P w = .ok (.tuple #[.bool false]) w'∧Stepped E.G I K ρ w I ρ (h.eff n (.set b (.miter ks b9 none))) w'):=by
 obtain⟨m',bA,dL,_,h0,ho⟩:=r.live b _ hb;obtain rfl:m=m':=z9o (hm.symm.trans bA);rcases ho with ⟨h1,h2,h3⟩|⟨c,es,cl,seen,hI,he,hs,fx,dm,g1,g2,g3⟩
 ·subst h1 h2;exact .inr ⟨by simp,w,by simp[Instr.next,getObj,Sem.run,h3],a2n r hb hm rfl (λ_ _=>rfl) rfl rfl rfl ⟨h0,.inl ⟨rfl,rfl,h3⟩⟩⟩
 ·have lK:(getObj m.blk).run E.P w = .ok (.mapIter (some c) cl seen cl) w:=by simp[getObj,Sem.run,fx]
  have lJ:(getObj c).run E.P w = .ok (.map es cl) w:=by simp[getObj,Sem.run,he]
  have gB:∀e∈es,e.born<cl:=λe he=>hs.2.2.2.2 e (by simpa using he);have gA:(!seen.isEmpty && !es.isEmpty&&es.all (λe=>decide (e.born≥cl)))=false:=by
   rw[Bool.and_eq_false_iff];by_cases oQ:es.isEmpty=true
   ·left;simp[oQ]
   ·right;have aF:es≠ #[]:=by simpa using oQ
    rw[←Bool.not_eq_true,Array.all_eq_true_iff_forall_mem];intro bd;obtain⟨e,jo⟩:=Array.exists_mem_of_ne_empty es aF;have:=bd e jo;have:=gB e jo;simp only[f4p]at *;omega
  obtain⟨left,jP⟩:∃left,left=es.filter (λe=>!seen.contains e.born):=⟨_,rfl⟩
  have cz:∀e,e∈left↔e∈es∧e.born∉seen:=by intro e;rw[jP,Array.mem_filter];simp
  have aT:left.filter (λe=>decide (e.born<cl))=left:=by rw[Array.filter_eq_self];intro e hm;simpa using gB e ((cz e).1 hm).1
  have bf:left.filter (λe=>decide (e.born≥cl)) = #[]:=by rw[Array.filter_eq_empty_iff];intro e hm;have:=gB e ((cz e).1 hm).1;simp;omega
  have iu:∀e∈es,∀i,e.key = .int .i64 i→(e.born∈seen↔i∈b9):=by
   intro e jo i hi;have qQ:=hs.2.2.2.1;have kG:=hs.keys_nodup;have jm:e∈es.toList:=by simpa using jo
   constructor
   ·intro h;have h1:e.born∈dm.map (·.born):=by rw[g2];simpa using h
    obtain⟨e',fc,h2⟩:=g01.1 h1;have:=c8f (·.born) qQ (g1 e' fc) jm h2;subst this;have h3:=f9w (f:=(·.key)) fc;rw[g3,hi]at h3;obtain⟨j,hj,h4⟩:=g01.1 h3;rw[c17 h4]at hj;exact hj
   ·intro h;have h1:Value.int .i64 i∈dm.map (·.key):=by rw[g3];exact f9w h
    obtain⟨e',fc,h2⟩:=g01.1 h1;have:=c8f (·.key) kG (g1 e' fc) jm (h2.trans hi.symm);subst this;have h3:=f9w (f:=(·.born)) fc;rw[g2]at h3;simpa using h3
  by_cases hl:left.isEmpty=true
  ·refine .inr ⟨λi hi=>?_,w,?_,a2n r hb hm rfl (λ_ _=>rfl) rfl rfl rfl ⟨h0,.inr ⟨c,es,cl,seen,hI,he,hs,fx,dm,g1,g2,g3⟩⟩⟩
   ·obtain⟨e,jo,hk⟩:=hs.has hi;have jo:e∈es:=by simpa using jo
    refine(iu e jo i hk).1 (Decidable.byContradiction λhn=>?_);have:=(cz e).2 ⟨jo,hn⟩;have h0:left = #[]:=by simpa using hl
    rw[h0]at this;simp at this
   ·have h0:left = #[]:=by simpa using hl
    simp only[Instr.next,Sem.run_bind,lK,Result.andThen_ok,lJ,gA,←jP,aT,bf];simp[h0,choose,Sem.run,Question.forced]
  ·have aX:0<left.size:=by
    rcases Nat.eq_zero_or_pos left.size with h|h
    ·exact absurd (by simpa using Array.eq_empty_of_size_eq_zero h) hl
    ·exact h
   obtain⟨ix,d,pI,iI⟩:=c6h (E:=E) (w:=w) left.size aX;obtain⟨e,jo⟩:∃e,left[ix]?=some e:=⟨_,Array.getElem?_eq_getElem pI⟩
   obtain⟨kP,pC⟩:=(cz e).1 (Array.mem_of_getElem? jo);obtain⟨i,hi,hk⟩:=hs.key (e:=e) (by simpa using kP);have cW:=hs.2.1 e (by simpa using kP);have ej:m.blk<w.heap.size:=(f8m.1 fx).1;have dz:c≠m.blk:=λe=>dL (e▸hI);refine .inl ⟨i,hi,λhv=>pC ((iu e kP i hk).2 hv),{ w with heap:=w.heap.setIfInBounds m.blk (.mapIter (some c) cl (seen.push e.born) cl),drawn:=d },?_,?_⟩
   ·have bi:(setObj m.blk (.mapIter (some c) cl (seen.push e.born) cl)).run E.P { w with drawn:=d } = .ok () { w with heap:=w.heap.setIfInBounds m.blk (.mapIter (some c) cl (seen.push e.born) cl),drawn:=d }:=by
     simp[setObj,Sem.run,fx]
    have pG:left.isEmpty=false:=by simpa using hl
    simp only[Instr.next,Sem.run_bind,lK,Result.andThen_ok,lJ,gA,←jP,aT,bf,pG,f9h,g0z,Array.empty_append,Array.append_empty,Array.size_map,iI,Array.getElem?_map,jo,f5x,bi,Sem.run_pure,hk,cW]
   ·refine a2n r hb hm (by simp) ?_ rfl rfl rfl ⟨h0,.inr ⟨c,es,cl,seen.push e.born,hI,?_,hs,?_,dm++[e],?_,?_,?_⟩⟩
    ·intro x hx;show(w.heap.setIfInBounds _ _)[x]?=_;rw[f9d,f4n (λh=>hx h.symm)]
    ·show(w.heap.setIfInBounds _ _)[c]?=_;rw[f9d,f4n (λh=>dz h.symm)];exact he
    ·show(w.heap.setIfInBounds _ _)[_]?=_;rw[f9d,f6e rfl,f6e ej]
    ·intro x hx;rcases f8n.1 hx with h|h
     ·exact g1 x h
     ·simp only[f6f]at h;subst h;simpa using kP
    ·rw[f6c,g2,g0x];rfl
    ·rw[f6c,g3,f6c];simp[hk]
end
end Go.Ax
/- AxStr: ranging over a string. -/
namespace Go.Ax
section
variable {E:Env}{I K:Nat→Prop}{ρ:PMap}{h:FHeap}{n:Nat}{w:World}
def b4h(E:Env)(n:Nat)(t:TypeId)(x:AV):Option (AV×Eff):=
 match E.und t,x with
 |some .string,.str s=>some (.ptr n 0 0,.new (.siter s 0))
 |_,_=>none
theorem d5c(ok:EnvOk E)(r:HRel E.G I K ρ h w)(hn:h n=none)(hρ:ρ n=none){t:TypeId}{x v:AV}{c:Value}{e:Eff}(ha:b4h E n t x=some (v,e))(hx:VRel I w ρ x c) :
 Val E I K ρ h n w (Instr.range t c) v e:=by
 unfold b4h at ha;split at ha
 case h_2=>cases ha
 rename_i s hu;cases ha;simp only[VRel]at hx;obtain⟨tb,rfl,ht⟩:=hx;refine⟨.pointer (some ⟨w.heap.size,0,none⟩),{ w with heap:=w.heap.push (.stringIter tb 0) },ρ.set n ⟨w.heap.size,0,0,0⟩,?_,?_,?_,Moves.set _ _ _ rfl⟩
 ·simp[Instr.range,a0d ok w hu]
 ·refine a2v (ob:=.stringIter tb 0) r hn hρ rfl rfl rfl rfl rfl ?_;exact⟨rfl,tb,by simp,ht⟩
 ·simp only[VRel];exact⟨_,by simp[PMap.set];rfl,by simp⟩
def c4n(h:FHeap)(it:AV)(ju:Bool):Option (AV×Eff):=
 match it with
 |.ptr b 0 0=>bif ju then match h b with
  |some (.siter s pos)=>bif Nat.blt pos s.length then
   some (.tuple [.bool true,.int .i64 pos,.int .i32 (Utf8.decode ⟨s.toArray⟩ pos).1],.set b (.siter s (pos+(Utf8.decode ⟨s.toArray⟩ pos).2)))
   else some (.tuple [.bool false],.none)
  |_=>none
  else none
 |_=>none
theorem d9w(r:HRel E.G I K ρ h w){it v:AV}{b:Bool}{c:Value}{e:Eff}(ty:TypeId)(ha:c4n h it b=some (v,e))(hx:VRel I w ρ it c) :
 Val E I K ρ h n w (Instr.next c b ty) v e:=by
 unfold c4n at ha;split at ha
 case h_2=>cases ha
 rename_i bb;rw[cond_eq_ite]at ha;split at ha
 case isFalse=>cases ha
 rename_i hs;subst hs;split at ha
 case h_2=>cases ha
 rename_i s pos hb;simp only[VRel]at hx;obtain⟨m,hm,rfl⟩:=hx;obtain⟨m',bA,dL,_,h0,tb,he,ht⟩:=r.live bb _ hb;obtain rfl:m=m':=z9o (hm.symm.trans bA);have bN:tb=⟨s.toArray⟩:=by cases tb;simp only[ByteArray.mk.injEq]at ht⊢;apply g15;simpa using ht
 have bU:tb.size=s.length:=by rw[bN];simp[ByteArray.size]
 have aI:(getObj m.blk).run E.P w = .ok (.stringIter tb pos) w:=by simp[getObj,Sem.run,he]
 rw[cond_eq_ite]at ha;split at ha
 ·rename_i ah;simp only[f8f]at ah;cases ha;have ej:m.blk<w.heap.size:=(f8m.1 he).1;refine⟨.tuple #[.bool true,goInt pos,.int .i32 (Utf8.decode tb pos).1],{ w with heap:=w.heap.setIfInBounds m.blk (.stringIter tb (pos+(Utf8.decode tb pos).2)) },ρ,?_,?_,?_,Moves.same _ _ _⟩
  ·have bi:(setObj m.blk (.stringIter tb (pos+(Utf8.decode tb pos).2))).run E.P w = .ok () { w with heap:=w.heap.setIfInBounds m.blk (.stringIter tb (pos+(Utf8.decode tb pos).2)) }:=by
    simp[setObj,Sem.run,he]
   simp only[Instr.next,h0,Nat.zero_mul,g1w,Sem.run_bind,aI,Result.andThen_ok];simp[bU,ah,bi]
  ·refine a2n r hb hm (by simp) ?_ rfl rfl rfl ?_
   ·intro c hc;show(w.heap.setIfInBounds _ _)[c]?=_;rw[f9d,f4n (λh=>hc h.symm)]
   ·refine⟨h0,tb,?_,ht⟩;show(w.heap.setIfInBounds _ _)[_]?=_;rw[f9d,f6e rfl,f6e ej,bN]
  ·simp only[VRel];exact⟨_,rfl,by simp only[VRels];exact⟨_,_,rfl,by simp[VRel],_,_,rfl,by simp[VRel,goInt],_,_,rfl,by simp[VRel,bN],rfl⟩⟩
 ·rename_i ah;cases ha;have ah:¬pos<s.length:=by simpa[f8f]using ah
  refine Val.here (c:=.tuple #[.bool false]) r ?_ ?_
  ·simp only[Instr.next,h0,Nat.zero_mul,g1w,Sem.run_bind,aI,Result.andThen_ok];simp[bU,ah]
  ·simp only[VRel];exact⟨_,rfl,by simp only[VRels];exact⟨_,_,rfl,by simp[VRel],rfl⟩⟩
end
end Go.Ax
/- AxAppZ: append of so many zero elements to nil (slices.Grow). -/
namespace Go.Ax
section
variable {E:Env}{I K:Nat→Prop}{ρ:PMap}{h:FHeap}{n:Nat}{w:World}
def a4f(E:Env)(n:Nat)(st xt:TypeId)(s x:AV):Option (AV×Eff):=match s,x with
 |.nilslice,.int _ l=>match E.und st,E.und xt with
  |some (.slice ac),some dx=>bif a42 dx&&decide (0≤l)then match E.zero ac with
   |some z=>bif Nat.blt 0 (E.sz ac)then(match l.toNat with
    |0=>some (.nilslice,.none)
    |m+1=>bif a3d E ac (m+1)then some (.slice n 0 (m+1) none,.new (.row (E.sz ac) (List.replicate (m+1) z)))else none)else none
   |none=>none
   else none
  |_,_=>none
 |_,_=>none
theorem c6s{st xt:TypeId}{s x:AV}{r:AV×Eff}(h:a4f E n st xt s x=some r)(n':Nat)(hp:FHeap):a5p E hp n' st xt s x=none:=by
 unfold a4f at h;split at h
 case h_2=>cases h
 split at h
 case h_2=>cases h
 rename_i ac dx hu eU;rw[cond_eq_ite]at h;split at h
 case isFalse=>cases h
 rename_i hc;simp only[d14]at hc;unfold a5p;simp only[hu,eU,hc.1,Bool.true_or,f6g]
theorem c6r(ok:EnvOk E)(r:HRel E.G I K ρ h w)(hn:h n=none)(hρ:ρ n=none){st xt:TypeId}{s x v:AV}{e:Eff}{cs cx:Value}(ty:TypeId)
 (ha:a4f E n st xt s x=some (v,e))(hs:VRel I w ρ s cs)(hx:VRel I w ρ x cx):Val E I K ρ h n w (Builtin.append_ #[st,xt] ty #[cs,cx]) v e:=by
 unfold a4f at ha;split at ha
 case h_2=>cases ha
 rename_i k l;split at ha
 case h_2=>cases ha
 rename_i ac dx hu eU;rw[cond_eq_ite]at ha;split at ha
 case isFalse=>cases ha
 rename_i hc;simp only[d14,f4p]at hc;obtain⟨i4,ig⟩:=hc;split at ha
 case h_2=>cases ha
 rename_i z hz;rw[cond_eq_ite]at ha;split at ha
 case isFalse=>cases ha
 rename_i bU;have bU:0<E.sz ac:=by simpa[f8f]using bU
 obtain⟨⟨de,bD⟩,i',z',i5,e5,kw,kv⟩:=ok.zero ac z hz;have gh:∀w',(zeroValue ac).run E.P w' = .ok z' w':=by intro w';simp[zeroValue,typeInfo,i5,e5]
 have ep:z'.cells.toList.length=E.sz ac:=by rw[←kw,VRels.length (kv (λ_=>False) w)]
 obtain⟨i,hi,_,km⟩:=b4s ok w bD;have gu:∀w',(typeInfo ac).run E.P w' = .ok i w':=by intro w';have:=hi;simp[typeInfo,i5]at this⊢;exact this
 obtain⟨ki,rfl⟩:∃ki,dx = .int ki:=by cases dx<;>simp[a42]at i4;exact⟨_,rfl⟩
 simp only[VRel]at hs hx;subst hs;subst hx;have px:∀w',(underlying xt).run E.P w' = .ok (.int ki) w':=λw'=>a0d ok w' eU;have sH:∀w',(underlying st).run E.P w' = .ok (.slice ac) w':=λw'=>a0d ok w' hu;have aZ:∀w',(sizeOf ac).run E.P w' = .ok (E.sz ac) w':=λw'=>a3v ok w' bD;obtain⟨m0,rfl⟩:∃m0:Nat,l=m0:=⟨l.toNat,by omega⟩
 rw[Int.toNat_natCast]at ha;have i4:∀(q:Nat) w',(asInt (.int k (q:Int))).run E.P w' = .ok (q:Int) w':=λq w'=>rfl;cases m0 with
 |zero=>
  cases ha;refine Val.here (c:=.slice none 0 0) r ?_ (by simp[VRel]);have bM:IntKind.i64.wrap ((0:Nat):Int)=0:=by rfl
  unfold Builtin.append_;simp only[g02,f6n,f8h,Sem.run_bind,sH,Result.andThen_ok,aZ,px,Sem.run_pure,f9q,i4,bM];simp[gu]
 |succ m=>
  dsimp only at ha;rw[cond_eq_ite]at ha;split at ha
  case isFalse=>cases ha
  rename_i bm;cases ha;have qD:=bm;simp only[a3d,d14,f4p]at bm;have pt:IntKind.i64.wrap ((m+1:Nat):Int)=((m+1:Nat):Int):=b2s (by omega) (by omega);have a8:=a9t (b1u:=m+1) (old:=0) (by omega);have h48:¬(Builtin.nextslicecap (m+1) 0*i.bytes>2^48):=by rw[km];have:Builtin.nextslicecap (m+1) 0*E.bytes ac≤(2*(m+1)+192)*E.bytes ac:=g05 _ a8;rw[Nat.mul_comm (2*(m+1)+192)]at this;omega
  have qR:(m+1)*E.bytes ac≤281474976710656:=by have:E.bytes ac*(m+1)≤E.bytes ac*(2*(m+1)+192):=Nat.mul_le_mul_left _ (by omega);rw[Nat.mul_comm];omega
  have rT:¬(((m+1:Nat):Int)*(i.bytes:Int)>2^48):=by
   rw[km];have:((m+1:Nat):Int)*(E.bytes ac:Int)=(((m+1)*E.bytes ac:Nat):Int):=by simp
   rw[this];omega
  have qP:¬(((m+1:Nat):Int)<0):=by omega
  have iZ:¬(((m+1:Nat):Int)>IntKind.i64.max):=by simp only[IntKind.max,IntKind.signed,IntKind.bits];simp;omega
  have bC:¬(m+1≤0):=by omega
  have uO:¬((m+1)*E.sz ac=0):=Nat.mul_ne_zero (by omega) (by omega);generalize hcap2:m+1+(w.tape w.drawn (.appendCap (m+1) 0 ac))%(2^63-(m+1))=bw;have aT:∀w',(Builtin.firstCells (E.sz ac) 0 (.slice none 0 0)).run E.P w' = .ok #[] w':=λw'=>rfl;have ae:(Builtin.append_ #[st,xt] ty #[.slice none 0 0,.int k ((m+1:Nat):Int)]).run E.P w =
   .ok (.slice (some ⟨w.heap.size,0,none⟩) (m+1) bw) { w with drawn:=w.drawn+1,heap:=w.heap.push (.cells (Builtin.zeroCells z'.cells (m+1)++Builtin.zeroCells z'.cells (bw-(m+1))) ac) }:=by
   unfold Builtin.append_;simp only[g02,f6n,f8h,Sem.run_bind,sH,Result.andThen_ok,aZ,px,Sem.run_pure,f9q,i4,pt,qP,g0z,gu,rT];have nZ:((m+1:Nat):Int).toNat=m+1:=rfl;simp only[nZ,f8j,bC,g0z,Sem.run_bind,gu,Result.andThen_ok,iZ,false_and,h48,run_choose,run_askRoom,Question.forced,Question.cut,aT,g17,f9h,uO,gh,a4x,Sem.run_pure];rw[hcap2];simp
  have lM:m+1≤bw:=by omega
  have po:∀q:Nat,(Builtin.zeroCells z'.cells q).size=q*E.sz ac:=by
   intro q;rw[←f8d,a65]
   induction q with
   |zero=>simp
   |succ q ih=>rw[g0l,g00,f5z,ih,ep,g2h,Nat.add_comm]
  generalize bS:Builtin.zeroCells z'.cells (m+1)++Builtin.zeroCells z'.cells (bw-(m+1))=cells at ae;have jZ:cells.size=bw*E.sz ac:=by
   subst bS;rw[Array.size_append,po,po,←g0j]
   congr 1;omega
  have lX:∀c,I c→({ w with drawn:=w.drawn+1,heap:=w.heap.push (.cells cells ac) }:World).heap[c]?=w.heap[c]?:=by intro c hc;have:=r.imm c hc;show(w.heap.push _)[c]?=_;rw[g16,f4n (by omega)]
  have gn:({ w with drawn:=w.drawn+1,heap:=w.heap.push (.cells cells ac) }:World).heap[w.heap.size]?=some (.cells cells ac (0,0)):=by show(w.heap.push _)[_]?=_;simp
  have bi:=PMap.set_old (m:=⟨w.heap.size,0,E.sz ac,cells.size⟩) hρ;have ey:∀x∈List.replicate (m+1) z,x.length=E.sz ac:=λx hx=>by rw[f9u hx];exact kw
  have ho:ORel E.G I { w with drawn:=w.drawn+1,heap:=w.heap.push (.cells cells ac) } (ρ.set n ⟨w.heap.size,0,E.sz ac,cells.size⟩) ⟨w.heap.size,0,E.sz ac,cells.size⟩ (.row (E.sz ac) (List.replicate (m+1) z)):=by
   refine⟨rfl,bU,⟨cells,ac,gn,rfl,?_⟩,?_⟩
   ·show 0+(List.replicate (m+1) z).length*E.sz ac≤cells.size;rw[List.length_replicate,jZ,f8j];exact g05 _ lM
   ·rw[VRows.iff];refine⟨ey,?_⟩;refine VAt.of_cells (cs:=(Builtin.zeroCells z'.cells (m+1)).toList) (CellsAt.of_heap gn (λj v hj=>?_)) ?_
    ·subst bS;have lG:=(c13.1 hj).1;simp only[f8d]at lG;rw[f8j,Array.getElem?_append_left lG,←g0k];exact hj
    ·rw[a65];exact VRels.flatten_replicate (VRels.noRef_any (kv I _)) _
  refine⟨_,_,ρ.set n ⟨w.heap.size,0,E.sz ac,cells.size⟩,ae,?_,?_,Moves.set _ _ _ rfl⟩
  ·exact a2v (ob:=.cells cells ac) r hn hρ rfl rfl rfl rfl rfl ho
  ·simp only[VRel];refine⟨_,bw,rfl,lM,(λq hq=>by cases hq),.inr ⟨_,by simp[PMap.set];rfl,by simp,?_⟩⟩;show 0+(0+bw)*E.sz ac≤cells.size;rw[jZ,f8j,f8j];exact f6l _
end
end Go.Ax
/- AxAop: one operation that calls no function of the program, on abstract values; that the model does just that. -/
namespace Go.Ax
set_option maxHeartbeats 200000000
section
variable {E:Env}{I K:Nat→Prop}{ρ:PMap}{h:FHeap}{n:Nat}{w:World}
def b84(t:Bool)(a b:AV):AV:=
 match a,b with
 |.bool x,.bool y=>.bool (bif t then x else y)
 |a,b=>bif t then a else b
theorem d9u{t:Bool}{a b:AV}{ca cb:Value}(ha:VRel I w ρ a ca)(hb:VRel I w ρ b cb):VRel I w ρ (b84 t a b) (if t then ca else cb):=by
 unfold b84;split
 ·simp only[VRel]at ha hb;subst ha hb;cases t<;>simp[VRel]
 ·cases t<;>simpa
def a7x:List (List AV)→Option (List UInt8)
 | []=>some []
 | [.int .u8 n]::r=>match a7x r with|some l=>some (UInt8.ofNat n.toNat::l)|none=>none
 |_::_=>none
def a7e(E:Env)(h:FHeap)(ka dst:TypeId)(x:AV):Option AV:=
 match E.und ka,E.und dst,x with
 |some (.slice _),some .string,.str _=>none
 |some (.slice e),some .string,x=>match E.und e with
  |some (.int .u8)=>match a3c h 1 x with
   |some aa=>match a7x aa with
    |some l=>some (.str l)
    |none=>none
   |none=>none
  |_=>none
 |_,_,x=>e04 E ka dst x
theorem b9u:∀{aa:List (List AV)} {l:List UInt8} {cv:List Value} (aC:ByteArray),a7x aa=some l→VRels I w ρ aa.flatten cv→
 ∃s:ByteArray,(∀qs:String,(forIn cv aC (λc s=>match c with
  |.int .u8 n=>pure (ForInStep.yield (s.push (UInt8.ofNat n.toNat)))
  |_=>do
   stuck qs
   pure (ForInStep.yield s):Value→ByteArray→Sem (ForInStep ByteArray))).run E.P w = .ok s w)∧s.data.toList=aC.data.toList++l
 | [],l,cv,aC,ha,hv=>by simp only[a7x,Option.some.injEq]at ha;subst ha;simp only[List.flatten_nil,VRels]at hv;subst hv;exact⟨aC,λ_=>by simp,by simp⟩
 |r::aa,l,cv,aC,ha,hv=>by
  unfold a7x at ha;split at ha
  ·rename_i h;cases h
  ·rename_i n r' he;cases he;split at ha
   case h_2=>cases ha
   rename_i l' hl;cases ha;simp only[g00,f6a,e14,VRels]at hv;obtain⟨c,cs,rfl,hc,eJ⟩:=hv;simp only[VRel]at hc;subst hc;obtain⟨s,h1,h2⟩:=b9u (aC.push (UInt8.ofNat n.toNat)) hl eJ;refine⟨s,λqs=>?_,?_⟩
   ·rw[List.forIn_cons];simp only[Sem.run_bind,Sem.run_pure,Result.andThen_ok];exact h1 qs
   ·rw[h2];simp
  ·cases ha
theorem d5v(ok:EnvOk E)(r:HRel E.G I K ρ h w){ka dst:TypeId}{x v:AV}{c:Value}(hv:a7e E h ka dst x=some v)(hx:VRel I w ρ x c) :
 ∃d,(convert ka dst c).run E.P w = .ok d w∧VRel I w ρ v d:=by
 unfold a7e at hv;split at hv
 ·cases hv
 ·rename_i y e hs hd lu;split at hv
  case h_2=>cases hv
  rename_i he;split at hv
  case h_2=>cases hv
  rename_i aa hr;split at hv
  case h_2=>cases hv
  rename_i l hl;cases hv;obtain⟨ai,⟨cv,ae,bP⟩,hk⟩:=a61 r hr hx;obtain⟨s,h1,h2⟩:=b9u (E:=E) (w:=w) .empty hl bP;have gk:=ae w ⟨rfl,rfl,rfl,rfl⟩;refine⟨.string s,?_,by simp only[VRel];exact⟨s,rfl,by simpa using h2⟩⟩;unfold a3c at hr;split at hr
  ·simp only[VRel]at hx;subst hx;cases hr;simp only[a7x,Option.some.injEq]at hl;subst hl;have:s = .empty:=by
    cases s;simp only[f4g]at h2;have:=Array.toList_inj.1 h2;subst this;rfl
   subst this;simp[convert,a0d ok w hs,a0d ok w hd,a0d ok w he,Conv.bytesToString]
  ·simp only[VRel]at hx;obtain⟨a,cc,k,rfl,_⟩:=hx;rw[cond_eq_ite]at hr;split at hr
   case isFalse=>cases hr
   cases hr;simp only[Builtin.firstCells,Nat.mul_one]at gk;simp only[convert,Sem.run_bind,a0d ok w hs,a0d ok w hd,a0d ok w he,Result.andThen_ok,Conv.bytesToString,gk];rw[←Array.forIn_toList];exact(congrArg (λr=>r.andThen (λa w'=>(pure (Value.string a):Sem Value).run E.P w')) (h1 _)).trans rfl
  ·simp only[VRel]at hx;obtain⟨a,cc,rfl,_⟩:=hx;simp only[Builtin.lenOf,Sem.run_pure,Result.ok.injEq,and_true]at ai;rw[←ai]at gk;simp only[Builtin.firstCells,Nat.mul_one]at gk;simp only[convert,Sem.run_bind,a0d ok w hs,a0d ok w hd,a0d ok w he,Result.andThen_ok,Conv.bytesToString,gk];rw[←Array.forIn_toList];exact(congrArg (λr=>r.andThen (λa w'=>(pure (Value.string a):Sem Value).run E.P w')) (h1 _)).trans rfl
  ·exact absurd rfl (lu _)
  ·cases hr
 ·exact e03 ok hv hx
def b8t(E:Env)(t:TypeId):AObj:=bif a9f E t then .uset []else .map [] [] [] 0
theorem c30(r:HRel E.G I K ρ h w)(hn:h n=none)(hρ:ρ n=none){t:TypeId}{s:Sem Value}
 (hs:s.run E.P w = .ok (.map (some w.heap.size)) { w with heap:=w.heap.push (.map #[] 0) }):Val E I K ρ h n w s (.map n) (.new (b8t E t)):=by
 unfold b8t;cases a9f E t with
 |false=>exact e60 r hn hρ hs
 |true=>refine⟨_,_,ρ.set n ⟨w.heap.size,0,0,0⟩,hs,?_,by simp only[VRel];exact⟨_,by simp[PMap.set];rfl,rfl⟩,Moves.set _ _ _ rfl⟩;refine a2v (ob:=.map #[] 0) r hn hρ rfl rfl rfl rfl rfl ?_;exact⟨#[],0,by simp,by simp,by simp,by simp,by simp,by simp⟩
def e08(E:Env)(n:Nat)(h:FHeap)(b:Builtin)(ts:List TypeId)(args:List AV):Option (AV×Eff):=
 match b,ts,args with
 |.len,[t],[x]=>(c4t E h t x).map (·,.none)
 |.cap,[t],[x]=>(e05 E t x).map (·,.none)
 |.append,[st,xt],[s,x]=>oor (a5p E h n st xt s x) (a4f E n st xt s x)
 |.copy,[dt,_],[d,x]=>d0s E h dt d x
 |.clear,[t],[x]=>b9t E h t x
 |.delete,[t,_],[m,k]=>(b7p E h t m k).map (.tuple [],·)
 |.min,_,x::xs=>(d5k x xs).map (·,.none)
 |.max,_,x::xs=>(d9y x xs).map (·,.none)
 |_,_,_=>none
def aop(E:Env)(n:Nat)(h:FHeap)(op:Op)(v:Operand→AV):Option (AV×Eff):=
 match op with
 |.move x=>some (v x,.none)
 |.assign x=>some (v x,.none)
 |.pick c a b=>match v c with
  |.bool t=>some (b84 t (v a) (v b),.none)
  |_=>none
 |.alloc t=>e5z E n t
 |.box _ x=>e6b n (v x)
 |.build t ps=>(b9v E t (ps.toList.map λp=>(p.1,v p.2))).map (·,.none)
 |.buildSlice t len ps=>a47 E n t len (ps.toList.map λp=>(p.1,v p.2))
 |.load t a=>(a7l E h t (v a)).map (·,.none)
 |.store t a x=>(a9c E h t (v a) (v x)).map (.tuple [],·)
 |.nilCheck x=>match v x with
  |.ptr b i o=>some (.ptr b i o,.none)
  |.iptr cs=>some (.iptr cs,.none)
  |.func (.func f) fs cs=>some (.func (.func f) fs cs,.none)
  |_=>none
 |.binOp op t x y _=>(a6n E op t (v x) (v y) (a5j x||a5j y)).map (·,.none)
 |.unOp op _ x=>(aun op (v x)).map (·,.none)
 |.convert s d x=>(a7e E h s d (v x)).map (·,.none)
 |.makeInterface t x=>match E.und t with
  |some (.interface _)=>none
  |some _=>some (.iface t (v x),.none)
  |none=>none
 |.makeFunc fn first cap=>some (.func fn (first.toList.map v) (cap.toList.map v),.none)
 |.makeMap t r=>match r with
  |none=>some (.map n,.new (b8t E t))
  |some x=>match E.und t,v x with
   |some (.map _ _),.int _ _=>some (.map n,.new (b8t E t))
   |_,_=>none
 |.makeSlice t l c=>a51 E n t (v l) (v c)
 |.slice t x lo hi mx=>(a5n E h t (v x) (lo.map v) (hi.map v) (mx.map v)).map (·,.none)
 |.fieldAddr s x f=>(a6x E s (v x) f).map (·,.none)
 |.field t x f=>(d5s E t (v x) f).map (·,.none)
 |.indexAddr t x ix=>(a10 E h t (v x) (v ix)).map (·,.none)
 |.index t x ix=>(d5q E t (v x) (v ix)).map (·,.none)
 |.lookup t x k ok=>(oor (a2f E h t (v x) (v k) ok) (b2k E h t (v x) (v k) ok)).map (·,.none)
 |.mapUpdate t m k x=>(oor (a16 E h t (v m) (v k) (v x)) (b2e E h t (v m) (v k) (v x))).map (.tuple [],·)
 |.insert t m k x=>(oor (a16 E h t (v m) (v k) (v x)) (b2e E h t (v m) (v k) (v x))).map (.tuple [],·)
 |.mapEntry t m k=>a45 E h t (v m) (v k)
 |.entryStore _ m s x=>(a2o h (v m) (v s) (v x)).map (.tuple [],·)
 |.extract t i=>match v t with
  |.tuple vs=>match vs[i]? with
   |some x=>some (x,.none)
   |none=>none
  |_=>none
 |.range t x=>oor (b4h E n t (v x)) (b3u E n t (v x))
 |.next it b=>c4n h (v it) b
 |.entry it=>(a98 h (v it)).map (·,.none)
 |.call { callee:=.builtin b,args,argTypes }=>e08 E n h b argTypes.toList (args.toList.map v)
 |_=>none
def OpOk(E:Env)(I K:Nat→Prop)(ρ:PMap)(h:FHeap)(n:Nat)(a:Act)(w:World)(o:Oper)(v:AV)(e:Eff):Prop:=∃x w' c ρ',(execOp a.eval o).run E.P w = .ok x w'∧(x = .value c∨(x = .skip∧c=undef))∧Stepped E.G I K ρ w I ρ' (h.eff n e) w'∧VRel I w' ρ' v c∧Moves ρ ρ' n e
theorem OpOk.val{a:Act}{o:Oper}{v:AV}{e:Eff}{s:Sem Value}(hs:execOp a.eval o=(do pure (.value (←s))))(hv:Val E I K ρ h n w s v e):OpOk E I K ρ h n a w o v e:=by obtain⟨c,w',ρ',h1,h2,h3,h4⟩:=hv;exact⟨.value c,w',c,ρ',by rw[hs];simp[h1],.inl rfl,h2,h3,h4⟩
theorem OpOk.done{a:Act}{o:Oper}{e:Eff}{s:Sem Unit}(hs:execOp a.eval o=(do s;pure .skip))(hv:f0i E I K ρ h n w s e):OpOk E I K ρ h n a w o (.tuple []) e:=by obtain⟨w',ρ',h1,h2,h4⟩:=hv;exact⟨.skip,w',undef,ρ',by rw[hs];simp[h1],.inr ⟨rfl,rfl⟩,h2,by simp only[VRel,undef];exact⟨#[],rfl,by simp[VRels]⟩,h4⟩
theorem a08{α β:Type}{x:Option α}{f:α→β}{y:β}(h:x.map f=some y):∃a,x=some a∧f a=y:=by
 cases x with
 |none=>cases h
 |some a=>simp only[f5x,Option.some.injEq]at h;exact⟨a,rfl,h⟩
theorem a6a{a:Act}{v:Operand→AV}(hv:∀x,VRel I w ρ (v x) (a.eval x)):∀l:List Operand,VRels I w ρ (l.map v) (l.map a.eval)
 | []=>by simp[VRels]
 |x::l=>by simp only[c10,VRels];exact⟨_,_,rfl,hv x,a6a hv l⟩
theorem b5u{a:Act}{v:Operand→AV}(hv:∀x,VRel I w ρ (v x) (a.eval x)):∀l:List (Nat×Operand),a6s I w ρ (l.map λp=>(p.1,v p.2)) (l.map λp=>(p.1,a.eval p.2))
 | []=>by simp[a6s]
 |x::l=>by simp only[c10,a6s];exact⟨_,_,rfl,hv x.2,b5u hv l⟩
theorem b35{a:Act}{v:Operand→AV}(hv:∀x,VRel I w ρ (v x) (a.eval x))(x:Option Operand):a48 I w ρ (x.map v) (x.map a.eval):=by
 cases x with
 |none=>simp[a48]
 |some x=>simp only[f5x,a48];exact⟨_,rfl,hv x⟩
theorem e6c(ok:EnvOk E)(r:HRel E.G I K ρ h w)(hn:h n=none)(hρ:ρ n=none){b:Builtin}{ts:List TypeId}{args:List AV}{ap:List Value}{v:AV}{e:Eff}(ty:TypeId)(qa:Array Bool)
 (ha:e08 E n h b ts args=some (v,e))(hv:VRels I w ρ args ap):∃s:Sem Value,builtin b ts.toArray ty qa ap.toArray=(do pure (.value (←s)))∧Val E I K ρ h n w s v e:=by
 unfold e08 at ha;split at ha
 ·simp only[VRels]at hv;obtain⟨c,_,rfl,hx,rfl⟩:=hv;obtain⟨a,h1,h2⟩:=a08 ha;cases h2;exact⟨_,rfl,e61 ok r ty h1 hx⟩
 ·simp only[VRels]at hv;obtain⟨c,_,rfl,hx,rfl⟩:=hv;obtain⟨a,h1,h2⟩:=a08 ha;cases h2;exact⟨_,rfl,e67 ok r ty h1 hx⟩
 ·simp only[VRels]at hv;obtain⟨c,_,rfl,hx,c2,_,rfl,hy,rfl⟩:=hv;refine⟨_,rfl,?_⟩;rcases b12 ha with ha|ha
  ·exact d0v ok r hn hρ ty ha hx hy
  ·exact c6r ok r hn hρ ty ha hx hy
 ·simp only[VRels]at hv;obtain⟨c,_,rfl,hx,c2,_,rfl,hy,rfl⟩:=hv;exact⟨_,rfl,e02 ok r ty ha hx hy⟩
 ·simp only[VRels]at hv;obtain⟨c,_,rfl,hx,rfl⟩:=hv;exact⟨_,rfl,d5w ok r ty ha hx⟩
 ·simp only[VRels]at hv;obtain⟨c,_,rfl,hx,c2,_,rfl,hy,rfl⟩:=hv;obtain⟨a,h1,h2⟩:=a08 ha;cases h2;exact⟨_,rfl,e01 ok r ty h1 hx hy⟩
 ·simp only[VRels]at hv;obtain⟨c,cs,rfl,hx,ce⟩:=hv;obtain⟨a,h1,h2⟩:=a08 ha;cases h2;obtain⟨d,h3,h4⟩:=d5j (E:=E) (w:=w) h1 hx ce;exact⟨_,rfl,Val.here r (by simpa[Builtin.min_]using h3) h4⟩
 ·simp only[VRels]at hv;obtain⟨c,cs,rfl,hx,ce⟩:=hv;obtain⟨a,h1,h2⟩:=a08 ha;cases h2;obtain⟨d,h3,h4⟩:=d5l (E:=E) (w:=w) h1 hx ce;exact⟨_,rfl,Val.here r (by simpa[Builtin.max_]using h3) h4⟩
 ·cases ha
theorem e1r(ok:EnvOk E)(r:HRel E.G I K ρ h w)(hn:h n=none)(hρ:ρ n=none){a:Act}{o:Oper}{v:Operand→AV}{x:AV}{e:Eff}(ha:aop E n h o.op v=some (x,e))
 (hv:∀x,VRel I w ρ (v x) (a.eval x)):OpOk E I K ρ h n a w o x e:=by
 obtain⟨dst,op,type,pos,after,guard⟩:=o;simp only at ha;unfold aop at ha;split at ha
 ·cases ha;exact⟨_,w,_,ρ,rfl,.inl rfl,Stepped.refl r,hv _,Moves.same _ _ _⟩
 ·cases ha;exact⟨_,w,_,ρ,rfl,.inl rfl,Stepped.refl r,hv _,Moves.same _ _ _⟩
 ·rename_i c p q;split at ha
  case h_2=>cases ha
  rename_i t hc;cases ha;have a7:=hv c;rw[hc]at a7;simp only[VRel]at a7;refine⟨.value (if t then a.eval p else a.eval q),w,_,ρ,?_,.inl rfl,Stepped.refl r,d9u (hv p) (hv q),Moves.same _ _ _⟩;simp[execOp,a7,asBool]
 ·exact OpOk.val rfl (e5y ok r hn hρ ha _)
 ·exact OpOk.val rfl (e6a r hn hρ ha (hv _))
 ·obtain⟨y,h1,h2⟩:=a08 ha;cases h2;rename_i t ps;have:=d5x (n:=n) ok r h1 (b5u hv ps.toList);refine OpOk.val (s:=Instr.build t (ps.toList.map λp=>(p.1,a.eval p.2)).toArray) ?_ this;show(do pure (Next.value (←Instr.build t (ps.map λ(i,x)=>(i,a.eval x)))))=_
  congr 2
  apply g15;simp
 ·rename_i t len ps;have:=b86 (n:=n) ok r hn hρ ha (b5u hv ps.toList);refine OpOk.val (s:=Instr.buildSlice t len (ps.toList.map λp=>(p.1,a.eval p.2)).toArray) ?_ this;show(do pure (Next.value (←Instr.buildSlice t len (ps.map λ(i,x)=>(i,a.eval x)))))=_
  congr 2
  apply g15;simp
 ·obtain⟨y,h1,h2⟩:=a08 ha;cases h2;exact OpOk.val rfl (d9z ok r h1 (hv _))
 ·obtain⟨y,h1,h2⟩:=a08 ha;cases h2;exact OpOk.done rfl (d59 ok r h1 (hv _) (hv _))
 ·rename_i y;have hy:=hv y;split at ha
  ·rename_i b i o hq;cases ha;rw[hq]at hy;have jv:=hy;simp only[VRel]at jv;obtain⟨m,hm,hc⟩:=jv;exact⟨.value (a.eval y),w,_,ρ,by simp[execOp,hc],.inl rfl,Stepped.refl r,hy,Moves.same _ _ _⟩
  ·rename_i cs hq;cases ha;rw[hq]at hy;have jv:=hy;simp only[VRel]at jv;obtain⟨b,off,hc,_⟩:=jv;exact⟨.value (a.eval y),w,_,ρ,by simp[execOp,hc],.inl rfl,Stepped.refl r,hy,Moves.same _ _ _⟩
  ·rename_i f fs cs hq;cases ha;rw[hq]at hy;have jv:=hy;simp only[VRel]at jv;obtain⟨cR,aO,hc,_⟩:=jv;exact⟨.value (a.eval y),w,_,ρ,by simp[execOp,hc],.inl rfl,Stepped.refl r,hy,Moves.same _ _ _⟩
  ·cases ha
 ·obtain⟨y,h1,h2⟩:=a08 ha;cases h2;obtain⟨c,h3,h4⟩:=e6e (E:=E) (w:=w) ok h1 (hv _) (hv _);exact OpOk.val rfl (Val.here r h3 h4)
 ·obtain⟨y,h1,h2⟩:=a08 ha;cases h2;obtain⟨c,h3,h4⟩:=f01 (E:=E) (w:=w) h1 (hv _);exact OpOk.val rfl (Val.here r h3 h4)
 ·obtain⟨y,h1,h2⟩:=a08 ha;cases h2;obtain⟨c,h3,h4⟩:=d5v ok r h1 (hv _);exact OpOk.val rfl (Val.here r h3 h4)
 ·rename_i t y;split at ha
  ·cases ha
  ·rename_i d aF hd;cases ha;refine OpOk.val (s:=Instr.makeInterface t (a.eval y)) rfl (Val.here (c:=.iface t (a.eval y)) r ?_ (by simp only[VRel];exact⟨_,rfl,hv y⟩));simp only[Instr.makeInterface,Sem.run_bind,a0d ok w hd,Result.andThen_ok];cases d<;>first|rfl|(exact absurd rfl (aF _))
  ·cases ha
 ·rename_i fn first cap
  cases ha;refine OpOk.val (s:=Instr.makeFunc fn (first.map a.eval) (cap.map a.eval)) rfl (Val.here r rfl ?_);simp only[VRel];exact⟨_,_,rfl,by rw[g0n];exact a6a hv _,by rw[g0n];exact a6a hv _⟩
 ·rename_i t rr;split at ha
  ·cases ha;exact OpOk.val (s:=Instr.makeMap t none) rfl (c30 r hn hρ (by simp[Instr.makeMap]))
  ·rename_i y;split at ha
   case h_2=>cases ha
   rename_i hd hy;cases ha;have qt:=hv y;rw[hy]at qt;simp only[VRel]at qt;refine OpOk.val (s:=Instr.makeMap t (some (a.eval y))) rfl (c30 r hn hρ ?_);simp[Instr.makeMap,a0d ok w hd,qt,asInt,asIntOf]
 ·exact OpOk.val rfl (c1u ok r hn hρ ha (hv _) (hv _))
 ·obtain⟨y,h1,h2⟩:=a08 ha;cases h2;exact OpOk.val rfl (d5a ok r h1 (hv _) (b35 hv _) (b35 hv _) (b35 hv _))
 ·obtain⟨y,h1,h2⟩:=a08 ha;cases h2;exact OpOk.val rfl (c1y ok r h1 (hv _))
 ·obtain⟨y,h1,h2⟩:=a08 ha;cases h2;exact OpOk.val rfl (d5r ok r h1 (hv _))
 ·obtain⟨y,h1,h2⟩:=a08 ha;cases h2;exact OpOk.val rfl (c1w ok r h1 (hv _) (hv _))
 ·obtain⟨y,h1,h2⟩:=a08 ha;cases h2;exact OpOk.val rfl (d5p ok r h1 (hv _) (hv _))
 ·obtain⟨y,h1,h2⟩:=a08 ha;cases h2;rcases b12 h1 with h1|h1
  ·exact OpOk.val rfl (d0o ok r h1 (hv _) (hv _))
  ·exact OpOk.val rfl (d5n ok r h1 (hv _) (hv _))
 ·obtain⟨y,h1,h2⟩:=a08 ha;cases h2;rcases b12 h1 with h1|h1
  ·exact OpOk.done rfl (b2j ok r h1 (hv _) (hv _) (hv _))
  ·exact OpOk.done rfl (c8i ok r h1 (hv _) (hv _) (hv _))
 ·obtain⟨y,h1,h2⟩:=a08 ha;cases h2;rcases b12 h1 with h1|h1
  ·exact OpOk.done rfl (b2j ok r h1 (hv _) (hv _) (hv _))
  ·exact OpOk.done rfl (c8i ok r h1 (hv _) (hv _) (hv _))
 ·exact OpOk.val rfl (c4p ok r ha (hv _) (hv _))
 ·obtain⟨y,h1,h2⟩:=a08 ha;cases h2;exact OpOk.done rfl (b85 r h1 (hv _) (hv _) (hv _))
 ·rename_i t i;split at ha
  case h_2=>cases ha
  rename_i vs ht;split at ha
  case h_2=>cases ha
  rename_i y hy;cases ha;have qx:=hv t;rw[ht]at qx;simp only[VRel]at qx;obtain⟨cs,hc,eJ⟩:=qx;obtain⟨c,dl,hr⟩:=VRels.get i eJ hy;refine OpOk.val (s:=Instr.extract (a.eval t) i) rfl (Val.here (c:=c) r ?_ hr);have:cs[i]?=some c:=by simpa using dl
  simp[Instr.extract,hc,this]
 ·rcases b12 ha with ha|ha
  ·exact OpOk.val rfl (d5c ok r hn hρ ha (hv _))
  ·exact OpOk.val rfl (d0n ok r hn hρ ha (hv _))
 ·exact OpOk.val rfl (d9w r type ha (hv _))
 ·obtain⟨y,h1,h2⟩:=a08 ha;cases h2;exact OpOk.val rfl (d0r r h1 (hv _))
 ·rename_i b args ts;obtain⟨s,hs,cW⟩:=e6c (E:=E) ok r hn hρ type (args.map λ|.const _=>true|_=>false) ha (a6a hv args.toList);refine OpOk.val ?_ cW;have ht:ts.toList.toArray=ts:=by apply g15;simp
  rw[ht]at hs;rw[←hs];have hm:(args.toList.map a.eval).toArray=args.map a.eval:=by apply g15;simp
  rw[hm];rfl
 ·cases ha
end
end Go.Ax
/- AxRen: block numbers that are renamed; what is frozen. -/
namespace Go.Ax
section
variable {G:GTab (List AV)}{I K:Nat→Prop}{ρ ρ':PMap}{h h':FHeap}{w:World}
theorem HRel.rename(r:HRel G I K ρ h w){π:Nat→Option Nat}(hπ:∀b b' m,π b=some b'→ρ b=some m→ρ' b'=some m)
 (hh:∀b' o',h' b'=some o'→∃b o,h b=some o∧π b=some b'∧o'=a0t π o)(mH:∀b' m,ρ' b'=some m→m.blk<w.heap.size):HRel G I K ρ' h' w where
 live b' o' bq:=by obtain⟨b,o,hb,hp,rfl⟩:=hh b' o' bq;obtain⟨m,h1,h2,h3,h4⟩:=r.live b o hb;exact⟨m,hπ b b' m hp h1,h2,h3,ORel.ren hπ o h4⟩
 inj b1 b2 m1 m2 h1 h2 iz mj he:=by obtain⟨o1,dX⟩:=f4k.1 h1;obtain⟨o2,uM⟩:=f4k.1 h2;obtain⟨c1,q1,cZ,fL,_⟩:=hh b1 o1 dX;obtain⟨c2,q2,dg,dW,_⟩:=hh b2 o2 uM;obtain⟨n1,bH,_⟩:=r.live c1 q1 cZ;obtain⟨n2,eG,_⟩:=r.live c2 q2 dg;have e1:=hπ c1 b1 n1 fL bH;have e2:=hπ c2 b2 n2 dW eG;rw[iz]at e1;rw[mj]at e2;cases e1;cases e2;have:=r.inj c1 c2 _ _ (by simp[cZ]) (by simp[dg]) bH eG he;subst this;rw[fL]at dW;exact z9o dW
 dom:=mH
 imm:=r.imm
 kept:=r.kept
 apart:=r.apart
 glob:=r.glob
theorem Ext.keepLess{K':Nat→Prop}{w w':World}(e:Ext I K w w')(hK:∀c,K' c→K c):Ext I K' w w':=⟨e.os,e.tape,e.output,e.size,λc hc=>e.keep c (hc.imp id (hK c))⟩
/-! ### freezing -/
def d8r(m:Nat)(top:Bool)(d:AV→Option AV)(b:Nat)(v:AV):Option AV:=bif Nat.blt b m then(bif top then some v else none)else d v
mutual
def a4j(m:Nat)(top:Bool)(d:AV→Option AV):AV→Option AV
 |.ptr b i o=>d8r m top d b (.ptr b i o)
 |.slice b off len cap=>d8r m top d b (.slice b off len cap)
 |.map b=>d8r m top d b (.map b)
 |.yfn b=>bif top&&Nat.blt b m then some (.yfn b)else none
 |.func fn fs cs=>match a5t m top d fs,a5t m top d cs with
  |some fs,some cs=>some (.func fn fs cs)
  |_,_=>none
 |.iface t x=>match a4j m top d x with
  |some x=>some (.iface t x)
  |none=>none
 |.agg cs=>match a5t m top d cs with
  |some cs=>some (.agg cs)
  |none=>none
 |.tuple cs=>match a5t m top d cs with
  |some cs=>some (.tuple cs)
  |none=>none
 |.iptr cs=>some (.iptr cs)
 |.islice aa cap=>some (.islice aa cap)
 |.imap ks vs bs bv=>some (.imap ks vs bs bv)
 |.iset ks=>some (.iset ks)
 |.junk=>some .junk
 |.bool b=>some (.bool b)
 |.int k n=>some (.int k n)
 |.str s=>some (.str s)
 |.nilptr=>some .nilptr
 |.nilslice=>some .nilslice
 |.nilmap=>some .nilmap
 |.nilfunc=>some .nilfunc
 |.nilifc=>some .nilifc
def a5t(m:Nat)(top:Bool)(d:AV→Option AV):List AV→Option (List AV)
 | []=>some []
 |v::vs=>match a4j m top d v,a5t m top d vs with
  |some v,some vs=>some (v::vs)
  |_,_=>none
end
def a9g(m:Nat)(d:AV→Option AV):List (List AV)→Option (List (List AV))
 | []=>some []
 |r::rs=>match a5t m false d r,a9g m d rs with
  |some r,some rs=>some (r::rs)
  |_,_=>none
def a54(h:FHeap)(m:Nat):Nat→AV→Option AV
 |0,_=>none
 |n+1,.ptr b i o=>match h b with
  |some (.row _ aa)=>match aa[i]? with
   |some r=>match a5t m false (a54 h m n) (r.drop o)with
    |some cs=>some (.iptr cs)
    |none=>none
   |none=>none
  |_=>none
 |n+1,.slice b off len cap=>match h b with
  |some (.row _ aa)=>bif Nat.ble (off+len) aa.length then
   match a9g m (a54 h m n) ((aa.drop off).take len)with
   |some rs=>some (.islice rs cap)
   |none=>none
   else none
  |_=>none
 |n+1,.map b=>match h b with
  |some (.map ks vs bs cl)=>match a5t m false (a54 h m n) ks,a5t m false (a54 h m n) vs with
   |some ks,some vs=>some (.imap ks vs bs cl)
   |_,_=>none
  |some (.uset ks)=>some (.iset ks)
  |_=>none
 |_+1,_=>none
def a52(I:Nat→Prop)(ρ:PMap)(h:FHeap)(m:Nat):Nat→Prop:=λc=>I c∨∃b o p,m≤b∧h b=some o∧ρ b=some p∧p.blk=c
def c6t(I':Nat→Prop)(I:Nat→Prop)(w:World)(ρ:PMap)(m:Nat)(d:AV→Option AV):Prop:=∀b v v' c,(v = .map b∨(∃i o,v = .ptr b i o)∨∃off len cap,v = .slice b off len cap)→m≤b→d v=some v'→VRel I w ρ v c→VRel I' w noP v' c
def PMap.below(ρ:PMap)(m:Nat)(top:Bool):PMap:=λb=>if top=true∧b<m then ρ b else none
theorem a8r{I I':Nat→Prop}{w:World}{ρ:PMap}(_:∀c,I c→I' c){v:AV}{c:Value}(h:VRel I' w noP v c):VRel I' w ρ v c:=VRel.mono (λ_ h=>h) (λ_ _=>rfl) v (λ_ _ h=>by simp[noP]at h) h
variable {I':Nat→Prop}{m:Nat}{top:Bool}{d:AV→Option AV}
mutual
theorem b3g(hI:∀c,I c→I' c)(hd:c6t I' I w ρ m d):∀(v:AV) {v':AV} {c:Value},a4j m top d v=some v'→VRel I w ρ v c→VRel I' w (ρ.below m top) v' c
 |.ptr b i o,v',c,hf,hv=>by
  simp only[a4j,d8r]at hf;rw[cond_eq_ite]at hf;split at hf
  ·rename_i hb;rw[cond_eq_ite]at hf;split at hf
   case isFalse=>cases hf
   rename_i ht;cases hf;simp only[VRel]at hv⊢;obtain⟨p,hp,rfl⟩:=hv;exact⟨p,by simp only[PMap.below];rw[f6e ⟨ht,by simpa[f8f]using hb⟩];exact hp,rfl⟩
  ·rename_i hb;exact a8r (I:=I) hI (hd b _ _ _ (.inr (.inl ⟨i,o,rfl⟩)) (by simpa[f8f]using hb) hf hv)
 |.slice b off len cap,v',c,hf,hv=>by
  simp only[a4j,d8r]at hf;rw[cond_eq_ite]at hf;split at hf
  ·rename_i hb;rw[cond_eq_ite]at hf;split at hf
   case isFalse=>cases hf
   rename_i ht;cases hf;simp only[VRel]at hv⊢;obtain⟨a,cc,rfl,h1,h2,h3⟩:=hv;refine⟨a,cc,rfl,h1,h2,h3.imp id ?_⟩
   rintro⟨p,hp,rfl,hr⟩
   exact⟨p,by simp only[PMap.below];rw[f6e ⟨ht,by simpa[f8f]using hb⟩];exact hp,rfl,hr⟩
  ·rename_i hb;exact a8r (I:=I) hI (hd b _ _ _ (.inr (.inr ⟨off,len,cap,rfl⟩)) (by simpa[f8f]using hb) hf hv)
 |.map b,v',c,hf,hv=>by
  simp only[a4j,d8r]at hf;rw[cond_eq_ite]at hf;split at hf
  ·rename_i hb;rw[cond_eq_ite]at hf;split at hf
   case isFalse=>cases hf
   rename_i ht;cases hf;simp only[VRel]at hv⊢;obtain⟨p,hp,rfl⟩:=hv;exact⟨p,by simp only[PMap.below];rw[f6e ⟨ht,by simpa[f8f]using hb⟩];exact hp,rfl⟩
  ·rename_i hb;exact a8r (I:=I) hI (hd b _ _ _ (.inl rfl) (by simpa[f8f]using hb) hf hv)
 |.yfn b,v',c,hf,hv=>by
  simp only[a4j]at hf;rw[cond_eq_ite]at hf;split at hf
  case isFalse=>cases hf
  rename_i hb;cases hf;simp only[d14,f8f]at hb;simp only[VRel]at hv⊢;obtain⟨p,hp,rfl⟩:=hv;exact⟨p,by simp only[PMap.below];rw[f6e hb];exact hp,rfl⟩
 |.func fn fs cs,v',c,hf,hv=>by
  simp only[a4j]at hf;split at hf
  case h_2=>cases hf
  rename_i cR aO h1 h2;cases hf;simp only[VRel]at hv⊢;obtain⟨a,b,rfl,h3,h4⟩:=hv;exact⟨a,b,rfl,b02 hI hd fs h1 h3,b02 hI hd cs h2 h4⟩
 |.iface t x,v',c,hf,hv=>by
  simp only[a4j]at hf;split at hf
  case h_2=>cases hf
  rename_i x' h1;cases hf;simp only[VRel]at hv⊢;obtain⟨a,rfl,h3⟩:=hv;exact⟨a,rfl,b3g hI hd x h1 h3⟩
 |.agg cs,v',c,hf,hv=>by
  simp only[a4j]at hf;split at hf
  case h_2=>cases hf
  rename_i aO h1;cases hf;simp only[VRel]at hv⊢;obtain⟨a,rfl,h3⟩:=hv;exact⟨a,rfl,b02 hI hd cs h1 h3⟩
 |.tuple cs,v',c,hf,hv=>by
  simp only[a4j]at hf;split at hf
  case h_2=>cases hf
  rename_i aO h1;cases hf;simp only[VRel]at hv⊢;obtain⟨a,rfl,h3⟩:=hv;exact⟨a,rfl,b02 hI hd cs h1 h3⟩
 |.iptr cs,v',c,hf,hv=>by simp only[a4j,Option.some.injEq]at hf;subst hf;exact a8r (I:=I) hI (VRel.mono (ρ:=noP) (ρ':=noP) hI (λ_ _=>rfl) _ (λ_ _ h=>h) (by simpa only[VRel]using hv))
 |.islice aa cap,v',c,hf,hv=>by simp only[a4j,Option.some.injEq]at hf;subst hf;exact a8r (I:=I) hI (VRel.mono (ρ:=noP) (ρ':=noP) hI (λ_ _=>rfl) _ (λ_ _ h=>h) (by simpa only[VRel]using hv))
 |.imap ks vs bs bv,v',c,hf,hv=>by simp only[a4j,Option.some.injEq]at hf;subst hf;exact a8r (I:=I) hI (VRel.mono (ρ:=noP) (ρ':=noP) hI (λ_ _=>rfl) _ (λ_ _ h=>h) (by simpa only[VRel]using hv))
 |.iset ks,v',c,hf,hv=>by simp only[a4j,Option.some.injEq]at hf;subst hf;exact a8r (I:=I) hI (VRel.mono (ρ:=noP) (ρ':=noP) hI (λ_ _=>rfl) _ (λ_ _ h=>h) (by simpa only[VRel]using hv))
 |.junk,v',c,hf,hv=>by simp only[a4j,Option.some.injEq]at hf;subst hf;simp[VRel]
 |.bool b,v',c,hf,hv=>by simp only[a4j,Option.some.injEq]at hf;subst hf;simpa[VRel]using hv
 |.int k n,v',c,hf,hv=>by simp only[a4j,Option.some.injEq]at hf;subst hf;simpa[VRel]using hv
 |.str s,v',c,hf,hv=>by simp only[a4j,Option.some.injEq]at hf;subst hf;simpa[VRel]using hv
 |.nilptr,v',c,hf,hv=>by simp only[a4j,Option.some.injEq]at hf;subst hf;simpa[VRel]using hv
 |.nilslice,v',c,hf,hv=>by simp only[a4j,Option.some.injEq]at hf;subst hf;simpa[VRel]using hv
 |.nilmap,v',c,hf,hv=>by simp only[a4j,Option.some.injEq]at hf;subst hf;simpa[VRel]using hv
 |.nilfunc,v',c,hf,hv=>by simp only[a4j,Option.some.injEq]at hf;subst hf;simpa[VRel]using hv
 |.nilifc,v',c,hf,hv=>by simp only[a4j,Option.some.injEq]at hf;subst hf;simpa[VRel]using hv
theorem b02(hI:∀c,I c→I' c)(hd:c6t I' I w ρ m d):∀(vs:List AV) {eE:List AV} {cs:List Value},a5t m top d vs=some eE→VRels I w ρ vs cs→VRels I' w (ρ.below m top) eE cs
 | [],eE,cs,hf,hv=>by simp only[a5t,Option.some.injEq]at hf;subst hf;simpa[VRels]using hv
 |v::vs,eE,cs,hf,hv=>by
  simp only[a5t]at hf;split at hf
  case h_2=>cases hf
  rename_i v1 lQ h1 h2;cases hf;simp only[VRels]at hv⊢;obtain⟨c,aO,rfl,h3,h4⟩:=hv;exact⟨c,aO,rfl,b3g hI hd v h1 h3,b02 hI hd vs h2 h4⟩
end
theorem a96(ρ:PMap)(m:Nat):ρ.below m false=noP:=by funext b;simp[PMap.below,noP]
theorem c66(hI:∀c,I c→I' c)(hd:c6t I' I w ρ m d):∀(vs:List AV) {eE:List AV} {b off:Nat},a5t m false d vs=some eE→VAt I w ρ vs b off→VAt I' w noP eE b off
 | [],eE,b,off,hf,_=>by simp only[a5t,Option.some.injEq]at hf;subst hf;simp[VAt]
 |v::vs,eE,b,off,hf,hv=>by
  simp only[a5t]at hf;split at hf
  case h_2=>cases hf
  rename_i v1 lQ h1 h2;cases hf;simp only[VAt]at hv⊢;obtain⟨⟨c,hc,h3⟩,h4⟩:=hv;have:=b3g hI hd v h1 h3;rw[a96]at this;exact⟨⟨c,hc,this⟩,c66 hI hd vs h2 h4⟩
theorem b18{m:Nat}{top:Bool}{d:AV→Option AV}:∀{vs eE:List AV},a5t m top d vs=some eE→eE.length=vs.length
 | [],eE,hf=>by simp only[a5t,Option.some.injEq]at hf;subst hf;rfl
 |v::vs,eE,hf=>by
  simp only[a5t]at hf;split at hf
  case h_2=>cases hf
  rename_i v1 lQ h1 h2;cases hf;simp[b18 h2]
theorem d44{k:Nat}(hI:∀c,I c→I' c)(hd:c6t I' I w ρ m d):∀(rs:List (List AV)) {eN:List (List AV)} {b off:Nat},a9g m d rs=some eN→VRows I w k ρ rs b off→VRows I' w k noP eN b off
 | [],eN,b,off,hf,_=>by simp only[a9g,Option.some.injEq]at hf;subst hf;simp[VRows]
 |r::rs,eN,b,off,hf,hv=>by
  simp only[a9g]at hf;split at hf
  case h_2=>cases hf
  rename_i v1 lQ h1 h2;cases hf;simp only[VRows]at hv⊢;obtain⟨h3,h4,h5⟩:=hv;exact⟨by rw[b18 h1];exact h3,c66 hI hd r h1 h4,d44 hI hd rs h2 h5⟩
def c65(m:Nat)(d:AV→Option AV):List (List AV)→Option (List (List AV))
 | []=>some []
 |r::rs=>match a5t m true d r,c65 m d rs with
  |some r',some eN=>some (r'::eN)
  |_,_=>none
theorem c7z(hI:∀c,I c→I' c)(hd:c6t I' I w ρ m d):∀(vs:List AV) {eE:List AV} {b off:Nat},a5t m true d vs=some eE→VAt I w ρ vs b off→VAt I' w (ρ.below m true) eE b off
 | [],eE,b,off,hf,_=>by simp only[a5t,Option.some.injEq]at hf;subst hf;simp[VAt]
 |v::vs,eE,b,off,hf,hv=>by
  simp only[a5t]at hf;split at hf
  case h_2=>cases hf
  rename_i v1 lQ h1 h2;cases hf;simp only[VAt]at hv⊢;obtain⟨⟨c,hc,h3⟩,h4⟩:=hv;exact⟨⟨c,hc,b3g hI hd v h1 h3⟩,c7z hI hd vs h2 h4⟩
theorem d43{k:Nat}(hI:∀c,I c→I' c)(hd:c6t I' I w ρ m d):∀(rs:List (List AV)) {eN:List (List AV)} {b off:Nat},c65 m d rs=some eN→VRows I w k ρ rs b off→VRows I' w k (ρ.below m true) eN b off
 | [],eN,b,off,hf,_=>by simp only[c65,Option.some.injEq]at hf;subst hf;simp[VRows]
 |r::rs,eN,b,off,hf,hv=>by
  simp only[c65]at hf;split at hf
  case h_2=>cases hf
  rename_i v1 lQ h1 h2;cases hf;simp only[VRows]at hv⊢;obtain⟨h3,h4,h5⟩:=hv;exact⟨by rw[b18 h1];exact h3,c7z hI hd r h1 h4,d43 hI hd rs h2 h5⟩
theorem b6p{m:Nat}{d:AV→Option AV}:∀{rs eN:List (List AV)},c65 m d rs=some eN→eN.length=rs.length
 | [],eN,hf=>by simp only[c65,Option.some.injEq]at hf;subst hf;rfl
 |r::rs,eN,hf=>by
  simp only[c65]at hf;split at hf
  case h_2=>cases hf
  rename_i v1 lQ h1 h2;cases hf;simp[b6p h2]
theorem b6q{m:Nat}{d:AV→Option AV}:∀{rs eN:List (List AV)},a9g m d rs=some eN→eN.length=rs.length
 | [],eN,hf=>by simp only[a9g,Option.some.injEq]at hf;subst hf;rfl
 |r::rs,eN,hf=>by
  simp only[a9g]at hf;split at hf
  case h_2=>cases hf
  rename_i v1 lQ h1 h2;cases hf;simp[b6q h2]
end
end Go.Ax
/- AxFrz: a result that is frozen, with the heap that is left. -/
namespace Go.Ax
section
variable {G:GTab (List AV)}{I K:Nat→Prop}{ρ:PMap}{h:FHeap}{w:World}{m:Nat}
theorem a8d(r:HRel G I K ρ h w):∀n,c6t (a52 I ρ h m) I w ρ m (a54 h m n)
 |0=>by intro b v v' c _ _ hd _;simp[a54]at hd
 |n+1=>by
  have ih:=a8d r n;have hI:∀c,I c→a52 I ρ h m c:=λc hc=>.inl hc;intro b v v' c hv hb hd hr;rcases hv with rfl|⟨i,o,rfl⟩|⟨off,len,cap,rfl⟩
  ·simp only[a54]at hd;split at hd
   case h_3=>cases hd
   case h_2=>rename_i ks dF;cases hd;simp only[VRel]at hr⊢;obtain⟨p,hp,rfl⟩:=hr;obtain⟨p',iv,_,_,es,cl,he,hs⟩:=r.live b _ dF;obtain rfl:p=p':=z9o (hp.symm.trans iv);exact⟨p.blk,es,cl,rfl,.inr ⟨b,_,p,hb,dF,hp,rfl⟩,he,hs⟩
   rename_i ks vs bs cl dF;split at hd
   case h_2=>cases hd
   rename_i ku eE h1 h2;cases hd;simp only[VRel]at hr⊢;obtain⟨p,hp,rfl⟩:=hr;obtain⟨p',iv,_,_,es,he,hk,lZ,rG⟩:=r.live b _ dF;obtain rfl:p=p':=z9o (hp.symm.trans iv);have e1:=b02 hI ih ks h1 hk;have e2:=b02 hI ih vs h2 lZ;rw[a96]at e1 e2;exact⟨p.blk,es,rfl,.inr ⟨b,_,p,hb,dF,hp,rfl⟩,he,e1,e2,rG⟩
  ·simp only[a54]at hd;split at hd
   case h_2=>cases hd
   rename_i k aa dF;split at hd
   case h_2=>cases hd
   rename_i rr fS;split at hd
   case h_2=>cases hd
   rename_i cs h1;cases hd;simp only[VRel]at hr⊢;obtain⟨p,hp,rfl⟩:=hr;obtain⟨p',iv,_,_,hk,_,_,aA⟩:=r.live b _ dF;obtain rfl:p=p':=z9o (hp.symm.trans iv);obtain⟨ai,bg⟩:=VRows.get i aA fS;have j4:VAt I w ρ (rr.drop o) p.blk (p.off+i*k+o):=by
    by_cases ho:o≤rr.length
    ·exact VAt.drop o ho bg
    ·rw[g14 (by omega)];simp[VAt]
   rw[hk];exact⟨p.blk,_,rfl,.inr ⟨b,_,p,hb,dF,hp,rfl⟩,c66 hI ih _ h1 j4⟩
  ·simp only[a54]at hd;split at hd
   case h_2=>cases hd
   rename_i k aa dF;rw[cond_eq_ite]at hd;split at hd
   case isFalse=>cases hd
   rename_i bY;rw[g0h]at bY;split at hd
   case h_2=>cases hd
   rename_i rs h1;cases hd;have ai:rs.length=len:=by rw[b6q h1];simp;omega
   simp only[VRel]at hr⊢;obtain⟨a,cc,rfl,bC,a8,cw⟩:=hr;obtain⟨p',iv,_,_,hk,_,_,aA⟩:=r.live b _ dF;refine⟨a,cc,k,by rw[ai],by rw[ai];exact bC,a8,?_⟩;rcases cw with rfl|⟨p,hp,rfl,_⟩
   ·left;exact g0q.1 (by omega)
   ·right;obtain rfl:p=p':=z9o (hp.symm.trans iv);refine⟨rfl,.inr ⟨b,_,p,hb,dF,hp,rfl⟩,?_⟩;have:=d44 hI ih _ h1 (VRows.take len (VRows.drop off (by omega) aA));rw[hk];exact this
theorem HRel.grow{I':Nat→Prop}(r:HRel G I K ρ h w)(hI:∀c,I c→I' c)(oD:∀b o m,h b=some o→ρ b=some m→¬I' m.blk)(hK:∀c,I' c→¬K c)(bU:∀c,I' c→c<w.heap.size) :
 HRel G I' K ρ h w where
 live b o hb:=by obtain⟨m,h1,h2,h3,h4⟩:=r.live b o hb;exact⟨m,h1,oD b o m hb h1,h3,ORel.mono o hI (λ_ _=>rfl) (λ_ _ h=>h) rfl h4⟩
 inj:=r.inj
 dom:=r.dom
 imm:=bU
 kept:=r.kept
 apart:=hK
 glob g cs hg:=⟨hI _ (r.glob g cs hg).1,VAt.mono hI (λ_ _=>rfl) cs (λ_ _ h=>h) rfl (r.glob g cs hg).2⟩
def a1z(m:Nat):Nat→Option Nat:=λb=>bif Nat.blt b m then some b else none
theorem b23(r:HRel G I K ρ h w){n:Nat}{v v':AV}{c:Value}(hf:a4j m true (a54 h m n) v=some v')(hv:VRel I w ρ v c){h':FHeap}
 (hh:∀b o',h' b=some o'→∃o,b<m∧h b=some o∧o'=a0t (a1z m) o) :
 HRel G (a52 I ρ h m) K (ρ.below m true) h' w∧VRel (a52 I ρ h m) w (ρ.below m true) v' c:=by
 have hI:∀c,I c→a52 I ρ h m c:=λc hc=>.inl hc;refine⟨?_,b3g hI (a8d r n) v hf hv⟩;have r0:HRel G I K ρ (λb=>if b<m then h b else none) w:=r.fewer (λb o hb=>by
  split at hb
  ·exact hb
  ·cases hb)
 have r1:HRel G (a52 I ρ h m) K ρ (λb=>if b<m then h b else none) w:=by
  refine r0.grow hI ?_ ?_ ?_
  ·intro b o p hb hp;split at hb
   case isFalse=>cases hb
   rename_i ah;obtain⟨p',iv,dL,_,_⟩:=r.live b o hb;obtain rfl:p=p':=z9o (hp.symm.trans iv)
   rintro(hc|⟨b',o',q,bq,d8,hq,he⟩)
   ·exact dL hc
   ·have:=r.inj b b' p q (by simp[hb]) (by simp[d8]) hp hq he.symm;omega
  ·rintro c (hc|⟨b',o',q,bq,d8,hq,rfl⟩)
   ·exact r.apart c hc
   ·obtain⟨q',iX,_,gH,_⟩:=r.live b' o' d8;obtain rfl:q=q':=z9o (hq.symm.trans iX);exact gH
  ·rintro c (hc|⟨b',o',q,bq,d8,hq,rfl⟩)
   ·exact r.imm c hc
   ·exact r.dom b' q hq
 refine r1.rename (π:=a1z m) ?_ ?_ ?_
 ·intro b b' p hp hb;simp only[a1z]at hp;rw[cond_eq_ite]at hp;split at hp
  case isFalse=>cases hp
  rename_i ah;cases hp;simp only[PMap.below];rw[f6e ⟨trivial,by simpa[f8f]using ah⟩];exact hb
 ·intro b o' hb;obtain⟨o,ah,ho,rfl⟩:=hh b o' hb;refine⟨b,o,by rw[f6e ah];exact ho,?_,rfl⟩;simp only[a1z];rw[cond_eq_ite,f6e (by simpa[f8f]using ah)]
 ·intro b p hb;simp only[PMap.below]at hb;split at hb
  ·exact r.dom b p hb
  ·cases hb
end
end Go.Ax
