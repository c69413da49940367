/- AxCore: abstract values, abstract heap objects, and what they say of a world. No condition: definitions and their monotonicity. -/
import Derived.Orders
import Derived.Scope
import Derived.Laws.Sem
import Derived.Laws.CopyRow
import GoSem.Extern.Table
import Derived.Laws.Strings
import GoSem.Builtin.Append
import GoSem.Builtin.Len
import GoSem.Builtin.Cap
import GoSem.Builtin.Min
import GoSem.Builtin.Max
import GoSem.Builtin.Copy
import GoSem.Builtin.Clear
import GoSem.Instr.MapUpdate
import GoSem.Instr.MapEntry
import GoSem.Builtin.Delete
import GoSem.Instr.Range
import GoSem.Instr.Next
import GoSem.Instr.Entry
import GoSem.Dispatch
set_option linter.unusedSimpArgs false
set_option linter.unusedVariables false
namespace Go.Ax
theorem c10:type_of% @List.length_map:=@List.length_map
theorem c11:type_of% @List.mem_of_getElem?:=@List.mem_of_getElem?
theorem e12:type_of% @List.map_cons:=@List.map_cons
theorem e7g:type_of% @List.length_cons:=@List.length_cons
theorem e7h:type_of% @Bool.and_eq_true:=@Bool.and_eq_true
theorem e7i:type_of% @List.append_nil:=@List.append_nil
theorem e7j:type_of% @List.map_nil:=@List.map_nil
theorem e7k:type_of% @List.getElem?_eq_some_iff:=@List.getElem?_eq_some_iff
theorem e7l:type_of% @List.nil_append:=@List.nil_append
theorem e7m:type_of% @List.append_assoc:=@List.append_assoc
theorem e7n:type_of% @Option.isSome_iff_exists:=@Option.isSome_iff_exists
theorem e8a:type_of% @List.getElem?_map:=@List.getElem?_map
theorem e8b:type_of% @List.take_of_length_le:=@List.take_of_length_le
theorem e8c:type_of% @List.length_nil:=@List.length_nil
theorem e8d:type_of% @Option.map_some:=@Option.map_some
theorem e8e:type_of% @Nat.zero_le:=@Nat.zero_le
theorem e8f:type_of% @List.getElem?_append_left:=@List.getElem?_append_left
theorem e8g:type_of% @if_neg:=@if_neg
theorem e8h:type_of% @List.getElem?_append_right:=@List.getElem?_append_right
theorem e8i:type_of% @List.length_append:=@List.length_append
theorem e8j:type_of% @if_pos:=@if_pos
theorem e8k:type_of% @List.mem_singleton:=@List.mem_singleton
theorem e8l:type_of% @List.map_append:=@List.map_append
theorem e8m:type_of% @List.getElem?_eq_none:=@List.getElem?_eq_none
theorem e8n:type_of% @List.getElem?_set:=@List.getElem?_set
theorem e9f:type_of% @List.getD_eq_getElem?_getD:=@List.getD_eq_getElem?_getD
theorem e9g:type_of% @List.getElem?_mapIdx:=@List.getElem?_mapIdx
theorem e9h:type_of% @List.cons_append:=@List.cons_append
theorem e9i:type_of% @cond_true:=@cond_true
theorem e9j:type_of% @decide_eq_true_eq:=@decide_eq_true_eq
theorem e9k:type_of% @Nat.le_refl:=@Nat.le_refl
theorem e9l:type_of% @List.take_zero:=@List.take_zero
theorem e9m:type_of% @List.mem_cons:=@List.mem_cons
theorem e9n:type_of% @Array.length_toList:=@Array.length_toList
theorem e9o:type_of% @Nat.blt_eq:=@Nat.blt_eq
theorem e9p:type_of% @List.ext_getElem?:=@List.ext_getElem?
theorem e9q:type_of% @cond_false:=@cond_false
theorem e9r:type_of% @List.all_eq_true:=@List.all_eq_true
theorem e9s:type_of% @List.mem_append:=@List.mem_append
theorem e9u:type_of% @Array.getD_eq_getD_getElem?:=@Array.getD_eq_getD_getElem?
theorem e9v:type_of% @List.flatMap_cons:=@List.flatMap_cons
theorem e9w:type_of% @decide_eq_true:=@decide_eq_true
theorem e9x:type_of% @Option.getD_some:=@Option.getD_some
theorem e9y:type_of% @Nat.zero_add:=@Nat.zero_add
theorem e9z:type_of% @List.exists_cons_of_ne_nil:=@List.exists_cons_of_ne_nil
theorem f00:type_of% @List.getElem?_cons_succ:=@List.getElem?_cons_succ
theorem f01:type_of% @List.eq_of_mem_replicate:=@List.eq_of_mem_replicate
theorem f02:type_of% @List.length_take:=@List.length_take
theorem f0i:type_of% @List.map_congr_left:=@List.map_congr_left
theorem f0k:type_of% @List.getElem?_cons_zero:=@List.getElem?_cons_zero
theorem f0l:type_of% @List.length_set:=@List.length_set
theorem f0m:type_of% @Array.getElem?_setIfInBounds:=@Array.getElem?_setIfInBounds
theorem f0n:type_of% @Array.getElem?_eq_some_iff:=@Array.getElem?_eq_some_iff
theorem f0o:type_of% @List.length_range:=@List.length_range
theorem f0p:type_of% @List.take_length:=@List.take_length
theorem f0q:type_of% @beq_eq_false_iff_ne:=@beq_eq_false_iff_ne
theorem f0r:type_of% @List.mem_map:=@List.mem_map
theorem f0s:type_of% @Bool.false_eq_true:=@Bool.false_eq_true
theorem f0t:type_of% @List.getElem?_replicate:=@List.getElem?_replicate
theorem f0u:type_of% @List.drop_zero:=@List.drop_zero
theorem f0v:type_of% @List.getElem?_take:=@List.getElem?_take
theorem f0w:type_of% @List.mem_cons_of_mem:=@List.mem_cons_of_mem
theorem f0x:type_of% @Bool.not_eq_true':=@Bool.not_eq_true'
theorem f0y:type_of% @List.flatten_cons:=@List.flatten_cons
theorem f0z:type_of% @List.mem_map_of_mem:=@List.mem_map_of_mem
theorem f1a:type_of% @if_true:=@if_true
theorem f1b:type_of% @List.idxOf?_cons:=@List.idxOf?_cons
theorem f1c:type_of% @List.getElem?_toArray:=@List.getElem?_toArray
theorem f1d:type_of% @Nat.lt_or_ge:=@Nat.lt_or_ge
theorem f1e:type_of% @Bool.and_self:=@Bool.and_self
theorem f1f:type_of% @List.map_set:=@List.map_set
theorem f1g:type_of% @Nat.mul_le_mul_right:=@Nat.mul_le_mul_right
theorem f1h:type_of% @Nat.ble_eq:=@Nat.ble_eq
theorem f1j:type_of% @Nat.eq_of_beq_eq_true:=@Nat.eq_of_beq_eq_true
theorem f1k:type_of% @List.mem_iff_getElem?:=@List.mem_iff_getElem?
theorem f1l:type_of% @Option.bind_some:=@Option.bind_some
theorem f1m:type_of% @of_eq_true:=@of_eq_true
theorem f1n:type_of% @List.mem_or_eq_of_mem_set:=@List.mem_or_eq_of_mem_set
theorem f1o:type_of% @List.append_eq_nil_iff:=@List.append_eq_nil_iff
theorem f1p:type_of% @List.getElem?_drop:=@List.getElem?_drop
theorem f1q:type_of% @Bool.true_and:=@Bool.true_and
theorem f1r:type_of% @Nat.add_mul:=@Nat.add_mul
theorem f1s:type_of% @Array.getElem?_toList:=@Array.getElem?_toList
theorem f2b:type_of% @List.replicate_succ:=@List.replicate_succ
theorem f2c:type_of% @List.nodup_cons:=@List.nodup_cons
theorem f2d:type_of% @List.getElem?_range:=@List.getElem?_range
theorem f2e:type_of% @Array.toList_map:=@Array.toList_map
theorem f2f:type_of% @Option.join_some:=@Option.join_some
theorem f2g:type_of% @List.mem_range:=@List.mem_range
theorem f2l:type_of% @Nat.add_sub_cancel_left:=@Nat.add_sub_cancel_left
theorem f2n:type_of% @Bool.not_true:=@Bool.not_true
theorem f2o:type_of% @List.mem_cons_self:=@List.mem_cons_self
theorem f2p:type_of% @beq_iff_eq:=@beq_iff_eq
theorem f2q:type_of% @decide_eq_false:=@decide_eq_false
theorem f2r:type_of% @List.range_succ:=@List.range_succ
theorem f2s:type_of% @List.flatMap_nil:=@List.flatMap_nil
theorem f2t:type_of% @List.flatMap_append:=@List.flatMap_append
theorem f2u:type_of% @Array.toList_push:=@Array.toList_push
theorem f2v:type_of% @Bool.or_eq_true:=@Bool.or_eq_true
theorem f2w:type_of% @List.length_eq_zero_iff:=@List.length_eq_zero_iff
theorem f2x:type_of% @Ne.symm:=@Ne.symm
theorem f3a:type_of% @List.mem_filter:=@List.mem_filter
theorem f3b:type_of% @decide_true:=@decide_true
theorem f3c:type_of% @List.map_replicate:=@List.map_replicate
theorem f3d:type_of% @List.mem_flatMap:=@List.mem_flatMap
theorem f3e:type_of% @List.map_map:=@List.map_map
theorem f3s:type_of% @List.drop_eq_nil_of_le:=@List.drop_eq_nil_of_le
theorem f3t:type_of% @Array.ext':=@Array.ext'
theorem f3v:type_of% @Array.getElem?_push:=@Array.getElem?_push
theorem f3w:type_of% @if_false:=@if_false
theorem f3x:type_of% @List.length_replicate:=@List.length_replicate
theorem f3y:type_of% @Nat.add_zero:=@Nat.add_zero
theorem f3z:type_of% @List.take_append_drop:=@List.take_append_drop
theorem f4a:type_of% @Bool.eq_iff_iff:=@Bool.eq_iff_iff
theorem f4b:type_of% @Nat.not_lt_zero:=@Nat.not_lt_zero
theorem f4h:type_of% @Nat.beq_eq:=@Nat.beq_eq
theorem f4n:type_of% @Nat.mod_lt:=@Nat.mod_lt
theorem f4o:type_of% @Nat.succ_mul:=@Nat.succ_mul
theorem z9e{α:Type}{l:List α}{i:Nat}(h:i<l.length):l[i]?=some l[i]:=List.getElem?_eq_getElem h
theorem z9o{α:Type}{a b:α}(h:some a=some b):a=b:=Option.some.inj h
inductive AV where
 |junk
 |bool (b:Bool)
 |int (k:IntKind)(n:Int)
 |str (s:List UInt8)
 |nilptr
 |nilslice
 |nilmap
 |nilfunc
 |nilifc
 |ptr (b i o:Nat)
 |iptr (cells:List AV)
 |slice (b off len:Nat)(cap:Option Nat)
 |islice (aa:List (List AV))(cap:Option Nat)
 |map (b:Nat)
 |imap (ks vs:List AV)(bs:List Nat)(bh:Nat)
 |iset (ks:List Int)
 |yfn (b:Nat)
 |func (fn:Fn)(first fW:List AV)
 |iface (t:TypeId)(v:AV)
 |agg (cells:List AV)
 |tuple (vs:List AV)
 deriving Inhabited
structure Pl where
 blk:Nat
 off:Nat
 k:Nat
 room:Nat
abbrev PMap:=Nat→Option Pl
def noP:PMap:=λ_=>none
def USet(ks:List Int)(es:Array MapEntry)(cl:Nat):Prop:=(es.toList.map (·.key)).Perm (ks.map (Value.int .i64))∧(∀e∈es.toList,e.val = .bool true)∧ks.Nodup∧(es.toList.map (·.born)).Nodup∧∀e∈es.toList,e.born<cl
mutual
def VRel(I:Nat→Prop)(w:World):PMap→AV→Value→Prop
 |_,.junk,_=>True
 |_,.bool b,v=>v = .bool b
 |_,.int k n,v=>v = .int k n
 |_,.str s,v=>∃t:ByteArray,v = .string t∧t.data.toList=s
 |_,.nilptr,v=>v = .pointer none
 |_,.nilslice,v=>v = .slice none 0 0
 |_,.nilmap,v=>v = .map none
 |_,.nilfunc,v=>v = .nilFunc
 |_,.nilifc,v=>v = .nilIface
 |ρ,.ptr b i o,v=>∃m,ρ b=some m∧v = .pointer (some ⟨m.blk,m.off+i*m.k+o,none⟩)
 |_,.iptr cs,v=>∃c off,v = .pointer (some ⟨c,off,none⟩)∧I c∧VAt I w noP cs c off
 |ρ,.slice b off len cap,v=>∃a c,v = .slice (some a) len c∧len≤c∧(∀n,cap=some n→c=n)∧
  (c=0∨∃m,ρ b=some m∧a=⟨m.blk,m.off+off*m.k,none⟩∧m.off+(off+c)*m.k≤m.room)
 |_,.islice aa cap,v=>∃a c k,v = .slice (some a) aa.length c∧aa.length≤c∧(∀n,cap=some n→c=n)∧
  (aa=[]∨(a.spot=none∧I a.block∧VRows I w k noP aa a.block a.off))
 |ρ,.map b,v=>∃m,ρ b=some m∧v = .map (some m.blk)
 |_,.imap ks vs bs bh,v=>∃c es,v = .map (some c)∧I c∧w.heap[c]?=some (.map es bh)∧
  VRels I w noP ks (es.toList.map (·.key))∧VRels I w noP vs (es.toList.map (·.val))∧es.toList.map (·.born)=bs
 |_,.iset ks,v=>∃c es cl,v = .map (some c)∧I c∧w.heap[c]?=some (.map es cl)∧USet ks es cl
 |ρ,.yfn b,v=>∃m,ρ b=some m∧v = .func (.yield m.blk) #[] #[]
 |ρ,.func fn fs cs,v=>∃cB aI:Array Value,v = .func fn cB aI∧VRels I w ρ fs cB.toList∧VRels I w ρ cs aI.toList
 |ρ,.iface t x,v=>∃x',v = .iface t x'∧VRel I w ρ x x'
 |ρ,.agg cs,v=>∃aI:Array Value,v = .agg aI∧VRels I w ρ cs aI.toList
 |ρ,.tuple cs,v=>∃aI:Array Value,v = .tuple aI∧VRels I w ρ cs aI.toList
def VRels(I:Nat→Prop)(w:World):PMap→List AV→List Value→Prop
 |_,[],l=>l=[]
 |ρ,v::vs,l=>∃c cs,l=c::cs∧VRel I w ρ v c∧VRels I w ρ vs cs
def VAt(I:Nat→Prop)(w:World):PMap→List AV→Nat→Nat→Prop
 |_,[],_,_=>True
 |ρ,v::vs,b,off=>(∃c,w.cell? ⟨b,off,none⟩=some c∧VRel I w ρ v c)∧VAt I w ρ vs b (off+1)
def VRows(I:Nat→Prop)(w:World)(k:Nat):PMap→List (List AV)→Nat→Nat→Prop
 |_,[],_,_=>True
 |ρ,r::rs,b,off=>r.length=k∧VAt I w ρ r b off∧VRows I w k ρ rs b (off+k)
end
theorem b47{w w':World}{b o:Nat}(h:w'.heap[b]?=w.heap[b]?):w'.cell? ⟨b,o,none⟩=w.cell? ⟨b,o,none⟩:=by simp[World.cell?,h]
section
variable {I I':Nat→Prop}{w w':World}
mutual
theorem VRel.mono(hI:∀c,I c→I' c)(hw:∀c,I c→w'.heap[c]?=w.heap[c]?) :
 ∀{ρ ρ':PMap} (v:AV) {c:Value},(∀b m,ρ b=some m→ρ' b=some m)→VRel I w ρ v c→VRel I' w' ρ' v c
 |ρ,ρ',v,c,hρ,h=>by
  cases v with
  |junk=>simp[VRel]
  |bool b=>simpa[VRel]using h
  |int k n=>simpa[VRel]using h
  |str s=>simpa[VRel]using h
  |nilptr=>simpa[VRel]using h
  |nilslice=>simpa[VRel]using h
  |nilmap=>simpa[VRel]using h
  |nilfunc=>simpa[VRel]using h
  |nilifc=>simpa[VRel]using h
  |ptr b i o=>simp only[VRel]at h⊢;obtain⟨m,hm,rfl⟩:=h;exact⟨m,hρ b m hm,rfl⟩
  |iptr cs=>simp only[VRel]at h⊢;obtain⟨b,off,rfl,hb,h⟩:=h;exact⟨b,off,rfl,hI _ hb,VAt.mono hI hw cs (λ_ _ h=>h) (hw _ hb) h⟩
  |slice b off len cap=>
   simp only[VRel]at h⊢;obtain⟨a,n,rfl,h1,h2,h3⟩:=h;refine⟨a,n,rfl,h1,h2,h3.imp id ?_⟩
   rintro⟨m,hm,rfl,hr⟩
   exact⟨m,hρ b m hm,rfl,hr⟩
  |islice aa cap=>
   simp only[VRel]at h⊢;obtain⟨a,n,k,rfl,h1,h2,h3⟩:=h;refine⟨a,n,k,rfl,h1,h2,h3.imp id ?_⟩
   rintro⟨hs,hb,h⟩
   exact⟨hs,hI _ hb,VRows.mono hI hw aa (λ_ _ h=>h) (hw _ hb) h⟩
  |map b=>simp only[VRel]at h⊢;obtain⟨m,hm,rfl⟩:=h;exact⟨m,hρ b m hm,rfl⟩
  |imap ks vs bs bh=>simp only[VRel]at h⊢;obtain⟨b,es,rfl,hb,he,h1,h2,h3⟩:=h;exact⟨b,es,rfl,hI _ hb,by rw[hw _ hb,he],VRels.mono hI hw ks (λ_ _ h=>h) h1,VRels.mono hI hw vs (λ_ _ h=>h) h2,h3⟩
  |iset ks=>simp only[VRel]at h⊢;obtain⟨b,es,cl,rfl,hb,he,h1⟩:=h;exact⟨b,es,cl,rfl,hI _ hb,by rw[hw _ hb,he],h1⟩
  |yfn b=>simp only[VRel]at h⊢;obtain⟨m,hm,rfl⟩:=h;exact⟨m,hρ b m hm,rfl⟩
  |func fn fs cs=>simp only[VRel]at h⊢;obtain⟨cB,aI,rfl,h1,h2⟩:=h;exact⟨cB,aI,rfl,VRels.mono hI hw fs hρ h1,VRels.mono hI hw cs hρ h2⟩
  |iface t x=>simp only[VRel]at h⊢;obtain⟨x',rfl,h⟩:=h;exact⟨x',rfl,VRel.mono hI hw x hρ h⟩
  |agg cs=>simp only[VRel]at h⊢;obtain⟨aI,rfl,h⟩:=h;exact⟨aI,rfl,VRels.mono hI hw cs hρ h⟩
  |tuple cs=>simp only[VRel]at h⊢;obtain⟨aI,rfl,h⟩:=h;exact⟨aI,rfl,VRels.mono hI hw cs hρ h⟩
theorem VRels.mono(hI:∀c,I c→I' c)(hw:∀c,I c→w'.heap[c]?=w.heap[c]?) :
 ∀{ρ ρ':PMap} (vs:List AV) {cs:List Value},(∀b m,ρ b=some m→ρ' b=some m)→VRels I w ρ vs cs→VRels I' w' ρ' vs cs
 |ρ,ρ',[],cs,hρ,h=>by simpa[VRels]using h
 |ρ,ρ',v::vs,cs,hρ,h=>by simp only[VRels]at h⊢;obtain⟨c,aI,rfl,h1,h2⟩:=h;exact⟨c,aI,rfl,VRel.mono hI hw v hρ h1,VRels.mono hI hw vs hρ h2⟩
theorem VAt.mono(hI:∀c,I c→I' c)(hw:∀c,I c→w'.heap[c]?=w.heap[c]?) :
 ∀{ρ ρ':PMap} (vs:List AV) {b off:Nat},(∀b m,ρ b=some m→ρ' b=some m)→w'.heap[b]?=w.heap[b]?→VAt I w ρ vs b off→VAt I' w' ρ' vs b off
 |ρ,ρ',[],b,off,hρ,hb,h=>by simp[VAt]
 |ρ,ρ',v::vs,b,off,hρ,hb,h=>by simp only[VAt]at h⊢;obtain⟨⟨c,hc,h1⟩,h2⟩:=h;exact⟨⟨c,by rw[b47 hb,hc],VRel.mono hI hw v hρ h1⟩,VAt.mono hI hw vs hρ hb h2⟩
theorem VRows.mono{k:Nat}(hI:∀c,I c→I' c)(hw:∀c,I c→w'.heap[c]?=w.heap[c]?) :
 ∀{ρ ρ':PMap} (rs:List (List AV)) {b off:Nat},(∀b m,ρ b=some m→ρ' b=some m)→w'.heap[b]?=w.heap[b]?→VRows I w k ρ rs b off→VRows I' w' k ρ' rs b off
 |ρ,ρ',[],b,off,hρ,hb,h=>by simp[VRows]
 |ρ,ρ',r::rs,b,off,hρ,hb,h=>by simp only[VRows]at h⊢;obtain⟨h0,h1,h2⟩:=h;exact⟨h0,VAt.mono hI hw r hρ hb h1,VRows.mono hI hw rs hρ hb h2⟩
end
end
end Go.Ax
/- AxRel: abstract heaps against worlds; what a step may change; renaming of block numbers. -/
namespace Go.Ax
inductive YSt where
 |ready
 |busy
 |done (id:Option Nat)
 deriving Inhabited,DecidableEq
structure RInfo where
 N:Nat
 ps:List Nat
 asg:Code
 body:Code
 fid:Nat
structure GTab(α:Type) where
 glob:Nat→Option α
 rnd:Nat→Option RInfo
instance {α:Type}:CoeFun (GTab α) (λ_=>Nat→Option α):=⟨GTab.glob⟩
def b4n:Code→Bool
 |.rangeFunc _ _ _ _=>false
 |.seq a b=>b4n a&&b4n b
 |.cond _ a b=>b4n a&&b4n b
 |.block _ b=>b4n b
 |.loop b=>b4n b
 |.scope b=>b4n b
 |_=>true
def c3e:Option Nat→Code
 |none=>.ret
 |some id=>.exit id
inductive AObj where
 |row (k:Nat)(aa:List (List AV))
 |map (ks vs:List AV)(bs:List Nat)(bh:Nat)
 |siter (s:List UInt8)(pos:Nat)
 |uset (ks:List Int)
 |miter (ks cP:List Int)(dj:Option (Option Int))
 |yloop (y:Nat)(F:List (Nat×AV))(st:YSt)
 deriving Inhabited
def b8t:List (Nat×AV)→Nat→AV
 | [],_=>.junk
 |(s,v)::r,t=>bif Nat.beq s t then v else b8t r t
def f5e(G:GTab (List AV))(I:Nat→Prop)(w:World)(ρ:PMap)(l:Nat)(y:Nat)(F:List (Nat×AV))(st:YSt):Prop:=
 ∃(ri:RInfo) (r:Loop),G.rnd y=some ri∧w.heap[l]?=some (.loop r)∧r.tmps.size=ri.N∧r.params.toList=ri.ps∧r.assign=ri.asg∧r.body=ri.body∧(∀s,VRel I w ρ (b8t F s) (r.tmps.getD s undef))∧
  (match st with
   |.ready=>r.state = .ready∧r.pending=none
   |.busy=>r.state = .busy
   |.done j=>r.state = .done∧r.pending=some (c3e j))
def f5f(es:Array MapEntry)(seen:Array Nat)(cP:List Int):Prop:=∃dh:List MapEntry,(∀e∈dh,e∈es.toList)∧dh.map (·.born)=seen.toList∧dh.map (·.key)=cP.map (Value.int .i64)
abbrev FHeap:=Nat→Option AObj
def ORel(G:GTab (List AV))(I:Nat→Prop)(w:World)(ρ:PMap)(m:Pl):AObj→Prop
 |.row k aa=>m.k=k∧0<k∧(∃bQ e,w.heap[m.blk]?=some (.cells bQ e (0,0))∧bQ.size=m.room∧m.off+aa.length*k≤m.room)∧VRows I w k ρ aa m.blk m.off
 |.map ks vs bs bh=>∃es,w.heap[m.blk]?=some (.map es bh)∧VRels I w ρ ks (es.toList.map (·.key))∧VRels I w ρ vs (es.toList.map (·.val))∧es.toList.map (·.born)=bs
 |.siter s pos=>m.off=0∧∃t,w.heap[m.blk]?=some (.stringIter t pos)∧t.data.toList=s
 |.uset ks=>∃es cl,w.heap[m.blk]?=some (.map es cl)∧USet ks es cl
 |.miter ks cP _=>m.off=0∧((ks=[]∧cP=[]∧w.heap[m.blk]?=some (.mapIter none 0 #[] 0))∨
  ∃c es cl seen,I c∧w.heap[c]?=some (.map es cl)∧USet ks es cl∧w.heap[m.blk]?=some (.mapIter (some c) cl seen cl)∧f5f es seen cP)
 |.yloop y F st=>f5e G I w ρ m.blk y F st
structure HRel(G:GTab (List AV))(I K:Nat→Prop)(ρ:PMap)(h:FHeap)(w:World):Prop where
 live:∀b o,h b=some o→∃m,ρ b=some m∧¬I m.blk∧¬K m.blk∧ORel G I w ρ m o
 inj:∀b b' m m',(h b).isSome→(h b').isSome→ρ b=some m→ρ b'=some m'→m.blk=m'.blk→b=b'
 dom:∀b m,ρ b=some m→m.blk<w.heap.size
 imm:∀c,I c→c<w.heap.size
 kept:∀c,K c→c<w.heap.size
 apart:∀c,I c→¬K c
 glob:∀g cs,G g=some cs→I g∧VAt I w noP cs g 0
structure Ext(I K:Nat→Prop)(w w':World):Prop where
 os:w'.os=w.os
 tape:w'.tape=w.tape
 output:w'.output=w.output
 size:w.heap.size≤w'.heap.size
 keep:∀c,I c∨K c→w'.heap[c]?=w.heap[c]?
theorem Ext.refl(I K:Nat→Prop)(w:World):Ext I K w w:=⟨rfl,rfl,rfl,e9k _,λ_ _=>rfl⟩
theorem Ext.trans{I I' K:Nat→Prop}{w w' jp:World}(hI:∀c,I c→I' c)(h:Ext I K w w')(k:Ext I' K w' jp):Ext I K w jp:=
 ⟨k.os.trans h.os,k.tape.trans h.tape,k.output.trans h.output,Nat.le_trans h.size k.size,
  λc hc=>(k.keep c (hc.imp (hI c) id)).trans (h.keep c hc)⟩
theorem ORel.mono{G:GTab (List AV)}{I I':Nat→Prop}{w w':World}{ρ ρ':PMap}{m:Pl}(o:AObj)(hI:∀c,I c→I' c)(hw:∀c,I c→w'.heap[c]?=w.heap[c]?)
 (hρ:∀b m,ρ b=some m→ρ' b=some m)(hb:w'.heap[m.blk]?=w.heap[m.blk]?)(h:ORel G I w ρ m o):ORel G I' w' ρ' m o:=by
 cases o with
 |row k aa=>obtain⟨h1,h2,⟨bQ,e,h3,h4⟩,h5⟩:=h;exact⟨h1,h2,⟨bQ,e,by rw[hb,h3],h4⟩,VRows.mono hI hw aa hρ hb h5⟩
 |map ks vs bs bh=>obtain⟨es,h1,h2,h3,h4⟩:=h;exact⟨es,by rw[hb,h1],VRels.mono hI hw ks hρ h2,VRels.mono hI hw vs hρ h3,h4⟩
 |siter s pos=>obtain⟨h0,t,h1,h2⟩:=h;exact⟨h0,t,by rw[hb,h1],h2⟩
 |uset ks=>obtain⟨es,cl,h1,h2⟩:=h;exact⟨es,cl,by rw[hb,h1],h2⟩
 |miter ks cP dj=>
  obtain⟨h0,h⟩:=h;rcases h with ⟨h1,h2,h3⟩|⟨c,es,cl,seen,h1,h2,h3,h4,h5⟩
  ·exact⟨h0,.inl ⟨h1,h2,by rw[hb,h3]⟩⟩
  ·exact⟨h0,.inr ⟨c,es,cl,seen,hI c h1,by rw[hw c h1,h2],h3,by rw[hb,h4],h5⟩⟩
 |yloop y F st=>obtain⟨ri,r,h0,h1,h2,h3,h4,h5,h6,h7⟩:=h;exact⟨ri,r,h0,by rw[hb,h1],h2,h3,h4,h5,λs=>VRel.mono hI hw _ hρ (h6 s),h7⟩
structure Stepped(G:GTab (List AV))(I K:Nat→Prop)(ρ:PMap)(w:World)(I':Nat→Prop)(ρ':PMap)(h':FHeap)(w':World):Prop where
 imm:∀c,I c→I' c
 map:∀b m,ρ b=some m→ρ' b=some m
 ext:Ext I K w w'
 rel:HRel G I' K ρ' h' w'
theorem Stepped.vrel{G I K ρ w I' ρ' h' w'}(s:Stepped G I K ρ w I' ρ' h' w'){v:AV}{c:Value}(h:VRel I w ρ v c):VRel I' w' ρ' v c:=VRel.mono s.imm (λc hc=>s.ext.keep c (.inl hc)) v s.map h
theorem Stepped.vrels{G I K ρ w I' ρ' h' w'}(s:Stepped G I K ρ w I' ρ' h' w'){v:List AV}{c:List Value}(h:VRels I w ρ v c):VRels I' w' ρ' v c:=VRels.mono s.imm (λc hc=>s.ext.keep c (.inl hc)) v s.map h
theorem Stepped.refl{G I K ρ h w}(r:HRel G I K ρ h w):Stepped G I K ρ w I ρ h w:=⟨λ_ h=>h,λ_ _ h=>h,Ext.refl _ _ _,r⟩
def SameMem(w w':World):Prop:=w'.heap=w.heap∧w'.tape=w.tape∧w'.os=w.os∧w'.output=w.output
section same
variable {I:Nat→Prop}{w w':World}
theorem SameMem.ext(s:SameMem w w')(I K:Nat→Prop):Ext I K w w':=⟨s.2.2.1,s.2.1,s.2.2.2,by rw[s.1];exact e9k _,λ_ _=>by rw[s.1]⟩
theorem HRel.same{G I K ρ h w w'}(r:HRel G I K ρ h w)(s:SameMem w w'):HRel G I K ρ h w':={
 live b o hb:=by obtain⟨m,h1,h2,h3,h4⟩:=r.live b o hb;exact⟨m,h1,h2,h3,ORel.mono o (λ_ h=>h) (λ_ _=>by rw[s.1]) (λ_ _ h=>h) (by rw[s.1]) h4⟩
 inj:=r.inj
 dom b m hb:=by rw[s.1];exact r.dom b m hb
 imm c hc:=by rw[s.1];exact r.imm c hc
 kept c hc:=by rw[s.1];exact r.kept c hc
 apart:=r.apart
 glob g cs hg:=⟨(r.glob g cs hg).1,VAt.mono (λ_ h=>h) (λ_ _=>by rw[s.1]) cs (λ_ _ h=>h) (by rw[s.1]) (r.glob g cs hg).2⟩}
theorem Stepped.same{G I K ρ h w w'}(r:HRel G I K ρ h w)(s:SameMem w w'):Stepped G I K ρ w I ρ h w':=⟨λ_ h=>h,λ_ _ h=>h,s.ext _ _,r.same s⟩
end same
theorem HRel.fewer{G I K ρ h h' w}(r:HRel G I K ρ h w)(hh:∀b o,h' b=some o→h b=some o):HRel G I K ρ h' w:={
 live b o hb:=r.live b o (hh b o hb)
 inj b b' m m' hb aW:=by
  refine r.inj b b' m m' ?_ ?_
  ·obtain⟨o,ho⟩:=e7n.1 hb;rw[hh b o ho];rfl
  ·obtain⟨o,ho⟩:=e7n.1 aW;rw[hh b' o ho];rfl
 dom:=r.dom
 imm:=r.imm
 kept:=r.kept
 apart:=r.apart
 glob:=r.glob}
/-! ### renaming -/
mutual
def ren(π:Nat→Option Nat):AV→AV
 |.ptr b i o=>match π b with|some b'=>.ptr b' i o|none=>.junk
 |.slice b off len cap=>match π b with|some b'=>.slice b' off len cap|none=>.junk
 |.map b=>match π b with|some b'=>.map b'|none=>.junk
 |.func fn fs cs=>.func fn (b8h π fs) (b8h π cs)
 |.iface t x=>.iface t (ren π x)
 |.agg cs=>.agg (b8h π cs)
 |.tuple cs=>.tuple (b8h π cs)
 |.iptr cs=>.iptr cs
 |.islice aa cap=>.islice aa cap
 |.imap ks vs bs bh=>.imap ks vs bs bh
 |.iset ks=>.iset ks
 |.yfn b=>match π b with|some b'=>.yfn b'|none=>.junk
 |.junk=>.junk
 |.bool b=>.bool b
 |.int k n=>.int k n
 |.str s=>.str s
 |.nilptr=>.nilptr
 |.nilslice=>.nilslice
 |.nilmap=>.nilmap
 |.nilfunc=>.nilfunc
 |.nilifc=>.nilifc
def b8h(π:Nat→Option Nat):List AV→List AV
 | []=>[]
 |v::vs=>ren π v::b8h π vs
end
theorem a7s(π:Nat→Option Nat):∀l:List AV,b8h π l=l.map (ren π)
 | []=>rfl
 |v::vs=>by simp[b8h,a7s π vs]
def a0e(π:Nat→Option Nat):AObj→AObj
 |.row k aa=>.row k (aa.map λr=>r.map (ren π))
 |.map ks vs bs bh=>.map (ks.map (ren π)) (vs.map (ren π)) bs bh
 |.siter s pos=>.siter s pos
 |.uset ks=>.uset ks
 |.miter ks cP dj=>.miter ks cP dj
 |.yloop y F st=>.yloop y (F.map λx=>(x.1,ren π x.2)) st
section
variable {I:Nat→Prop}{w:World}{π:Nat→Option Nat}{ρ ρ':PMap}
mutual
theorem VRel.ren(hπ:∀b b' m,π b=some b'→ρ b=some m→ρ' b'=some m):∀(v:AV) {c:Value},VRel I w ρ v c→VRel I w ρ' (Ax.ren π v) c
 |.ptr b i o,c,h=>by
  simp only[VRel]at h;obtain⟨m,hm,rfl⟩:=h;cases hb:π b with
  |none=>simp[Ax.ren,hb,VRel]
  |some b'=>simp only[Ax.ren,hb,VRel];exact⟨m,hπ b b' m hb hm,rfl⟩
 |.slice b off len cap,c,h=>by
  simp only[VRel]at h;obtain⟨a,n,rfl,h1,h2,h3⟩:=h;cases hb:π b with
  |none=>simp[Ax.ren,hb,VRel]
  |some b'=>
   simp only[Ax.ren,hb,VRel];refine⟨a,n,rfl,h1,h2,h3.imp id ?_⟩
   rintro⟨m,hm,rfl,hr⟩
   exact⟨m,hπ b b' m hb hm,rfl,hr⟩
 |.map b,c,h=>by
  simp only[VRel]at h;obtain⟨m,hm,rfl⟩:=h;cases hb:π b with
  |none=>simp[Ax.ren,hb,VRel]
  |some b'=>simp only[Ax.ren,hb,VRel];exact⟨m,hπ b b' m hb hm,rfl⟩
 |.func fn fs cs,c,h=>by simp only[VRel,Ax.ren]at h⊢;obtain⟨cB,aI,rfl,h1,h2⟩:=h;exact⟨cB,aI,rfl,VRels.ren hπ fs h1,VRels.ren hπ cs h2⟩
 |.iface t x,c,h=>by simp only[VRel,Ax.ren]at h⊢;obtain⟨x',rfl,h⟩:=h;exact⟨x',rfl,VRel.ren hπ x h⟩
 |.agg cs,c,h=>by simp only[VRel,Ax.ren]at h⊢;obtain⟨aI,rfl,h⟩:=h;exact⟨aI,rfl,VRels.ren hπ cs h⟩
 |.tuple cs,c,h=>by simp only[VRel,Ax.ren]at h⊢;obtain⟨aI,rfl,h⟩:=h;exact⟨aI,rfl,VRels.ren hπ cs h⟩
 |.iptr cs,c,h=>by simpa[VRel,Ax.ren]using h
 |.islice aa cap,c,h=>by simpa only[VRel,Ax.ren]using h
 |.imap ks vs bs bh,c,h=>by simpa only[VRel,Ax.ren]using h
 |.iset ks,c,h=>by simpa only[VRel,Ax.ren]using h
 |.yfn b,c,h=>by
  simp only[VRel]at h;obtain⟨m,hm,rfl⟩:=h;cases hb:π b with
  |none=>simp[Ax.ren,hb,VRel]
  |some b'=>simp only[Ax.ren,hb,VRel];exact⟨m,hπ b b' m hb hm,rfl⟩
 |.junk,c,h=>by simp[VRel,Ax.ren]
 |.bool b,c,h=>by simpa[VRel,Ax.ren]using h
 |.int k n,c,h=>by simpa[VRel,Ax.ren]using h
 |.str s,c,h=>by simpa[VRel,Ax.ren]using h
 |.nilptr,c,h=>by simpa[VRel,Ax.ren]using h
 |.nilslice,c,h=>by simpa[VRel,Ax.ren]using h
 |.nilmap,c,h=>by simpa[VRel,Ax.ren]using h
 |.nilfunc,c,h=>by simpa[VRel,Ax.ren]using h
 |.nilifc,c,h=>by simpa[VRel,Ax.ren]using h
theorem VRels.ren(hπ:∀b b' m,π b=some b'→ρ b=some m→ρ' b'=some m):∀(vs:List AV) {cs:List Value},VRels I w ρ vs cs→VRels I w ρ' (b8h π vs) cs
 | [],cs,h=>by simpa[VRels,b8h]using h
 |v::vs,cs,h=>by simp only[VRels,b8h]at h⊢;obtain⟨c,aI,rfl,h1,h2⟩:=h;exact⟨c,aI,rfl,VRel.ren hπ v h1,VRels.ren hπ vs h2⟩
end
theorem VAt.ren(hπ:∀b b' m,π b=some b'→ρ b=some m→ρ' b'=some m):∀(vs:List AV) {b off:Nat},VAt I w ρ vs b off→VAt I w ρ' (vs.map (Ax.ren π)) b off
 | [],b,off,h=>by simp[VAt]
 |v::vs,b,off,h=>by simp only[VAt,e12]at h⊢;obtain⟨⟨c,hc,h1⟩,h2⟩:=h;exact⟨⟨c,hc,VRel.ren hπ v h1⟩,VAt.ren hπ vs h2⟩
theorem VRows.ren{k:Nat}(hπ:∀b b' m,π b=some b'→ρ b=some m→ρ' b'=some m):∀(rs:List (List AV)) {b off:Nat},VRows I w k ρ rs b off→
 VRows I w k ρ' (rs.map λr=>r.map (Ax.ren π)) b off
 | [],b,off,h=>by simp[VRows]
 |r::rs,b,off,h=>by simp only[VRows,e12]at h⊢;obtain⟨h0,h1,h2⟩:=h;exact⟨by simpa using h0,VAt.ren hπ r h1,VRows.ren hπ rs h2⟩
theorem b8s(π:Nat→Option Nat):∀(F:List (Nat×AV)) (s:Nat),b8t (F.map λx=>(x.1,Ax.ren π x.2)) s=Ax.ren π (b8t F s)
 | [],s=>by simp[b8t,Ax.ren]
 |(t,v)::F,s=>by simp only[e12,b8t,b8s π F s];cases Nat.beq t s<;>rfl
theorem ORel.ren{G:GTab (List AV)}{m:Pl}(hπ:∀b b' m,π b=some b'→ρ b=some m→ρ' b'=some m)(o:AObj)(h:ORel G I w ρ m o):ORel G I w ρ' m (a0e π o):=by
 cases o with
 |row k aa=>obtain⟨h1,h2,h3,h5⟩:=h;exact⟨h1,h2,by simpa using h3,VRows.ren hπ aa h5⟩
 |map ks vs bs bh=>obtain⟨es,h1,h2,h3,h4⟩:=h;exact⟨es,h1,by rw[←a7s];exact VRels.ren hπ ks h2,by rw[←a7s];exact VRels.ren hπ vs h3,h4⟩
 |siter s pos=>exact h
 |uset ks=>exact h
 |miter ks cP dj=>exact h
 |yloop y F st=>obtain⟨ri,r,h0,h1,h2,h3,h4,h5,h6,h7⟩:=h;refine⟨ri,r,h0,h1,h2,h3,h4,h5,λs=>?_,h7⟩;rw[b8s];exact VRel.ren hπ _ (h6 s)
end
end Go.Ax
/- AxEff: what an operation may do to the abstract heap, and that the relation follows. -/
namespace Go.Ax
inductive Eff where
 |none
 |new (o:AObj)
 |set (b:Nat)(o:AObj)
 |kill (b:Nat)(o:AObj)
def PMap.set(ρ:PMap)(n:Nat)(m:Pl):PMap:=λb=>if b=n then some m else ρ b
def FHeap.set(h:FHeap)(n:Nat)(o:Option AObj):FHeap:=λb=>if b=n then o else h b
def FHeap.eff(h:FHeap)(n:Nat):Eff→FHeap
 |.none=>h
 |.new o=>h.set n (some o)
 |.set b o=>h.set b (some o)
 |.kill b o=>(h.set b Option.none).set n (some o)
def Eff.fresh:Eff→Bool
 |.new _|.kill _ _=>true
 |_=>false
def Moves(ρ ρ':PMap)(n:Nat)(e:Eff):Prop:=(∀b,b≠n→ρ' b=ρ b)∧(e.fresh=false→ρ'=ρ)
theorem Moves.same(ρ:PMap)(n:Nat)(e:Eff):Moves ρ ρ n e:=⟨λ_ _=>rfl,λ_=>rfl⟩
theorem Moves.set(ρ:PMap)(n:Nat){e:Eff}(m:Pl)(he:e.fresh=true):Moves ρ (ρ.set n m) n e:=⟨λb hb=>by simp[PMap.set,hb],λh=>by simp[he]at h⟩
theorem PMap.set_old{ρ:PMap}{n:Nat}{m:Pl}(hn:ρ n=Option.none):∀b m',ρ b=some m'→ρ.set n m b=some m':=by
 intro b m' h;unfold PMap.set;split
 ·subst b;simp[hn]at h
 ·exact h
section
variable {G:GTab (List AV)}{I K:Nat→Prop}{ρ:PMap}{h:FHeap}{w w':World}{n:Nat}
theorem a2a(r:HRel G I K ρ h w)(_:h n=none)(hρ:ρ n=none){ob:Obj}{o:AObj}{m:Pl}
 (hw:w'.heap=w.heap.push ob)(ht:w'.tape=w.tape)(eM:w'.os=w.os)(aR:w'.output=w.output)
 (hm:m.blk=w.heap.size)(ho:ORel G I w' (ρ.set n m) m o):Stepped G I K ρ w I (ρ.set n m) (h.eff n (.new o)) w':=by
 have aN:∀c,c<w.heap.size→w'.heap[c]?=w.heap[c]?:=by intro c hc;rw[hw,f3v,e8g (by omega)]
 have aE:=PMap.set_old (m:=m) hρ;refine⟨λ_ h=>h,aE,⟨eM,ht,aR,by rw[hw];simp,?_⟩,?_⟩
 ·rintro c (hc|hc)
  ·exact aN c (r.imm c hc)
  ·exact aN c (r.kept c hc)
 ·refine⟨?_,?_,?_,?_,?_,r.apart,?_⟩
  ·intro b o' hb;simp only[FHeap.eff,FHeap.set]at hb;split at hb
   ·subst b;cases hb;refine⟨m,by simp[PMap.set],λhc=>?_,λhc=>?_,ho⟩
    ·have:=r.imm _ hc;omega
    ·have:=r.kept _ hc;omega
   ·obtain⟨m',h1,h2,h3,h4⟩:=r.live b o' hb;exact⟨m',aE b m' h1,h2,h3,ORel.mono o' (λ_ h=>h) (λc hc=>aN c (r.imm c hc)) aE (aN _ (r.dom b m' h1)) h4⟩
  ·intro b b' m1 m2 hb aW h1 h2 he;simp only[FHeap.eff,FHeap.set,PMap.set]at hb aW h1 h2;split at hb<;>split at aW
   ·omega
   ·rename_i mw je;rw[e8j mw]at h1;rw[e8g je]at h2;cases h1;have:=r.dom b' m2 h2;omega
   ·rename_i mw je;rw[e8g mw]at h1;rw[e8j je]at h2;cases h2;have:=r.dom b m1 h1;omega
   ·rename_i mw je;rw[e8g mw]at h1;rw[e8g je]at h2;exact r.inj b b' m1 m2 hb aW h1 h2 he
  ·intro b m' hb;rw[hw];simp only[Array.size_push];simp only[PMap.set]at hb;split at hb
   ·cases hb;omega
   ·have:=r.dom b m' hb;omega
  ·intro c hc;rw[hw];simp only[Array.size_push];have:=r.imm c hc;omega
  ·intro c hc;rw[hw];simp only[Array.size_push];have:=r.kept c hc;omega
  ·intro g cs hg;obtain⟨h1,h2⟩:=r.glob g cs hg;exact⟨h1,VAt.mono (λ_ h=>h) (λc hc=>aN c (r.imm c hc)) cs (λ_ _ h=>h) (aN g (r.imm g h1)) h2⟩
theorem a1z(r:HRel G I K ρ h w){b:Nat}{o0 o:AObj}{m:Pl}(hb:h b=some o0)(hρ:ρ b=some m)
 (aQ:w'.heap.size=w.heap.size)(hw:∀c,c≠m.blk→w'.heap[c]?=w.heap[c]?)(ht:w'.tape=w.tape)(eM:w'.os=w.os)(aR:w'.output=w.output)
 (ho:ORel G I w' ρ m o):Stepped G I K ρ w I ρ (h.eff n (.set b o)) w':=by
 obtain⟨m',aX,dy,fA,_⟩:=r.live b o0 hb;obtain rfl:m=m':=z9o (hρ.symm.trans aX);have cw:∀c,I c→w'.heap[c]?=w.heap[c]?:=λc hc=>hw c (λe=>dy (e▸hc));refine⟨λ_ h=>h,λ_ _ h=>h,⟨eM,ht,aR,by omega,?_⟩,?_⟩
 ·rintro c (hc|hc)
  ·exact cw c hc
  ·exact hw c (λe=>fA (e▸hc))
 ·refine⟨?_,?_,?_,?_,?_,r.apart,?_⟩
  ·intro b' o' aW;simp only[FHeap.eff,FHeap.set]at aW;split at aW
   ·rename_i he;cases aW;subst he;exact⟨m,hρ,dy,fA,ho⟩
   ·rename_i aw;obtain⟨m',h1,h2,h3,h4⟩:=r.live b' o' aW;refine⟨m',h1,h2,h3,ORel.mono o' (λ_ h=>h) cw (λ_ _ h=>h) (hw _ ?_) h4⟩;intro e;exact aw (r.inj b' b m' m (by simp[aW]) (by simp[hb]) h1 hρ e)
  ·intro b1 b2 m1 m2 h1 h2;refine r.inj b1 b2 m1 m2 ?_ ?_
   ·simp only[FHeap.eff,FHeap.set]at h1;split at h1
    ·subst b1;simp[hb]
    ·exact h1
   ·simp only[FHeap.eff,FHeap.set]at h2;split at h2
    ·subst b2;simp[hb]
    ·exact h2
  ·intro b' m' aW;rw[aQ];exact r.dom b' m' aW
  ·intro c hc;rw[aQ];exact r.imm c hc
  ·intro c hc;rw[aQ];exact r.kept c hc
  ·intro g cs hg;obtain⟨h1,h2⟩:=r.glob g cs hg;exact⟨h1,VAt.mono (λ_ h=>h) cw cs (λ_ _ h=>h) (cw g h1) h2⟩
theorem b1m(r:HRel G I K ρ h w)(hh:h n=none)(hρ:ρ n=none)(b:Nat){ob:Obj}{o:AObj}{m:Pl}
 (hw:w'.heap=w.heap.push ob)(ht:w'.tape=w.tape)(eM:w'.os=w.os)(aR:w'.output=w.output)
 (hm:m.blk=w.heap.size)(ho:ORel G I w' (ρ.set n m) m o):Stepped G I K ρ w I (ρ.set n m) (h.eff n (.kill b o)) w':=by
 have r':HRel G I K ρ (h.set b none) w:=r.fewer (by
  intro b' o' aW;simp only[FHeap.set]at aW;split at aW
  ·cases aW
  ·exact aW)
 have:=a2a (h:=h.set b none) (n:=n) (o:=o) r' (by simp only[FHeap.set];split<;>simp_all) hρ hw ht eM aR hm ho;exact this
theorem a6e(r:HRel G I K ρ h w)(hh:h n=none)(hρ:ρ n=none){b:Nat}{o0 o:AObj}{mb m:Pl}(hb:h b=some o0)(hρb:ρ b=some mb)
 (hm:m.blk=mb.blk)(aQ:w'.heap.size=w.heap.size)(hw:∀c,c≠mb.blk→w'.heap[c]?=w.heap[c]?)(ht:w'.tape=w.tape)(eM:w'.os=w.os)(aR:w'.output=w.output)
 (ho:ORel G I w' (ρ.set n m) m o):Stepped G I K ρ w I (ρ.set n m) (h.eff n (.kill b o)) w':=by
 obtain⟨m',aX,dy,fA,_⟩:=r.live b o0 hb;obtain rfl:mb=m':=z9o (hρb.symm.trans aX);have aE:=PMap.set_old (m:=m) hρ;have cw:∀c,I c→w'.heap[c]?=w.heap[c]?:=λc hc=>hw c (λe=>dy (e▸hc));have mw:b≠n:=λe=>by subst e;simp[hh]at hb
 have aj:=r.dom b mb hρb;refine⟨λ_ h=>h,aE,⟨eM,ht,aR,by omega,?_⟩,?_⟩
 ·rintro c (hc|hc)
  ·exact cw c hc
  ·exact hw c (λe=>fA (e▸hc))
 ·refine⟨?_,?_,?_,?_,?_,r.apart,?_⟩
  ·intro b' o' aW;simp only[FHeap.eff,FHeap.set]at aW;split at aW
   ·rename_i he;cases aW;subst he;exact⟨m,by simp[PMap.set],by rw[hm];exact dy,by rw[hm];exact fA,ho⟩
   ·rename_i aw;split at aW
    ·cases aW
    ·rename_i ik;obtain⟨m',h1,h2,h3,h4⟩:=r.live b' o' aW;refine⟨m',aE b' m' h1,h2,h3,ORel.mono o' (λ_ h=>h) cw aE (hw _ ?_) h4⟩;intro e;exact ik (r.inj b' b m' mb (by simp[aW]) (by simp[hb]) h1 hρb e)
  ·intro b1 b2 m1 m2 cG eb h1 h2 he;simp only[FHeap.eff,FHeap.set,PMap.set]at cG eb h1 h2;by_cases e1:b1=n<;>by_cases e2:b2=n
   ·omega
   ·rw[e8j e1]at h1;rw[e8g e2]at h2;rw[e8g e2]at eb;cases h1;split at eb
    ·cases eb
    ·rename_i aw;exact absurd (r.inj b2 b m2 mb eb (by simp[hb]) h2 hρb (by omega)) aw
   ·rw[e8g e1]at h1;rw[e8j e2]at h2;rw[e8g e1]at cG;cases h2;split at cG
    ·cases cG
    ·rename_i aw;exact absurd (r.inj b1 b m1 mb cG (by simp[hb]) h1 hρb (by omega)) aw
   ·rw[e8g e1]at h1;rw[e8g e2]at h2;rw[e8g e1]at cG;rw[e8g e2]at eb;split at cG
    ·cases cG
    ·split at eb
     ·cases eb
     ·exact r.inj b1 b2 m1 m2 cG eb h1 h2 he
  ·intro b' m' aW;rw[aQ];simp only[PMap.set]at aW;split at aW
   ·cases aW;omega
   ·exact r.dom b' m' aW
  ·intro c hc;rw[aQ];exact r.imm c hc
  ·intro c hc;rw[aQ];exact r.kept c hc
  ·intro g cs hg;obtain⟨h1,h2⟩:=r.glob g cs hg;exact⟨h1,VAt.mono (λ_ h=>h) cw cs (λ_ _ h=>h) (cw g h1) h2⟩
end
end Go.Ax
/- AxVal: lists of cells: splitting, reading, replacing. -/
namespace Go.Ax
section
variable {I I':Nat→Prop}{w w':World}{ρ ρ':PMap}
theorem VRels.length:∀{vs:List AV} {cs:List Value},VRels I w ρ vs cs→vs.length=cs.length
 | [],cs,h=>by simp[VRels]at h;simp[h]
 |v::vs,cs,h=>by simp only[VRels]at h;obtain⟨c,aI,rfl,_,h⟩:=h;simp[VRels.length h]
theorem VRels.append:∀{as bs:List AV} {xs ys:List Value},VRels I w ρ as xs→VRels I w ρ bs ys→VRels I w ρ (as++bs) (xs++ys)
 | [],bs,xs,ys,h,k=>by simp[VRels]at h;simpa[h]using k
 |v::as,bs,xs,ys,h,k=>by simp only[VRels,e9h]at h⊢;obtain⟨c,aI,rfl,h1,h2⟩:=h;exact⟨c,aI++ys,rfl,h1,VRels.append h2 k⟩
theorem VRels.get:∀{vs:List AV} {cs:List Value} (i:Nat) {v:AV},VRels I w ρ vs cs→vs[i]?=some v→∃c,cs[i]?=some c∧VRel I w ρ v c
 | [],cs,i,v,h,hv=>by simp at hv
 |x::vs,cs,i,v,h,hv=>by
  simp only[VRels]at h;obtain⟨c,aI,rfl,h1,h2⟩:=h;cases i with
  |zero=>simp at hv;subst hv;exact⟨c,by simp,h1⟩
  |succ i=>simp at hv;simpa using VRels.get i h2 hv
theorem VRels.drop:∀{vs:List AV} {cs:List Value} (i:Nat),VRels I w ρ vs cs→VRels I w ρ (vs.drop i) (cs.drop i)
 |vs,cs,0,h=>by simpa using h
 | [],cs,i+1,h=>by simp[VRels]at h⊢;simp[h]
 |x::vs,cs,i+1,h=>by simp only[VRels]at h;obtain⟨c,aI,rfl,h1,h2⟩:=h;simpa using VRels.drop i h2
theorem VRels.take:∀{vs:List AV} {cs:List Value} (i:Nat),VRels I w ρ vs cs→VRels I w ρ (vs.take i) (cs.take i)
 |vs,cs,0,h=>by simp[VRels]
 | [],cs,i+1,h=>by simp[VRels]at h⊢;simp[h]
 |x::vs,cs,i+1,h=>by simp only[VRels]at h;obtain⟨c,aI,rfl,h1,h2⟩:=h;simp only[List.take_succ_cons,VRels];exact⟨c,aI.take i,rfl,h1,VRels.take i h2⟩
theorem VRels.set:∀{vs:List AV} {cs:List Value} (i:Nat) {v:AV} {c:Value},VRels I w ρ vs cs→VRel I w ρ v c→VRels I w ρ (vs.set i v) (cs.set i c)
 | [],cs,i,v,c,h,hv=>by simp[VRels]at h⊢;simp[h]
 |x::vs,cs,i,v,c,h,hv=>by
  simp only[VRels]at h;obtain⟨c',aI,rfl,h1,h2⟩:=h;cases i with
  |zero=>simp only[List.set_cons_zero,VRels];exact⟨c,aI,rfl,hv,h2⟩
  |succ i=>simp only[List.set_cons_succ,VRels];exact⟨c',aI.set i c,rfl,h1,VRels.set i h2 hv⟩
def CellsAt(w:World)(cs:List Value)(b off:Nat):Prop:=∀j v,cs[j]?=some v→w.cell? ⟨b,off+j,none⟩=some v
theorem VAt.of_cells:∀{vs:List AV} {cs:List Value} {b off:Nat},CellsAt w cs b off→VRels I w ρ vs cs→VAt I w ρ vs b off
 | [],cs,b,off,_,_=>by simp[VAt]
 |v::vs,cs,b,off,hc,h=>by simp only[VRels,VAt]at h⊢;obtain⟨c,aI,rfl,h1,h2⟩:=h;refine⟨⟨c,by simpa using hc 0 c (by simp),h1⟩,VAt.of_cells (λj v hv=>?_) h2⟩;have:=hc (j+1) v (by simpa using hv);rw[show off+1+j=off+(j+1) by omega];exact this
theorem VAt.cells:∀{vs:List AV} {b off:Nat},VAt I w ρ vs b off→∃cs,CellsAt w cs b off∧VRels I w ρ vs cs
 | [],b,off,_=>⟨[],λj v hv=>by simp at hv,by simp[VRels]⟩
 |v::vs,b,off,h=>by
  simp only[VAt]at h;obtain⟨⟨c,hc,h1⟩,h2⟩:=h;obtain⟨cs,k1,k2⟩:=VAt.cells h2;refine⟨c::cs,λj v hv=>?_,by simp only[VRels];exact⟨c,cs,rfl,h1,k2⟩⟩;cases j with
  |zero=>simp at hv;subst hv;simpa using hc
  |succ j=>have:=k1 j v (by simpa using hv);rw[show off+(j+1)=off+1+j by omega];exact this
theorem VAt.append:∀{as bs:List AV} {b off:Nat},VAt I w ρ (as++bs) b off↔VAt I w ρ as b off∧VAt I w ρ bs b (off+as.length)
 | [],bs,b,off=>by simp[VAt]
 |v::as,bs,b,off=>by simp only[e9h,VAt,e7g];rw[VAt.append,and_assoc,show off+1+as.length=off+(as.length+1) by omega]
theorem VAt.drop{vs:List AV}{b off:Nat}(i:Nat)(hi:i≤vs.length)(h:VAt I w ρ vs b off):VAt I w ρ (vs.drop i) b (off+i):=by rw[←f3z i vs,VAt.append]at h;simpa[Nat.min_eq_left hi]using h.2
theorem VAt.take{vs:List AV}{b off:Nat}(i:Nat)(h:VAt I w ρ vs b off):VAt I w ρ (vs.take i) b off:=by rw[←f3z i vs,VAt.append]at h;exact h.1
theorem VRows.iff{k:Nat}:∀{rs:List (List AV)} {b off:Nat},VRows I w k ρ rs b off↔(∀r∈rs,r.length=k)∧VAt I w ρ rs.flatten b off
 | [],b,off=>by simp[VRows,VAt]
 |r::rs,b,off=>by
  simp only[VRows,f0y,VAt.append,e9m,forall_eq_or_imp];rw[VRows.iff];constructor
  ·rintro⟨h0,h1,h2,h3⟩;exact⟨⟨h0,h2⟩,h1,by rw[h0];exact h3⟩
  ·rintro⟨⟨h0,h2⟩,h1,h3⟩;exact⟨h0,h1,h2,by rw[h0]at h3;exact h3⟩
theorem a0u{k:Nat}:∀{rs:List (List AV)},(∀r∈rs,r.length=k)→rs.flatten.length=rs.length*k
 | [],_=>by simp
 |r::rs,h=>by simp only[f0y,e8i,e7g];rw[a0u (λr hr=>h r (by simp[hr])),h r (by simp),f4o,Nat.add_comm]
theorem VRows.get{k:Nat}:∀{rs:List (List AV)} {b off:Nat} (i:Nat) {r:List AV},VRows I w k ρ rs b off→rs[i]?=some r→r.length=k∧VAt I w ρ r b (off+i*k)
 | [],b,off,i,r,h,hr=>by simp at hr
 |x::rs,b,off,i,r,h,hr=>by
  simp only[VRows]at h;obtain⟨h0,h1,h2⟩:=h;cases i with
  |zero=>simp at hr;subst hr;exact⟨h0,by simpa using h1⟩
  |succ i=>have:=VRows.get i h2 (by simpa using hr);rw[show off+(i+1)*k=off+k+i*k by rw[f4o];omega];exact this
theorem VRows.append{k:Nat}:∀{as bs:List (List AV)} {b off:Nat},VRows I w k ρ (as++bs) b off↔VRows I w k ρ as b off∧VRows I w k ρ bs b (off+as.length*k)
 | [],bs,b,off=>by simp[VRows]
 |v::as,bs,b,off=>by simp only[e9h,VRows,e7g];rw[VRows.append,show off+k+as.length*k=off+(as.length+1)*k by rw[f4o];omega];simp only[and_assoc]
theorem VRows.drop{k:Nat}{rs:List (List AV)}{b off:Nat}(i:Nat)(hi:i≤rs.length)(h:VRows I w k ρ rs b off):VRows I w k ρ (rs.drop i) b (off+i*k):=by rw[←f3z i rs,VRows.append]at h;simpa[Nat.min_eq_left hi]using h.2
theorem VRows.take{k:Nat}{rs:List (List AV)}{b off:Nat}(i:Nat)(h:VRows I w k ρ rs b off):VRows I w k ρ (rs.take i) b off:=by rw[←f3z i rs,VRows.append]at h;exact h.1
theorem VAt.mono_cells(hI:∀c,I c→I' c)(hw:∀c,I c→w'.heap[c]?=w.heap[c]?)(hρ:∀b m,ρ b=some m→ρ' b=some m) :
 ∀{vs:List AV} {b off:Nat},(∀j,j<vs.length→w'.cell? ⟨b,off+j,none⟩=w.cell? ⟨b,off+j,none⟩)→VAt I w ρ vs b off→VAt I' w' ρ' vs b off
 | [],b,off,_,_=>by simp[VAt]
 |v::vs,b,off,hc,h=>by simp only[VAt]at h⊢;obtain⟨⟨c,dK,h1⟩,h2⟩:=h;refine⟨⟨c,by rw[←dK];simpa using hc 0 (by simp),VRel.mono hI hw v hρ h1⟩,VAt.mono_cells hI hw hρ (λj hj=>?_) h2⟩;rw[show off+1+j=off+(j+1) by omega];exact hc (j+1) (by simp;omega)
theorem VRows.mono_cells{k:Nat}(hI:∀c,I c→I' c)(hw:∀c,I c→w'.heap[c]?=w.heap[c]?)(hρ:∀b m,ρ b=some m→ρ' b=some m)
 {rs:List (List AV)}{b off:Nat}(hc:∀j,j<rs.length*k→w'.cell? ⟨b,off+j,none⟩=w.cell? ⟨b,off+j,none⟩)(h:VRows I w k ρ rs b off):VRows I' w' k ρ' rs b off:=by
 rw[VRows.iff]at h⊢;exact⟨h.1,VAt.mono_cells hI hw hρ (by rw[a0u h.1];exact hc) h.2⟩
theorem a79{b o:Nat}{bQ:Array Value}{e:TypeId}{fz:Nat×Nat}(h:w.heap[b]?=some (.cells bQ e fz)):w.cell? ⟨b,o,none⟩=bQ[o]?:=by simp[World.cell?,h]
theorem CellsAt.of_heap{b off:Nat}{bQ:Array Value}{e:TypeId}{fz:Nat×Nat}{cs:List Value}(h:w.heap[b]?=some (.cells bQ e fz))
 (hc:∀j v,cs[j]?=some v→bQ[off+j]?=some v):CellsAt w cs b off:=by
 intro j v hv;rw[a79 h];exact hc j v hv
theorem VRels.noRef_any{vs:List AV}{cs:List Value}(h:VRels I w noP vs cs):VRels I w ρ vs cs:=VRels.mono (λ_ h=>h) (λ_ _=>rfl) vs (λ_ _ h=>by simp[noP]at h) h
theorem VRel.noRef_any{v:AV}{c:Value}(h:VRel I w noP v c):VRel I w ρ v c:=VRel.mono (λ_ h=>h) (λ_ _=>rfl) v (λ_ _ h=>by simp[noP]at h) h
theorem VAt.noRef_any{vs:List AV}{b off:Nat}(h:VAt I w noP vs b off):VAt I w ρ vs b off:=VAt.mono (λ_ h=>h) (λ_ _=>rfl) vs (λ_ _ h=>by simp[noP]at h) rfl h
end
end Go.Ax
/- AxEnv: the tables of a program that the evaluator d2s; frames; operands. -/
namespace Go.Ax
structure FInfo where
 code:Code
 ntmps:Nat
 results:List ResultVar
abbrev a03:=List (Option AObj)
structure Env where
 P:Program
 und:TypeId→Option TypeDesc
 sz:TypeId→Nat
 bytes:TypeId→Nat
 zero:TypeId→Option (List AV)
 eqok:TypeId→Bool
 G:GTab (List AV)
 fn:FuncId→Option FInfo
 keep:FuncId→Nat→List Nat
 thaw:FuncId→Bool
 ro:FuncId→Bool
 ext:FuncId→Bool
 prim:FuncId→List AV→Option (AV×a03):=λ_ _=>none
 zf:FuncId→Bool:=λ_=>false
abbrev yId:FuncId:=999999999
def a26:TypeDesc→Bool
 |.struct _|.array _ _=>true
 |_=>false
structure EnvOk(E:Env):Prop where
 und:∀t d,E.und t=some d→E.P.underlying t=some d∧∃i,E.P.info? t=some i∧i.size=E.sz t∧i.bytes=E.bytes t
 zero:∀t cs,E.zero t=some cs→(∃d,E.und t=some d)∧∃i z,E.P.info? t=some i∧i.zero=some z∧cs.length=E.sz t∧
  ∀I w,VRels I w noP cs z.cells.toList
 zshape:∀t d i z,E.und t=some d→E.P.info? t=some i→i.zero=some z→(a26 d=true→∃a,z = .agg a)∧(a26 d=false→z.cells = #[z])
 eqok:∀t,E.eqok t=true→E.P.eqGuardType E.P.depth t=false∧E.P.stoodInHeld t=false∧(∃i,E.P.info? t=some i∧i.comparable=true)∧
  ∀fs,E.und t=some (.struct fs)→∀f∈fs.toList,f.name≠ "_"
 fn:∀f i,E.fn f=some i→∃fn,E.P.funcs[f]?=some fn∧fn.body=some i.code∧fn.ntmps=i.ntmps∧fn.results.toList=i.results∧(fn.name == "runtime.NumGoroutine")=false
 ext:∀f,E.ext f=true→(E.fn f).isSome=false→∃fn,E.P.funcs[f]?=some fn∧fn.body=none∧(fn.name == "runtime.NumGoroutine")=false∧Extern.findNext fn=none∧Extern.find fn=some Extern.BytealgIndexByte.indexByte
 mixed:E.P.follows .mixedOrders=true
 yid:E.fn yId=none
section
variable {E:Env}(ok:EnvOk E){t:TypeId}{d:TypeDesc}(w:World)
include ok
theorem a0c(h:E.und t=some d):(underlying t).run E.P w = .ok d w:=run_underlying (ok.und t d h).1 w
theorem b1v(h:E.und t=some d):∃i,(typeInfo t).run E.P w = .ok i w∧i.size=E.sz t∧i.bytes=E.bytes t:=by obtain⟨_,i,hi,h1,h2⟩:=ok.und t d h;exact⟨i,by simp[typeInfo,hi],h1,h2⟩
theorem a31(h:E.und t=some d):(sizeOf t).run E.P w = .ok (E.sz t) w:=by obtain⟨i,hi,h1,_⟩:=b1v ok w h;simp[sizeOf,hi,h1]
theorem b2l(h:E.und t=some d):(isAgg t).run E.P w = .ok (a26 d) w:=by unfold isAgg;simp only[Sem.run_bind,a0c ok w h,Result.andThen_ok];cases d<;>rfl
theorem a6v{cs:List AV}(h:E.zero t=some cs):∃z,(zeroValue t).run E.P w = .ok z w∧cs.length=E.sz t∧∀I w',VRels I w' noP cs z.cells.toList:=by obtain⟨_,i,z,hi,hz,h1,h2⟩:=ok.zero t cs h;exact⟨z,by simp[zeroValue,typeInfo,hi,hz],h1,h2⟩
end
/-! ### frames -/
abbrev Frm:=List (Nat×AV)
def a33:Frm→Nat→AV
 | [],_=>.junk
 |(s,v)::r,t=>bif Nat.beq s t then v else a33 r t
theorem d1q(s t:Nat):Nat.beq s t=(s==t):=by
 by_cases h:s=t
 ·subst h;simp
 ·rw[f0q.2 h];cases hb:Nat.beq s t with
  |false=>rfl
  |true=>exact absurd (f1j hb) h
def a3i(F:Frm)(d:Option Nat)(v:AV):Frm:=
 match d with
 |some s=>(s,v)::F
 |none=>F
def FRel(I:Nat→Prop)(w:World)(ρ:PMap)(N:Nat)(F:Frm)(tmps:Array Value):Prop:=tmps.size=N∧∀s,VRel I w ρ (a33 F s) (tmps.getD s undef)
def a3n:Value→AV
 |.bool b=>.bool b
 |.int k n=>.int k n
 |.string s=>.str s.data.toList
 |.pointer a=>match a with|none=>.nilptr|some _=>.junk
 |.slice a l c=>match a,l,c with|none,0,0=>.nilslice|_,_,_=>.junk
 |.map r=>match r with|none=>.nilmap|some _=>.junk
 |.nilFunc=>.nilfunc
 |.nilIface=>.nilifc
 |.tuple vs=>match vs.toList with|[]=>.tuple []|_=>.junk
 |_=>.junk
def c41:Value→AV
 |.agg cs=>.agg (cs.toList.map a3n)
 |v=>a3n v
def opv(E:Env)(F:Frm):Operand→AV
 |.tmp t=>a33 F t
 |.const v=>c41 v
 |.global g=>match E.G g with|some cs=>.iptr cs|none=>.junk
 |.func f=>.func (.func f) [] []
section
variable {I:Nat→Prop}{w:World}{ρ:PMap}
theorem b1i(v:Value):VRel I w ρ (a3n v) v:=by
 cases v with
 |pointer a=>cases a<;>simp[a3n,VRel]
 |slice a l c=>cases a<;>cases l<;>cases c<;>simp[a3n,VRel]
 |map a=>cases a<;>simp[a3n,VRel]
 |tuple vs=>
  simp only[a3n];split
  ·rename_i h;simp only[VRel];exact⟨vs,rfl,by simp[VRels,h]⟩
  ·simp[VRel]
 |_=>simp[a3n,VRel]
theorem a77:∀l:List Value,VRels I w ρ (l.map a3n) l
 | []=>by simp[VRels]
 |v::l=>by simp only[e12,VRels];exact⟨v,l,rfl,b1i v,a77 l⟩
theorem c00(v:Value):VRel I w ρ (c41 v) v:=by
 unfold c41;split
 ·rename_i cs;simp only[VRel];exact⟨cs,rfl,a77 _⟩
 ·exact b1i v
theorem b2x{E:Env}{K:Nat→Prop}{h:FHeap}{N:Nat}{F:Frm}{a:Act}(r:HRel E.G I K ρ h w)(hF:FRel I w ρ N F a.tmps)(x:Operand) :
 VRel I w ρ (opv E F x) (a.eval x):=by
 cases x with
 |tmp t=>exact hF.2 t
 |const v=>exact c00 v
 |global g=>
  simp only[opv,Act.eval];cases hg:E.G g with
  |none=>simp[VRel]
  |some cs=>obtain⟨h1,h2⟩:=r.glob g cs hg;simp only[VRel];exact⟨g,0,rfl,h1,h2⟩
 |func f=>simp only[opv,Act.eval,VRel];exact⟨#[],#[],rfl,by simp[VRels],by simp[VRels]⟩
theorem a81(F:Frm)(d s:Nat)(v:AV):a33 (a3i F (some d) v) s=if d=s then v else a33 F s:=by
 simp only[a3i,a33,d1q];by_cases h:d=s
 ·simp[h]
 ·simp[h,f0q.2 h]
theorem FRel.set{N:Nat}{F:Frm}{a:Act}{d:Option Nat}{v:AV}{c:Value}(hF:FRel I w ρ N F a.tmps)(hd:∀s,d=some s→s<N)(hv:VRel I w ρ v c) :
 FRel I w ρ N (a3i F d v) (a.put d c).tmps:=by
 cases d with
 |none=>exact hF
 |some d=>
  have aj:=hd d rfl;refine⟨by simp[Act.put,hF.1],λs=>?_⟩;rw[a81];simp only[Act.put,e9u,f0m,hF.1];split
  ·subst s;simpa[aj]using hv
  ·have:=hF.2 s;simpa[e9u]using this
theorem FRel.mono{I':Nat→Prop}{w':World}{ρ':PMap}{N:Nat}{F:Frm}{t:Array Value}(hF:FRel I w ρ N F t)
 (hv:∀(v:AV) (c:Value),VRel I w ρ v c→VRel I' w' ρ' v c):FRel I' w' ρ' N F t:=⟨hF.1,λs=>hv _ _ (hF.2 s)⟩
end
def AV.cells:AV→List AV
 |.agg cs=>cs
 |v=>[v]
def AV.storable:AV→Bool
 |.junk|.agg _|.tuple _=>false
 |_=>true
section
variable {I:Nat→Prop}{w:World}{ρ:PMap}
theorem VRel.storable{v:AV}{c:Value}(h:VRel I w ρ v c)(hs:v.storable=true):c.oneCell'=true:=by
 cases v<;>simp[AV.storable]at hs<;>simp only[VRel]at h
 all_goals first
  |(subst h;rfl)
  |(obtain⟨_,rfl,_⟩:=h;rfl)
  |(obtain⟨_,_,rfl⟩:=h;rfl)
  |(obtain⟨_,_,rfl,_⟩:=h;rfl)
  |(obtain⟨_,_,_,rfl,_⟩:=h;rfl)
theorem VRel.cells{v:AV}{c:Value}(h:VRel I w ρ v c)(hj:v≠ .junk):VRels I w ρ v.cells c.cells.toList:=by
 cases v
 case junk=>exact absurd rfl hj
 case agg cs=>simp only[VRel]at h;obtain⟨aI,rfl,h⟩:=h;exact h
 all_goals
  have hc:c.cells = #[c]:=by
   simp only[VRel]at h
   first
    |(subst h;rfl)
    |(obtain⟨_,rfl,_⟩:=h;rfl)
    |(obtain⟨_,_,rfl⟩:=h;rfl)
    |(obtain⟨_,_,rfl,_⟩:=h;rfl)
    |(obtain⟨_,_,_,rfl,_⟩:=h;rfl)
  rw[hc];simp only[AV.cells,VRels];exact⟨c,[],rfl,h,rfl⟩
theorem VRels.storable:∀{vs:List AV} {cs:List Value},VRels I w ρ vs cs→vs.all AV.storable=true→∀c∈cs,c.oneCell'=true
 | [],cs,h,_=>by simp[VRels]at h;simp[h]
 |v::vs,cs,h,hs=>by
  simp only[VRels]at h;obtain⟨c,aI,rfl,h1,h2⟩:=h;simp only[List.all_cons,e7h]at hs;intro x hx;simp only[e9m]at hx;rcases hx with rfl|hx
  ·exact VRel.storable h1 hs.1
  ·exact VRels.storable h2 hs.2 x hx
end
end Go.Ax
/- AxMem: loads, stores, new variables, rows and maps, addresses: what they do to abstract values, and that the model's operations do just that. -/
namespace Go.Ax
def Val(E:Env)(I K:Nat→Prop)(ρ:PMap)(h:FHeap)(n:Nat)(w:World)(s:Sem Value)(v:AV)(e:Eff):Prop:=∃c w' ρ',s.run E.P w = .ok c w'∧Stepped E.G I K ρ w I ρ' (h.eff n e) w'∧VRel I w' ρ' v c∧Moves ρ ρ' n e
def e4l(E:Env)(I K:Nat→Prop)(ρ:PMap)(h:FHeap)(n:Nat)(w:World)(s:Sem Unit)(e:Eff):Prop:=∃w' ρ',s.run E.P w = .ok () w'∧Stepped E.G I K ρ w I ρ' (h.eff n e) w'∧Moves ρ ρ' n e
section
variable {E:Env}{I K:Nat→Prop}{ρ:PMap}{h:FHeap}{n:Nat}{w:World}
theorem Val.quiet(r:HRel E.G I K ρ h w){s:Sem Value}{v:AV}{c:Value}{w':World}(hs:s.run E.P w = .ok c w')(hw:SameMem w w')(hv:VRel I w ρ v c) :
 Val E I K ρ h n w s v .none:=
 ⟨c,w',ρ,hs,Stepped.same r hw,VRel.mono (λ_ h=>h) (λ_ _=>by rw[hw.1]) v (λ_ _ h=>h) hv,Moves.same _ _ _⟩
theorem Val.here(r:HRel E.G I K ρ h w){s:Sem Value}{v:AV}{c:Value}(hs:s.run E.P w = .ok c w)(hv:VRel I w ρ v c):Val E I K ρ h n w s v .none:=Val.quiet r hs ⟨rfl,rfl,rfl,rfl⟩ hv
/-! ### loads -/
def a2c(E:Env)(t:TypeId)(cs:List AV):Option AV:=
 bif cs.length==E.sz t then
  match E.und t with
  |some d=>bif a26 d then some (.agg cs)else cs.head?
  |none=>none
 else none
def a60(E:Env)(h:FHeap)(t:TypeId):AV→Option AV
 |.ptr b i o=>match h b with
  |some (.row _ aa)=>match aa[i]? with
   |some r=>a2c E t ((r.drop o).take (E.sz t))
   |none=>none
  |_=>none
 |.iptr cs=>a2c E t (cs.take (E.sz t))
 |_=>none
theorem a6w(ok:EnvOk E){t:TypeId}{cs:List AV}{v:AV}{b off:Nat}{ρ:PMap}(hv:a2c E t cs=some v)(hc:VAt I w ρ cs b off) :
 ∃c,(loadVar t ⟨b,off,none⟩).run E.P w = .ok c w∧VRel I w ρ v c:=by
 unfold a2c at hv;rw[cond_eq_ite]at hv;split at hv
 case isFalse=>cases hv
 rename_i hl;have hl:cs.length=E.sz t:=by simpa using hl
 cases hd:E.und t with
 |none=>simp[hd]at hv
 |some d=>
  simp only[hd]at hv;obtain⟨cv,h1,h2⟩:=VAt.cells hc;have al:cv.length=E.sz t:=by rw[←hl];exact(VRels.length h2).symm
  have qG:∀j:Nat,(⟨b,off,none⟩:Addr).add j=⟨b,off+j,none⟩:=by intro j;unfold Addr.add;split<;>simp_all
  unfold loadVar;simp only[Sem.run_bind,b2l ok w hd,Result.andThen_ok,Sem.run_ite];cases dA:a26 d with
  |true=>simp only[dA,e9i,Option.some.injEq]at hv;subst hv;have:=run_loadCells_list (P:=E.P) w ⟨b,off,none⟩ cv (λj v hj=>by rw[qG];exact h1 j v hj);rw[al]at this;refine⟨.agg cv.toArray,?_,by simp only[VRel];exact⟨cv.toArray,rfl,by simpa using h2⟩⟩;simp[a31 ok w hd,this]
  |false=>
   simp only[dA,e9q]at hv;cases cs with
   |nil=>simp at hv
   |cons x cs=>simp at hv;subst hv;simp only[VRels]at h2;obtain⟨c,aI,rfl,h3,_⟩:=h2;have:=h1 0 c (by simp);refine⟨c,?_,h3⟩;simp at this;simp[this]
theorem d5a(ok:EnvOk E)(r:HRel E.G I K ρ h w){t:TypeId}{p v:AV}{c:Value}(hl:a60 E h t p=some v)(hp:VRel I w ρ p c) :
 Val E I K ρ h n w (Instr.loadAt t c) v .none:=by
 cases p with
 |ptr b i o=>
  simp only[a60]at hl;cases hb:h b with
  |none=>simp[hb]at hl
  |some ob=>
   cases ob with
   |row k aa=>
    simp only[hb]at hl;cases hr:aa[i]? with
    |none=>simp[hr]at hl
    |some rw'=>
     simp only[hr]at hl;obtain⟨m,hm,_,_,ho⟩:=r.live b _ hb;obtain⟨hk,hk0,_,az⟩:=ho;obtain⟨al,br⟩:=VRows.get i az hr;simp only[VRel]at hp;obtain⟨m',aX,rfl⟩:=hp;obtain rfl:m=m':=z9o (hm.symm.trans aX);by_cases bF:o≤rw'.length
     ·have jf:VAt I w ρ ((rw'.drop o).take (E.sz t)) m.blk (m.off+i*m.k+o):=by
       rw[hk];exact VAt.take _ (VAt.drop o bF br)
      obtain⟨c,hc,hv⟩:=a6w ok hl jf;exact Val.here r (by simp[Instr.loadAt,Instr.sureAddr,hc]) hv
     ·have:rw'.drop o=[]:=f3s (by omega);rw[this]at hl;unfold a2c at hl;have hd:∀d,E.und t=some d→True:=λ_ _=>trivial;simp only[List.take_nil,e8c]at hl;rw[cond_eq_ite]at hl;split at hl
      ·rename_i h0;cases hd:E.und t with
       |none=>simp[hd]at hl
       |some d=>
        simp only[hd]at hl;have h0:E.sz t=0:=(show 0=E.sz t by simpa using h0).symm;cases dA:a26 d with
        |true=>simp[dA]at hl;subst hl;refine Val.here (c:=.agg #[]) r ?_ (by simp only[VRel];exact⟨#[],rfl,by simp[VRels]⟩);simp[Instr.loadAt,Instr.sureAddr,loadVar,b2l ok w hd,dA,a31 ok w hd,h0,loadCells,loadCellsFrom]
        |false=>simp[dA]at hl
      ·cases hl
   |map ks vs bs cl=>simp[hb]at hl
   |siter s pos=>simp[hb]at hl
   |uset ks=>simp[hb]at hl
   |miter ks cP dj=>simp[hb]at hl
   |yloop y Fy st=>simp[hb]at hl
 |iptr cs=>simp only[a60]at hl;simp only[VRel]at hp;obtain⟨b,off,rfl,hI,br⟩:=hp;obtain⟨c,hc,hv⟩:=a6w ok hl (VAt.take _ br);exact Val.here r (by simp[Instr.loadAt,Instr.sureAddr,hc]) (VRel.noRef_any hv)
 |_=>simp[a60]at hl
/-! ### stores -/
def splice(r:List AV)(o:Nat)(cs:List AV):List AV:=r.take o++cs++r.drop (o+cs.length)
def a7h(E:Env)(h:FHeap)(t:TypeId)(p x:AV):Option Eff:=
 match p with
 |.ptr b i o=>match h b with
  |some (.row k aa)=>match aa[i]? with
   |some r=>bif x.cells.length==E.sz t&&(E.und t).isSome&&Nat.ble (o+x.cells.length) r.length&&x.cells.all AV.storable
    then some (.set b (.row k (aa.set i (splice r o x.cells))))else none
   |none=>none
  |_=>none
 |_=>none
theorem VRows.splice{k:Nat}{aa:List (List AV)}{blk off i o:Nat}{r cs:List AV}{w':World}(cw:∀c,I c→w'.heap[c]?=w.heap[c]?)
 (az:VRows I w k ρ aa blk off)(hr:aa[i]?=some r)(ho:o+cs.length≤k)
 (fj:∀x,(x<off+i*k+o∨off+i*k+o+cs.length≤x)→w'.cell? ⟨blk,x,none⟩=w.cell? ⟨blk,x,none⟩)
 (aS:VAt I w' ρ cs blk (off+i*k+o)):VRows I w' k ρ (aa.set i (Ax.splice r o cs)) blk off:=by
 have hi:i<aa.length:=(e7k.1 hr).1;have li:aa=aa.take i++r::aa.drop (i+1):=by
  conv=>lhs;rw[←f3z i aa]
  congr 1
  rw[List.drop_eq_getElem_cons hi]
  congr 1
  exact(e7k.1 hr).2
 have aE:aa.set i (Ax.splice r o cs)=aa.take i++Ax.splice r o cs::aa.drop (i+1):=by rw[List.set_eq_take_append_cons_drop,e8j hi]
 rw[aE];rw[li]at az;rw[VRows.append]at az⊢;obtain⟨h1,h2⟩:=az;have ry:(aa.take i).length=i:=by simp;omega
 simp only[VRows,ry]at h2⊢;obtain⟨h3,h4,h5⟩:=h2;have mono:=λ(vs:List AV) (b off:Nat) hc (hh:VAt I w ρ vs b off)=>VAt.mono_cells (I':=I) (w':=w') (ρ':=ρ) (λ_ h=>h) cw (λ_ _ h=>h) hc hh;refine⟨?_,?_,?_,?_⟩
 ·refine VRows.mono_cells (λ_ h=>h) cw (λ_ _ h=>h) (λj hj=>fj _ (.inl ?_)) h1;rw[ry]at hj;omega
 ·unfold Ax.splice;simp;omega
 ·unfold Ax.splice;rw[VAt.append,VAt.append];have ld:(r.take o).length=o:=by simp;omega
  refine⟨⟨?_,by rw[ld];exact aS⟩,?_⟩
  ·exact mono _ _ _ (λj hj=>fj _ (.inl (by rw[ld]at hj;omega))) (VAt.take o h4)
  ·have:=VAt.drop (o+cs.length) (by omega) h4;rw[e8i,ld,show off+i*k+(o+cs.length)=off+i*k+o+cs.length by omega];rw[show off+i*k+(o+cs.length)=off+i*k+o+cs.length by omega]at this;exact mono _ _ _ (λj hj=>fj _ (.inr (by omega))) this
 ·refine VRows.mono_cells (λ_ h=>h) cw (λ_ _ h=>h) (λj hj=>fj _ (.inr (by omega))) h5
theorem b2d{w:World}{blk o:Nat}{bQ:Array Value}{e:TypeId}(cv:List Value)(hb:w.heap[blk]?=some (.cells bQ e (0,0)))(bN:o+cv.length≤bQ.size)
 (pQ:∀c∈cv,c.oneCell'=true)(P:Program) :
 ∃w',(storeCells ⟨blk,o,none⟩ cv).run P w = .ok () w'∧(∃dv,w'.heap[blk]?=some (.cells dv e (0,0))∧dv.size=bQ.size)∧
  (∀c,c≠blk→w'.heap[c]?=w.heap[c]?)∧w'.heap.size=w.heap.size∧w'.tape=w.tape∧w'.os=w.os∧w'.output=w.output∧
  CellsAt w' cv blk o∧(∀x,(x<o∨o+cv.length≤x)→w'.cell? ⟨blk,x,none⟩=w.cell? ⟨blk,x,none⟩):=by
 refine⟨_,run_storeCells_at (P:=P) blk o e cv 0 bQ w hb (by omega) pQ,?_⟩;simp only[f3y];generalize aS:(bQ.toList.take o++cv++bQ.toList.drop (o+cv.length)).toArray=dv;have bF:dv.size=bQ.size:=by subst aS;simp;omega
 have hh:=setRow_heap w blk bQ dv e (0,0) hb;have aO:∀x,dv[x]?=if x<o then bQ[x]? else if x<o+cv.length then cv[x-o]? else bQ[x]?:=by
  intro x;subst aS;have ld:(bQ.toList.take o).length=o:=by simp;omega
  have iI:(bQ.toList.take o++cv).length=o+cv.length:=by simp;omega
  rw[f1c];by_cases h1:x<o
  ·rw[e7m,e8f (by rw[ld];omega)];simp[h1]
  ·by_cases h2:x<o+cv.length
   ·rw[e8f (by rw[iI];omega),e8h (by rw[ld];omega),ld];simp[h1,h2]
   ·rw[e8h (by rw[iI];omega),iI];simp only[f1p,e8g h1,e8g h2];rw[show o+cv.length+(x-(o+cv.length))=x by omega];simp
 refine⟨⟨dv,hh,bF⟩,λc hc=>setRow_other w blk c dv hc,setRow_size w blk dv,rfl,rfl,rfl,?_,?_⟩
 ·refine CellsAt.of_heap hh (λj v hj=>?_);have bg:j<cv.length:=(e7k.1 hj).1;rw[aO,e8g (by omega),e8j (by omega),show o+j-o=j by omega];exact hj
 ·intro x hx;rw[a79 hh,a79 hb,aO];rcases hx with hx|hx
  ·rw[e8j hx]
  ·rw[e8g (by omega),e8g (by omega)]
theorem d13(ok:EnvOk E)(r:HRel E.G I K ρ h w){t:TypeId}{p x:AV}{e:Eff}{c cx:Value}(hl:a7h E h t p x=some e)(hp:VRel I w ρ p c)(hx:VRel I w ρ x cx) :
 e4l E I K ρ h n w (Instr.storeAt t c cx) e:=by
 cases p with
 |ptr b i o=>
  simp only[a7h]at hl;cases hb:h b with
  |none=>simp[hb]at hl
  |some ob=>
   cases ob with
   |row k aa=>
    simp only[hb]at hl;cases hr:aa[i]? with
    |none=>simp[hr]at hl
    |some rr=>
     simp only[hr]at hl;rw[cond_eq_ite]at hl;split at hl
     case isFalse=>cases hl
     rename_i hc;simp only[e7h,f2p,f1h]at hc;obtain⟨⟨⟨fC,fm⟩,sj⟩,si⟩:=hc;cases hl;obtain⟨d,hd⟩:=e7n.1 fm;obtain⟨m,hm,dy,_,ho⟩:=r.live b _ hb;obtain⟨hk,hk0,⟨bQ,el,eA,a7,bN⟩,az⟩:=ho;obtain⟨al,br⟩:=VRows.get i az hr;simp only[VRel]at hp;obtain⟨m',aX,rfl⟩:=hp;obtain rfl:m=m':=z9o (hm.symm.trans aX);have hj:x≠ .junk:=by rintro rfl;simp[AV.cells,AV.storable]at si
     have cR:=VRel.cells hx hj;have mn:=VRels.length cR;have hi:i<aa.length:=(e7k.1 hr).1;have jx:i*k+k≤aa.length*k:=by rw[←f4o];exact f1g k hi
     obtain⟨w',ae,⟨dv,aW,ia⟩,bG,bF,ht,eM,aR,aS,cu⟩:=b2d (w:=w) (blk:=m.blk) (o:=m.off+i*k+o) cx.cells.toList eA
      (by rw[←mn];omega) (VRels.storable cR si) E.P
     have cw:∀c,I c→w'.heap[c]?=w.heap[c]?:=λc hc=>bG c (λe=>dy (e▸hc));refine⟨w',ρ,?_,?_,Moves.same _ _ _⟩
     ·simp only[Instr.storeAt,Instr.sureAddr,storeVar,Sem.run_bind,Sem.run_pure,Result.andThen_ok,a31 ok w hd];have pG:cx.cells.size=E.sz t:=by rw[←fC,mn];simp
      simp only[pG,ne_eq,not_true_eq_false,f3w,hk];simpa using ae
     ·refine a1z r hb hm bF bG ht eM aR ?_;refine⟨hk,hk0,⟨dv,el,aW,by omega,by simp only[f0l];omega⟩,?_⟩;refine VRows.splice cw az hr (by rw[al]at sj;exact sj) (λx hx=>cu x (by rw[←mn];exact hx)) ?_;exact VAt.of_cells aS (VRels.mono (λ_ h=>h) cw _ (λ_ _ h=>h) cR)
   |map ks vs bs cl=>simp[hb]at hl
   |siter s pos=>simp[hb]at hl
   |uset ks=>simp[hb]at hl
   |miter ks cP dj=>simp[hb]at hl
   |yloop y Fy st=>simp[hb]at hl
 |_=>simp[a7h]at hl
/-! ### new blocks -/
theorem a9m(r:HRel E.G I K ρ h w)(hn:h n=none)(hρ:ρ n=none){el:TypeId}{k:Nat}(hk:0<k){aa:List (List AV)}{cells:Array Value}
 (al:∀x∈aa,x.length=k)(hv:VRels I w ρ aa.flatten cells.toList){s:Sem Value}{v:AV}{mk:Addr→Value}{w0:World}(bJ:SameMem w w0)
 (hs:s.run E.P w = .ok (mk ⟨w.heap.size,0,none⟩) { w0 with heap:=w0.heap.push (.cells cells el) })
 (kC:∀w' ρ',ρ' n=some ⟨w.heap.size,0,k,cells.size⟩→VRel I w' ρ' v (mk ⟨w.heap.size,0,none⟩)) :
 Val E I K ρ h n w s v (.new (.row k aa)):=by
 have aE:=PMap.set_old (m:=⟨w.heap.size,0,k,cells.size⟩) hρ;have aN:∀c,I c→({ w0 with heap:=w0.heap.push (.cells cells el) }:World).heap[c]?=w.heap[c]?:=by intro c hc;have:=r.imm c hc;show(w0.heap.push _)[c]?=_;rw[bJ.1,f3v,e8g (by omega)]
 have aS:({ w0 with heap:=w0.heap.push (.cells cells el) }:World).heap[w.heap.size]?=some (.cells cells el (0,0)):=by show(w0.heap.push _)[_]?=_;rw[bJ.1];simp
 refine⟨_,_,ρ.set n ⟨w.heap.size,0,k,cells.size⟩,hs,?_,kC _ _ (by simp[PMap.set]),Moves.set _ _ _ rfl⟩;refine a2a (ob:=.cells cells el) r hn hρ (by show w0.heap.push _=_;rw[bJ.1]) bJ.2.1 bJ.2.2.1 bJ.2.2.2 rfl ?_;refine⟨rfl,hk,⟨cells,el,aS,rfl,?_⟩,?_⟩
 ·have:=VRels.length hv;rw[a0u al]at this;simp at this;simp;omega
 ·rw[VRows.iff];refine⟨al,VAt.of_cells (cs:=cells.toList) (CellsAt.of_heap aS (λj v hj=>by simpa using hj)) ?_⟩;exact VRels.mono (λ_ h=>h) aN _ aE hv
theorem a3w(el:TypeId)(cells:Array Value)(w:World):(newRow el cells).run E.P w = .ok ⟨w.heap.size,0,none⟩ { w with heap:=w.heap.push (.cells cells el) }:=by simp[newRow]
def d9y(E:Env)(n:Nat)(t:TypeId):Option (AV×Eff):=
 match E.zero t with
 |some z=>bif Nat.blt 0 z.length then some (.ptr n 0 0,.new (.row z.length [z]))else none
 |none=>none
theorem d9x(ok:EnvOk E)(r:HRel E.G I K ρ h w)(hn:h n=none)(hρ:ρ n=none){t:TypeId}{v:AV}{e:Eff}(ha:d9y E n t=some (v,e))(old:Value) :
 Val E I K ρ h n w (Instr.alloc t true old) v e:=by
 unfold d9y at ha;cases hz:E.zero t with
 |none=>simp[hz]at ha
 |some z=>
  simp only[hz]at ha;rw[cond_eq_ite]at ha;split at ha
  case isFalse=>cases ha
  rename_i ij;cases ha;obtain⟨zv,ek,hl,bw⟩:=a6v ok w hz;refine a9m (el:=t) (cells:=zv.cells) (mk:=λa=>.pointer (some a)) r hn hρ (by simpa[e9o]using ij) (by simp) (by simpa using VRels.noRef_any (bw I w)) ⟨rfl,rfl,rfl,rfl⟩ ?_ ?_
  ·simp[Instr.alloc,ek,newVar,a3w]
  ·intro w' ρ' h';simp only[VRel];exact⟨_,h',by simp⟩
def e0a(n:Nat)(x:AV):Option (AV×Eff):=
 match x with
 |.junk=>none
 |x=>bif Nat.blt 0 x.cells.length then some (.ptr n 0 0,.new (.row x.cells.length [x.cells]))else none
theorem e09(r:HRel E.G I K ρ h w)(hn:h n=none)(hρ:ρ n=none){t:TypeId}{x v:AV}{c:Value}{e:Eff}(ha:e0a n x=some (v,e))(hx:VRel I w ρ x c) :
 Val E I K ρ h n w (Instr.box t c) v e:=by
 have hj:x≠ .junk:=by rintro rfl;simp[e0a]at ha
 have o6:(bif Nat.blt 0 x.cells.length then some (AV.ptr n 0 0,Eff.new (.row x.cells.length [x.cells]))else none)=some (v,e):=by cases x<;>first|exact absurd rfl hj|exact ha
 rw[cond_eq_ite]at o6;split at o6
 case isFalse=>cases o6
 rename_i ij;cases o6;refine a9m (el:=t) (cells:=c.cells) (mk:=λa=>.pointer (some a)) r hn hρ (by simpa[e9o]using ij) (by simp) (by simpa using VRel.cells hx hj) ⟨rfl,rfl,rfl,rfl⟩ ?_ ?_
 ·simp[Instr.box,newVar,a3w]
 ·intro w' ρ' h';simp only[VRel];exact⟨_,h',by simp⟩
theorem d9z(r:HRel E.G I K ρ h w)(hn:h n=none)(hρ:ρ n=none){s:Sem Value}
 (hs:s.run E.P w = .ok (.map (some w.heap.size)) { w with heap:=w.heap.push (.map #[] 0) }):Val E I K ρ h n w s (.map n) (.new (.map [] [] [] 0)):=by
 refine⟨_,_,ρ.set n ⟨w.heap.size,0,0,0⟩,hs,?_,by simp only[VRel];exact⟨_,by simp[PMap.set];rfl,rfl⟩,Moves.set _ _ _ rfl⟩;refine a2a (ob:=.map #[] 0) r hn hρ rfl rfl rfl rfl rfl ?_;exact⟨#[],by simp,by simp[VRels],by simp[VRels],rfl⟩
end
end Go.Ax
/- AxAdr: addresses of fields and elements, parts of values, slices of slices and strings. -/
namespace Go.Ax
section
variable {E:Env}{I K:Nat→Prop}{ρ:PMap}{h:FHeap}{n:Nat}{w:World}
theorem VAt.drop'{vs:List AV}{b off:Nat}(i:Nat)(h:VAt I w ρ vs b off):VAt I w ρ (vs.drop i) b (off+i):=by
 by_cases hi:i≤vs.length
 ·exact VAt.drop i hi h
 ·rw[f3s (by omega)];simp[VAt]
theorem a4g(b o j:Nat):(⟨b,o,none⟩:Addr).add j=⟨b,o+j,none⟩:=by unfold Addr.add;split<;>simp_all
def a5i(E:Env)(s:TypeId)(p:AV)(f:Nat):Option AV:=
 match E.und s with
 |some (.struct fs)=>match fs[f]? with
  |some fd=>bif !(E.sz fd.type==0)&&(E.und fd.type).isSome then
   match p with
   |.ptr b i o=>some (.ptr b i (o+fd.offset))
   |.iptr cs=>some (.iptr (cs.drop fd.offset))
   |_=>none
   else none
  |none=>none
 |_=>none
theorem b8a(ok:EnvOk E)(r:HRel E.G I K ρ h w){s:TypeId}{p v:AV}{f:Nat}{c:Value}(hl:a5i E s p f=some v)(hp:VRel I w ρ p c) :
 Val E I K ρ h n w (Instr.fieldAt s c f) v .none:=by
 unfold a5i at hl;cases hu:E.und s with
 |none=>simp[hu]at hl
 |some d=>
  cases d
  case struct fs=>
   simp only[hu]at hl;cases hf:fs[f]? with
   |none=>simp[hf]at hl
   |some fd=>
    simp only[hf]at hl;rw[cond_eq_ite]at hl;split at hl
    case isFalse=>cases hl
    rename_i hc;simp only[e7h,f0x,f0q]at hc;obtain⟨hz,hs⟩:=hc;obtain⟨uQ,nS⟩:=e7n.1 hs;have fg:∀b o:Nat,(fieldPlace ⟨b,o,none⟩ fd).run E.P w = .ok ⟨b,o+fd.offset,none⟩ w:=by intro b o;simp[fieldPlace,a31 ok w nS,hz,a4g]
    cases p with
    |ptr b i o=>simp only[Option.some.injEq]at hl;subst hl;simp only[VRel]at hp;obtain⟨m,hm,rfl⟩:=hp;refine Val.here (c:=.pointer (some ⟨m.blk,m.off+i*m.k+o+fd.offset,none⟩)) r ?_ (by simp only[VRel];exact⟨m,hm,by rw[Nat.add_assoc _ o]⟩);simp[Instr.fieldAt,a0c ok w hu,hf,Instr.sureAddr,fg]
    |iptr cs=>simp only[Option.some.injEq]at hl;subst hl;simp only[VRel]at hp;obtain⟨b,off,rfl,hI,br⟩:=hp;refine Val.here (c:=.pointer (some ⟨b,off+fd.offset,none⟩)) r ?_ (by simp only[VRel];exact⟨b,_,rfl,hI,VAt.drop' _ br⟩);simp[Instr.fieldAt,a0c ok w hu,hf,Instr.sureAddr,fg]
    |_=>simp at hl
  all_goals simp[hu]at hl
theorem a8k(ok:EnvOk E){t:TypeId}{cs:List AV}{cv:Array Value}{off:Nat}{v:AV}(hv:a2c E t ((cs.drop off).take (E.sz t))=some v)
 (hc:VRels I w ρ cs cv.toList):∃c,(part t cv off).run E.P w = .ok c w∧VRel I w ρ v c:=by
 unfold a2c at hv;rw[cond_eq_ite]at hv;split at hv
 case isFalse=>cases hv
 rename_i hl;have hl:((cs.drop off).take (E.sz t)).length=E.sz t:=by simpa using hl
 cases hd:E.und t with
 |none=>simp[hd]at hv
 |some d=>
  simp only[hd]at hv;unfold part;cases dA:a26 d with
  |true=>simp only[dA,e9i,Option.some.injEq]at hv;subst hv;refine⟨.agg (cv.extract off (off+E.sz t)),by simp[b2l ok w hd,dA,a31 ok w hd],?_⟩;simp only[VRel];refine⟨_,rfl,?_⟩;have:=VRels.take (E.sz t) (VRels.drop off hc);simpa[Array.toList_extract,List.extract_eq_take_drop,List.extract]using this
  |false=>
   simp only[dA,e9q]at hv;have hk:=VRels.take (E.sz t) (VRels.drop off hc);have h0:((cs.drop off).take (E.sz t))[0]?=some v:=by rw[←List.head?_eq_getElem?];exact hv
   obtain⟨c,dK,gO⟩:=VRels.get 0 hk h0;have:cv[off]?=some c:=by
    rw[f0v]at dK;split at dK
    ·simpa[f1p]using dK
    ·cases dK
   exact⟨c,by simp[b2l ok w hd,dA,this],gO⟩
theorem c89(ok:EnvOk E)(r:HRel E.G I K ρ h w){t:TypeId}{cs:List AV}{cv:Array Value}{off:Nat}{v:AV}(hv:a2c E t ((cs.drop off).take (E.sz t))=some v)
 (hc:VRels I w ρ cs cv.toList):Val E I K ρ h n w (part t cv off) v .none:=by
 obtain⟨c,h1,h2⟩:=a8k ok hv hc;exact Val.here r h1 h2
def b6l(E:Env)(t:TypeId)(x:AV)(f:Nat):Option AV:=
 match E.und t,x with
 |some (.struct fs),.agg cs=>match fs[f]? with
  |some fd=>a2c E fd.type ((cs.drop fd.offset).take (E.sz fd.type))
  |none=>none
 |_,_=>none
theorem d1h(ok:EnvOk E)(r:HRel E.G I K ρ h w){t:TypeId}{x v:AV}{f:Nat}{c:Value}(hl:b6l E t x f=some v)(hx:VRel I w ρ x c) :
 Val E I K ρ h n w (Instr.field t c f) v .none:=by
 unfold b6l at hl;split at hl
 ·rename_i fs cs hu;cases hf:fs[f]? with
  |none=>simp[hf]at hl
  |some fd=>
   simp only[hf]at hl;simp only[VRel]at hx;obtain⟨cv,rfl,hc⟩:=hx;have ae:(Instr.field t (.agg cv) f).run E.P w=(part fd.type cv fd.offset).run E.P w:=by simp[Instr.field,a0c ok w hu,hf,asAgg]
   obtain⟨c,w',ρ',h1,h2⟩:=c89 ok (n:=n) r hl hc;exact⟨c,w',ρ',by rw[ae,h1],h2⟩
 ·cases hl
def c6i(x:AV)(len:Nat):Option Nat:=
 match x with
 |.int _ i=>bif decide (0≤i)&&decide (i<(len:Int))then some i.toNat else none
 |_=>none
theorem b4j{x:AV}{len j:Nat}{c:Value}(hi:c6i x len=some j)(hx:VRel I w ρ x c):∃k i,c = .int k i∧x = .int k i∧0≤i∧i<len∧i.toNat=j∧j<len:=by
 unfold c6i at hi;split at hi
 ·rename_i k i;rw[cond_eq_ite]at hi;split at hi
  ·rename_i hc;simp only[e7h,e9j]at hc;simp only[VRel]at hx;cases hi;exact⟨k,i,hx,rfl,hc.1,hc.2,rfl,by omega⟩
  ·cases hi
 ·cases hi
def a0v(E:Env)(h:FHeap)(t:TypeId)(p ix:AV):Option AV:=
 match E.und t with
 |some (.array len ac)=>match c6i ix len with
  |some j=>bif (E.und ac).isSome then match p with
   |.ptr b i o=>some (.ptr b i (o+j*E.sz ac))
   |.iptr cs=>some (.iptr (cs.drop (j*E.sz ac)))
   |_=>none
   else none
  |none=>none
 |some (.slice ac)=>bif (E.und ac).isSome then match p with
  |.slice b off len _=>match c6i ix len with
   |some j=>match h b with
    |some (.row k _)=>bif k==E.sz ac then some (.ptr b (off+j) 0)else none
    |_=>none
   |none=>none
  |.islice aa _=>match c6i ix aa.length with
   |some j=>match aa[j]? with
    |some r=>bif r.length==E.sz ac then some (.iptr r)else none
    |none=>none
   |none=>none
  |_=>none
  else none
 |_=>none
theorem b89(ok:EnvOk E)(r:HRel E.G I K ρ h w){t:TypeId}{p ix v:AV}{c ci:Value}(hl:a0v E h t p ix=some v)(hp:VRel I w ρ p c)(hx:VRel I w ρ ix ci) :
 Val E I K ρ h n w (Instr.indexAt t c ci) v .none:=by
 unfold a0v at hl;split at hl
 ·rename_i len ac hu;cases hi:c6i ix len with
  |none=>simp[hi]at hl
  |some j=>
   simp only[hi]at hl;obtain⟨k,i,rfl,_,h0,h1,hj,bg⟩:=b4j hi hx;rw[cond_eq_ite]at hl;split at hl
   case isFalse=>cases hl
   rename_i he;obtain⟨de,bp⟩:=e7n.1 he;cases p with
   |ptr b i' o=>simp only[Option.some.injEq]at hl;subst hl;simp only[VRel]at hp;obtain⟨m,hm,rfl⟩:=hp;refine Val.here (c:=.pointer (some ⟨m.blk,m.off+i'*m.k+o+j*E.sz ac,none⟩)) r ?_ (by simp only[VRel];exact⟨m,hm,by rw[Nat.add_assoc _ o]⟩);simp[Instr.indexAt,asIntOf,a0c ok w hu,Instr.sureAddr,h0,h1,a31 ok w bp,hj,a4g]
   |iptr cs=>simp only[Option.some.injEq]at hl;subst hl;simp only[VRel]at hp;obtain⟨b,off,rfl,hI,br⟩:=hp;refine Val.here (c:=.pointer (some ⟨b,off+j*E.sz ac,none⟩)) r ?_ (by simp only[VRel];exact⟨b,_,rfl,hI,VAt.drop' _ br⟩);simp[Instr.indexAt,asIntOf,a0c ok w hu,Instr.sureAddr,h0,h1,a31 ok w bp,hj,a4g]
   |_=>simp at hl
 ·rename_i ac hu;rw[cond_eq_ite]at hl;split at hl
  case isFalse=>cases hl
  rename_i he;obtain⟨de,bp⟩:=e7n.1 he;cases p with
  |slice b off len cap=>
   simp only at hl;cases hi:c6i ix len with
   |none=>simp[hi]at hl
   |some j=>
    simp only[hi]at hl;obtain⟨k,i,rfl,_,h0,h1,hj,bg⟩:=b4j hi hx;cases hb:h b with
    |none=>simp[hb]at hl
    |some o=>
     cases o with
     |row kk aa=>
      simp only[hb]at hl;rw[cond_eq_ite]at hl;split at hl
      case isFalse=>cases hl
      rename_i hk;have hk:kk=E.sz ac:=by simpa using hk
      cases hl;obtain⟨m,hm,_,_,ho⟩:=r.live b _ hb;simp only[VRel]at hp;obtain⟨a,cc,rfl,bl,_,bU⟩:=hp;rcases bU with hz|⟨m',aX,rfl,_⟩
      ·omega
      obtain rfl:m=m':=z9o (hm.symm.trans aX);have kC:m.k=E.sz ac:=by rw[ho.1,hk]
      refine Val.here (c:=.pointer (some ⟨m.blk,m.off+off*m.k+j*m.k,none⟩)) r ?_ (by simp only[VRel];exact⟨m,hm,by rw[f1r];simp;omega⟩);simp[Instr.indexAt,asIntOf,a0c ok w hu,h0,h1,a31 ok w bp,hj,a4g,kC]
     |map ks vs bs cl=>simp[hb]at hl
     |siter s pos=>simp[hb]at hl
     |uset ks=>simp[hb]at hl
     |miter ks cP dj=>simp[hb]at hl
     |yloop y Fy st=>simp[hb]at hl
  |islice aa cap=>
   simp only at hl;cases hi:c6i ix aa.length with
   |none=>simp[hi]at hl
   |some j=>
    simp only[hi]at hl;obtain⟨k,i,rfl,_,h0,h1,hj,bg⟩:=b4j hi hx;cases hr:aa[j]? with
    |none=>simp[hr]at hl
    |some rr=>
     simp only[hr]at hl;rw[cond_eq_ite]at hl;split at hl
     case isFalse=>cases hl
     rename_i hk;have hk:rr.length=E.sz ac:=by simpa using hk
     cases hl;simp only[VRel]at hp;obtain⟨a,cc,kk,rfl,bl,_,bU⟩:=hp;rcases bU with hz|⟨hs,hI,az⟩
     ·subst hz;simp at bg
     obtain⟨al,br⟩:=VRows.get j az hr;have ha:a=⟨a.block,a.off,none⟩:=by cases a;simp_all
     refine Val.here (c:=.pointer (some ⟨a.block,a.off+j*kk,none⟩)) r ?_ (by simp only[VRel];exact⟨_,_,rfl,hI,br⟩);rw[ha];simp[Instr.indexAt,asIntOf,a0c ok w hu,h0,h1,a31 ok w bp,hj,a4g,←hk,al]
  |_=>simp at hl
 ·cases hl
def b6k(E:Env)(t:TypeId)(x ix:AV):Option AV:=
 match E.und t,x with
 |some (.array len ac),.agg cs=>match c6i ix len with
  |some j=>bif (E.und ac).isSome then a2c E ac ((cs.drop (j*E.sz ac)).take (E.sz ac))else none
  |none=>none
 |some .string,.str s=>match c6i ix s.length with
  |some j=>match s[j]? with
   |some b=>some (.int .u8 b.toNat)
   |none=>none
  |none=>none
 |_,_=>none
theorem d0y(t:ByteArray)(i:Nat):t[i]?=t.data.toList[i]?:=by
 simp only[f1s];by_cases hi:i<t.size
 ·have h2:i<t.data.size:=hi;rw[getElem?_pos t i hi,getElem?_pos t.data i h2];rfl
 ·have h2:¬i<t.data.size:=hi;rw[getElem?_neg t i hi,getElem?_neg t.data i h2]
theorem d1g(ok:EnvOk E)(r:HRel E.G I K ρ h w){t:TypeId}{x ix v:AV}{c ci:Value}(hl:b6k E t x ix=some v)(hp:VRel I w ρ x c)(hx:VRel I w ρ ix ci) :
 Val E I K ρ h n w (Instr.index t c ci) v .none:=by
 unfold b6k at hl;split at hl
 ·rename_i len ac cs hu;cases hi:c6i ix len with
  |none=>simp[hi]at hl
  |some j=>
   simp only[hi]at hl;obtain⟨k,i,rfl,_,h0,h1,hj,bg⟩:=b4j hi hx;rw[cond_eq_ite]at hl;split at hl
   case isFalse=>cases hl
   rename_i he;obtain⟨de,bp⟩:=e7n.1 he;simp only[VRel]at hp;obtain⟨cv,rfl,hc⟩:=hp;have ae:(Instr.index t (.agg cv) (.int k i)).run E.P w=(part ac cv (j*E.sz ac)).run E.P w:=by simp[Instr.index,asIntOf,a0c ok w hu,h0,h1,a31 ok w bp,hj]
   obtain⟨c,w',ρ',h1,h2⟩:=c89 ok (n:=n) r hl hc;exact⟨c,w',ρ',by rw[ae,h1],h2⟩
 ·rename_i s hu;cases hi:c6i ix s.length with
  |none=>simp[hi]at hl
  |some j=>
   simp only[hi]at hl;obtain⟨k,i,rfl,_,h0,h1,hj,bg⟩:=b4j hi hx;simp only[VRel]at hp;obtain⟨tb,rfl,hs⟩:=hp;cases hb:s[j]? with
   |none=>simp[hb]at hl
   |some b=>
    simp only[hb,Option.some.injEq]at hl;subst hl;have:tb[i.toNat]?=some b:=by rw[d0y,hs,hj,hb]
    refine Val.here (c:=.int .u8 b.toNat) r ?_ (by simp[VRel]);simp[Instr.index,asIntOf,a0c ok w hu,h0,this]
 ·cases hl
/-! ### slicing -/
def a19(x:Option AV)(y:Nat)(d:Nat):Option Nat:=
 match x with
 |none=>some d
 |some (.int _ i)=>bif decide (0≤i)&&decide (i≤(y:Int))then some i.toNat else none
 |some _=>none
def a3b(I:Nat→Prop)(w:World)(ρ:PMap):Option AV→Option Value→Prop
 |none,c=>c=none
 |some v,c=>∃x,c=some x∧VRel I w ρ v x
theorem a4u{x:Option AV}{c:Option Value}{y d j:Nat}(hb:a19 x y d=some j)(hx:a3b I w ρ x c)(y':Nat)(hy:y≤y')(code:BoundsCode) :
 (match c with|some v=>Instr.sliceBound v y' code|none=>pure d:Sem Nat).run E.P w = .ok j w∧(c.isSome=true→j≤y):=by
 unfold a19 at hb;split at hb
 ·simp only[a3b]at hx;subst hx;cases hb;simp
 ·rename_i k i;simp only[a3b,VRel]at hx;obtain⟨_,rfl,rfl⟩:=hx;rw[cond_eq_ite]at hb;split at hb
  ·rename_i hc;simp only[e7h,e9j]at hc;cases hb;have:0≤i∧i≤(y':Int):=⟨hc.1,by omega⟩
   exact⟨by simp[Instr.sliceBound,asIntOf,this],λ_=>by omega⟩
  ·cases hb
 ·cases hb
end
end Go.Ax
/- AxSli: slices of slices and strings; composite values; rows that are c5f. -/
namespace Go.Ax
section
variable {E:Env}{I K:Nat→Prop}{ρ:PMap}{h:FHeap}{n:Nat}{w:World}
def a1i(len:Nat)(cap:Option Nat):Nat:=match cap with|some c=>c|none=>len
def a59(E:Env)(h:FHeap)(t:TypeId)(x:AV)(lo hi mx:Option AV):Option AV:=
 match E.und t,x with
 |some .string,.str s=>
  match mx,a19 hi s.length s.length with
  |none,some j=>match a19 lo j 0 with
   |some l=>some (.str ((s.take j).drop l))
   |none=>none
  |_,_=>none
 |some (.slice ac),.slice b off len cap=>
  bif (E.und ac).isSome then
  match h b with
  |some (.row k _)=>bif k==E.sz ac then
   match mx with
   |none=>match a19 hi (a1i len cap) len with
    |some j=>match a19 lo j 0 with
     |some l=>some (.slice b (off+l) (j-l) (cap.map (·- l)))
     |none=>none
    |none=>none
   |some m=>match a19 (some m) (a1i len cap) 0 with
    |some mm=>match hi with
     |none=>none
     |some _=>match a19 hi mm 0 with
      |some j=>match a19 lo j 0 with
       |some l=>some (.slice b (off+l) (j-l) (some (mm-l)))
       |none=>none
      |none=>none
    |none=>none
   else none
  |_=>none
  else none
 |some (.slice ac),.islice aa cap=>
  bif (E.und ac).isSome&&aa.all (λr=>r.length==E.sz ac)then
   match mx with
   |none=>match a19 hi aa.length aa.length with
    |some j=>match a19 lo j 0 with
     |some l=>some (.islice ((aa.take j).drop l) (cap.map (·- l)))
     |none=>none
    |none=>none
   |some m=>match a19 (some m) aa.length 0 with
    |some mm=>match hi with
     |none=>none
     |some _=>match a19 hi mm 0 with
      |some j=>match a19 lo j 0 with
       |some l=>some (.islice ((aa.take j).drop l) (some (mm-l)))
       |none=>none
      |none=>none
    |none=>none
  else none
 |some (.slice ac),.nilslice=>
  bif (E.und ac).isSome then
  match mx with
  |none=>match a19 hi 0 0 with
   |some j=>match a19 lo j 0 with
    |some _=>some .nilslice
    |none=>none
   |none=>none
  |some m=>match a19 (some m) 0 0 with
   |some mm=>match hi with
    |none=>none
    |some _=>match a19 hi mm 0 with
     |some j=>match a19 lo j 0 with
      |some _=>some .nilslice
      |none=>none
     |none=>none
   |none=>none
  else none
 |_,_=>none
theorem b82{lo hi:Option AV}{gH g9:Option Value}{fx kV j l:Nat}(hj:a19 hi fx kV=some j)(hl:a19 lo j 0=some l)
 (rh:a3b I w ρ hi g9)(rl:a3b I w ρ lo gH)(mV:Bool)(len cap:Nat)(al:kV=len)(a9:fx≤cap)(uD:kV≤fx) :
 (Instr.sliceBounds mV len cap gH g9 none).run E.P w = .ok (l,j,cap) w∧l≤j∧j≤fx:=by
 subst al;have fk:=a4u (E:=E) hl rl j (e9k _) .sliceB;have bg:l≤j:=by
  unfold a19 at hl;split at hl
  ·cases hl;omega
  ·rw[cond_eq_ite]at hl;split at hl
   ·rename_i hc;simp only[e7h,e9j]at hc;cases hl;omega
   ·cases hl
  ·cases hl
 have tv:j≤fx:=by
  unfold a19 at hj;split at hj
  ·cases hj;omega
  ·rw[cond_eq_ite]at hj;split at hj
   ·rename_i hc;simp only[e7h,e9j]at hc;cases hj;omega
   ·cases hj
  ·cases hj
 refine⟨?_,bg,tv⟩;unfold Instr.sliceBounds;cases mV
 ·have dP:=a4u (E:=E) hj rh cap a9 .sliceAlen;cases g9<;>cases gH<;>simp at dP fk<;>simp[dP,fk]
 ·have dP:=a4u (E:=E) hj rh cap a9 .sliceAcap;cases g9<;>cases gH<;>simp at dP fk<;>simp[dP,fk]
theorem c2e{lo hi:Option AV}{m:AV}{gH g9:Option Value}{cm:Value}{fx mm j l:Nat}(hm:a19 (some m) fx 0=some mm)(hj:a19 hi mm 0=some j)(hl:a19 lo j 0=some l)
 (rm:VRel I w ρ m cm)(rh:a3b I w ρ hi g9)(mq:hi.isSome=true)(rl:a3b I w ρ lo gH)(mV:Bool)(len cap:Nat)(a9:fx≤cap) :
 (Instr.sliceBounds mV len cap gH g9 (some cm)).run E.P w = .ok (l,j,mm) w∧l≤j∧j≤mm∧mm≤fx:=by
 have qw:∃ch,g9=some ch:=by
  cases hi with
  |none=>simp at mq
  |some x=>simp only[a3b]at rh;obtain⟨y,h,_⟩:=rh;exact⟨y,h⟩
 obtain⟨ch,rfl⟩:=qw;have fk:=a4u (E:=E) hl rl j (e9k _) .slice3C;have dP:=a4u (E:=E) hj rh mm (e9k _) .slice3B;have le:∀{x:Option AV} {y d z:Nat},a19 x y d=some z→d≤y→z≤y:=by
  intro x y d z hz hd;unfold a19 at hz;split at hz
  ·cases hz;omega
  ·rw[cond_eq_ite]at hz;split at hz
   ·rename_i hc;simp only[e7h,e9j]at hc;cases hz;omega
   ·cases hz
  ·cases hz
 refine⟨?_,le hl (e8e _),le hj (e8e _),le hm (e8e _)⟩;unfold Instr.sliceBounds;cases mV
 ·have jw:=a4u (E:=E) (c:=some cm) hm (by simp only[a3b];exact⟨cm,rfl,rm⟩) cap a9 .slice3Alen;cases gH<;>simp at jw dP fk<;>simp[jw,dP,fk]
 ·have jw:=a4u (E:=E) (c:=some cm) hm (by simp only[a3b];exact⟨cm,rfl,rm⟩) cap a9 .slice3Acap;cases gH<;>simp at jw dP fk<;>simp[jw,dP,fk]
theorem a1w(ok:EnvOk E){t ac:TypeId}(hu:E.und t=some (.slice ac)){de:TypeDesc}(he:E.und ac=some de){a:Option Addr}{len cap l j m:Nat}{gH g9 oD:Option Value}
 (hb:(Instr.sliceBounds true len cap gH g9 oD).run E.P w = .ok (l,j,m) w) :
 (Instr.sliceAt t (.slice a len cap) gH g9 oD).run E.P w = .ok (.slice (if m=l then a else a.map (·.add (l*E.sz ac))) (j-l) (m-l)) w:=by
 simp[Instr.sliceAt,a0c ok w hu,Instr.slice,hb,a31 ok w he]
theorem a6a(s:ByteArray)(l j:Nat):(s.extract l j).data.toList=(s.data.toList.take j).drop l:=by rw[ByteArray.data_extract,Array.toList_extract,List.extract_eq_take_drop];rw[List.drop_take]
theorem a8r{b off len:Nat}{cap:Option Nat}{a:Addr}{c l j m:Nat}{k:Nat}{aa:List (List AV)}{jn:Option Nat}{sz:Nat}
 (r:HRel E.G I K ρ h w)(hb:h b=some (.row k aa))(hk:k=sz)(hp:VRel I w ρ (.slice b off len cap) (.slice (some a) len c))
 (tq:l≤j)(tu:j≤m)(uB:m≤c)(a9:∀n,jn=some n→m-l=n) :
 VRel I w ρ (.slice b (off+l) (j-l) jn) (.slice (if m=l then some a else(some a).map (·.add (l*sz))) (j-l) (m-l)):=by
 simp only[VRel]at hp⊢;obtain⟨a',c',he,bl,hc,bU⟩:=hp;cases he;by_cases dl:m=l
 ·rw[e8j dl];exact⟨a,m-l,by simp,by omega,a9,.inl (by omega)⟩
 ·rw[e8g dl];rcases bU with h0|⟨mm,eW,rfl,a7⟩
  ·omega
  ·obtain⟨m',aX,_,_,ho⟩:=r.live b _ hb;obtain rfl:mm=m':=z9o (eW.symm.trans aX);refine⟨_,m-l,rfl,by omega,a9,.inr ⟨mm,eW,?_,?_⟩⟩
   ·dsimp only;rw[a4g,ho.1,hk,f1r]
    congr 1;omega
   ·have:(off+l+(m-l))*mm.k≤(off+c)*mm.k:=f1g _ (by omega);omega
theorem a7n{aa:List (List AV)}{cap:Option Nat}{a:Addr}{c l j m sz:Nat}{jn:Option Nat}(aY:aa.all (λr=>r.length==sz)=true)
 (hp:VRel I w ρ (.islice aa cap) (.slice (some a) aa.length c))(tq:l≤j)(tu:j≤m)(rU:j≤aa.length)(_:m≤c)(a9:∀n,jn=some n→m-l=n) :
 VRel I w ρ (.islice ((aa.take j).drop l) jn) (.slice (if m=l then some a else(some a).map (·.add (l*sz))) (j-l) (m-l)):=by
 simp only[VRel]at hp⊢;obtain⟨a',c',k,he,bl,hc,bU⟩:=hp;cases he;have al:((aa.take j).drop l).length=j-l:=by simp;omega
 by_cases dl:m=l
 ·rw[e8j dl];refine⟨a,m-l,k,by rw[al],by rw[al];omega,a9,.inl ?_⟩;apply f3s;simp;omega
 ·rw[e8g dl];refine⟨_,m-l,k,by rw[al];rfl,by rw[al];omega,a9,?_⟩;rcases bU with h0|⟨hs,hI,az⟩
  ·left;subst h0;simp
  ·by_cases hr:aa=[]
   ·left;subst hr;simp
   ·right;have iU:k=sz:=by
     cases aa with
     |nil=>exact absurd rfl hr
     |cons r rs=>simp only[VRows]at az;simp only[List.all_cons,e7h,f2p]at aY;omega
    have ha:a=⟨a.block,a.off,none⟩:=by cases a;simp_all
    rw[ha];dsimp only;rw[a4g];refine⟨rfl,hI,?_⟩;have h2:l≤(aa.take j).length:=by simp;omega
    have:=VRows.drop l h2 (VRows.take j az);rw[iU]at this⊢;exact this
theorem d14(ok:EnvOk E)(r:HRel E.G I K ρ h w){t:TypeId}{x v:AV}{lo hi mx:Option AV}{c:Value}{gH g9 oD:Option Value}(hl:a59 E h t x lo hi mx=some v)
 (hx:VRel I w ρ x c)(rl:a3b I w ρ lo gH)(rh:a3b I w ρ hi g9)(rm:a3b I w ρ mx oD):Val E I K ρ h n w (Instr.sliceAt t c gH g9 oD) v .none:=by
 unfold a59 at hl;split at hl
 · -- strings
  rename_i s hu;split at hl
  ·rename_i j hj;simp only[a3b]at rm;subst rm;cases bV:a19 lo j 0 with
   |none=>simp[bV]at hl
   |some l=>
    simp only[bV,Option.some.injEq]at hl;subst hl;simp only[VRel]at hx;obtain⟨tb,rfl,hs⟩:=hx;have bF:tb.size=s.length:=by rw[←hs,e9n];rfl
    obtain⟨hb,h1,h2⟩:=b82 (E:=E) hj bV rh rl false tb.size tb.size bF.symm (by omega) (e9k _);refine Val.here (c:=.string (tb.extract l j)) r ?_ (by simp only[VRel];exact⟨_,rfl,by rw[a6a,hs]⟩);simp[Instr.sliceAt,a0c ok w hu,Instr.slice,hb]
  ·cases hl
 · -- a mutable block
  rename_i ac b off len cap hu;rw[cond_eq_ite]at hl;split at hl
  case isFalse=>cases hl
  rename_i he;obtain⟨de,bp⟩:=e7n.1 he;split at hl
  case h_2=>cases hl
  rename_i k aa hb;rw[cond_eq_ite]at hl;split at hl
  case isFalse=>cases hl
  rename_i hk;have hk:k=E.sz ac:=by simpa using hk
  have go:=hx;simp only[VRel]at go;obtain⟨a,cc,rfl,bl,a9,bU⟩:=go;have kQ:a1i len cap≤cc:=by unfold a1i;cases cap with|none=>exact bl|some c=>rw[a9 c rfl];exact e9k _
  have nJ:len≤a1i len cap:=by unfold a1i;cases cap with|none=>exact e9k _|some c=>rw[←a9 c rfl];exact bl
  cases mx with
  |none=>
   simp only[a3b]at rm;subst rm;simp only at hl;cases hj:a19 hi (a1i len cap) len with
   |none=>simp[hj]at hl
   |some j=>
    simp only[hj]at hl;cases bV:a19 lo j 0 with
    |none=>simp[bV]at hl
    |some l=>
     simp only[bV,Option.some.injEq]at hl;subst hl;obtain⟨gi,h1,h2⟩:=b82 (E:=E) hj bV rh rl true len cc rfl kQ nJ;refine Val.here r (a1w ok hu bp gi) (a8r r hb hk hx h1 (by omega) (e9k _) ?_);intro q hq;cases cap with
     |none=>simp at hq
     |some c=>simp at hq;rw[a9 c rfl];exact hq
  |some m=>
   simp only[a3b]at rm;obtain⟨cm,rfl,rm⟩:=rm;simp only at hl;cases eW:a19 (some m) (a1i len cap) 0 with
   |none=>simp[eW]at hl
   |some mm=>
    simp only[eW]at hl;cases hi with
    |none=>simp at hl
    |some hi=>
     simp only at hl;cases hj:a19 (some hi) mm 0 with
     |none=>simp[hj]at hl
     |some j=>
      simp only[hj]at hl;cases bV:a19 lo j 0 with
      |none=>simp[bV]at hl
      |some l=>simp only[bV,Option.some.injEq]at hl;subst hl;obtain⟨gi,h1,h2,h3⟩:=c2e (E:=E) eW hj bV rm rh rfl rl true len cc kQ;exact Val.here r (a1w ok hu bp gi) (a8r r hb hk hx h1 h2 (by omega) (λq hq=>by cases hq;rfl))
 · -- immutable memory
  rename_i ac aa cap hu;rw[cond_eq_ite]at hl;split at hl
  case isFalse=>cases hl
  rename_i he;simp only[e7h]at he;obtain⟨de,bp⟩:=e7n.1 he.1;have go:=hx;simp only[VRel]at go;obtain⟨a,cc,kk,rfl,bl,a9,bU⟩:=go;cases mx with
  |none=>
   simp only[a3b]at rm;subst rm;simp only at hl;cases hj:a19 hi aa.length aa.length with
   |none=>simp[hj]at hl
   |some j=>
    simp only[hj]at hl;cases bV:a19 lo j 0 with
    |none=>simp[bV]at hl
    |some l=>
     simp only[bV,Option.some.injEq]at hl;subst hl;obtain⟨gi,h1,h2⟩:=b82 (E:=E) hj bV rh rl true aa.length cc rfl bl (e9k _);refine Val.here r (a1w ok hu bp gi) (a7n he.2 hx h1 (by omega) h2 (e9k _) ?_);intro q hq;cases cap with
     |none=>simp at hq
     |some c=>simp at hq;rw[a9 c rfl];exact hq
  |some m=>
   simp only[a3b]at rm;obtain⟨cm,rfl,rm⟩:=rm;simp only at hl;cases eW:a19 (some m) aa.length 0 with
   |none=>simp[eW]at hl
   |some mm=>
    simp only[eW]at hl;cases hi with
    |none=>simp at hl
    |some hi=>
     simp only at hl;cases hj:a19 (some hi) mm 0 with
     |none=>simp[hj]at hl
     |some j=>
      simp only[hj]at hl;cases bV:a19 lo j 0 with
      |none=>simp[bV]at hl
      |some l=>simp only[bV,Option.some.injEq]at hl;subst hl;obtain⟨gi,h1,h2,h3⟩:=c2e (E:=E) eW hj bV rm rh rfl rl true aa.length cc bl;exact Val.here r (a1w ok hu bp gi) (a7n he.2 hx h1 h2 (by omega) (by omega) (λq hq=>by cases hq;rfl))
 · -- nil
  rename_i ac hu;rw[cond_eq_ite]at hl;split at hl
  case isFalse=>cases hl
  rename_i he;obtain⟨de,bp⟩:=e7n.1 he;simp only[VRel]at hx;subst hx;cases mx with
  |none=>
   simp only[a3b]at rm;subst rm;simp only at hl;cases hj:a19 hi 0 0 with
   |none=>simp[hj]at hl
   |some j=>
    simp only[hj]at hl;cases bV:a19 lo j 0 with
    |none=>simp[bV]at hl
    |some l=>
     simp only[bV,Option.some.injEq]at hl;subst hl;obtain⟨gi,h1,h2⟩:=b82 (E:=E) hj bV rh rl true 0 0 rfl (e9k _) (e9k _);obtain rfl:j=0:=by omega
     obtain rfl:l=0:=by omega
     exact Val.here (c:=.slice none 0 0) r (by rw[a1w ok hu bp gi];rfl) (by simp[VRel])
  |some m=>
   simp only[a3b]at rm;obtain⟨cm,rfl,rm⟩:=rm;simp only at hl;cases eW:a19 (some m) 0 0 with
   |none=>simp[eW]at hl
   |some mm=>
    simp only[eW]at hl;cases hi with
    |none=>simp at hl
    |some hi=>
     simp only at hl;cases hj:a19 (some hi) mm 0 with
     |none=>simp[hj]at hl
     |some j=>
      simp only[hj]at hl;cases bV:a19 lo j 0 with
      |none=>simp[bV]at hl
      |some l=>
       simp only[bV,Option.some.injEq]at hl;subst hl;obtain⟨gi,h1,h2,h3⟩:=c2e (E:=E) eW hj bV rm rh rfl rl true 0 0 (e9k _);obtain rfl:mm=0:=by omega
       obtain rfl:j=0:=by omega
       obtain rfl:l=0:=by omega
       exact Val.here (c:=.slice none 0 0) r (by rw[a1w ok hu bp gi];rfl) (by simp[VRel])
 ·cases hl
end
end Go.Ax
/- AxMake: composite values, slice literals, make. -/
namespace Go.Ax
section
variable {E:Env}{I K:Nat→Prop}{ρ:PMap}{h:FHeap}{n:Nat}{w:World}
def AV.isJunk:AV→Bool
 |.junk=>true
 |_=>false
theorem AV.not_junk{v:AV}(h:v.isJunk=false):v≠ .junk:=by rintro rfl;simp[AV.isJunk]at h
def b11(eS:Nat→Option (Nat×Nat))(cells:List AV):List (Nat×AV)→Option (List AV)
 | []=>some cells
 |(i,v)::ah=>match eS i with
  |none=>none
  |some (off,size)=>bif !v.isJunk&&v.cells.length==size&&Nat.ble (off+size) cells.length then b11 eS (splice cells off v.cells) ah else none
def a5d(I:Nat→Prop)(w:World)(ρ:PMap):List (Nat×AV)→List (Nat×Value)→Prop
 | [],l=>l=[]
 |(i,v)::r,l=>∃c r',l=(i,c)::r'∧VRel I w ρ v c∧a5d I w ρ r r'
def e3x(a:List Value)(off:Nat)(cs:List Value):List Value:=a.take off++cs++a.drop (off+cs.length)
theorem b9u(off:Nat):∀(cs:List Value) (j:Nat) (a:Array Value),off+j+cs.length≤a.size→
 (((cs.zipIdx j).foldl (λ(a:Array Value) (x:Value×Nat)=>a.setIfInBounds (off+x.2) x.1) a).toList=e3x a.toList (off+j) cs)
 | [],j,a,_=>by simp[e3x]
 |c::cs,j,a,hl=>by
  simp only[e7g]at hl;simp only[List.zipIdx_cons,List.foldl_cons];rw[b9u off cs (j+1) _ (by simp;omega)];unfold e3x;simp only[Array.toList_setIfInBounds,e7g];rw[show off+(j+1)=(off+j)+1 by omega,show(off+j)+(cs.length+1)=(off+j)+1+cs.length by omega];have aj:off+j<a.toList.length:=by simp;omega
  rw[List.take_succ_eq_append_getElem (by simpa using aj),List.take_set_of_le (e9k _),List.drop_set_of_lt (by omega)];simp
theorem VRels.splice{vs cs:List AV}{xs ys:List Value}{off:Nat}(h:VRels I w ρ vs xs)(k:VRels I w ρ cs ys):VRels I w ρ (Ax.splice vs off cs) (e3x xs off ys):=by unfold Ax.splice e3x;rw[VRels.length k];exact VRels.append (VRels.append (VRels.take off h) k) (VRels.drop _ h)
theorem b29{eS:Nat→Option (Nat×Nat)}:∀{ap:List (Nat×AV)} {cells iy:List AV} {cv:Array Value} {bP:List (Nat×Value)},
 b11 eS cells ap=some iy→VRels I w ρ cells cv.toList→a5d I w ρ ap bP→∃g8,Instr.fill eS cv bP=some g8∧VRels I w ρ iy g8.toList
 | [],cells,iy,cv,bP,hf,hc,hp=>by simp only[a5d]at hp;subst hp;simp only[b11,Option.some.injEq]at hf;subst hf;exact⟨cv,rfl,hc⟩
 |(i,v)::ah,cells,iy,cv,bP,hf,hc,hp=>by
  simp only[a5d]at hp;obtain⟨c,r',rfl,hv,hp⟩:=hp;simp only[b11]at hf;cases cC:eS i with
  |none=>simp[cC]at hf
  |some os=>
   obtain⟨off,size⟩:=os;simp only[cC]at hf;rw[cond_eq_ite]at hf;split at hf
   case isFalse=>cases hf
   rename_i fU;simp only[e7h,f0x,f2p,f1h]at fU;obtain⟨⟨hj,bF⟩,bN⟩:=fU;have cR:=VRel.cells hv (AV.not_junk hj);have mn:=VRels.length cR;have lA:=VRels.length hc;simp only[e9n]at mn lA;have nr:=b9u off c.cells.toList 0 cv (by simp;omega);simp only[f3y]at nr;have aS:VRels I w ρ (splice cells off v.cells) ((c.cells.zipIdx.foldl (λcs (x:Value×Nat)=>cs.setIfInBounds (off+x.2) x.1) cv).toList):=by
    have e:(c.cells.zipIdx.foldl (λcs (x:Value×Nat)=>cs.setIfInBounds (off+x.2) x.1) cv) =
     (c.cells.toList.zipIdx.foldl (λcs (x:Value×Nat)=>cs.setIfInBounds (off+x.2) x.1) cv):=by
     rw[←Array.foldl_toList,Array.toList_zipIdx]
    rw[e,nr];exact VRels.splice hc cR
   obtain⟨g8,h1,h2⟩:=b29 hf aS hp;refine⟨g8,?_,h2⟩;simp only[Instr.fill,cC];have:¬((c.cells.size≠size||decide (off+c.cells.size>cv.size))=true):=by simp only[ne_eq,f2v,e9j,not_or];omega
   rw[e8g (by simpa using this)];exact h1
def b6p(E:Env)(t:TypeId)(ap:List (Nat×AV)):Option AV:=
 match E.zero t with
 |none=>none
 |some z=>match E.und t with
  |some (.struct fs)=>bif fs.toList.all (λf=>(E.und f.type).isSome)then
   match b11 (λi=>(fs[i]?).map λf=>(f.offset,E.sz f.type)) z ap with
   |some cs=>some (.agg cs)
   |none=>none
   else none
  |some (.array _ ac)=>bif (E.und ac).isSome then
   match b11 (λi=>some (i*E.sz ac,E.sz ac)) z ap with
   |some cs=>some (.agg cs)
   |none=>none
   else none
  |_=>none
theorem b5d(ok:EnvOk E):∀(fs:List Field) (w:World),fs.all (λf=>(E.und f.type).isSome)=true→
 (fs.mapM (λf=>do pure (f.offset,←sizeOf f.type):Field→Sem (Nat×Nat))).run E.P w = .ok (fs.map λ(f:Field)=>(f.offset,E.sz f.type)) w
 | [],w,_=>by simp
 |f::fs,w,hf=>by simp only[List.all_cons,e7h]at hf;obtain⟨d,hd⟩:=e7n.1 hf.1;have ih:=b5d ok fs w hf.2;simp only[List.mapM_cons,Sem.run_bind,a31 ok w hd,Result.andThen_ok,Sem.run_pure,ih,e12]
theorem d1m(ok:EnvOk E)(r:HRel E.G I K ρ h w){t:TypeId}{ap:List (Nat×AV)}{bP:List (Nat×Value)}{v:AV}(hl:b6p E t ap=some v)(hp:a5d I w ρ ap bP) :
 Val E I K ρ h n w (Instr.build t bP.toArray) v .none:=by
 unfold b6p at hl;cases hz:E.zero t with
 |none=>simp[hz]at hl
 |some z=>
  simp only[hz]at hl;obtain⟨zv,ek,_,bw⟩:=a6v ok w hz;have bz:VRels I w ρ z zv.cells.toList:=VRels.noRef_any (bw I w);split at hl
  ·rename_i fs hu;rw[cond_eq_ite]at hl;split at hl
   case isFalse=>cases hl
   rename_i aY;split at hl
   case h_2=>cases hl
   rename_i cs hf;cases hl;obtain⟨g8,h1,h2⟩:=b29 hf bz hp;refine Val.here (c:=.agg g8) r ?_ (by simp only[VRel];exact⟨g8,rfl,h2⟩);have cC:=b5d ok fs.toList w aY;have hm:(fs.mapM (λf=>do pure (f.offset,←sizeOf f.type):Field→Sem (Nat×Nat))).run E.P w = .ok (fs.map λ(f:Field)=>(f.offset,E.sz f.type)) w:=by
    rw[Array.mapM_eq_mapM_toList,Sem.run_map,cC];simp only[Result.andThen_ok]
    congr 1
    apply f3t;simp
   have fg:(λ(i:Nat)=>(fs.map λ(f:Field)=>(f.offset,E.sz f.type))[i]?)=(λ(i:Nat)=>(fs[i]?).map λ(f:Field)=>(f.offset,E.sz f.type)):=by funext i;simp
   simp only[Instr.build,Sem.run_bind,ek,Result.andThen_ok,a0c ok w hu,hm,fg,h1,Sem.run_pure]
  ·rename_i m ac hu;rw[cond_eq_ite]at hl;split at hl
   case isFalse=>cases hl
   rename_i he;obtain⟨de,bp⟩:=e7n.1 he;split at hl
   case h_2=>cases hl
   rename_i cs hf;cases hl;obtain⟨g8,h1,h2⟩:=b29 hf bz hp;refine Val.here (c:=.agg g8) r ?_ (by simp only[VRel];exact⟨g8,rfl,h2⟩);simp only[Instr.build,Sem.run_bind,ek,Result.andThen_ok,a0c ok w hu,a31 ok w bp,h1,Sem.run_pure]
  ·cases hl
/-! ### rows of equal elements -/
theorem a3d{α:Type}[Inhabited α](zs:List α):∀c:Nat,((List.range (c*zs.length)).map λi=>zs[i%zs.length]!)=(List.replicate c zs).flatten
 |0=>by simp
 |c+1=>by
  rw[f4o,List.range_add,e8l,a3d zs c,List.replicate_succ',List.flatten_append]
  congr 1
  simp only[f3e,f0y,List.flatten_nil,e7i];apply List.ext_getElem
  ·simp
  ·intro i h1 h2;simp only[List.getElem_map,List.getElem_range,Function.comp];rw[Nat.add_comm,Nat.add_mul_mod_self_right,Nat.mod_eq_of_lt h2];simp[h2]
theorem VRels.flatten_replicate{z:List AV}{zs:List Value}(hz:VRels I w ρ z zs):∀c,VRels I w ρ (List.replicate c z).flatten (List.replicate c zs).flatten
 |0=>by simp[VRels]
 |c+1=>by simp only[f2b,f0y];exact VRels.append hz (VRels.flatten_replicate hz c)
def a3z(E:Env)(n:Nat)(t:TypeId)(len cap:AV):Option (AV×Eff):=
 match E.und t,len,cap with
 |some (.slice ac),.int _ l,.int _ c=>
  match E.zero ac with
  |some z=>bif decide (0≤l)&&decide (l≤c)&&decide (c≤281474976710656)&&decide ((E.bytes ac:Int)*c≤281474976710656)&&Nat.blt 0 z.length then
   some (.slice n 0 l.toNat (some c.toNat),.new (.row z.length (List.replicate c.toNat z)))else none
  |none=>none
 |_,_,_=>none
theorem b09{x:Int}(h0:0≤x)(h1:x≤281474976710656):IntKind.i64.wrap x=x:=by simp[IntKind.wrap,IntKind.signed,IntKind.bits];omega
theorem b86(ok:EnvOk E)(r:HRel E.G I K ρ h w)(hn:h n=none)(hρ:ρ n=none){t:TypeId}{len cap v:AV}{e:Eff}{cl cc:Value}(ha:a3z E n t len cap=some (v,e))
 (al:VRel I w ρ len cl)(a9:VRel I w ρ cap cc):Val E I K ρ h n w (Instr.makeSlice t cl cc) v e:=by
 unfold a3z at ha;split at ha
 ·rename_i ac k1 l k2 c hu;cases hz:E.zero ac with
  |none=>simp[hz]at ha
  |some z=>
   simp only[hz]at ha;rw[cond_eq_ite]at ha;split at ha
   case isFalse=>cases ha
   rename_i hc;simp only[e7h,e9j,e9o]at hc;obtain⟨⟨⟨⟨h0,h1⟩,h2⟩,h3⟩,h4⟩:=hc;cases ha;simp only[VRel]at al a9;subst al a9;obtain⟨⟨de,bp⟩,_⟩:=ok.zero ac z hz;obtain⟨zv,ek,gn,bw⟩:=a6v ok w hz;have bZ:=bw I w;have dU:=VRels.length bZ;obtain⟨i,hi,tz,rX⟩:=b1v ok w bp;have s6:IntKind.i64.wrap c=c:=b09 (by omega) h2;have rp:IntKind.i64.wrap l=l:=b09 h0 (by omega);have qD:(i.bytes:Int)*c≤281474976710656:=by rw[rX];exact h3
   have cj:(i.bytes:Int)*l≤281474976710656:=Int.le_trans (Int.mul_le_mul_of_nonneg_left h1 (by omega)) qD;have fF:∀w',(zeroValue ac).run E.P w' = .ok zv w':=by intro w';obtain⟨_,i',z',im,eJ,_⟩:=ok.zero ac z hz;have:=ek;simp[zeroValue,typeInfo,im,eJ]at this⊢;exact this
   refine a9m (el:=ac) (k:=z.length) (aa:=List.replicate c.toNat z) (cells:=(Array.range (c.toNat*E.sz ac)).map (λi=>zv.cells[i%zv.cells.size]!))
    (mk:=λa=>.slice (some a) l.toNat c.toNat) r hn hρ h4 (by intro x hx;rw[f01 hx]) ?_ ⟨rfl,rfl,rfl,rfl⟩ ?_ ?_
   ·rw[show((Array.range (c.toNat*E.sz ac)).map (λi=>zv.cells[i%zv.cells.size]!)).toList=(List.replicate c.toNat zv.cells.toList).flatten by
     rw[←a3d];simp only[f2e,Array.toList_range,e9n];rw[show E.sz ac=zv.cells.size by rw[←gn,dU];simp];apply f0i;intro a _;rw[Array.getElem!_toList]]
    exact VRels.flatten_replicate (VRels.noRef_any bZ) _
   ·have nA:¬(c<0∨281474976710656<(i.bytes:Int)*c):=by omega
    have e1:(decide (c<0)||decide ((i.bytes:Int)*c>2^48)||decide (l<0)||decide (l>c))=false:=by simp only[Bool.or_eq_false_iff,decide_eq_false_iff_not];omega
    simp only[Instr.makeSlice,Sem.run_bind,a0c ok w hu,Result.andThen_ok,asInt,asIntOf,Sem.run_pure,hi,s6,rp];simp only[e1,f0s,f3w];by_cases cA:c.toNat*E.sz ac=0
    ·have:c.toNat=0:=by
      rcases Nat.mul_eq_zero.1 cA with h|h
      ·exact h
      ·omega
     have gP:∀f:Nat→Value,Array.map f (Array.range 0) = #[]:=by intro f;simp
     simp[a31 ok w bp,this,a3w];rw[gP,gP]
    ·simp[a31 ok w bp,cA,fF,a3w]
   ·intro w' ρ' h';simp only[VRel];exact⟨_,c.toNat,rfl,by omega,λq hq=>by cases hq;rfl,.inr ⟨_,h',by simp,by simp[gn]⟩⟩
 ·cases ha
def b4g(k:Nat)(aa:List (List AV)):List (Nat×AV)→Option (List (List AV))
 | []=>some aa
 |(i,v)::ah=>bif !v.isJunk&&v.cells.length==k&&Nat.blt i aa.length then b4g k (aa.set i v.cells) ah else none
theorem b3s{k:Nat}:∀(aa:List (List AV)) (i:Nat) (cs:List AV),(∀r∈aa,r.length=k)→cs.length=k→i<aa.length→(aa.set i cs).flatten=splice aa.flatten (i*k) cs
 | [],i,cs,_,_,hi=>by simp at hi
 |r::aa,0,cs,hr,hc,_=>by
  have:r.length=cs.length:=by rw[hr r (by simp),hc]
  simp[splice,←this]
 |r::aa,i+1,cs,hr,hc,hi=>by have hk:r.length=k:=hr r (by simp);have ih:=b3s aa i cs (λr iM=>hr r (by simp[iM])) hc (by simpa using hi);simp only[List.set_cons_succ,f0y,ih];unfold splice;rw[f4o,List.take_append,List.drop_append];have e1:r.take (i*k+k)=r:=e8b (by omega);have e2:r.drop (i*k+k+cs.length)=[]:=f3s (by omega);rw[e1,e2];rw[show i*k+k-r.length=i*k by omega,show i*k+k+cs.length-r.length=i*k+cs.length by omega];simp
theorem b6j{k:Nat}(len:Nat):∀{ap:List (Nat×AV)} {aa iy:List (List AV)},b4g k aa ap=some iy→(∀r∈aa,r.length=k)→aa.length=len→
 b11 (λi=>some (i*k,k)) aa.flatten ap=some iy.flatten∧(∀r∈iy,r.length=k)∧iy.length=len
 | [],aa,iy,hf,hr,al=>by simp only[b4g,Option.some.injEq]at hf;subst hf;exact⟨rfl,hr,al⟩
 |(i,v)::ah,aa,iy,hf,hr,al=>by
  simp only[b4g]at hf;rw[cond_eq_ite]at hf;split at hf
  case isFalse=>cases hf
  rename_i hc;simp only[e7h,f0x,f2p,e9o]at hc;obtain⟨⟨hj,hk⟩,hi⟩:=hc;have ih:=b6j len hf (by
   intro r iM;rcases f1n iM with h|h
   ·exact hr r h
   ·rw[h,hk]) (by simpa using al)
  refine⟨?_,ih.2⟩;simp only[b11];have bY:=a0u hr;have bN:Nat.ble (i*k+k) aa.flatten.length=true:=by rw[f1h,bY,←f4o];exact f1g k hi
  simp only[hj,hk,bN,Bool.not_false,beq_self_eq_true,f1e,e9i];rw[←b3s aa i v.cells hr hk hi];exact ih.1
def a3a(E:Env)(n:Nat)(t:TypeId)(len:Nat)(ap:List (Nat×AV)):Option (AV×Eff):=
 match E.und t with
 |some (.slice ac)=>match E.zero ac with
  |some z=>bif Nat.blt 0 z.length&&Nat.ble (len*z.length) 16777216 then
   match b4g z.length (List.replicate len z) ap with
   |some aa=>some (.slice n 0 len (some len),.new (.row z.length aa))
   |none=>none
   else none
  |none=>none
 |_=>none
theorem b50(ok:EnvOk E)(r:HRel E.G I K ρ h w)(hn:h n=none)(hρ:ρ n=none){t:TypeId}{len:Nat}{ap:List (Nat×AV)}{bP:List (Nat×Value)}{v:AV}{e:Eff}
 (ha:a3a E n t len ap=some (v,e))(hp:a5d I w ρ ap bP):Val E I K ρ h n w (Instr.buildSlice t len bP.toArray) v e:=by
 unfold a3a at ha;split at ha
 ·rename_i ac hu;cases hz:E.zero ac with
  |none=>simp[hz]at ha
  |some z=>
   simp only[hz]at ha;rw[cond_eq_ite]at ha;split at ha
   case isFalse=>cases ha
   rename_i hc;simp only[e7h,e9o,f1h]at hc;split at ha
   case h_2=>cases ha
   rename_i aa az;cases ha;obtain⟨⟨de,bp⟩,_⟩:=ok.zero ac z hz;obtain⟨zv,ek,gn,bw⟩:=a6v ok w hz;have bZ:=bw I w;have dU:=VRels.length bZ;simp only[e9n]at dU;obtain⟨nR,kE,al⟩:=b6j len az (by intro x hx;rw[f01 hx]) (by simp);have lS:VRels I w ρ (List.replicate len z).flatten ((Array.range (len*E.sz ac)).map (λi=>zv.cells[i%zv.cells.size]!)).toList:=by rw[show((Array.range (len*E.sz ac)).map (λi=>zv.cells[i%zv.cells.size]!)).toList=(List.replicate len zv.cells.toList).flatten by rw[←a3d];simp only[f2e,Array.toList_range,e9n];rw[show E.sz ac=zv.cells.size by rw[←gn,dU]];apply f0i;intro a _;rw[Array.getElem!_toList]];exact VRels.flatten_replicate (VRels.noRef_any bZ) _
   obtain⟨g8,h1,h2⟩:=b29 nR lS hp;refine a9m (el:=ac) (k:=z.length) (cells:=g8) (mk:=λa=>.slice (some a) len len) r hn hρ hc.1 kE h2 ⟨rfl,rfl,rfl,rfl⟩ ?_ ?_
   ·have bl:¬(len*E.sz ac>2^24):=by rw[←gn];omega
    rw[gn]at h1;simp only[Instr.buildSlice,Sem.run_bind,a0c ok w hu,Result.andThen_ok,a31 ok w bp,bl,f3w];by_cases cA:len*E.sz ac=0
    ·have gP:∀f:Nat→Value,Array.map f (Array.range 0) = #[]:=by intro f;simp
     simp only[cA,f1a,gP]at h1⊢;simp[h1,a3w]
    ·simp only[cA,f3w,Sem.run_bind,ek,Result.andThen_ok,Sem.run_pure];simp[h1,a3w]
   ·intro w' ρ' h';simp only[VRel];exact⟨_,len,rfl,e9k _,λq hq=>by cases hq;rfl,.inr ⟨_,h',by simp,by
     have h3:len*z.length=g8.size:=by have:=VRels.length h2;rw[a0u kE,al,e9n]at this;exact this
     show 0+(0+len)*z.length≤g8.size;rw[e9y,e9y,h3];exact e9k _⟩⟩
 ·cases ha
end
end Go.Ax
/- AxBin: arithmetic, comparisons, equality, conversions. -/
namespace Go.Ax
section
variable {E:Env}{I K:Nat→Prop}{ρ:PMap}{h:FHeap}{n:Nat}{w:World}
def c4b(op:BinOp)(k:IntKind)(a b:Int):Option AV:=
 match op with
 |.add=>some (.int k (k.wrap (a+b)))
 |.sub=>some (.int k (k.wrap (a-b)))
 |.mul=>some (.int k (k.wrap (a*b)))
 |.quo=>bif b==0 then none else some (.int k (k.wrap (a.tdiv b)))
 |.rem=>bif b==0 then none else some (.int k (a.tmod b))
 |.and=>some (.int k (k.wrap (BitVec.ofInt k.bits a&&&BitVec.ofInt k.bits b).toNat))
 |.or=>some (.int k (k.wrap (BitVec.ofInt k.bits a|||BitVec.ofInt k.bits b).toNat))
 |.xor=>some (.int k (k.wrap (BitVec.ofInt k.bits a^^^BitVec.ofInt k.bits b).toNat))
 |.andNot=>some (.int k (k.wrap (BitVec.ofInt k.bits a &&& ~~~ BitVec.ofInt k.bits b).toNat))
 |.eql=>some (.bool (a==b))
 |.neq=>some (.bool (a != b))
 |.lss=>some (.bool (decide (a<b)))
 |.leq=>some (.bool (decide (a≤b)))
 |.gtr=>some (.bool (decide (b<a)))
 |.geq=>some (.bool (decide (b≤a)))
 |_=>none
def e1e(op:BinOp)(a b:List UInt8):Option AV:=
 match op with
 |.add=>bif decide (a.length+b.length≤4611686018427387904)then some (.str (a++b))else none
 |.eql=>some (.bool (a==b))
 |.neq=>some (.bool (!(a==b)))
 |.lss=>some (.bool (Op.bytesLess a b))
 |.leq=>some (.bool (Op.bytesLess a b||a==b))
 |.gtr=>some (.bool (!(Op.bytesLess a b||a==b)))
 |.geq=>some (.bool (!(Op.bytesLess a b)))
 |_=>none
def a8a(E:Env)(eq:TypeId→AV→AV→Option Bool):List Field→List AV→List AV→Option Bool
 | [],_,_=>some true
 |f::fs,xs,ys=>
  match a2c E f.type ((xs.drop f.offset).take (E.sz f.type)),a2c E f.type ((ys.drop f.offset).take (E.sz f.type))with
  |some a,some b=>match eq f.type a b,a8a E eq fs xs ys with
   |some p,some q=>some (p&&q)
   |_,_=>none
  |_,_=>none
def b05(E:Env)(eq:TypeId→AV→AV→Option Bool)(ac:TypeId)(xs ys:List AV):Nat→Nat→Option Bool
 |_,0=>some true
 |i,m+1=>
  match a2c E ac ((xs.drop (i*E.sz ac)).take (E.sz ac)),a2c E ac ((ys.drop (i*E.sz ac)).take (E.sz ac))with
  |some a,some b=>match eq ac a b,b05 E eq ac xs ys (i+1) m with
   |some p,some q=>some (p&&q)
   |_,_=>none
  |_,_=>none
def a6q:TypeDesc→AV→Option Bool
 |.pointer _,.nilptr=>some true
 |.pointer _,.ptr ..=>some false
 |.pointer _,.iptr ..=>some false
 |.slice _,.nilslice=>some true
 |.slice _,.slice ..=>some false
 |.slice _,.islice ..=>some false
 |.map _ _,.nilmap=>some true
 |.map _ _,.map ..=>some false
 |.map _ _,.imap ..=>some false
 |.map _ _,.iset ..=>some false
 |.func _ _ _,.nilfunc=>some true
 |.func _ _ _,.func ..=>some false
 |_,_=>none
def a2l:TypeDesc→AV→Bool
 |.pointer _,.nilptr=>true
 |.slice _,.nilslice=>true
 |.map _ _,.nilmap=>true
 |.func _ _ _,.nilfunc=>true
 |_,_=>false
def b4q:TypeDesc→Value
 |.pointer _=>.pointer none
 |.slice _=>.slice none 0 0
 |.map _ _=>.map none
 |_=>.nilFunc
def aeq(E:Env):Nat→TypeId→AV→AV→Option Bool
 |0,_,_,_=>none
 |d+1,t,x,y=>
  match E.und t,x,y with
  |some .bool,.bool a,.bool b=>some (a==b)
  |some (.int _),.int k a,.int k' b=>bif k==k' then some (a==b)else none
  |some .string,.str a,.str b=>some (a==b)
  |some (.struct fs),.agg xs,.agg ys=>bif E.eqok t then a8a E (aeq E d) fs.toList xs ys else none
  |some (.array len ac),.agg xs,.agg ys=>bif (E.und ac).isSome then b05 E (aeq E d) ac xs ys 0 len else none
  |some d,.nilptr,y=>bif a2l d .nilptr then a6q d y else none
  |some d,x,.nilptr=>bif a2l d .nilptr then a6q d x else none
  |some d,.nilslice,y=>bif a2l d .nilslice then a6q d y else none
  |some d,x,.nilslice=>bif a2l d .nilslice then a6q d x else none
  |some d,.nilmap,y=>bif a2l d .nilmap then a6q d y else none
  |some d,x,.nilmap=>bif a2l d .nilmap then a6q d x else none
  |some d,.nilfunc,y=>bif a2l d .nilfunc then a6q d y else none
  |some d,x,.nilfunc=>bif a2l d .nilfunc then a6q d x else none
  |some (.interface _),.nilifc,.iface _ _=>some false
  |some (.interface _),.iface _ _,.nilifc=>some false
  |some (.interface _),.iface t1 a,.iface t2 b=>bif t1==t2 then bif E.eqok t1 then aeq E d t1 a b else none else some false
  |_,_,_=>none
theorem b5e(ok:EnvOk E){eq:TypeId→Value→Value→Sem Bool}{gK:TypeId→AV→AV→Option Bool}
 (cE:∀t a b ca cb p,gK t a b=some p→VRel I w ρ a ca→VRel I w ρ b cb→(eq t ca cb).run E.P w = .ok p w)
 {xs ys:List AV}{cx cy:Array Value}(hx:VRels I w ρ xs cx.toList)(hy:VRels I w ρ ys cy.toList) :
 ∀(fs:List Field) (q:Bool),a8a E gK fs xs ys=some q→(∀f∈fs,f.name≠ "_")→
  (forIn fs ((none,()):Option Bool×Unit) (λf _=>
   if f.name≠ "_" then do
    let a←part f.type cx f.offset
    let b←part f.type cy f.offset
    let c←eq f.type a b
    if(!c)=true then pure (ForInStep.done (some false,()))else pure (ForInStep.yield (none,()))
   else pure (ForInStep.yield (none,())):Field→Option Bool×Unit→Sem (ForInStep (Option Bool×Unit)))).run E.P w
  = .ok (if q then(none,())else(some false,())) w
 | [],q,hq,_=>by simp only[a8a,Option.some.injEq]at hq;subst hq;simp
 |f::fs,q,hq,hn=>by
  simp only[a8a]at hq;split at hq
  case h_2=>cases hq
  rename_i a b ha hb;split at hq
  case h_2=>cases hq
  rename_i p q' hp ii;cases hq;obtain⟨ca,h1,h2⟩:=a8k ok ha hx;obtain⟨cb,h3,h4⟩:=a8k ok hb hy;have h5:=cE f.type a b ca cb p hp h2 h4;have ih:=b5e ok cE hx hy fs q' ii (λf hf=>hn f (by simp[hf]))
  have iQ:f.name≠ "_" := hn f (by simp)
  rw[List.forIn_cons];simp only[ne_eq,iQ,not_false_eq_true,f1a,Sem.run_bind,h1,h3,h5,Result.andThen_ok];cases p
  ·simp
  ·simp only[f2n,f0s,f3w,Sem.run_pure,Result.andThen_ok,f1q];exact ih
theorem b8w(ok:EnvOk E){eq:TypeId→Value→Value→Sem Bool}{gK:TypeId→AV→AV→Option Bool}{ac:TypeId}
 (cE:∀t a b ca cb p,gK t a b=some p→VRel I w ρ a ca→VRel I w ρ b cb→(eq t ca cb).run E.P w = .ok p w)
 {xs ys:List AV}{cx cy:Array Value}(hx:VRels I w ρ xs cx.toList)(hy:VRels I w ρ ys cy.toList) :
 ∀(m i:Nat) (q:Bool),b05 E gK ac xs ys i m=some q→
  (forIn (List.range' i m) ((none,()):Option Bool×Unit) (λi _=>do
   let a←part ac cx (i*E.sz ac)
   let b←part ac cy (i*E.sz ac)
   let c←eq ac a b
   if(!c)=true then pure (ForInStep.done (some false,()))else pure (ForInStep.yield (none,())):Nat→Option Bool×Unit→Sem (ForInStep (Option Bool×Unit)))).run E.P w
  = .ok (if q then(none,())else(some false,())) w
 |0,i,q,hq=>by simp only[b05,Option.some.injEq]at hq;subst hq;simp
 |m+1,i,q,hq=>by
  simp only[b05]at hq;split at hq
  case h_2=>cases hq
  rename_i a b ha hb;split at hq
  case h_2=>cases hq
  rename_i p q' hp ii;cases hq;obtain⟨ca,h1,h2⟩:=a8k ok ha hx;obtain⟨cb,h3,h4⟩:=a8k ok hb hy;have h5:=cE ac a b ca cb p hp h2 h4;have ih:=b8w ok cE hx hy m (i+1) q' ii;rw[List.range'_succ,List.forIn_cons];simp only[Sem.run_bind,h1,h3,h5,Result.andThen_ok];cases p
  ·simp
  ·simp only[f2n,f0s,f3w,Sem.run_pure,Result.andThen_ok,f1q];exact ih
section
variable {t:TypeId}{d:Nat}
theorem b7u{e:TypeId}(ht:(underlying t).run E.P w = .ok (.pointer e) w)(b:Option Addr):(Op.equalIn (d+1) t (.pointer none) (.pointer b)).run E.P w = .ok b.isNone w:=by unfold Op.equalIn;simp only[Sem.run_bind,ht,Result.andThen_ok];rfl
theorem b7t{e:TypeId}(ht:(underlying t).run E.P w = .ok (.pointer e) w)(b:Option Addr):(Op.equalIn (d+1) t (.pointer b) (.pointer none)).run E.P w = .ok b.isNone w:=by unfold Op.equalIn;simp only[Sem.run_bind,ht,Result.andThen_ok];cases b<;>rfl
theorem b0w{e:TypeId}(ht:(underlying t).run E.P w = .ok (.slice e) w)(b:Option Addr)(l c:Nat):(Op.equalIn (d+1) t (.slice none 0 0) (.slice b l c)).run E.P w = .ok b.isNone w:=by unfold Op.equalIn;simp only[Sem.run_bind,ht,Result.andThen_ok];rfl
theorem b0v{e:TypeId}(ht:(underlying t).run E.P w = .ok (.slice e) w)(b:Option Addr)(l c:Nat):(Op.equalIn (d+1) t (.slice b l c) (.slice none 0 0)).run E.P w = .ok b.isNone w:=by unfold Op.equalIn;simp only[Sem.run_bind,ht,Result.andThen_ok];cases b<;>rfl
theorem b26{k e:TypeId}(ht:(underlying t).run E.P w = .ok (.map k e) w)(b:Option Nat):(Op.equalIn (d+1) t (.map none) (.map b)).run E.P w = .ok b.isNone w:=by unfold Op.equalIn;simp only[Sem.run_bind,ht,Result.andThen_ok];rfl
theorem b25{k e:TypeId}(ht:(underlying t).run E.P w = .ok (.map k e) w)(b:Option Nat):(Op.equalIn (d+1) t (.map b) (.map none)).run E.P w = .ok b.isNone w:=by unfold Op.equalIn;simp only[Sem.run_bind,ht,Result.andThen_ok];cases b<;>rfl
theorem b9w{ps rs:Array TypeId}{v:Bool}(ht:(underlying t).run E.P w = .ok (.func ps rs v) w):(Op.equalIn (d+1) t .nilFunc .nilFunc).run E.P w = .ok true w:=by unfold Op.equalIn;simp only[Sem.run_bind,ht,Result.andThen_ok];rfl
theorem d0h{ps rs:Array TypeId}{v:Bool}(ht:(underlying t).run E.P w = .ok (.func ps rs v) w)(f:Fn)(a b:Array Value):(Op.equalIn (d+1) t .nilFunc (.func f a b)).run E.P w = .ok false w:=by unfold Op.equalIn;simp only[Sem.run_bind,ht,Result.andThen_ok];rfl
theorem d0g{ps rs:Array TypeId}{v:Bool}(ht:(underlying t).run E.P w = .ok (.func ps rs v) w)(f:Fn)(a b:Array Value):(Op.equalIn (d+1) t (.func f a b) .nilFunc).run E.P w = .ok false w:=by unfold Op.equalIn;simp only[Sem.run_bind,ht,Result.andThen_ok];rfl
theorem d1j{dd:TypeDesc}{y:AV}{q:Bool}{c:Value}(ht:(underlying t).run E.P w = .ok dd w)(hq:a6q dd y=some q)(hy:VRel I w ρ y c) :
 (Op.equalIn (d+1) t (b4q dd) c).run E.P w = .ok q w∧(Op.equalIn (d+1) t c (b4q dd)).run E.P w = .ok q w:=by
 unfold a6q at hq;split at hq<;>cases hq<;>simp only[VRel]at hy<;>simp only[b4q]
 ·subst hy;exact⟨b7u ht _,b7t ht _⟩
 ·obtain⟨_,_,rfl⟩:=hy;exact⟨b7u ht _,b7t ht _⟩
 ·obtain⟨_,_,rfl,_⟩:=hy;exact⟨b7u ht _,b7t ht _⟩
 ·subst hy;exact⟨b0w ht _ _ _,b0v ht _ _ _⟩
 ·obtain⟨_,_,rfl,_⟩:=hy;exact⟨b0w ht _ _ _,b0v ht _ _ _⟩
 ·obtain⟨_,_,_,rfl,_⟩:=hy;exact⟨b0w ht _ _ _,b0v ht _ _ _⟩
 ·subst hy;exact⟨b26 ht _,b25 ht _⟩
 ·obtain⟨_,_,rfl⟩:=hy;exact⟨b26 ht _,b25 ht _⟩
 ·obtain⟨_,_,rfl,_⟩:=hy;exact⟨b26 ht _,b25 ht _⟩
 ·obtain⟨_,_,_,rfl,_⟩:=hy;exact⟨b26 ht _,b25 ht _⟩
 ·subst hy;exact⟨b9w ht,b9w ht⟩
 ·obtain⟨_,_,rfl,_⟩:=hy;exact⟨d0h ht _ _ _,d0g ht _ _ _⟩
theorem d4c(ht:(underlying t).run E.P w = .ok .bool w)(a b:Bool):(Op.equalIn (d+1) t (.bool a) (.bool b)).run E.P w = .ok (a==b) w:=by unfold Op.equalIn;simp only[Sem.run_bind,ht,Result.andThen_ok];rfl
theorem d9d{k0:IntKind}(ht:(underlying t).run E.P w = .ok (.int k0) w)(k:IntKind)(a b:Int):(Op.equalIn (d+1) t (.int k a) (.int k b)).run E.P w = .ok (a==b) w:=by unfold Op.equalIn;simp only[Sem.run_bind,ht,Result.andThen_ok,f1a];rfl
theorem d9c(ht:(underlying t).run E.P w = .ok .string w)(a b:ByteArray):(Op.equalIn (d+1) t (.string a) (.string b)).run E.P w = .ok (a==b) w:=by unfold Op.equalIn;simp only[Sem.run_bind,ht,Result.andThen_ok];rfl
theorem b6c{ms:Array (String×TypeId)}(ht:(underlying t).run E.P w = .ok (.interface ms) w)(u:TypeId)(x:Value) :
 (Op.equalIn (d+1) t .nilIface (.iface u x)).run E.P w = .ok false w∧(Op.equalIn (d+1) t (.iface u x) .nilIface).run E.P w = .ok false w:=by
 unfold Op.equalIn;simp only[Sem.run_bind,ht,Result.andThen_ok];exact⟨rfl,rfl⟩
theorem c5z{ms:Array (String×TypeId)}(ht:(underlying t).run E.P w = .ok (.interface ms) w)(u u':TypeId)(x x':Value)(aw:u≠u') :
 (Op.equalIn (d+1) t (.iface u x) (.iface u' x')).run E.P w = .ok false w:=by
 unfold Op.equalIn;simp only[Sem.run_bind,ht,Result.andThen_ok,ne_eq,aw,not_false_eq_true,f1a];rfl
theorem d9e{ms:Array (String×TypeId)}{i:TypeInfo}(ht:(underlying t).run E.P w = .ok (.interface ms) w)(u:TypeId)(x x':Value)(hi:(typeInfo u).run E.P w = .ok i w)(hc:i.comparable=true) :
 (Op.equalIn (d+1) t (.iface u x) (.iface u x')).run E.P w=(Op.equalIn d u x x').run E.P w:=by
 conv=>lhs;unfold Op.equalIn
 simp only[Sem.run_bind,ht,Result.andThen_ok,ne_eq,not_true_eq_false,f3w,hi,hc,f2n,f0s]
end
theorem b49(a b:ByteArray):(a==b)=(a.data.toList==b.data.toList):=by have e:(a==b)=(a.data==b.data):=rfl;rw[e,f4a];simp only[f2p,Array.toList_inj]
theorem c4c(ok:EnvOk E):∀(d:Nat) {t:TypeId} {x y:AV} {q:Bool} {cx cy:Value},aeq E d t x y=some q→VRel I w ρ x cx→VRel I w ρ y cy→
 ∀D,d≤D→(Op.equalIn D t cx cy).run E.P w = .ok q w
 |0,t,x,y,q,cx,cy,hq,hx,hy,D,hD=>by simp[aeq]at hq
 |d+1,t,x,y,q,cx,cy,hq,hx,hy,D,hD=>by
  obtain⟨D,rfl⟩:∃D',D=D'+1:=⟨D-1,by omega⟩
  unfold aeq at hq;have bI:∀{dd:TypeDesc} {z nz:AV} {c:Value},E.und t=some dd→(bif a2l dd nz then a6q dd z else none)=some q→VRel I w ρ z c→
   a2l dd nz=true∧(Op.equalIn (D+1) t (b4q dd) c).run E.P w = .ok q w∧(Op.equalIn (D+1) t c (b4q dd)).run E.P w = .ok q w:=by
   intro dd z nz c hu hb hz;cases hk:a2l dd nz with
   |false=>rw[hk]at hb;cases hb
   |true=>rw[hk,e9i]at hb;exact⟨rfl,d1j (a0c ok w hu) hb hz⟩
  have fD:∀{dd:TypeDesc},(a2l dd .nilptr=true→b4q dd = .pointer none)∧(a2l dd .nilslice=true→b4q dd = .slice none 0 0)∧
   (a2l dd .nilmap=true→b4q dd = .map none)∧(a2l dd .nilfunc=true→b4q dd = .nilFunc):=by
   intro dd;cases dd<;>simp[a2l,b4q]
  split at hq
  ·rename_i hu;simp only[VRel]at hx hy;subst hx hy;cases hq;exact d4c (a0c ok w hu) _ _
  ·rename_i hu;simp only[VRel]at hx hy;subst hx hy;rw[cond_eq_ite]at hq;split at hq
   ·rename_i hk;cases hq;have hk:=eq_of_beq hk;subst hk;exact d9d (a0c ok w hu) _ _ _
   ·cases hq
  ·rename_i hu;simp only[VRel]at hx hy;obtain⟨a,rfl,ha⟩:=hx;obtain⟨b,rfl,hb⟩:=hy;cases hq;rw[d9c (a0c ok w hu),b49,ha,hb]
  ·rename_i fs xs ys hu;simp only[VRel]at hx hy;obtain⟨ax,rfl,hx⟩:=hx;obtain⟨ay,rfl,hy⟩:=hy;rw[cond_eq_ite]at hq;split at hq
   case isFalse=>cases hq
   rename_i he;obtain⟨_,aB,_,gv⟩:=ok.eqok t he;have hf:=b5e (I:=I) (w:=w) (ρ:=ρ) ok (eq:=Op.equalIn D) (gK:=aeq E d) (λt a b ca cb p hp h1 h2=>c4c ok d hp h1 h2 D (by omega)) hx hy fs.toList q hq (λf hf=>gv fs hu f hf);unfold Op.equalIn;simp only[Sem.run_bind,a0c ok w hu,Result.andThen_ok,run_program,aB,f0s,f3w];rw[←Array.forIn_toList];rw[hf];cases q<;>rfl
  ·rename_i len ac xs ys hu;simp only[VRel]at hx hy;obtain⟨ax,rfl,hx⟩:=hx;obtain⟨ay,rfl,hy⟩:=hy;rw[cond_eq_ite]at hq;split at hq
   case isFalse=>cases hq
   rename_i he;obtain⟨de,bp⟩:=e7n.1 he;have hf:=b8w (I:=I) (w:=w) (ρ:=ρ) ok (eq:=Op.equalIn D) (gK:=aeq E d) (ac:=ac) (λt a b ca cb p hp h1 h2=>c4c ok d hp h1 h2 D (by omega)) hx hy len 0 q hq;unfold Op.equalIn;simp only[Sem.run_bind,a0c ok w hu,Result.andThen_ok,a31 ok w bp];rw[Std.Legacy.Range.forIn_eq_forIn_range'];have bF:(Std.Legacy.Range.size [:len])=len:=by simp[Std.Legacy.Range.size]
   simp only[bF];rw[hf];cases q<;>rfl
  ·simp only[VRel]at hx;subst hx;obtain⟨h1,h2,_⟩:=bI (by assumption) hq hy;rw[fD.1 h1]at h2;exact h2
  ·simp only[VRel]at hy;subst hy;obtain⟨h1,_,h2⟩:=bI (by assumption) hq hx;rw[fD.1 h1]at h2;exact h2
  ·simp only[VRel]at hx;subst hx;obtain⟨h1,h2,_⟩:=bI (by assumption) hq hy;rw[fD.2.1 h1]at h2;exact h2
  ·simp only[VRel]at hy;subst hy;obtain⟨h1,_,h2⟩:=bI (by assumption) hq hx;rw[fD.2.1 h1]at h2;exact h2
  ·simp only[VRel]at hx;subst hx;obtain⟨h1,h2,_⟩:=bI (by assumption) hq hy;rw[fD.2.2.1 h1]at h2;exact h2
  ·simp only[VRel]at hy;subst hy;obtain⟨h1,_,h2⟩:=bI (by assumption) hq hx;rw[fD.2.2.1 h1]at h2;exact h2
  ·simp only[VRel]at hx;subst hx;obtain⟨h1,h2,_⟩:=bI (by assumption) hq hy;rw[fD.2.2.2 h1]at h2;exact h2
  ·simp only[VRel]at hy;subst hy;obtain⟨h1,_,h2⟩:=bI (by assumption) hq hx;rw[fD.2.2.2 h1]at h2;exact h2
  ·rename_i hu;simp only[VRel]at hx hy;subst hx;obtain⟨x',rfl,_⟩:=hy;cases hq;exact(b6c (a0c ok w hu) _ _).1
  ·rename_i hu;simp only[VRel]at hx hy;subst hy;obtain⟨x',rfl,_⟩:=hx;cases hq;exact(b6c (a0c ok w hu) _ _).2
  ·rename_i hu;simp only[VRel]at hx hy;obtain⟨x',rfl,hx⟩:=hx;obtain⟨y',rfl,hy⟩:=hy;rw[cond_eq_ite]at hq;split at hq
   ·rename_i he;have he:=eq_of_beq he;subst he;rw[cond_eq_ite]at hq;split at hq
    case isFalse=>cases hq
    rename_i hk;obtain⟨_,_,⟨i,hi,hc⟩,_⟩:=ok.eqok _ hk;rw[d9e (i:=i) (a0c ok w hu) _ _ _ (by simp[typeInfo,hi]) hc];exact c4c ok d hq hx hy D (by omega)
   ·rename_i aw;cases hq;exact c5z (a0c ok w hu) _ _ _ _ (by simpa using aw)
  ·cases hq
end
end Go.Ax
/- AxOp1: the model's binary and unary operations and conversions, against the abstract ones. -/
namespace Go.Ax
section
variable {E:Env}{I K:Nat→Prop}{ρ:PMap}{h:FHeap}{n:Nat}{w:World}
theorem e02{op:BinOp}{k:IntKind}{a b:Int}{v:AV}(hv:c4b op k a b=some v)(t:TypeId)(hs:op≠ .shl∧op≠ .shr) :
 ∃c,(binOp op t (.int k a) (.int k b)).run E.P w = .ok c w∧VRel I w ρ v c:=by
 cases op<;>simp only[c4b]at hv
 case shl=>cases hv
 case shr=>cases hv
 case quo=>
  rw[cond_eq_ite]at hv;split at hv
  ·cases hv
  ·rename_i hb;cases hv;have hb:b≠0:=by simpa using hb
   exact⟨_,by simp[binOp,Op.intDiv,hb];rfl,by simp[VRel]⟩
 case rem=>
  rw[cond_eq_ite]at hv;split at hv
  ·cases hv
  ·rename_i hb;cases hv;have hb:b≠0:=by simpa using hb
   exact⟨_,by simp[binOp,Op.intDiv,hb];rfl,by simp[VRel]⟩
 all_goals cases hv
 all_goals exact⟨_,by simp[binOp,Op.intArith,Op.intBits,Op.intCmp];rfl,by simp[VRel]⟩
theorem d9q{op:BinOp}{a b:ByteArray}{v:AV}(hv:e1e op a.data.toList b.data.toList=some v)(t:TypeId) :
 ∃c,(binOp op t (.string a) (.string b)).run E.P w = .ok c w∧VRel I w ρ v c:=by
 have ta:=ByteArray.toList_eq a;have tb:=ByteArray.toList_eq b;cases op<;>simp only[e1e]at hv
 case add=>
  rw[cond_eq_ite]at hv;split at hv
  case isFalse=>cases hv
  rename_i hl;cases hv;have hl:a.data.toList.length+b.data.toList.length≤4611686018427387904:=by simpa using hl
  have h1:¬(((a.size+b.size:Nat):Int)>IntKind.i64.max):=by simp only[e9n]at hl;have:a.size=a.data.size:=rfl;have:b.size=b.data.size:=rfl;simp only[IntKind.max,IntKind.signed,IntKind.bits];simp;omega
  refine⟨.string (a++b),?_,by simp only[VRel];exact⟨_,rfl,by simp[ByteArray.data_append]⟩⟩;simp only[binOp,Op.stringOp,h1,f3w,Sem.run_pure]
 all_goals cases hv
 all_goals
  refine⟨_,by simp only[binOp,Op.stringOp,ta,tb,Sem.run_pure];rfl,by simp[VRel]⟩
def AV.eqShape:AV→Bool
 |.bool _|.nilptr|.nilslice|.nilmap|.nilfunc|.nilifc|.ptr ..|.iptr ..|.slice ..|.islice ..|.map ..|.imap ..|.iset _|.yfn _|.func ..|.iface ..|.agg ..=>true
 |_=>false
def b06(E:Env)(op:BinOp)(t:TypeId)(x y:AV)(po:Bool):Option AV:=
 match op,x,y with
 |.shl,.int k a,.int _ b=>bif decide (b<0)then none else some (.int k (k.wrap (a*2^(min b.toNat k.bits))))
 |.shr,.int k a,.int _ b=>bif decide (b<0)then none else some (.int k (a.fdiv (2^(min b.toNat k.bits))))
 |op,.int k a,.int k' b=>bif k==k' then c4b op k a b else none
 |op,.str a,.str b=>e1e op a b
 |.eql,.nilifc,.nilifc=>match E.und t with|some (.interface _)=>bif po then some (.bool true)else none|_=>none
 |.neq,.nilifc,.nilifc=>match E.und t with|some (.interface _)=>bif po then some (.bool false)else none|_=>none
 |.eql,.agg a,.agg b=>bif E.eqok t then(aeq E 6 t (.agg a) (.agg b)).map .bool else none
 |.neq,.agg a,.agg b=>bif E.eqok t then(aeq E 6 t (.agg a) (.agg b)).map (λq=>.bool (!q))else none
 |.eql,x,y=>bif x.eqShape then(aeq E 6 t x y).map .bool else none
 |.neq,x,y=>bif x.eqShape then(aeq E 6 t x y).map (λq=>.bool (!q))else none
 |_,_,_=>none
def Value.eqShape:Value→Bool
 |.bool _|.pointer _|.slice ..|.map _|.func ..|.nilFunc|.iface ..|.nilIface|.agg _=>true
 |_=>false
theorem VRel.eqShape{x:AV}{c:Value}(hx:VRel I w ρ x c)(hs:x.eqShape=true):Value.eqShape c=true:=by
 cases x<;>simp[AV.eqShape]at hs<;>simp only[VRel]at hx
 all_goals first
  |(subst hx;rfl)
  |(obtain⟨_,rfl,_⟩:=hx;rfl)
  |(obtain⟨_,_,rfl⟩:=hx;rfl)
  |(obtain⟨_,_,rfl,_⟩:=hx;rfl)
  |(obtain⟨_,_,_,rfl,_⟩:=hx;rfl)
theorem b4b(t:TypeId)(cx cy:Value)(hs:Value.eqShape cx=true):binOp .eql t cx cy=(do pure (.bool (←Op.equal t cx cy))):=by cases cx<;>simp[Value.eqShape]at hs<;>first|rfl|(cases cy<;>rfl)
theorem b4a(t:TypeId)(cx cy:Value)(hs:Value.eqShape cx=true):binOp .neq t cx cy=(do pure (.bool (!(←Op.equal t cx cy)))):=by cases cx<;>simp[Value.eqShape]at hs<;>first|rfl|(cases cy<;>rfl)
def a80:Value→Value→Bool
 |.nilIface,.nilIface=>false
 |.agg _,.agg _=>false
 |_,_=>true
theorem a76(op:BinOp)(t:TypeId)(x y:Operand)(a b:Value)(hf:op≠ .eql∧op≠ .neq):(eqGuard op t x y a b).run E.P w = .ok () w:=by unfold eqGuard;cases op<;>first|rfl|(exact absurd rfl hf.1)|(exact absurd rfl hf.2)
theorem a3x(op:BinOp)(t:TypeId)(x y:Operand)(a b:Value)(hf:a80 a b=true):(eqGuard op t x y a b).run E.P w = .ok () w:=by
 by_cases dS:op≠ .eql∧op≠ .neq
 ·exact a76 op t x y a b dS
 ·have:op = .eql∨op = .neq:=by cases op<;>simp at dS⊢
  unfold a80 at hf;rcases this with rfl|rfl
  all_goals
   unfold eqGuard;simp only[f2n,f0s,f3w];split
   ·simp at hf
   ·simp at hf
   ·rfl
theorem b3z(ok:EnvOk E)(op:BinOp)(t:TypeId)(x y:Operand)(a b:Array Value)(hf:E.eqok t=true):(eqGuard op t x y (.agg a) (.agg b)).run E.P w = .ok () w:=by
 by_cases dS:op≠ .eql∧op≠ .neq
 ·exact a76 op t x y _ _ dS
 ·have:op = .eql∨op = .neq:=by cases op<;>simp at dS⊢
  rcases this with rfl|rfl
  all_goals
   unfold eqGuard;simp only[f2n,f0s,f3w,Sem.run_bind,run_program,Result.andThen_ok,(ok.eqok t hf).1,Bool.not_false,f1a];rfl
def a4b:Operand→Bool
 |.const _=>true
 |_=>false
theorem b3y(op:BinOp)(t:TypeId)(x y:Operand)(hc:(a4b x||a4b y)=true):(eqGuard op t x y .nilIface .nilIface).run E.P w = .ok () w:=by
 by_cases dS:op≠ .eql∧op≠ .neq
 ·exact a76 op t x y _ _ dS
 ·have:op = .eql∨op = .neq:=by cases op<;>simp at dS⊢
  rcases this with rfl|rfl
  all_goals
   unfold eqGuard;cases x<;>cases y<;>simp[a4b]at hc<;>rfl
theorem b1e(ok:EnvOk E){t:TypeId}{ms:Array (String×TypeId)}(hu:E.und t=some (.interface ms)):(Op.equal t .nilIface .nilIface).run E.P w = .ok true w:=by unfold Op.equal Op.maxDepth Op.equalIn;simp only[Sem.run_bind,a0c ok w hu,Result.andThen_ok];rfl
theorem b1d{x y:AV}{cx cy:Value}(hx:VRel I w ρ x cx)(hy:VRel I w ρ y cy)(hs:x.eqShape=true)(h1:¬(x = .nilifc∧(y = .nilifc∨y = .junk)))
 (h2:∀a,x = .agg a→(∀b,y≠ .agg b)∧y≠ .junk):a80 cx cy=true:=by
 have gX:=VRel.eqShape hx hs;cases x<;>simp[AV.eqShape]at hs<;>simp only[VRel]at hx
 case nilifc=>subst hx;cases cy<;>simp[a80];cases y<;>simp only[VRel]at hy<;>first|(simp at hy;done)|(exact h1 ⟨rfl,by simp⟩)|(obtain⟨_,h,_⟩:=hy;simp at h;done)|(obtain⟨_,_,h⟩:=hy;simp at h;done)|(obtain⟨_,_,h,_⟩:=hy;simp at h;done)|(obtain⟨_,_,_,h,_⟩:=hy;simp at h;done)
 case agg a=>obtain⟨ca,rfl,_⟩:=hx;obtain⟨h3,h4⟩:=h2 a rfl;cases cy<;>simp[a80];cases y<;>simp only[VRel]at hy<;>first|(simp at hy;done)|(exact h4 rfl)|(exact h3 _ rfl)|(obtain⟨_,h,_⟩:=hy;simp at h;done)|(obtain⟨_,_,h⟩:=hy;simp at h;done)|(obtain⟨_,_,h,_⟩:=hy;simp at h;done)|(obtain⟨_,_,_,h,_⟩:=hy;simp at h;done)
 all_goals first
  |(subst hx;rfl)
  |(obtain⟨_,rfl,_⟩:=hx;rfl)
  |(obtain⟨_,_,rfl⟩:=hx;rfl)
  |(obtain⟨_,_,rfl,_⟩:=hx;rfl)
  |(obtain⟨_,_,_,rfl,_⟩:=hx;rfl)
theorem a4w{α β:Type}{x:Sem α}{y:Sem β}{a:α}{P:Program}{w w':World}(hx:x.run P w = .ok a w'):(do let _←x;y).run P w=y.run P w':=by simp[hx]
theorem a53(ok:EnvOk E){t:TypeId}{x y:AV}{q:Bool}{cx cy:Value}(hq:aeq E 6 t x y=some q)(hx:VRel I w ρ x cx)(hy:VRel I w ρ y cy) :
 (Op.equal t cx cy).run E.P w = .ok q w:=c4c ok 6 hq hx hy 10000 (by omega)
theorem c4d{d:Nat}{t:TypeId}{x:AV}:aeq E d t x .junk=none:=by
 cases d with
 |zero=>rfl
 |succ d=>
  unfold aeq;split<;>first|rfl|skip
  all_goals simp_all[a6q]
  all_goals (cases h:a2l _ _<;>simp[a6q])
theorem e0c(ok:EnvOk E){op:BinOp}{t:TypeId}{x y v:AV}{xo yo:Operand}{cx cy:Value}(hv:b06 E op t x y (a4b xo||a4b yo)=some v)
 (hx:VRel I w ρ x cx)(hy:VRel I w ρ y cy):∃c,(do eqGuard op t xo yo cx cy;binOp op t cx cy).run E.P w = .ok c w∧VRel I w ρ v c:=by
 unfold b06 at hv;split at hv
 ·simp only[VRel]at hx hy;subst hx hy;rw[cond_eq_ite]at hv;split at hv
  ·cases hv
  ·rename_i hb;cases hv;rw[a4w (a3x _ _ _ _ _ _ rfl)];simp only[e9j]at hb;exact⟨_,by simp[binOp,Op.shift,hb];rfl,by simp[VRel]⟩
 ·simp only[VRel]at hx hy;subst hx hy;rw[cond_eq_ite]at hv;split at hv
  ·cases hv
  ·rename_i hb;cases hv;rw[a4w (a3x _ _ _ _ _ _ rfl)];simp only[e9j]at hb;exact⟨_,by simp[binOp,Op.shift,hb];rfl,by simp[VRel]⟩
 ·rename_i h1 h2;simp only[VRel]at hx hy;subst hx hy;rw[cond_eq_ite]at hv;split at hv
  case isFalse=>cases hv
  rename_i hk;have hk:=eq_of_beq hk;subst hk;rw[a4w (a3x _ _ _ _ _ _ rfl)];exact e02 hv t ⟨by rintro rfl;simp_all,by rintro rfl;simp_all⟩
 ·simp only[VRel]at hx hy;obtain⟨a,rfl,ha⟩:=hx;obtain⟨b,rfl,hb⟩:=hy;rw[a4w (a3x _ _ _ _ _ _ rfl)];subst ha hb;exact d9q hv t
 ·simp only[VRel]at hx hy;subst hx hy;split at hv
  case h_2=>cases hv
  rename_i ms hu;rw[cond_eq_ite]at hv;split at hv
  case isFalse=>cases hv
  rename_i hc;cases hv;rw[a4w (b3y _ _ _ _ hc),b4b _ _ _ rfl];exact⟨.bool true,by simp[b1e ok hu],by simp[VRel]⟩
 ·simp only[VRel]at hx hy;subst hx hy;split at hv
  case h_2=>cases hv
  rename_i ms hu;rw[cond_eq_ite]at hv;split at hv
  case isFalse=>cases hv
  rename_i hc;cases hv;rw[a4w (b3y _ _ _ _ hc),b4a _ _ _ rfl];exact⟨.bool false,by simp[b1e ok hu],by simp[VRel]⟩
 ·rename_i a b;rw[cond_eq_ite]at hv;split at hv
  case isFalse=>cases hv
  rename_i he;cases hq:aeq E 6 t (.agg a) (.agg b)with
  |none=>simp[hq]at hv
  |some q=>simp only[hq,e8d,Option.some.injEq]at hv;subst hv;have cE:=a53 ok hq hx hy;simp only[VRel]at hx hy;obtain⟨ca,rfl,_⟩:=hx;obtain⟨cb,rfl,_⟩:=hy;rw[a4w (b3z ok _ _ _ _ _ _ he),b4b _ _ _ rfl];exact⟨.bool q,by simp[cE],by simp[VRel]⟩
 ·rename_i a b;rw[cond_eq_ite]at hv;split at hv
  case isFalse=>cases hv
  rename_i he;cases hq:aeq E 6 t (.agg a) (.agg b)with
  |none=>simp[hq]at hv
  |some q=>simp only[hq,e8d,Option.some.injEq]at hv;subst hv;have cE:=a53 ok hq hx hy;simp only[VRel]at hx hy;obtain⟨ca,rfl,_⟩:=hx;obtain⟨cb,rfl,_⟩:=hy;rw[a4w (b3z ok _ _ _ _ _ _ he),b4a _ _ _ rfl];exact⟨.bool (!q),by simp[cE],by simp[VRel]⟩
 ·rename_i bf cZ ml kA;rw[cond_eq_ite]at hv;split at hv
  case isFalse=>cases hv
  rename_i he;cases hq:aeq E 6 t x y with
  |none=>simp[hq]at hv
  |some q=>
   simp only[hq,e8d,Option.some.injEq]at hv;subst hv;have cE:=a53 ok hq hx hy;have fQ:y≠ .junk:=by rintro rfl;rw[c4d]at hq;cases hq
   have hg:=b1d hx hy he (by
    rintro⟨rfl,h|h⟩
    ·subst h;simp_all
    ·exact fQ h) (by
    rintro a rfl
    exact⟨λb hb=>by subst hb;simp_all,fQ⟩)
   rw[a4w (a3x _ _ _ _ _ _ hg),b4b _ _ _ (VRel.eqShape hx he)];exact⟨.bool q,by simp[cE],by simp[VRel]⟩
 ·rename_i bf cZ ml kA;rw[cond_eq_ite]at hv;split at hv
  case isFalse=>cases hv
  rename_i he;cases hq:aeq E 6 t x y with
  |none=>simp[hq]at hv
  |some q=>
   simp only[hq,e8d,Option.some.injEq]at hv;subst hv;have cE:=a53 ok hq hx hy;have fQ:y≠ .junk:=by rintro rfl;rw[c4d]at hq;cases hq
   have hg:=b1d hx hy he (by
    rintro⟨rfl,h|h⟩
    ·subst h;simp_all
    ·exact fQ h) (by
    rintro a rfl
    exact⟨λb hb=>by subst hb;simp_all,fQ⟩)
   rw[a4w (a3x _ _ _ _ _ _ hg),b4a _ _ _ (VRel.eqShape hx he)];exact⟨.bool (!q),by simp[cE],by simp[VRel]⟩
 ·cases hv
def aun(op:UnOp)(x:AV):Option AV:=
 match op,x with
 |.neg,.int k a=>some (.int k (k.wrap (0-a)))
 |.not,.bool b=>some (.bool (!b))
 |.xor,.int k a=>some (.int k (k.wrap (BitVec.ofInt k.bits (if k.signed then -1 else k.max)^^^BitVec.ofInt k.bits a).toNat))
 |_,_=>none
theorem e44{op:UnOp}{x v:AV}{c:Value}(hv:aun op x=some v)(hx:VRel I w ρ x c):∃d,(Op.unary op c).run E.P w = .ok d w∧VRel I w ρ v d:=by
 unfold aun at hv;split at hv
 all_goals first|(cases hv;done)|skip
 all_goals simp only[VRel]at hx;subst hx;cases hv
 ·exact⟨_,by simp[Op.unary,Op.intArith];rfl,by simp[VRel]⟩
 ·exact⟨_,by simp[Op.unary];rfl,by simp[VRel]⟩
 ·exact⟨_,by simp[Op.unary,Op.intBits];rfl,by simp[VRel]⟩
def d5f(E:Env)(jq dst:TypeId)(x:AV):Option AV:=
 match E.und jq,E.und dst,x with
 |some _,some (.int k),.int _ n=>some (.int k (k.wrap n))
 |some .string,some .string,.str s=>some (.str s)
 |_,_,_=>none
theorem d5e(ok:EnvOk E){jq dst:TypeId}{x v:AV}{c:Value}(hv:d5f E jq dst x=some v)(hx:VRel I w ρ x c):∃d,(convert jq dst c).run E.P w = .ok d w∧VRel I w ρ v d:=by
 unfold d5f at hv;split at hv
 ·rename_i hs hd;simp only[VRel]at hx;subst hx;cases hv;exact⟨_,by simp[convert,a0c ok w hs,a0c ok w hd,Conv.intToInt];rfl,by simp[VRel]⟩
 ·rename_i hs hd;simp only[VRel]at hx;obtain⟨t,rfl,ht⟩:=hx;cases hv;exact⟨.string t,by simp[convert,a0c ok w hs,a0c ok w hd],by simp only[VRel];exact⟨t,rfl,ht⟩⟩
 ·cases hv
end
end Go.Ax
/- AxApp: append. -/
namespace Go.Ax
section
variable {E:Env}{I K:Nat→Prop}{ρ:PMap}{h:FHeap}{n:Nat}{w:World}
def a24(h:FHeap)(k:Nat):AV→Option (List (List AV))
 |.nilslice=>some []
 |.islice aa _=>bif aa.all (λr=>r.length==k)then some aa else none
 |.slice b off len _=>match h b with
  |some (.row k' aa)=>bif k'==k&&Nat.ble (off+len) aa.length then some ((aa.drop off).take len)else none
  |_=>none
 |.str s=>bif k==1 then some (s.map λb=>[.int .u8 b.toNat])else none
 |_=>none
theorem a90:∀l:List UInt8,VRels I w ρ (l.map λb=>[AV.int .u8 b.toNat]).flatten (l.map λb=>Value.int .u8 b.toNat)
 | []=>by simp[VRels]
 |b::l=>by simp only[e12,f0y,e9h,e7l,VRels];exact⟨_,_,rfl,by simp[VRel],a90 l⟩
theorem SameMem.cell{w w':World}(s:SameMem w w')(a:Addr):w'.cell? a=w.cell? a:=by simp[World.cell?,s.1]
theorem a4s(r:HRel E.G I K ρ h w){k:Nat}{x:AV}{xs:List (List AV)}{c:Value}(ha:a24 h k x=some xs)(hx:VRel I w ρ x c) :
 (Builtin.lenOf c).run E.P w = .ok xs.length w∧(∃cv:Array Value,(∀w',SameMem w w'→(Builtin.firstCells k xs.length c).run E.P w' = .ok cv w')∧VRels I w ρ xs.flatten cv.toList)∧∀r∈xs,r.length=k:=by
 unfold a24 at ha;split at ha
 ·cases ha;simp only[VRel]at hx;subst hx;exact⟨rfl,⟨#[],λ_ _=>rfl,by simp[VRels]⟩,by simp⟩
 ·rename_i aa cap;rw[cond_eq_ite]at ha;split at ha
  case isFalse=>cases ha
  rename_i aY;cases ha;simp only[e9r,f2p]at aY;simp only[VRel]at hx;obtain⟨a,cc,kk,rfl,bl,_,bU⟩:=hx;refine⟨rfl,?_,aY⟩;rcases bU with rfl|⟨hs,hI,az⟩
  ·exact⟨#[],λw' _=>by simp[Builtin.firstCells,loadCells,loadCellsFrom],by simp[VRels]⟩
  ·rw[VRows.iff]at az;obtain⟨cv,h1,h2⟩:=VAt.cells az.2;have hl:cv.length=xs.length*k:=by rw[←VRels.length h2,a0u aY]
   have ha:a=⟨a.block,a.off,none⟩:=by cases a;simp_all
   refine⟨cv.toArray,λw' kZ=>?_,by simpa using VRels.noRef_any h2⟩;have:=run_loadCells_list (P:=E.P) w' a cv (λj v hj=>by rw[ha,a4g,kZ.cell];exact h1 j v hj);rw[hl]at this;simpa[Builtin.firstCells]using this
 ·rename_i b off len cap;split at ha
  case h_2=>cases ha
  rename_i k' aa hb;rw[cond_eq_ite]at ha;split at ha
  case isFalse=>cases ha
  rename_i hc;cases ha;simp only[e7h,f2p,f1h]at hc;obtain⟨rfl,bN⟩:=hc;obtain⟨m,hm,_,_,ho⟩:=r.live b _ hb;obtain⟨hk,hk0,_,az⟩:=ho;have al:((aa.drop off).take len).length=len:=by simp;omega
  simp only[VRel]at hx;obtain⟨a,cc,rfl,bl,_,bU⟩:=hx;have bc:=VRows.take len (VRows.drop off (by omega) az);rw[VRows.iff]at bc;refine⟨by simp[Builtin.lenOf,al],?_,bc.1⟩;rw[al];rcases bU with rfl|⟨m',aX,rfl,a7⟩
  ·have:len=0:=by omega
   subst this;exact⟨#[],λw' _=>by simp[Builtin.firstCells,loadCells,loadCellsFrom],by simp[VRels]⟩
  ·obtain rfl:m=m':=z9o (hm.symm.trans aX);obtain⟨cv,h1,h2⟩:=VAt.cells bc.2;have hl:cv.length=len*k':=by rw[←VRels.length h2,a0u bc.1,al]
   refine⟨cv.toArray,λw' kZ=>?_,by simpa using h2⟩;have:=run_loadCells_list (P:=E.P) w' ⟨m.blk,m.off+off*m.k,none⟩ cv (λj v hj=>by rw[a4g,hk,kZ.cell];exact h1 j v hj);rw[hl]at this;simpa[Builtin.firstCells]using this
 ·rename_i s;rw[cond_eq_ite]at ha;split at ha
  case isFalse=>cases ha
  rename_i hk;cases ha;have hk:k=1:=by simpa using hk
  subst hk;simp only[VRel]at hx;obtain⟨t,rfl,ht⟩:=hx;have bF:t.size=s.length:=by rw[←ht,e9n];rfl
  refine⟨by simp[Builtin.lenOf,bF],⟨_,λw' _=>by simp only[Builtin.firstCells,Sem.run_pure];rfl,?_⟩,by simp⟩;rw[f2e,a6a];simp only[f0u,c10,ht,f0p];exact a90 s
 ·cases ha
def a2m:TypeDesc→Bool
 |.int _=>true
 |_=>false
def a28(E:Env)(ac:TypeId)(a9n:Nat):Bool:=decide (a9n≤17592186044416)&&decide (E.bytes ac*(2*a9n+192)≤281474976710656)
theorem b9r(a9n:Nat):∀(r c:Nat),c≤2*a9n+192→Builtin.growBy a9n r c≤2*a9n+192
 |0,c,h=>h
 |r+1,c,h=>by
  simp only[Builtin.growBy];split
  ·exact h
  ·rename_i hc;exact b9r a9n r _ (by omega)
theorem a7v{a9n old:Nat}(h:old<a9n):Builtin.nextslicecap a9n old≤2*a9n+192:=by
 unfold Builtin.nextslicecap;split
 ·omega
 ·split
  ·omega
  ·exact b9r a9n 4 old (by omega)
theorem a4v(z:Array Value)(m:Nat):(Builtin.zeroCells z m).toList=(List.replicate m z.toList).flatten:=by rw[←a3d];simp only[Builtin.zeroCells,f2e,Array.toList_range,e9n];apply f0i;intro a _;rw[Array.getElem!_toList]
theorem b2k(ok:EnvOk E){st xt ac:TypeId}{dx:TypeDesc}(hu:E.und st=some (.slice ac))(eC:E.und xt=some dx)(bo:a2m dx=false)
 {z:List AV}(hz:E.zero ac=some z){base:Option Addr}{aH bt m:Nat}{cx:Value}{old new:Array Value}(ty:TypeId)
 (al:(Builtin.lenOf cx).run E.P w = .ok m w)(iP:bt<aH+m)(a7:a28 E ac (aH+m)=true)
 (aN:∀w',SameMem w w'→(Builtin.firstCells (E.sz ac) aH (.slice base aH bt)).run E.P w' = .ok old w')
 (aS:∀w',SameMem w w'→(Builtin.firstCells (E.sz ac) m cx).run E.P w' = .ok new w') :
 ∃(bd:Nat) (zs:List Value) (w0:World),SameMem w w0∧aH+m≤bd∧zs.length=E.sz ac∧
  (Builtin.append_ #[st,xt] ty #[.slice base aH bt,cx]).run E.P w =
   .ok (.slice (some ⟨w.heap.size,0,none⟩) (aH+m) bd)
    { w0 with heap:=w0.heap.push (.cells (old++new++(List.replicate (bd-(aH+m)) zs).flatten.toArray) ac) }:=by
 obtain⟨⟨de,bp⟩,i',z',im,eJ,jG,jF⟩:=ok.zero ac z hz;simp only[a28,e7h,e9j]at a7;have fF:∀w',(zeroValue ac).run E.P w' = .ok z' w':=by intro w';simp[zeroValue,typeInfo,im,eJ]
 have dU:z'.cells.toList.length=E.sz ac:=by rw[←jG,VRels.length (jF (λ_=>False) w)]
 obtain⟨i,hi,_,iq⟩:=b1v ok w bp;have fR:∀w',(typeInfo ac).run E.P w' = .ok i w':=by intro w';have:=hi;simp[typeInfo,im]at this⊢;exact this
 have sR:∀w',(underlying xt).run E.P w' = .ok dx w':=λw'=>a0c ok w' eC;refine⟨aH+m+(w.tape w.drawn (.appendCap (aH+m) bt ac))%(2^63-(aH+m)),z'.cells.toList,{ w with drawn:=w.drawn+1 },⟨rfl,rfl,rfl,rfl⟩,by omega,dU,?_⟩;have bl:¬(aH+m≤bt):=by omega
 have a9:=a7v iP;have qU:¬(Builtin.nextslicecap (aH+m) bt*i.bytes>2^48):=by rw[iq];have:Builtin.nextslicecap (aH+m) bt*E.bytes ac≤(2*(aH+m)+192)*E.bytes ac:=f1g _ a9;rw[Nat.mul_comm (2*(aH+m)+192)]at this;omega
 have jO:¬(((aH+m:Nat):Int)>IntKind.i64.max):=by simp only[IntKind.max,IntKind.signed,IntKind.bits];simp;omega
 have rP:¬((((aH+m:Nat):Int)>IntKind.i64.max)∧(False∨i.bytes=0)):=λhh=>jO hh.1;have nv:=aN { w with drawn:=w.drawn+1 } ⟨rfl,rfl,rfl,rfl⟩;have nD:=aS { w with drawn:=w.drawn+1 } ⟨rfl,rfl,rfl,rfl⟩;have nA:∀k:IntKind,dx≠ .int k:=by rintro k rfl;simp[a2m]at bo
 unfold Builtin.append_;simp only[f1c,f0k,f00,Sem.run_bind,a0c ok w hu,Result.andThen_ok,a31 ok w bp];simp only[sR w,Result.andThen_ok,Sem.run_pure];simp only[f0s,f3w,Sem.run_bind,al,Result.andThen_ok,bl,fR,false_or,jO,false_and,qU,Bool.not_false,f1a,run_choose,run_askRoom,
  Question.forced,Question.cut,nv,nD,fF,a3w,Sem.run_pure]
 congr 4
 apply f3t;simp only[Array.toList_append,a4v]
theorem a34(ok:EnvOk E){st xt ac:TypeId}{dx de:TypeDesc}(hu:E.und st=some (.slice ac))(bp:E.und ac=some de)(eC:E.und xt=some dx)(bo:a2m dx=false)
 {base:Option Addr}{aH bt m:Nat}{cx:Value}{new:Array Value}(ty:TypeId){w':World}
 (al:(Builtin.lenOf cx).run E.P w = .ok m w)(bl:aH+m≤bt)
 (aS:(Builtin.firstCells (E.sz ac) m cx).run E.P w = .ok new w)
 (aB:∀a,base=some a→(storeCells (a.add (aH*E.sz ac)) new.toList).run E.P w = .ok () w')(dG:base=none→w'=w) :
 (Builtin.append_ #[st,xt] ty #[.slice base aH bt,cx]).run E.P w = .ok (.slice base (aH+m) bt) w':=by
 have nA:∀k:IntKind,dx≠ .int k:=by rintro k rfl;simp[a2m]at bo
 unfold Builtin.append_;simp only[f1c,f0k,f00,Sem.run_bind,a0c ok w hu,Result.andThen_ok,a31 ok w bp,a0c ok w eC,Sem.run_pure];simp only[f0s,f3w,Sem.run_bind,al,Result.andThen_ok,bl,Bool.not_false,f1a,aS];cases base with
 |none=>simp[dG rfl]
 |some a=>simp[aB a rfl]
def a4h(E:Env)(h:FHeap)(n:Nat)(st xt:TypeId)(s x:AV):Option (AV×Eff):=
 match E.und st,E.und xt with
 |some (.slice ac),some dx=>
  bif a2m dx || !(E.zero ac).isSome || !(Nat.blt 0 (E.sz ac))then none else
  match a24 h (E.sz ac) x with
  |none=>none
  |some xs=>match s with
   |.nilslice=>match xs with
    | []=>some (.nilslice,.none)
    |y::ys=>bif a28 E ac (y::ys).length then some (.slice n 0 (y::ys).length none,.new (.row (E.sz ac) (y::ys)))else none
   |.islice aa cap=>bif aa.all (λr=>r.length==E.sz ac)then match xs with
    | []=>some (.islice aa cap,.none)
    |y::ys=>match cap with
     |some c=>bif Nat.blt c (aa.length+(y::ys).length)&&a28 E ac (aa.length+(y::ys).length)then
      some (.slice n 0 (aa.length+(y::ys).length) none,.new (.row (E.sz ac) (aa++(y::ys))))else none
     |none=>none
    else none
   |.slice b off len cap=>match h b with
    |some (.row kk aa)=>bif kk==E.sz ac&&Nat.ble (off+len) aa.length then
     match cap with
     |none=>bif a28 E ac (len+xs.length)&&xs.all (λr=>r.all AV.storable)then
      some (.slice n 0 (len+xs.length) none,.kill b (.row (E.sz ac) (bif Nat.beq (off+len) aa.length then aa.drop off++xs else(aa.drop off).take len++xs)))else none
     |some c=>bif Nat.ble (len+xs.length) c then
      bif Nat.ble (off+len+xs.length) aa.length&&xs.all (λr=>r.all AV.storable)then
       some (.slice b off (len+xs.length) (some c),.set b (.row (E.sz ac) (aa.take (off+len)++xs++aa.drop (off+len+xs.length))))else none
      else bif a28 E ac (len+xs.length)then
       some (.slice n 0 (len+xs.length) none,.new (.row (E.sz ac) ((aa.drop off).take len++xs)))else none
     else none
    |_=>none
   |_=>none
 |_,_=>none
theorem VRels.flat_append{as bs:List (List AV)}{xs ys:List Value}(h:VRels I w ρ as.flatten xs)(k:VRels I w ρ bs.flatten ys):VRels I w ρ (as++bs).flatten (xs++ys):=by rw[List.flatten_append];exact VRels.append h k
theorem b21(ok:EnvOk E)(r:HRel E.G I K ρ h w)(hn:h n=none)(hρ:ρ n=none){st xt ac:TypeId}{dx:TypeDesc}(hu:E.und st=some (.slice ac))(eC:E.und xt=some dx)
 (bo:a2m dx=false){z:List AV}(hz:E.zero ac=some z)(bF:0<E.sz ac){base:Option Addr}{aH bt m:Nat}{cx:Value}{old new:Array Value}(ty:TypeId){ss xs:List (List AV)}
 (al:(Builtin.lenOf cx).run E.P w = .ok m w)(iP:bt<aH+m)(a7:a28 E ac (aH+m)=true)
 (aN:∀w',SameMem w w'→(Builtin.firstCells (E.sz ac) aH (.slice base aH bt)).run E.P w' = .ok old w')
 (aS:∀w',SameMem w w'→(Builtin.firstCells (E.sz ac) m cx).run E.P w' = .ok new w')
 (kn:VRels I w ρ ss.flatten old.toList)(bE:VRels I w ρ xs.flatten new.toList)(lj:∀r∈ss,r.length=E.sz ac)(em:∀r∈xs,r.length=E.sz ac)
 (dC:ss.length=aH)(hU:xs.length=m){e:Eff}(he:e = .new (.row (E.sz ac) (ss++xs))∨∃b,e = .kill b (.row (E.sz ac) (ss++xs))) :
 Val E I K ρ h n w (Builtin.append_ #[st,xt] ty #[.slice base aH bt,cx]) (.slice n 0 (aH+m) none) e:=by
 obtain⟨bd,zs,w0,bJ,a9,gn,ae⟩:=b2k ok hu eC bo hz ty al iP a7 aN aS;generalize bz:old++new++(List.replicate (bd-(aH+m)) zs).flatten.toArray=cells at ae;have fS:∀m,(List.replicate m zs).flatten.length=m*E.sz ac:=by
  intro m;induction m with
  |zero=>simp
  |succ m ih=>rw[f2b,f0y,e8i,ih,gn,f4o,Nat.add_comm]
 have dF:old.size=aH*E.sz ac:=by have:=VRels.length kn;rw[a0u lj,dC,e9n]at this;exact this.symm
 have dw:new.size=m*E.sz ac:=by have:=VRels.length bE;rw[a0u em,hU,e9n]at this;exact this.symm
 have aQ:cells.size=bd*E.sz ac:=by
  subst bz;simp only[Array.size_append,dF,dw,List.size_toArray,fS];rw[←f1r,←f1r]
  congr 1;omega
 have rk:∀c,I c→({ w0 with heap:=w0.heap.push (.cells cells ac) }:World).heap[c]?=w.heap[c]?:=by intro c hc;have:=r.imm c hc;show(w0.heap.push _)[c]?=_;rw[bJ.1,f3v,e8g (by omega)]
 have fN:({ w0 with heap:=w0.heap.push (.cells cells ac) }:World).heap[w.heap.size]?=some (.cells cells ac (0,0)):=by show(w0.heap.push _)[_]?=_;rw[bJ.1];simp
 have aE:=PMap.set_old (m:=⟨w.heap.size,0,E.sz ac,cells.size⟩) hρ;have ho:ORel E.G I { w0 with heap:=w0.heap.push (.cells cells ac) } (ρ.set n ⟨w.heap.size,0,E.sz ac,cells.size⟩) ⟨w.heap.size,0,E.sz ac,cells.size⟩ (.row (E.sz ac) (ss++xs)):=by
  refine⟨rfl,bF,⟨cells,ac,fN,rfl,?_⟩,?_⟩
  ·show 0+(ss++xs).length*E.sz ac≤cells.size;rw[e8i,dC,hU,aQ,e9y];exact f1g _ a9
  ·rw[VRows.iff];refine⟨by intro x hx;rcases e9s.1 hx with h|h;exact lj x h;exact em x h,?_⟩;refine VAt.of_cells (cs:=(old++new).toList) (CellsAt.of_heap fN (λj v hj=>?_)) ?_
   ·subst bz;have kG:=(e7k.1 hj).1;simp only[e9n]at kG;rw[e9y,Array.getElem?_append_left kG,←f1s];exact hj
   ·rw[Array.toList_append];exact VRels.mono (λ_ h=>h) rk _ aE (VRels.flat_append kn bE)
 refine⟨_,_,ρ.set n ⟨w.heap.size,0,E.sz ac,cells.size⟩,ae,?_,?_,Moves.set _ _ _ (by rcases he with rfl|⟨b,rfl⟩<;>rfl)⟩
 ·rcases he with rfl|⟨b,rfl⟩
  ·exact a2a (ob:=.cells cells ac) r hn hρ (by show w0.heap.push _=_;rw[bJ.1]) bJ.2.1 bJ.2.2.1 bJ.2.2.2 rfl ho
  ·exact b1m (ob:=.cells cells ac) r hn hρ b (by show w0.heap.push _=_;rw[bJ.1]) bJ.2.1 bJ.2.2.1 bJ.2.2.2 rfl ho
 ·simp only[VRel];refine⟨_,bd,rfl,a9,(λq hq=>by cases hq),.inr ⟨_,by simp[PMap.set];rfl,by simp,?_⟩⟩;show 0+(0+bd)*E.sz ac≤cells.size;rw[aQ,e9y,e9y];exact e9k _
theorem b62(ok:EnvOk E)(r:HRel E.G I K ρ h w){st xt ac:TypeId}{dx de:TypeDesc}(hu:E.und st=some (.slice ac))(bp:E.und ac=some de)(eC:E.und xt=some dx)
 (bo:a2m dx=false){m:Pl}{b off aH bt nn:Nat}{aa xs:List (List AV)}{cx:Value}{new:Array Value}(ty:TypeId)
 (hb:h b=some (.row (E.sz ac) aa))(hm:ρ b=some m)(bT:off+aH≤aa.length)(a7:m.off+(off+bt)*m.k≤m.room)
 (al:(Builtin.lenOf cx).run E.P w = .ok nn w)(bl:aH+nn≤bt)(aS:(Builtin.firstCells (E.sz ac) nn cx).run E.P w = .ok new w)
 (bE:VRels I w ρ xs.flatten new.toList)(em:∀r∈xs,r.length=E.sz ac)(hU:xs.length=nn)(aB:xs.all (λr=>r.all AV.storable)=true) :
 ∃w',(Builtin.append_ #[st,xt] ty #[.slice (some ⟨m.blk,m.off+off*m.k,none⟩) aH bt,cx]).run E.P w = .ok (.slice (some ⟨m.blk,m.off+off*m.k,none⟩) (aH+nn) bt) w'∧
  w'.heap.size=w.heap.size∧(∀c,c≠m.blk→w'.heap[c]?=w.heap[c]?)∧w'.tape=w.tape∧w'.os=w.os∧w'.output=w.output∧
  (∃bQ e,w'.heap[m.blk]?=some (.cells bQ e (0,0))∧bQ.size=m.room)∧VRows I w' (E.sz ac) ρ (aa.take (off+aH)++xs) m.blk m.off∧
  (∀x,m.off+(off+aH+nn)*E.sz ac≤x→w'.cell? ⟨m.blk,x,none⟩=w.cell? ⟨m.blk,x,none⟩):=by
 obtain⟨m',aX,dy,_,ho⟩:=r.live b _ hb;obtain rfl:m=m':=z9o (hm.symm.trans aX);obtain⟨hk,hk0,⟨bQ,el,eA,aQ,_⟩,az⟩:=ho;have dw:new.toList.length=nn*E.sz ac:=by have:=VRels.length bE;rw[a0u em,hU]at this;exact this.symm
 have fS:xs.flatten.all AV.storable=true:=by rw[e9r]at aB⊢;intro v hv;obtain⟨l,hl,fI⟩:=List.mem_flatten.1 hv;exact e9r.1 (aB l hl) v fI
 have oa:(⟨m.blk,m.off+off*m.k,none⟩:Addr).add (aH*E.sz ac)=⟨m.blk,m.off+(off+aH)*E.sz ac,none⟩:=by rw[a4g,hk,f1r,Nat.add_assoc]
 have bN:m.off+(off+aH)*E.sz ac+new.toList.length≤bQ.size:=by rw[aQ,dw,Nat.add_assoc,←f1r];rw[hk]at a7;have:(off+aH+nn)*E.sz ac≤(off+bt)*E.sz ac:=f1g _ (by omega);omega
 obtain⟨w',ae,⟨dv,aW,ia⟩,bG,bF,ht,eM,aR,bz,cu⟩:=b2d (w:=w) (blk:=m.blk) (o:=m.off+(off+aH)*E.sz ac) new.toList eA bN (VRels.storable bE fS) E.P;have cw:∀c,I c→w'.heap[c]?=w.heap[c]?:=λc hc=>bG c (λe=>dy (e▸hc));refine⟨w',?_,bF,bG,ht,eM,aR,⟨dv,el,aW,by omega⟩,?_,?_⟩
 ·exact a34 ok hu bp eC bo ty al bl aS (λa ha=>by cases ha;rw[oa];exact ae) (λh=>by cases h)
 ·rw[VRows.append];have dY:(aa.take (off+aH)).length=off+aH:=by simp;omega
  refine⟨?_,?_⟩
  ·refine VRows.mono_cells (λ_ h=>h) cw (λ_ _ h=>h) (λj hj=>cu _ (.inl ?_)) (VRows.take (off+aH) az);rw[dY]at hj;omega
  ·rw[VRows.iff,dY];exact⟨em,VAt.of_cells bz (VRels.mono (λ_ h=>h) cw _ (λ_ _ h=>h) bE)⟩
 ·intro x hx;refine cu x (.inr ?_);rw[dw,Nat.add_assoc,←f1r];exact hx
theorem c6o(ok:EnvOk E)(r:HRel E.G I K ρ h w)(hn:h n=none)(hρ:ρ n=none){st xt:TypeId}{s x v:AV}{e:Eff}{cs cx:Value}(ty:TypeId)
 (ha:a4h E h n st xt s x=some (v,e))(hs:VRel I w ρ s cs)(hx:VRel I w ρ x cx):Val E I K ρ h n w (Builtin.append_ #[st,xt] ty #[cs,cx]) v e:=by
 unfold a4h at ha;split at ha
 case h_2=>cases ha
 rename_i ac dx hu eC;rw[cond_eq_ite]at ha;split at ha
 case isTrue=>cases ha
 rename_i hc;simp only[f2v,f0x,not_or,Bool.not_eq_true,Bool.not_eq_false,e9o]at hc;obtain⟨⟨bo,oG⟩,bF⟩:=hc;obtain⟨z,hz⟩:=e7n.1 oG;obtain⟨⟨de,bp⟩,_⟩:=ok.zero ac z hz;split at ha
 case h_1=>cases ha
 rename_i xs bE;obtain⟨al,⟨new,aS,jM⟩,em⟩:=a4s r bE hx;have eV:=aS w ⟨rfl,rfl,rfl,rfl⟩;split at ha
 · -- nil
  simp only[VRel]at hs;subst hs;split at ha
  ·cases ha;refine Val.here (c:=.slice none 0 0) r ?_ (by simp[VRel]);exact a34 ok hu bp eC bo ty al (by simp) eV (λa h=>by cases h) (λ_=>rfl)
  ·rename_i y ys;rw[cond_eq_ite]at ha;split at ha
   case isFalse=>cases ha
   rename_i a7;cases ha;have:=b21 (ss:=[]) (old:=#[]) (base:=none) (aH:=0) (bt:=0) (e:=.new (.row (E.sz ac) ([]++(y::ys)))) ok r hn hρ hu eC bo hz bF ty al (by simp) (by simpa using a7)
    (λw' _=>rfl) aS (by simp[VRels]) jM (by simp) em rfl rfl (.inl rfl)
   simpa using this
 · -- immutable memory
  rename_i aa cap;rw[cond_eq_ite]at ha;split at ha
  case isFalse=>cases ha
  rename_i aY;have ng:=hs;simp only[VRel]at ng;obtain⟨a,cc,kk,rfl,bl,a9,bU⟩:=ng;split at ha
  ·cases ha;refine Val.here r ?_ hs;have:=a34 ok hu bp eC bo (base:=some a) (aH:=aa.length) (bt:=cc) ty (w':=w) al (by simpa using bl) eV (λa' h=>by
    have:new.toList=[]:=by have:=VRels.length jM;simpa using this.symm
    rw[this];rfl) (λh=>by cases h)
   simpa using this
  ·rename_i y ys;split at ha
   case h_2=>cases ha
   rename_i c;rw[cond_eq_ite]at ha;split at ha
   case isFalse=>cases ha
   rename_i a7;cases ha;simp only[e7h,e9o]at a7;obtain⟨_,⟨old,aN,jL⟩,lj⟩:=a4s (k:=E.sz ac) (xs:=aa) r (by simp only[a24,aY,e9i]) hs;have dK:=a9 c rfl;exact b21 ok r hn hρ hu eC bo hz bF ty al (by omega) a7.2 aN aS jL jM lj em rfl rfl (.inl rfl)
 · -- a mutable block
  rename_i b off len cap;split at ha
  case h_2=>cases ha
  rename_i kk aa hb;rw[cond_eq_ite]at ha;split at ha
  case isFalse=>cases ha
  rename_i dK;simp only[e7h,f2p,f1h]at dK;obtain⟨rfl,bN⟩:=dK;have ng:=hs;simp only[VRel]at ng;obtain⟨a,c,rfl,bl,a9,bU⟩:=ng;obtain⟨rA,⟨old,aN,jL⟩,lj⟩:=a4s (k:=E.sz ac) (xs:=(aa.drop off).take len) r (by simp only[a24,hb,beq_self_eq_true,f1q,Nat.ble_eq_true_of_le bN,e9i]) hs;have dC:((aa.drop off).take len).length=len:=by simp;omega
  rw[dC]at aN;split at ha
  · -- capacity unknown
   rw[cond_eq_ite]at ha;split at ha
   case isFalse=>cases ha
   rename_i aY;cases ha;simp only[e7h]at aY;obtain⟨a7,aB⟩:=aY;have hR:(bif Nat.beq (off+len) aa.length then aa.drop off++xs else(aa.drop off).take len++xs)=(aa.drop off).take len++xs:=by
    cases hq:Nat.beq (off+len) aa.length with
    |false=>rfl
    |true=>have cE:=f1j hq;rw[e9i,e8b (by simp;omega)]
   rw[hR];by_cases eY:len+xs.length≤c
   ·rcases bU with rfl|⟨m,hm,rfl,da⟩
    · -- no capacity at all: nothing is appended to nothing
     have h0:len=0:=by omega
     have pC:xs=[]:=f2w.1 (by omega);subst h0 pC;obtain⟨m,hm,dy,fA,hk,hk0,⟨bQ,el,eA,aQ,fT⟩,az⟩:=r.live b _ hb;have hd:(aa.drop off).take 0=[]:=e9l;have aE:=PMap.set_old (m:=⟨m.blk,m.off,m.k,m.room⟩) hρ;refine⟨.slice (some a) 0 0,w,ρ.set n ⟨m.blk,m.off,m.k,m.room⟩,?_,?_,?_,Moves.set _ _ _ rfl⟩
     ·have:=a34 ok hu bp eC bo (base:=some a) (aH:=0) (bt:=0) ty (w':=w) al (by simp) eV (λa' h=>by
       have:new.toList=[]:=by have:=VRels.length jM;simpa using this.symm
       rw[this];rfl) (λh=>by cases h)
      simpa using this
     ·refine a6e (mb:=m) r hn hρ hb hm rfl rfl (λ_ _=>rfl) rfl rfl rfl ?_;refine⟨hk,hk0,⟨bQ,el,eA,aQ,?_⟩,?_⟩
      ·simp[hd];omega
      ·simp[hd,VRows]
     ·simp only[VRel];exact⟨a,0,rfl,by simp,(λq hq=>by cases hq),.inl rfl⟩
    ·obtain⟨w',ae,ia,bG,ht,eM,aR,⟨bQ,el,aW,bn⟩,gr,_⟩:=b62 (nn:=xs.length) ok r hu bp eC bo ty hb hm bN da al eY eV jM em rfl aB;obtain⟨m',aX,dy,fA,hk,hk0,_,_⟩:=r.live b _ hb;obtain rfl:m=m':=z9o (hm.symm.trans aX);have aE:=PMap.set_old (m:=⟨m.blk,m.off+off*m.k,m.k,m.room⟩) hρ;have cw:∀c,I c→w'.heap[c]?=w.heap[c]?:=λc hc=>bG c (λe=>dy (e▸hc));refine⟨_,w',ρ.set n ⟨m.blk,m.off+off*m.k,m.k,m.room⟩,ae,?_,?_,Moves.set _ _ _ rfl⟩
     ·refine a6e (mb:=m) r hn hρ hb hm rfl ia bG ht eM aR ?_;have gR:((aa.drop off).take len++xs).length=len+xs.length:=by rw[e8i,dC]
      refine⟨hk,hk0,⟨bQ,el,aW,bn,?_⟩,?_⟩
      ·rw[gR,←hk,Nat.add_assoc,←f1r];have:(off+(len+xs.length))*m.k≤(off+c)*m.k:=f1g _ (by omega);exact Nat.le_trans (Nat.add_le_add_left this m.off) da
      ·have h1:=VRows.drop (rs:=aa.take (off+len)++xs) off (by simp;omega) gr;rw[List.drop_append_of_le_length (by rw[f02];omega),List.drop_take,f2l]at h1;rw[show off*E.sz ac=off*m.k by rw[hk]]at h1;exact VRows.mono (λ_ h=>h) (λ_ _=>rfl) _ aE rfl h1
     ·simp only[VRel];refine⟨_,c,rfl,eY,(λq hq=>by cases hq),.inr ⟨_,by simp[PMap.set];rfl,by simp,?_⟩⟩;show m.off+off*m.k+(0+c)*m.k≤m.room;rw[e9y,Nat.add_assoc,←f1r];exact da
   ·have:=b21 (e:=.kill b (.row (E.sz ac) ((aa.drop off).take len++xs))) ok r hn hρ hu eC bo hz bF ty al (by omega) a7 aN aS jL jM lj em dC rfl (.inr ⟨b,rfl⟩);exact this
  · -- capacity known
   rename_i c';have qx:c=c':=a9 c' rfl;subst qx;rw[cond_eq_ite]at ha;split at ha
   ·rename_i eY;simp only[f1h]at eY;rw[cond_eq_ite]at ha;split at ha
    case isFalse=>cases ha
    rename_i aY;cases ha;simp only[e7h,f1h]at aY;obtain⟨cg,aB⟩:=aY;rcases bU with rfl|⟨m,hm,rfl,da⟩
    ·have h0:len=0:=by omega
     have pC:xs=[]:=f2w.1 (by omega);subst h0 pC;have az:aa.take (off+0)++[]++aa.drop (off+0+([]:List (List AV)).length)=aa:=by simp
     rw[az];refine⟨.slice (some a) 0 0,w,ρ,?_,?_,?_,Moves.same _ _ _⟩
     ·have:=a34 ok hu bp eC bo (base:=some a) (aH:=0) (bt:=0) ty (w':=w) al (by simp) eV (λa' h=>by
       have:new.toList=[]:=by have:=VRels.length jM;simpa using this.symm
       rw[this];rfl) (λh=>by cases h)
      simpa using this
     ·obtain⟨m,hm,_,_,ho⟩:=r.live b _ hb;exact a1z r hb hm rfl (λ_ _=>rfl) rfl rfl rfl ho
     ·simp only[VRel];exact⟨a,0,rfl,by simp,(λq hq=>by cases hq;rfl),.inl rfl⟩
    ·obtain⟨w',ae,ia,bG,ht,eM,aR,⟨bQ,el,aW,bn⟩,gr,cu⟩:=b62 (nn:=xs.length) ok r hu bp eC bo ty hb hm bN da al eY eV jM em rfl aB;obtain⟨m',aX,dy,fA,hk,hk0,⟨_,_,_,_,fT⟩,lm⟩:=r.live b _ hb;obtain rfl:m=m':=z9o (hm.symm.trans aX);have cw:∀c,I c→w'.heap[c]?=w.heap[c]?:=λc hc=>bG c (λe=>dy (e▸hc));have gR:(aa.take (off+len)++xs).length=off+len+xs.length:=by simp;omega
     refine⟨_,w',ρ,ae,?_,?_,Moves.same _ _ _⟩
     ·refine a1z r hb hm ia bG ht eM aR ⟨hk,hk0,⟨bQ,el,aW,bn,?_⟩,?_⟩
      ·have:(aa.take (off+len)++xs++aa.drop (off+len+xs.length)).length=aa.length:=by
        rw[e8i,gR];simp;omega
       rw[this];exact fT
      ·rw[VRows.append];refine⟨gr,?_⟩;rw[gR];refine VRows.mono_cells (λ_ h=>h) cw (λ_ _ h=>h) (λj hj=>cu _ (by omega)) (VRows.drop (off+len+xs.length) cg lm)
     ·simp only[VRel];exact⟨_,c,rfl,eY,(λq hq=>by cases hq;rfl),.inr ⟨m,hm,rfl,da⟩⟩
   ·rename_i rM;rw[cond_eq_ite]at ha;split at ha
    case isFalse=>cases ha
    rename_i a7;cases ha;have rM:¬(len+xs.length≤c):=by simpa using rM
    exact b21 ok r hn hρ hu eC bo hz bF ty al (by omega) a7 aN aS jL jM lj em dC rfl (.inl rfl)
 ·cases ha
end
end Go.Ax
/- AxBlt: len, cap, min, max, copy. -/
namespace Go.Ax
section
variable {E:Env}{I K:Nat→Prop}{ρ:PMap}{h:FHeap}{n:Nat}{w:World}
def b88(E:Env)(h:FHeap)(t:TypeId)(x:AV):Option AV:=
 match E.und t,x with
 |some .string,.str s=>some (.int .i64 s.length)
 |some (.array n _),x=>bif x.isJunk then none else some (.int .i64 n)
 |some (.slice _),.nilslice=>some (.int .i64 0)
 |some (.slice _),.slice _ _ len _=>some (.int .i64 len)
 |some (.slice _),.islice aa _=>some (.int .i64 aa.length)
 |some (.map _ _),.nilmap=>some (.int .i64 0)
 |some (.map _ _),.imap ks _ _ _=>some (.int .i64 ks.length)
 |some (.map _ _),.iset ks=>some (.int .i64 ks.length)
 |some (.map _ _),.map b=>match h b with
  |some (.map ks _ _ _)=>some (.int .i64 ks.length)
  |some (.uset ks)=>some (.int .i64 ks.length)
  |_=>none
 |_,_=>none
theorem e00(ok:EnvOk E)(r:HRel E.G I K ρ h w){t:TypeId}{x v:AV}{c:Value}(ty:TypeId)(hv:b88 E h t x=some v)(hx:VRel I w ρ x c) :
 Val E I K ρ h n w (Builtin.len_ #[t] ty #[c]) v .none:=by
 unfold b88 at hv;split at hv
 ·rename_i hu;cases hv;simp only[VRel]at hx;obtain⟨tb,rfl,ht⟩:=hx;have:tb.size=tb.data.toList.length:=by rw[e9n];rfl
  exact Val.here (c:=goInt tb.size) r (by simp[Builtin.len_,a0c ok w hu]) (by rw[←ht,this];simp[goInt,VRel])
 ·rename_i y m e hu;rw[cond_eq_ite]at hv;split at hv
  ·cases hv
  ·cases hv;refine Val.here (c:=goInt m) r ?_ (by simp[goInt,VRel]);cases c<;>simp[Builtin.len_,a0c ok w hu]
 ·rename_i hu;cases hv;simp only[VRel]at hx;subst hx;exact Val.here (c:=goInt 0) r (by simp[Builtin.len_,a0c ok w hu]) (by simp[goInt,VRel])
 ·rename_i hu;cases hv;simp only[VRel]at hx;obtain⟨a,cc,rfl,_⟩:=hx;exact Val.here (c:=goInt _) r (by simp[Builtin.len_,a0c ok w hu];rfl) (by simp[goInt,VRel])
 ·rename_i hu;cases hv;simp only[VRel]at hx;obtain⟨a,cc,k,rfl,_⟩:=hx;exact Val.here (c:=goInt _) r (by simp[Builtin.len_,a0c ok w hu];rfl) (by simp[goInt,VRel])
 ·rename_i hu;cases hv;simp only[VRel]at hx;subst hx;exact Val.here (c:=goInt 0) r (by simp[Builtin.len_,a0c ok w hu]) (by simp[goInt,VRel])
 ·rename_i hu;cases hv;simp only[VRel]at hx;obtain⟨cc,es,rfl,_,he,dz,_,_⟩:=hx;have hl:=VRels.length dz;simp only[c10,e9n]at hl;refine Val.here (c:=goInt es.size) r ?_ (by rw[hl];simp[goInt,VRel]);simp[Builtin.len_,a0c ok w hu,getObj,Sem.run,he]
 ·rename_i hu;cases hv;simp only[VRel]at hx;obtain⟨cc,es,cl,rfl,_,he,hs⟩:=hx;have hl:=hs.1.length_eq;simp only[c10,e9n]at hl;refine Val.here (c:=goInt es.size) r ?_ (by rw[hl];simp[goInt,VRel]);simp[Builtin.len_,a0c ok w hu,getObj,Sem.run,he]
 ·rename_i b hu;split at hv
  case h_3=>cases hv
  case h_2=>rename_i ks hb;cases hv;simp only[VRel]at hx;obtain⟨m,hm,rfl⟩:=hx;obtain⟨m',aX,_,_,ho⟩:=r.live b _ hb;obtain rfl:m=m':=z9o (hm.symm.trans aX);obtain⟨es,cl,he,hs⟩:=ho;have hl:=hs.1.length_eq;simp only[c10,e9n]at hl;refine Val.here (c:=goInt es.size) r ?_ (by rw[hl];simp[goInt,VRel]);simp[Builtin.len_,a0c ok w hu,getObj,Sem.run,he]
  rename_i ks vs bs cl hb;cases hv;simp only[VRel]at hx;obtain⟨m,hm,rfl⟩:=hx;obtain⟨m',aX,_,_,ho⟩:=r.live b _ hb;obtain rfl:m=m':=z9o (hm.symm.trans aX);obtain⟨es,he,dz,_,_⟩:=ho;have hl:=VRels.length dz;simp only[c10,e9n]at hl;refine Val.here (c:=goInt es.size) r ?_ (by rw[hl];simp[goInt,VRel]);simp[Builtin.len_,a0c ok w hu,getObj,Sem.run,he]
 ·cases hv
def e07(E:Env)(t:TypeId)(x:AV):Option AV:=
 match E.und t,x with
 |some (.slice _),.nilslice=>some (.int .i64 0)
 |some (.slice _),.slice _ _ _ (some c)=>some (.int .i64 c)
 |some (.slice _),.islice _ (some c)=>some (.int .i64 c)
 |_,_=>none
theorem e06(ok:EnvOk E)(r:HRel E.G I K ρ h w){t:TypeId}{x v:AV}{c:Value}(ty:TypeId)(hv:e07 E t x=some v)(hx:VRel I w ρ x c) :
 Val E I K ρ h n w (Builtin.cap_ #[t] ty #[c]) v .none:=by
 unfold e07 at hv;split at hv
 ·rename_i hu;cases hv;simp only[VRel]at hx;subst hx;exact Val.here (c:=goInt 0) r (by simp[Builtin.cap_,a0c ok w hu]) (by simp[goInt,VRel])
 ·rename_i hu;cases hv;simp only[VRel]at hx;obtain⟨a,cc,rfl,_,hc,_⟩:=hx;have:=hc _ rfl;exact Val.here (c:=goInt cc) r (by simp[Builtin.cap_,a0c ok w hu]) (by rw[this];simp[goInt,VRel])
 ·rename_i hu;cases hv;simp only[VRel]at hx;obtain⟨a,cc,k,rfl,_,hc,_⟩:=hx;have:=hc _ rfl;exact Val.here (c:=goInt cc) r (by simp[Builtin.cap_,a0c ok w hu]) (by rw[this];simp[goInt,VRel])
 ·cases hv
def d6o:AV→List AV→Option AV
 |x,[]=>match x with|.int k a=>some (.int k a)|_=>none
 |.int k a,.int _ b::r=>d6o (.int k (if b<a then b else a)) r
 |_,_::_=>none
def d59:AV→List AV→Option AV
 |x,[]=>match x with|.int k a=>some (.int k a)|_=>none
 |.int k a,.int _ b::r=>d59 (.int k (if b>a then b else a)) r
 |_,_::_=>none
theorem d1b:∀{xs:List AV} {x v:AV} {c:Value} {cs:List Value},d6o x xs=some v→VRel I w ρ x c→VRels I w ρ xs cs→
 ∃d,(cs.foldlM Builtin.min2 c).run E.P w = .ok d w∧VRel I w ρ v d
 | [],x,v,c,cs,hv,hx,bE=>by
  simp only[VRels]at bE;subst bE;simp only[d6o]at hv;split at hv
  ·cases hv;exact⟨c,by simp,hx⟩
  ·cases hv
 |y::ys,x,v,c,cs,hv,hx,bE=>by
  simp only[VRels]at bE;obtain⟨cy,aI,rfl,hy,kW⟩:=bE;unfold d6o at hv;split at hv
  ·rename_i h;cases h
  ·rename_i k a k' b r he;cases he;simp only[VRel]at hx hy;subst hx hy;obtain⟨d,h1,h2⟩:=d1b (c:=.int k (if b<a then b else a)) hv (by simp[VRel]) kW;exact⟨d,by simp only[List.foldlM_cons,Builtin.min2,Sem.run_bind,Sem.run_pure,Result.andThen_ok,h1],h2⟩
  ·cases hv
theorem d1c:∀{xs:List AV} {x v:AV} {c:Value} {cs:List Value},d59 x xs=some v→VRel I w ρ x c→VRels I w ρ xs cs→
 ∃d,(cs.foldlM Builtin.max2 c).run E.P w = .ok d w∧VRel I w ρ v d
 | [],x,v,c,cs,hv,hx,bE=>by
  simp only[VRels]at bE;subst bE;simp only[d59]at hv;split at hv
  ·cases hv;exact⟨c,by simp,hx⟩
  ·cases hv
 |y::ys,x,v,c,cs,hv,hx,bE=>by
  simp only[VRels]at bE;obtain⟨cy,aI,rfl,hy,kW⟩:=bE;unfold d59 at hv;split at hv
  ·rename_i h;cases h
  ·rename_i k a k' b r he;cases he;simp only[VRel]at hx hy;subst hx hy;obtain⟨d,h1,h2⟩:=d1c (c:=.int k (if b>a then b else a)) hv (by simp[VRel]) kW;exact⟨d,by simp only[List.foldlM_cons,Builtin.max2,Sem.run_bind,Sem.run_pure,Result.andThen_ok,h1],h2⟩
  ·cases hv
theorem a9g(r:HRel E.G I K ρ h w){k:Nat}{x:AV}{xs:List (List AV)}{c:Value}(ha:a24 h k x=some xs)(hx:VRel I w ρ x c)(j:Nat)(hj:j≤xs.length) :
 ∃cv:Array Value,(Builtin.firstCells k j c).run E.P w = .ok cv w∧VRels I w ρ (xs.take j).flatten cv.toList:=by
 have bg:(xs.take j).length=j:=by simp;omega
 have key:∀(a:Addr) (n cap:Nat),a.spot=none→VAt I w ρ (xs.take j).flatten a.block a.off→(∀r∈xs.take j,r.length=k)→∃cv:Array Value,(Builtin.firstCells k j (.slice (some a) n cap)).run E.P w = .ok cv w∧VRels I w ρ (xs.take j).flatten cv.toList:=by
  intro a n cap hs br hk;obtain⟨cv,h1,h2⟩:=VAt.cells br;have hl:cv.length=j*k:=by rw[←VRels.length h2,a0u hk,bg]
  have ha:a=⟨a.block,a.off,none⟩:=by cases a;simp_all
  refine⟨cv.toArray,?_,by simpa using h2⟩;have:=run_loadCells_list (P:=E.P) w a cv (λi v hi=>by rw[ha,a4g];exact h1 i v hi);rw[hl]at this;simpa[Builtin.firstCells]using this
 obtain⟨_,_,aY⟩:=a4s r ha hx;have kS:∀r∈xs.take j,r.length=k:=λr hr=>aY r (List.mem_of_mem_take hr);unfold a24 at ha;split at ha
 ·cases ha;simp only[VRel]at hx;subst hx;exact⟨#[],rfl,by simp[VRels]⟩
 ·rename_i aa cap;rw[cond_eq_ite]at ha;split at ha
  case isFalse=>cases ha
  cases ha;simp only[VRel]at hx;obtain⟨a,cc,kk,rfl,bl,_,bU⟩:=hx;rcases bU with rfl|⟨hs,hI,az⟩
  ·have:j=0:=by simpa using hj
   subst this;exact⟨#[],by simp[Builtin.firstCells,loadCells,loadCellsFrom],by simp[VRels]⟩
  ·exact key a _ _ hs (VAt.noRef_any (VRows.iff.1 (VRows.take j az)).2) kS
 ·rename_i b off len cap;split at ha
  case h_2=>cases ha
  rename_i k' aa hb;rw[cond_eq_ite]at ha;split at ha
  case isFalse=>cases ha
  rename_i hc;cases ha;simp only[e7h,f2p,f1h]at hc;obtain⟨rfl,bN⟩:=hc;obtain⟨m,hm,_,_,ho⟩:=r.live b _ hb;obtain⟨hk,hk0,_,az⟩:=ho;simp only[VRel]at hx;obtain⟨a,cc,rfl,bl,_,bU⟩:=hx;rcases bU with rfl|⟨m',aX,rfl,a7⟩
  ·have:j=0:=by simp at hj;omega
   subst this;exact⟨#[],by simp[Builtin.firstCells,loadCells,loadCellsFrom],by simp[VRels]⟩
  ·obtain rfl:m=m':=z9o (hm.symm.trans aX);refine key _ _ _ rfl ?_ kS;rw[hk];exact(VRows.iff.1 (VRows.take j (VRows.take len (VRows.drop off (by omega) az)))).2
 ·rename_i s;rw[cond_eq_ite]at ha;split at ha
  case isFalse=>cases ha
  cases ha;simp only[VRel]at hx;obtain⟨t,rfl,ht⟩:=hx;refine⟨_,by simp only[Builtin.firstCells,Sem.run_pure];rfl,?_⟩;rw[f2e,a6a,←List.map_take];simp only[f0u,ht,Nat.sub_zero];exact a90 _
 ·cases ha
theorem b5k(r:HRel E.G I K ρ h w){m:Pl}{b off k:Nat}{aa xs:List (List AV)}{new:List Value}(hb:h b=some (.row k aa))(hm:ρ b=some m)(bN:off+xs.length≤aa.length)
 (bE:VRels I w ρ xs.flatten new)(em:∀r∈xs,r.length=k)(aB:xs.all (λr=>r.all AV.storable)=true) :
 ∃w',(storeCells ⟨m.blk,m.off+off*m.k,none⟩ new).run E.P w = .ok () w'∧Stepped E.G I K ρ w I ρ (h.eff n (.set b (.row k (aa.take off++xs++aa.drop (off+xs.length))))) w':=by
 obtain⟨m',aX,dy,_,ho⟩:=r.live b _ hb;obtain rfl:m=m':=z9o (hm.symm.trans aX);obtain⟨hk,hk0,⟨bQ,el,eA,aQ,fT⟩,az⟩:=ho;have dw:new.length=xs.length*k:=by have:=VRels.length bE;rw[a0u em]at this;exact this.symm
 have fS:xs.flatten.all AV.storable=true:=by rw[e9r]at aB⊢;intro v hv;obtain⟨l,hl,fI⟩:=List.mem_flatten.1 hv;exact e9r.1 (aB l hl) v fI
 have bX:m.off+off*m.k+new.length≤bQ.size:=by rw[aQ,dw,hk,Nat.add_assoc,←f1r];exact Nat.le_trans (Nat.add_le_add_left (f1g k bN) _) fT
 obtain⟨w',ae,⟨dv,aW,ia⟩,bG,bF,ht,eM,aR,bz,cu⟩:=b2d (w:=w) (blk:=m.blk) (o:=m.off+off*m.k) new eA bX (VRels.storable bE fS) E.P;have cw:∀c,I c→w'.heap[c]?=w.heap[c]?:=λc hc=>bG c (λe=>dy (e▸hc));have dY:(aa.take off).length=off:=by simp;omega
 refine⟨w',ae,a1z r hb hm bF bG ht eM aR ⟨hk,hk0,⟨dv,el,aW,by omega,?_⟩,?_⟩⟩
 ·have:(aa.take off++xs++aa.drop (off+xs.length)).length=aa.length:=by simp;omega
  rw[this];exact fT
 ·rw[VRows.append,VRows.append];refine⟨⟨?_,?_⟩,?_⟩
  ·refine VRows.mono_cells (λ_ h=>h) cw (λ_ _ h=>h) (λj hj=>cu _ (.inl ?_)) (VRows.take off az);rw[dY]at hj;rw[hk];omega
  ·rw[VRows.iff,dY,←hk];exact⟨by rw[hk];exact em,VAt.of_cells bz (VRels.mono (λ_ h=>h) cw _ (λ_ _ h=>h) bE)⟩
  ·rw[e8i,dY];refine VRows.mono_cells (λ_ h=>h) cw (λ_ _ h=>h) (λj hj=>cu _ (.inr ?_)) (VRows.drop (off+xs.length) bN az);rw[dw,hk,f1r];omega
def c6l(E:Env)(h:FHeap)(dt:TypeId)(d x:AV):Option (AV×Eff):=
 match E.und dt with
 |some (.slice ac)=>bif (E.und ac).isSome then
  match a24 h (E.sz ac) x with
  |none=>none
  |some xs=>match d with
   |.nilslice=>some (.int .i64 0,.none)
   |.slice b off len _=>bif Nat.beq len 0 then some (.int .i64 0,.none)else match h b with
    |some (.row kk aa)=>bif kk==E.sz ac&&Nat.ble (off+len) aa.length&&Nat.blt 0 len&&(xs.take len).all (λr=>r.all AV.storable)then
     some (.int .i64 ((xs.take len).length:Nat),.set b (.row kk (aa.take off++xs.take len++aa.drop (off+(xs.take len).length))))else none
    |_=>none
   |_=>none else none
 |_=>none
theorem d5d(ok:EnvOk E)(r:HRel E.G I K ρ h w){dt xt:TypeId}{d x v:AV}{e:Eff}{cd cx:Value}(ty:TypeId)
 (ha:c6l E h dt d x=some (v,e))(hd:VRel I w ρ d cd)(hx:VRel I w ρ x cx):Val E I K ρ h n w (Builtin.copy_ #[dt,xt] ty #[cd,cx]) v e:=by
 unfold c6l at ha;split at ha
 case h_2=>cases ha
 rename_i ac hu;rw[cond_eq_ite]at ha;split at ha
 case isFalse=>cases ha
 rename_i tD;obtain⟨de,bp⟩:=e7n.1 tD;split at ha
 case h_1=>cases ha
 rename_i xs bE;obtain⟨al,_,em⟩:=a4s r bE hx;split at ha
 ·cases ha;simp only[VRel]at hd;subst hd;obtain⟨cv,h1,h2⟩:=a9g r bE hx 0 (by omega);refine Val.here (c:=goInt 0) r ?_ (by simp[goInt,VRel]);have ly:Nat.min xs.length 0=0:=Nat.min_zero _;simp only[Builtin.copy_,f1c,f0k,f00,Sem.run_bind,a0c ok w hu,Result.andThen_ok,al,a31 ok w bp,ly,h1,Sem.run_pure];rfl
 ·rename_i b off len cap;rw[cond_eq_ite]at ha;split at ha
  ·rename_i h0;have h0:=f1j h0;subst h0;cases ha;simp only[VRel]at hd;obtain⟨a,c,rfl,bl,_,_⟩:=hd;obtain⟨cv,h1,h2⟩:=a9g r bE hx 0 (by omega);have aV:cv.toList=[]:=by have:=VRels.length h2;simpa using this.symm
   refine Val.here (c:=goInt 0) r ?_ (by simp[goInt,VRel]);have ly:Nat.min xs.length 0=0:=Nat.min_zero _;simp only[Builtin.copy_,f1c,f0k,f00,Sem.run_bind,a0c ok w hu,Result.andThen_ok,al,a31 ok w bp,ly,h1,aV];cases a<;>rfl
  split at ha
  case h_2=>cases ha
  rename_i kk aa hb;rw[cond_eq_ite]at ha;split at ha
  case isFalse=>cases ha
  rename_i dK;cases ha;simp only[e7h,f2p,f1h,e9o]at dK;obtain⟨⟨⟨rfl,bN⟩,fk⟩,aB⟩:=dK;simp only[VRel]at hd;obtain⟨a,c,rfl,bl,_,bU⟩:=hd;rcases bU with rfl|⟨m,hm,rfl,a7⟩
  ·omega
  have dl:(xs.take len).length=Nat.min xs.length len:=by rw[f02,Nat.min_comm]
  have pW:Nat.min xs.length len≤xs.length:=Nat.min_le_left _ _;have rO:Nat.min xs.length len≤len:=Nat.min_le_right _ _;obtain⟨cv,h1,h2⟩:=a9g r bE hx _ pW;have cX:xs.take (Nat.min xs.length len)=xs.take len:=by
   rcases Nat.le_total xs.length len with h|h
   ·rw[show Nat.min xs.length len=xs.length from Nat.min_eq_left h,f0p,e8b h]
   ·rw[show Nat.min xs.length len=len from Nat.min_eq_right h]
  rw[cX]at h2;obtain⟨w',ae,bK⟩:=b5k (n:=n) r hb hm (off:=off) (xs:=xs.take len) (by omega) h2 (λr hr=>em r (List.mem_of_mem_take hr)) aB;refine⟨goInt (xs.take len).length,w',ρ,?_,bK,by simp[goInt,VRel],Moves.same _ _ _⟩;simp only[Builtin.copy_,f1c,f0k,f00,Sem.run_bind,a0c ok w hu,Result.andThen_ok,al,a31 ok w bp,h1,ae,Sem.run_pure,dl]
 ·cases ha
def b6m(E:Env)(h:FHeap)(t:TypeId)(x:AV):Option (AV×Eff):=
 match E.und t,x with
 |some (.slice _),.nilslice=>some (.tuple [],.none)
 |some (.slice ac),.slice b off len _=>bif Nat.beq len 0 then some (.tuple [],.none)else match E.zero ac with
  |some z=>match h b with
   |some (.row kk aa)=>bif kk==E.sz ac&&Nat.ble (off+len) aa.length&&z.all AV.storable then
    some (.tuple [],.set b (.row kk (aa.take off++List.replicate len z++aa.drop (off+(List.replicate len z).length))))else none
   |_=>none
  |none=>none
 |_,_=>none
theorem a7m{z:List AV}{zs:List Value}(hz:VRels I w ρ z zs):∀n:Nat,VRels I w ρ (List.replicate n z).flatten (List.replicate n zs).flatten
 |0=>by simp[VRels]
 |n+1=>by rw[f2b,f2b,f0y,f0y];exact VRels.append hz (a7m hz n)
theorem d1l(ok:EnvOk E)(r:HRel E.G I K ρ h w){t:TypeId}{x v:AV}{e:Eff}{cx:Value}(ty:TypeId)
 (ha:b6m E h t x=some (v,e))(hx:VRel I w ρ x cx):Val E I K ρ h n w (Builtin.clear_ #[t] ty #[cx]) v e:=by
 unfold b6m at ha;split at ha
 ·rename_i ac hu;cases ha;simp only[VRel]at hx;subst hx;refine Val.here (c:=.tuple #[]) r ?_ (by simp only[VRel];exact⟨#[],rfl,by simp[VRels]⟩);simp[Builtin.clear_,a0c ok w hu]
 ·rename_i ac b off len cap hu;simp only[VRel]at hx;obtain⟨a,c,rfl,bl,_,bU⟩:=hx;rw[cond_eq_ite]at ha;split at ha
  ·rename_i h0;have h0:=f1j h0;subst h0;cases ha;refine Val.here (c:=.tuple #[]) r ?_ (by simp only[VRel];exact⟨#[],rfl,by simp[VRels]⟩);simp[Builtin.clear_,a0c ok w hu]
  rename_i h0;have fk:len≠0:=λe=>h0 (by subst e;rfl);split at ha
  case h_2=>cases ha
  rename_i z hz;split at ha
  case h_2=>cases ha
  rename_i kk aa hb;rw[cond_eq_ite]at ha;split at ha
  case isFalse=>cases ha
  rename_i dK;cases ha;simp only[e7h,f2p,f1h]at dK;obtain⟨⟨rfl,bN⟩,aB⟩:=dK;rcases bU with rfl|⟨m,hm,rfl,a7⟩
  ·omega
  obtain⟨z',eJ,gn,bZ⟩:=a6v ok w hz;have bT:=f3x (n:=len) (a:=z);obtain⟨w',ae,bK⟩:=b5k (n:=n) r hb hm (off:=off) (xs:=List.replicate len z) (new:=(List.replicate len z'.cells.toList).flatten) (by omega) (a7m (VRels.noRef_any (bZ I w)) len)
   (λr hr=>by rw[f01 hr];exact gn) (by rw[e9r];intro r hr;rw[f01 hr];exact aB)
  refine⟨.tuple #[],w',ρ,?_,bK,by simp only[VRel];exact⟨#[],rfl,by simp[VRels]⟩,Moves.same _ _ _⟩;obtain⟨sJ,rfl⟩:∃l,len=l+1:=⟨len-1,by omega⟩
  simp only[Builtin.clear_,f1c,f0k,Sem.run_bind,a0c ok w hu,Result.andThen_ok,eJ,a4v,ae,Sem.run_pure]
 ·cases ha
end
end Go.Ax
/- AxMap: maps with d2u keys: lookup, update, delete. -/
namespace Go.Ax
section
variable {E:Env}{I K:Nat→Prop}{ρ:PMap}{h:FHeap}{n:Nat}{w:World}
def a5q:TypeDesc→Bool
 |.int _|.string|.bool=>true
 |_=>false
def b9j(E:Env)(t:TypeId):Bool:=
 match E.und t with
 |some (.struct fs)=>E.eqok t&&fs.toList.all λf=>match E.und f.type with|some d=>a5q d|none=>false
 |some d=>a5q d
 |none=>false
def c48:AV→AV→Bool
 |.int k a,.int k' b=>k==k'&&a==b
 |.str a,.str b=>a==b
 |.bool a,.bool b=>a==b
 |_,_=>false
def b6i:List AV→List AV→Bool
 | [],[]=>true
 |a::as,b::bs=>c48 a b&&b6i as bs
 |_,_=>false
def d53:AV→AV→Bool
 |.agg a,.agg b=>b6i a b
 |a,b=>c48 a b
theorem c0a{a b:AV}(hs:c48 a b=true){ca cb:Value}(ha:VRel I w ρ a ca)(hb:VRel I w ρ b cb):ca=cb∧∀m,Instr.sameBits m ca cb=true:=by
 unfold c48 at hs;split at hs
 ·simp only[e7h,f2p]at hs;obtain⟨rfl,rfl⟩:=hs;simp only[VRel]at ha hb;subst ha hb;exact⟨rfl,λm=>by cases m<;>simp[Instr.sameBits]⟩
 ·simp only[f2p]at hs;subst hs;simp only[VRel]at ha hb;obtain⟨t,rfl,ht⟩:=ha;obtain⟨t',rfl,s8⟩:=hb;have:t=t':=by
   cases t;cases t';simp only[ByteArray.mk.injEq];exact Array.toList_inj.1 (ht.trans s8.symm)
  subst this;exact⟨rfl,λm=>by cases m<;>simp[Instr.sameBits,b49]⟩
 ·simp only[f2p]at hs;subst hs;simp only[VRel]at ha hb;subst ha hb;exact⟨rfl,λm=>by cases m<;>simp[Instr.sameBits]⟩
 ·cases hs
theorem c09:∀{as bs:List AV} {cs ds:List Value},b6i as bs=true→VRels I w ρ as cs→VRels I w ρ bs ds→
 cs=ds∧∀m,(cs.zip ds).all (λ(x,y)=>Instr.sameBits m x y)=true
 | [],[],cs,ds,_,ha,hb=>by simp only[VRels]at ha hb;subst ha hb;exact⟨rfl,by simp⟩
 |a::as,b::bs,cs,ds,hs,ha,hb=>by simp only[VRels]at ha hb;obtain⟨c,aI,rfl,h1,h2⟩:=ha;obtain⟨d,uT,rfl,h3,h4⟩:=hb;simp only[b6i,e7h]at hs;obtain⟨rfl,h5⟩:=c0a hs.1 h1 h3;obtain⟨rfl,h6⟩:=c09 hs.2 h2 h4;exact⟨rfl,λm=>by simp only[List.zip_cons_cons,List.all_cons,h5 m,f1q];exact h6 m⟩
 | [],_::_,cs,ds,hs,_,_=>by simp[b6i]at hs
 |_::_,[],cs,ds,hs,_,_=>by simp[b6i]at hs
theorem d52{a b:AV}(hs:d53 a b=true){ca cb:Value}(ha:VRel I w ρ a ca)(hb:VRel I w ρ b cb):ca=cb∧Instr.sameBits 10000 ca cb=true:=by
 unfold d53 at hs;split at hs
 ·simp only[VRel]at ha hb;obtain⟨ca,rfl,ha⟩:=ha;obtain⟨cb,rfl,hb⟩:=hb;obtain⟨he,h1⟩:=c09 hs ha hb;have he:ca=cb:=Array.toList_inj.1 he;subst he;refine⟨rfl,?_⟩;show(ca.size==ca.size&&(ca.toList.zip ca.toList).all λ(x,y)=>Instr.sameBits 9999 x y)=true;rw[h1 9999];simp
 ·obtain⟨h1,h2⟩:=c0a hs ha hb;exact⟨h1,h2 10000⟩
def a1v(eq:AV→AV→Option Bool)(k:AV):List AV→Nat→Option (Option Nat)
 | [],_=>some none
 |x::xs,i=>match eq k x with
  |some q=>bif q then some (some i)else a1v eq k xs (i+1)
  |none=>none
theorem a9u(ok:EnvOk E){kt:TypeId}{k:AV}{ck:Value}(hk:VRel I w ρ k ck):∀{ks:List AV} {es:List MapEntry} {i:Nat} {r:Option Nat},
 a1v (aeq E 6 kt) k ks i=some r→VRels I w ρ ks (es.map (·.key))→
 (Instr.findAsking kt ck es i).run E.P w = .ok (r.map λj=>(j,((es[j-i]?).map (·.val)).getD undef)) w∧∀j,r=some j→i≤j∧j-i<es.length
 | [],es,i,r,hf,dz=>by simp only[VRels,List.map_eq_nil_iff]at dz;subst dz;simp only[a1v,Option.some.injEq]at hf;subst hf;exact⟨rfl,by simp⟩
 |x::ks,es,i,r,hf,dz=>by
  cases es with
  |nil=>simp[VRels]at dz
  |cons e es=>
   simp only[e12,VRels,List.cons.injEq]at dz;obtain⟨c,cs,⟨rfl,rfl⟩,hx,dz⟩:=dz;simp only[a1v]at hf;split at hf
   case h_2=>cases hf
   rename_i q hq;have cE:=a53 ok hq hk hx;unfold Instr.findAsking;simp only[Sem.run_bind,cE,Result.andThen_ok];cases q with
   |true=>simp only[e9i,Option.some.injEq]at hf;subst hf;exact⟨by simp,by simp⟩
   |false=>
    simp only[e9q]at hf;obtain⟨h1,h2⟩:=a9u ok hk (es:=es) hf dz;simp only[f0s,f3w];rw[h1];refine⟨?_,λj hj=>?_⟩
    ·cases r with
     |none=>rfl
     |some j=>obtain⟨h3,h4⟩:=h2 j rfl;simp only[e8d];rw[show j-i=(j-(i+1))+1 by omega];simp
    ·obtain⟨h3,h4⟩:=h2 j hj;simp;omega
theorem e05{t:TypeId}{k0:IntKind}(hu:E.und t=some (.int k0)){d:Nat}{x y:AV}{q:Bool}(hq:aeq E (d+1) t x y=some q):∃k a b,x = .int k a∧y = .int k b∧q=(a==b):=by
 unfold aeq at hq;rw[hu]at hq;split at hq
 case h_2=>
  rw[cond_eq_ite]at hq;split at hq
  ·rename_i hk;cases hq;have hk:=eq_of_beq hk;subst hk;exact⟨_,_,_,rfl,rfl,rfl⟩
  ·cases hq
 all_goals (try simp only[Option.some.injEq]at *);subst_vars;simp_all[a2l]
theorem e04{t:TypeId}(hu:E.und t=some .string){d:Nat}{x y:AV}{q:Bool}(hq:aeq E (d+1) t x y=some q):∃a b,x = .str a∧y = .str b∧q=(a==b):=by
 unfold aeq at hq;rw[hu]at hq;split at hq
 case h_3=>cases hq;exact⟨_,_,rfl,rfl,rfl⟩
 all_goals (try simp only[Option.some.injEq]at *);subst_vars;simp_all[a2l]
theorem d5b{t:TypeId}(hu:E.und t=some .bool){d:Nat}{x y:AV}{q:Bool}(hq:aeq E (d+1) t x y=some q):∃a b,x = .bool a∧y = .bool b∧q=(a==b):=by
 unfold aeq at hq;rw[hu]at hq;split at hq
 case h_1=>cases hq;exact⟨_,_,rfl,rfl,rfl⟩
 all_goals (try simp only[Option.some.injEq]at *);subst_vars;simp_all[a2l]
theorem c4w{d:TypeDesc}(hd:a5q d=true){kt:TypeId}(hu:E.und kt=some d){k x:AV}{ck cx:Value}{q:Bool}(hk:VRel I w ρ k ck)(hx:VRel I w ρ x cx)
 (hq:aeq E 6 kt k x=some q):Instr.sameNow d ck cx=some q:=by
 cases d<;>simp[a5q]at hd
 ·obtain⟨a,b,rfl,rfl,rfl⟩:=d5b hu hq;simp only[VRel]at hk hx;subst hk hx;rfl
 ·obtain⟨kk,a,b,rfl,rfl,rfl⟩:=e05 hu hq;simp only[VRel]at hk hx;subst hk hx;simp[Instr.sameNow]
 ·obtain⟨a,b,rfl,rfl,rfl⟩:=e04 hu hq;simp only[VRel]at hk hx;obtain⟨t,rfl,rfl⟩:=hk;obtain⟨t',rfl,rfl⟩:=hx;simp only[Instr.sameNow,b49]
theorem b69{k:AV}{ck:Value}{d:TypeDesc}(hd:a5q d=true){kt:TypeId}(hu:E.und kt=some d)(hk:VRel I w ρ k ck):∀{ks:List AV} {es:List MapEntry} {i:Nat} {r:Option Nat},
 a1v (aeq E 6 kt) k ks i=some r→VRels I w ρ ks (es.map (·.key))→
 Instr.findNow d ck es i=some (r.map λj=>(j,((es[j-i]?).map (·.val)).getD undef))∧∀j,r=some j→i≤j∧j-i<es.length
 | [],es,i,r,hf,dz=>by simp only[VRels,List.map_eq_nil_iff]at dz;subst dz;simp only[a1v,Option.some.injEq]at hf;subst hf;exact⟨rfl,by simp⟩
 |x::ks,es,i,r,hf,dz=>by
  cases es with
  |nil=>simp[VRels]at dz
  |cons e es=>
   simp only[e12,VRels,List.cons.injEq]at dz;obtain⟨c,cs,⟨rfl,rfl⟩,hx,dz⟩:=dz;simp only[a1v]at hf;split at hf
   case h_2=>cases hf
   rename_i q hq;have ak:=c4w hd hu hk hx hq;unfold Instr.findNow;rw[ak];cases q with
   |true=>simp only[e9i,Option.some.injEq]at hf;subst hf;exact⟨by simp,by simp⟩
   |false=>
    simp only[e9q]at hf;obtain⟨h1,h2⟩:=b69 hd hu hk (es:=es) hf dz;dsimp only;rw[h1];refine⟨?_,λj hj=>?_⟩
    ·cases r with
     |none=>rfl
     |some j=>obtain⟨h3,h4⟩:=h2 j rfl;simp only[e8d];rw[show j-i=(j-(i+1))+1 by omega];simp
    ·obtain⟨h3,h4⟩:=h2 j hj;simp;omega
theorem b4w{ck:Value}{fs:Array Field}:∀(es:List MapEntry) (i:Nat),Instr.findNow (.struct fs) ck es i=if es=[]then some none else none
 | [],i=>by simp[Instr.findNow]
 |e::es,i=>by simp[Instr.findNow,Instr.sameNow]
theorem b0t(ok:EnvOk E){kt:TypeId}(oY:b9j E kt=true){k:AV}{ck:Value}(hk:VRel I w ρ k ck){ks:List AV}{es:List MapEntry}{r:Option Nat}
 (hf:a1v (aeq E 6 kt) k ks 0=some r)(dz:VRels I w ρ ks (es.map (·.key))) :
 (Instr.findKey kt ck es).run E.P w = .ok (r.map λj=>(j,((es[j]?).map (·.val)).getD undef)) w∧∀j,r=some j→j<es.length:=by
 unfold b9j at oY;split at oY
 ·rename_i fs hu;obtain⟨h1,h2⟩:=a9u ok hk hf dz;refine⟨?_,λj hj=>(h2 j hj).2⟩;unfold Instr.findKey;simp only[Sem.run_bind,a0c ok w hu,Result.andThen_ok,b4w];by_cases he:es=[]
  ·subst he;simp at dz;have:ks=[]:=by cases ks with|nil=>rfl|cons a b=>simp[VRels]at dz
   subst this;simp only[a1v,Option.some.injEq]at hf;subst hf;simp
  ·simp only[he,f3w];simpa using h1
 ·rename_i d _ hu;obtain⟨h1,h2⟩:=b69 oY hu hk hf dz;refine⟨?_,λj hj=>(h2 j hj).2⟩;unfold Instr.findKey;simp only[Sem.run_bind,a0c ok w hu,Result.andThen_ok,h1];simp
 ·cases oY
theorem a3o(ok:EnvOk E){t:TypeId}{d:TypeDesc}(hd:a5q d=true)(hu:E.und t=some d)(b:Bool)(m:Nat)(c:Value):(Instr.checkKey b (m+1) t c).run E.P w = .ok () w:=by unfold Instr.checkKey;simp only[Sem.run_bind,a0c ok w hu,Result.andThen_ok];cases d<;>simp[a5q]at hd<;>rfl
def b20(E:Env):List Field→List AV→Bool
 | [],_=>true
 |f::fs,cs=>(a2c E f.type ((cs.drop f.offset).take (E.sz f.type))).isSome&&b20 E fs cs
def b60(E:Env)(t:TypeId)(x:AV):Bool:=
 match E.und t,x with
 |some (.struct fs),.agg cs=>b20 E fs.toList cs
 |some (.struct _),_=>false
 |_,_=>true
theorem b45(ok:EnvOk E){t:TypeId}(ht:b9j E t=true){x:AV}{c:Value}(hx:VRel I w ρ x c)(hv:b60 E t x=true)(b:Bool):(Instr.checkKey b 10000 t c).run E.P w = .ok () w:=by
 unfold b9j at ht;split at ht
 ·rename_i fs hu;simp only[e7h]at ht;unfold b60 at hv;rw[hu]at hv;cases x<;>simp at hv;rename_i cs;simp only[VRel]at hx;obtain⟨cv,rfl,hc⟩:=hx;obtain⟨_,_,_,gv⟩:=ok.eqok t ht.1;unfold Instr.checkKey;simp only[Sem.run_bind,a0c ok w hu,Result.andThen_ok];have key:∀(l:List Field),(∀f∈l,f∈fs.toList)→b20 E l cs=true→
   (forIn l () (λf _=>if f.name≠ "_" then do
    Instr.checkKey b 9999 f.type (←part f.type cv f.offset)
    pure (ForInStep.yield ())
    else pure (ForInStep.yield ()):Field→Unit→Sem (ForInStep Unit))).run E.P w = .ok () w:=by
   intro l
   induction l with
   |nil=>intro _ _;simp
   |cons f l ih=>
    intro hm hp;simp only[b20,e7h]at hp;obtain⟨v,hv⟩:=e7n.1 hp.1;obtain⟨cc,h1,_⟩:=a8k ok hv hc;have hf:=hm f (by simp);have ns:=e9r.1 ht.2 f hf;split at ns
    case h_2=>cases ns
    rename_i d hd;have iQ:=gv fs hu f hf;rw[List.forIn_cons];simp only[ne_eq,iQ,not_false_eq_true,f1a,Sem.run_bind,h1,Result.andThen_ok,a3o ok ns hd,Sem.run_pure];exact ih (λg hg=>hm g (by simp[hg])) hp.2
  rw[←Array.forIn_toList];exact(congrArg (λr=>Result.andThen r (λ_ w'=>(pure ():Sem Unit).run E.P w')) (key fs.toList (λ_ h=>h) hv)).trans rfl
 ·rename_i d _ hu;exact a3o ok ht hu b 9999 c
 ·cases ht
def b1l(h:FHeap):AV→Option (List AV×List AV)
 |.nilmap=>some ([],[])
 |.imap ks vs _ _=>some (ks,vs)
 |.map b=>match h b with
  |some (.map ks vs _ _)=>some (ks,vs)
  |_=>none
 |_=>none
def a5v(E:Env)(h:FHeap)(t:TypeId)(x k:AV)(ok:Bool):Option AV:=
 match E.und t with
 |some (.map kt et)=>bif b9j E kt&&b60 E kt k then
  match b1l h x,E.zero et,E.und et with
  |some (ks,vs),some z,some d=>match a1v (aeq E 6 kt) k ks 0 with
   |some (some i)=>match vs[i]? with
    |some v=>some (bif ok then .tuple [v,.bool true]else v)
    |none=>none
   |some none=>bif a26 d then some (bif ok then .tuple [.agg z,.bool false]else .agg z)else
    match z with
    | [v]=>some (bif ok then .tuple [v,.bool false]else v)
    |_=>none
   |none=>none
  |_,_,_=>none
  else none
 |_=>none
theorem d1d(r:HRel E.G I K ρ h w){x:AV}{ks vs:List AV}{c:Value}(ha:b1l h x=some (ks,vs))(hx:VRel I w ρ x c) :
 (c = .map none∧ks=[]∧vs=[])∨∃b es cl,c = .map (some b)∧w.heap[b]?=some (.map es cl)∧VRels I w ρ ks (es.toList.map (·.key))∧VRels I w ρ vs (es.toList.map (·.val)):=by
 unfold b1l at ha;split at ha
 ·cases ha;simp only[VRel]at hx;exact .inl ⟨hx,rfl,rfl⟩
 ·cases ha;simp only[VRel]at hx;obtain⟨b,es,rfl,_,he,h1,h2,_⟩:=hx;exact .inr ⟨b,es,_,rfl,he,VRels.noRef_any h1,VRels.noRef_any h2⟩
 ·rename_i b;split at ha
  case h_2=>cases ha
  rename_i jE ee bs cl hb;cases ha;simp only[VRel]at hx;obtain⟨m,hm,rfl⟩:=hx;obtain⟨m',aX,_,_,ho⟩:=r.live b _ hb;obtain rfl:m=m':=z9o (hm.symm.trans aX);obtain⟨es,he,h1,h2,_⟩:=ho;exact .inr ⟨m.blk,es,cl,rfl,he,h1,h2⟩
 ·cases ha
theorem b6r(ok:EnvOk E){t:TypeId}{d:TypeDesc}{z:List AV}{zv:Value}(hd:E.und t=some d)(hz:E.zero t=some z)(ek:(zeroValue t).run E.P w = .ok zv w) :
 (a26 d=true→∃a,zv = .agg a)∧(a26 d=false→zv.cells = #[zv]):=by
 obtain⟨_,i,z',hi,eJ,_⟩:=ok.zero t z hz;have:zv=z':=by simp[zeroValue,typeInfo,hi,eJ]at ek;exact ek.symm
 subst this;exact ok.zshape t d i zv hd hi eJ
theorem c6g(ok:EnvOk E)(r:HRel E.G I K ρ h w){t:TypeId}{x k v:AV}{c ck:Value}{b:Bool}(hv:a5v E h t x k b=some v)(hx:VRel I w ρ x c)(hk:VRel I w ρ k ck) :
 Val E I K ρ h n w (Instr.lookup t c ck b) v .none:=by
 unfold a5v at hv;split at hv
 case h_2=>cases hv
 rename_i kt et hu;rw[cond_eq_ite]at hv;split at hv
 case isFalse=>cases hv
 rename_i cf;simp only[e7h]at cf;split at hv
 case h_2=>cases hv
 rename_i ks vs z d hm hz hd;obtain⟨zv,ek,_,bw⟩:=a6v ok w hz;have bZ:VRels I w ρ z zv.cells.toList:=VRels.noRef_any (bw I w);have jD:∃es:List MapEntry,((c = .map none∧es=[])∨∃b cl,c = .map (some b)∧w.heap[b]?=some (.map es.toArray cl))∧VRels I w ρ ks (es.map (·.key))∧VRels I w ρ vs (es.map (·.val)):=by
  rcases d1d r hm hx with ⟨rfl,rfl,rfl⟩|⟨b,es,cl,rfl,he,h1,h2⟩
  ·exact⟨[],.inl ⟨rfl,rfl⟩,by simp[VRels],by simp[VRels]⟩
  ·exact⟨es.toList,.inr ⟨b,cl,rfl,by simpa using he⟩,h1,h2⟩
 obtain⟨es,ae,dz,eD⟩:=jD;cases hf:a1v (aeq E 6 kt) k ks 0 with
 |none=>simp[hf]at hv
 |some ri=>
  obtain⟨gz,aj⟩:=b0t ok cf.1 hk hf dz;have bA:=b45 ok cf.1 hk cf.2 es.toArray.isEmpty;simp only[hf]at hv;cases ri with
  |some i=>
   simp only at hv;cases m5:vs[i]? with
   |none=>simp[m5]at hv
   |some v0=>
    simp only[m5,Option.some.injEq]at hv;obtain⟨cv,aV,me⟩:=VRels.get i eD m5;have cz:((es[i]?).map (·.val)).getD undef=cv:=by rw[e8a]at aV;rw[aV];rfl
    refine Val.here (c:=if b then .tuple #[cv,.bool true]else cv) r ?_ ?_
    ·rcases ae with ⟨rfl,rfl⟩|⟨b',cl,rfl,he⟩
     ·simp at aV
     ·simp only[Instr.lookup,Sem.run_bind,a0c ok w hu,Result.andThen_ok,getObj,Sem.run,he,Sem.run_pure,bA,gz,e8d,cz]
    ·subst hv;cases b
     ·exact me
     ·simp only[e9i,f1a,VRel];exact⟨_,rfl,by simp only[VRels];exact⟨_,_,rfl,me,_,_,rfl,by simp[VRel],rfl⟩⟩
  |none=>
   simp only at hv;have nF:(Instr.lookup t c ck b).run E.P w = .ok (if b then .tuple #[zv,.bool false]else zv) w:=by
    rcases ae with ⟨rfl,rfl⟩|⟨b',cl,rfl,he⟩
    ·simp only[Instr.lookup,Sem.run_bind,a0c ok w hu,Result.andThen_ok,Sem.run_pure,bA,gz,Option.map_none,ek]
    ·simp only[Instr.lookup,Sem.run_bind,a0c ok w hu,Result.andThen_ok,getObj,Sem.run,he,Sem.run_pure,bA,gz,Option.map_none,ek]
   have fin:∀v0,VRel I w ρ v0 zv→(bif b then AV.tuple [v0,.bool false]else v0)=v→Val E I K ρ h n w (Instr.lookup t c ck b) v .none:=by
    intro v0 h0 lb;refine Val.here r nF ?_;subst lb;cases b
    ·exact h0
    ·simp only[e9i,f1a,VRel];exact⟨_,rfl,by simp only[VRels];exact⟨_,_,rfl,h0,_,_,rfl,by simp[VRel],rfl⟩⟩
   rw[cond_eq_ite]at hv;split at hv
   ·rename_i dA;obtain⟨a,rfl⟩:=(b6r ok hd hz ek).1 dA;simp only[Option.some.injEq]at hv;exact fin (.agg z) (by simp only[VRel];exact⟨a,rfl,bZ⟩) hv
   ·rename_i dA;split at hv
    case h_2=>cases hv
    rename_i v0 _;simp only[Option.some.injEq]at hv;have hc:=(b6r ok hd hz ek).2 (by simpa using dA);rw[hc]at bZ;simp only[VRels]at bZ;obtain⟨c0,pq,he,h0,_⟩:=bZ;simp only[List.cons.injEq]at he;exact fin v0 (by rw[he.1];exact h0) hv
end
end Go.Ax
/- AxMap2: maps that are b2d. -/
namespace Go.Ax
section
variable {E:Env}{I K:Nat→Prop}{ρ:PMap}{h:FHeap}{n:Nat}{w:World}
def a8x(E:Env)(h:FHeap)(t:TypeId)(m k:AV):Option (Nat×List AV×List AV×List Nat×Nat×Option Nat):=
 match E.und t,m with
 |some (.map kt _),.map b=>bif b9j E kt&&b60 E kt k then
  match h b with
  |some (.map ks vs bs cl)=>match a1v (aeq E 6 kt) k ks 0 with
   |some (some i)=>match ks[i]? with
    |some k0=>bif d53 k0 k then some (b,ks,vs,bs,cl,some i)else none
    |none=>none
   |some none=>some (b,ks,vs,bs,cl,none)
   |none=>none
  |_=>none
  else none
 |_,_=>none
def a1y(E:Env)(h:FHeap)(t:TypeId)(m k v:AV):Option Eff:=
 match a8x E h t m k with
 |some (b,ks,vs,bs,cl,some i)=>some (.set b (.map ks (vs.set i v) bs cl))
 |some (b,ks,vs,bs,cl,none)=>some (.set b (.map (ks++[k]) (vs++[v]) (bs++[cl]) (cl+1)))
 |none=>none
theorem a4j{ks:List AV}{es:Array MapEntry}(i:Nat)(f:MapEntry→MapEntry)(hf:∀e,es[i]?=some e→(f e).key=e.key)(hk:VRels I w ρ ks (es.toList.map (·.key))) :
 VRels I w ρ ks ((es.modify i f).toList.map (·.key)):=by
 have:(es.modify i f).toList.map (·.key)=es.toList.map (·.key):=by
  apply e9p;intro j;simp only[e8a,f1s,Array.getElem?_modify];split
  ·rename_i hj;subst hj;cases he:es[i]? with
   |none=>simp
   |some e=>simp[hf e he]
  ·rfl
 rw[this];exact hk
theorem a6c{vs:List AV}{v:AV}{c:Value}{es:Array MapEntry}(i:Nat)(f:MapEntry→MapEntry)(hf:∀e,(f e).val=c)(hv:VRel I w ρ v c)(hk:VRels I w ρ vs (es.toList.map (·.val))) :
 VRels I w ρ (vs.set i v) ((es.modify i f).toList.map (·.val)):=by
 have:(es.modify i f).toList.map (·.val)=(es.toList.map (·.val)).set i c:=by
  apply e9p;intro j;simp only[e8a,f1s,Array.getElem?_modify,e8n,c10,e9n];split
  ·rename_i hj;subst hj;split
   ·rename_i aj;simp[aj,hf]
   ·rename_i aj;simp[Array.getElem?_eq_none (Nat.le_of_not_lt aj)]
  ·rfl
 rw[this];exact VRels.set i hk hv
theorem a87{es:Array MapEntry}(i:Nat)(f:MapEntry→MapEntry)(hf:∀e,(f e).born=e.born):(es.modify i f).toList.map (·.born)=es.toList.map (·.born):=by
 apply e9p;intro j;simp only[e8a,f1s,Array.getElem?_modify];split
 ·rename_i hj;subst hj;cases es[i]?<;>simp[hf]
 ·rfl
theorem a3c{b:Nat}{es:Array MapEntry}{cl:Nat}(o:Obj)(he:w.heap[b]?=some (.map es cl)):(setObj b o).run E.P w = .ok () { w with heap:=w.heap.setIfInBounds b o }:=by simp[setObj,Sem.run,he]
theorem a5k(r:HRel E.G I K ρ h w){b:Nat}{m:Pl}{o0:AObj}(hb:h b=some o0)(hm:ρ b=some m){es dh:Array MapEntry}{cl gk:Nat}(he:w.heap[m.blk]?=some (.map es cl))
 {ks vs:List AV}{bs:List Nat}(hk:VRels I w ρ ks (dh.toList.map (·.key)))(hv:VRels I w ρ vs (dh.toList.map (·.val)))(qA:dh.toList.map (·.born)=bs) :
 Stepped E.G I K ρ w I ρ (h.eff n (.set b (.map ks vs bs gk))) { w with heap:=w.heap.setIfInBounds m.blk (.map dh gk) }:=by
 have aj:m.blk<w.heap.size:=(f0n.1 he).1;obtain⟨m',aX,dy,_,_⟩:=r.live b _ hb;obtain rfl:m=m':=z9o (hm.symm.trans aX);have bG:∀c,c≠m.blk→({ w with heap:=w.heap.setIfInBounds m.blk (.map dh gk) }:World).heap[c]?=w.heap[c]?:=by intro c hc;show(w.heap.setIfInBounds _ _)[c]?=_;rw[f0m,e8g (λh=>hc h.symm)]
 have cw:∀c,I c→({ w with heap:=w.heap.setIfInBounds m.blk (.map dh gk) }:World).heap[c]?=w.heap[c]?:=λc hc=>bG c (λe=>dy (e▸hc));refine a1z r hb hm (by simp) bG rfl rfl rfl ?_;refine⟨dh,?_,VRels.mono (λ_ h=>h) cw ks (λ_ _ h=>h) hk,VRels.mono (λ_ h=>h) cw vs (λ_ _ h=>h) hv,qA⟩;show(w.heap.setIfInBounds _ _)[_]?=_;rw[f0m,e8j rfl,e8j aj]
theorem a9z(ok:EnvOk E)(r:HRel E.G I K ρ h w){t:TypeId}{m k:AV}{c ck:Value}{b cl:Nat}{ks vs:List AV}{bs:List Nat}{oi:Option Nat}
 (hp:a8x E h t m k=some (b,ks,vs,bs,cl,oi))(hm:VRel I w ρ m c)(hk:VRel I w ρ k ck) :
 ∃(pl:Pl) (es:Array MapEntry) (kt et:TypeId),c = .map (some pl.blk)∧h b=some (.map ks vs bs cl)∧ρ b=some pl∧w.heap[pl.blk]?=some (.map es cl)∧
  VRels I w ρ ks (es.toList.map (·.key))∧VRels I w ρ vs (es.toList.map (·.val))∧es.toList.map (·.born)=bs∧(underlying t).run E.P w = .ok (.map kt et) w∧E.und t=some (.map kt et)∧
  (Instr.checkKey false 10000 kt ck).run E.P w = .ok () w∧
  (Instr.findKey kt ck es.toList).run E.P w = .ok (oi.map λj=>(j,((es.toList[j]?).map (·.val)).getD undef)) w∧
  (∀i,oi=some i→∃e,es[i]?=some e∧e.key=ck∧Instr.sameBits 10000 e.key ck=true):=by
 unfold a8x at hp;split at hp
 case h_2=>cases hp
 rename_i kt et b' hu;rw[cond_eq_ite]at hp;split at hp
 case isFalse=>cases hp
 rename_i cf;simp only[e7h]at cf;split at hp
 case h_2=>cases hp
 rename_i jE ee uV gk hb;simp only[VRel]at hm;obtain⟨pl,cC,rfl⟩:=hm;obtain⟨m',aX,_,_,ho⟩:=r.live b' _ hb;obtain rfl:pl=m':=z9o (cC.symm.trans aX);obtain⟨es,he,h1,h2,h3⟩:=ho;have bA:=b45 (w:=w) ok cf.1 hk cf.2 false;split at hp
 ·rename_i i hf;split at hp
  case h_2=>cases hp
  rename_i k0 hk0;rw[cond_eq_ite]at hp;split at hp
  case isFalse=>cases hp
  rename_i hs;cases hp;obtain⟨gz,aj⟩:=b0t ok cf.1 hk hf h1;obtain⟨cv,aV,me⟩:=VRels.get i h1 hk0;obtain⟨cE,lk⟩:=d52 hs me hk;rw[e8a]at aV;cases ir:es.toList[i]? with
  |none=>rw[ir]at aV;cases aV
  |some e=>rw[ir]at aV;simp only[e8d,Option.some.injEq]at aV;refine⟨pl,es,kt,et,rfl,hb,cC,he,h1,h2,h3,a0c ok w hu,hu,bA,gz,?_⟩;intro i' im;cases im;exact⟨e,by simpa using ir,by rw[aV];exact cE,by rw[aV];exact lk⟩
 ·rename_i hf;cases hp;obtain⟨gz,aj⟩:=b0t ok cf.1 hk hf h1;exact⟨pl,es,kt,et,rfl,hb,cC,he,h1,h2,h3,a0c ok w hu,hu,bA,gz,λi hi=>by cases hi⟩
 ·cases hp
theorem b02(ok:EnvOk E)(r:HRel E.G I K ρ h w){t:TypeId}{m k v:AV}{c ck cv:Value}{e:Eff}(hu:a1y E h t m k v=some e)(hm:VRel I w ρ m c)(hk:VRel I w ρ k ck)(hv:VRel I w ρ v cv) :
 e4l E I K ρ h n w (Instr.mapUpdate t c ck cv) e:=by
 unfold a1y at hu;split at hu
 ·rename_i b ks vs bs cl i hp;cases hu;obtain⟨pl,es,kt,et,rfl,hb,cC,he,h1,h2,h3,fa,_,bA,gz,hi⟩:=a9z ok r hp hm hk;obtain⟨e,ir,qq,lk⟩:=hi i rfl;refine⟨_,ρ,?_,a5k (dh:=es.modify i λe=>{ e with key:=ck,val:=cv }) r hb cC he ?_ ?_ ?_,Moves.same _ _ _⟩
  ·have:((es[i]?).map (·.key)).getD ck=e.key:=by simp[ir]
   simp only[Instr.mapUpdate,Sem.run_bind,fa,Result.andThen_ok,getObj,Sem.run,he,bA,gz,e8d,this,Instr.keyThatStays,lk,f1a,Sem.run_pure,a3c _ he]
  ·exact a4j i _ (λe' ez=>by rw[ir]at ez;cases ez;exact qq.symm) h1
  ·exact a6c i _ (λ_=>rfl) hv h2
  ·exact(a87 (es:=es) i (λe=>{ e with key:=ck,val:=cv }) (λ_=>rfl)).trans h3
 ·rename_i b ks vs bs cl hp;cases hu;obtain⟨pl,es,kt,et,rfl,hb,cC,he,h1,h2,h3,fa,_,bA,gz,_⟩:=a9z ok r hp hm hk;refine⟨_,ρ,?_,a5k (dh:=es.push { key:=ck,val:=cv,born:=cl }) (gk:=cl+1) r hb cC he ?_ ?_ ?_,Moves.same _ _ _⟩
  ·simp only[Instr.mapUpdate,Sem.run_bind,fa,Result.andThen_ok,getObj,Sem.run,he,bA,gz,Option.map_none,a3c _ he]
  ·simp only[f2u,e8l,e12,e7j];exact VRels.append h1 (by simp only[VRels];exact⟨_,_,rfl,hk,rfl⟩)
  ·simp only[f2u,e8l,e12,e7j];exact VRels.append h2 (by simp only[VRels];exact⟨_,_,rfl,hv,rfl⟩)
  ·simp[h3]
 ·cases hu
def c0j(d:TypeDesc)(z:List AV):Option AV:=bif a26 d then some (.agg z)else match z with|[v]=>some v|_=>none
def b03(E:Env)(h:FHeap)(t:TypeId)(m k:AV):Option (AV×Eff):=
 match a8x E h t m k with
 |some (b,ks,vs,bs,cl,some i)=>match vs[i]?,bs[i]? with
  |some v,some s=>some (.tuple [v,.int .i64 s],.set b (.map ks vs bs cl))
  |_,_=>none
 |some (b,ks,vs,bs,cl,none)=>match E.und t with
  |some (.map _ et)=>match E.zero et,E.und et with
   |some z,some d=>match c0j d z with
    |some v=>some (.tuple [v,.int .i64 cl],.set b (.map (ks++[k]) (vs++[v]) (bs++[cl]) (cl+1)))
    |none=>none
   |_,_=>none
  |_=>none
 |none=>none
theorem d1v(ok:EnvOk E){t:TypeId}{d:TypeDesc}{z:List AV}{v:AV}(hd:E.und t=some d)(hz:E.zero t=some z)
 (hv:c0j d z=some v):∃zv,(∀w',(zeroValue t).run E.P w' = .ok zv w')∧∀I w' ρ,VRel I w' ρ v zv:=by
 obtain⟨_,i,z',hi,eJ,_,bw⟩:=ok.zero t z hz;have ae:∀w',(zeroValue t).run E.P w' = .ok z' w':=λw'=>by simp[zeroValue,typeInfo,hi,eJ]
 obtain⟨s1,s2⟩:=ok.zshape t d i z' hd hi eJ;refine⟨z',ae,λI w' ρ=>?_⟩;have bZ:VRels I w' ρ z z'.cells.toList:=VRels.noRef_any (bw I w');unfold c0j at hv;rw[cond_eq_ite]at hv;split at hv
 ·rename_i dA;obtain⟨a,rfl⟩:=s1 dA;simp only[Option.some.injEq]at hv;subst hv;simp only[VRel];exact⟨a,rfl,bZ⟩
 ·rename_i dA;split at hv
  case h_2=>cases hv
  cases hv;rw[s2 (by simpa using dA)]at bZ;simp only[VRels]at bZ;obtain⟨c0,pq,he,h0,_⟩:=bZ;simp only[List.cons.injEq]at he;rw[he.1];exact h0
theorem c0e(ok:EnvOk E)(r:HRel E.G I K ρ h w){t:TypeId}{m k v:AV}{c ck:Value}{e:Eff}(hu:b03 E h t m k=some (v,e))(hm:VRel I w ρ m c)(hk:VRel I w ρ k ck) :
 Val E I K ρ h n w (Instr.mapEntry t c ck) v e:=by
 unfold b03 at hu;split at hu
 ·rename_i b ks vs bs cl i hp;split at hu
  case h_2=>cases hu
  rename_i v0 s lb hs;cases hu;obtain⟨pl,es,kt,et,rfl,hb,cC,he,h1,h2,h3,fa,_,bA,gz,hi⟩:=a9z ok r hp hm hk;obtain⟨e,ir,qq,lk⟩:=hi i rfl;obtain⟨cv,aV,me⟩:=VRels.get i h2 lb;have aB:(es.toList.map (·.born))[i]?=some s:=by rw[h3];exact hs
  rw[e8a]at aV aB;have qr:es.toList[i]?=some e:=by simpa using ir
  rw[qr]at aV aB;simp only[e8d,Option.some.injEq]at aV aB;have step:=a5k (n:=n) (dh:=es.modify i λe=>{ e with key:=ck }) (gk:=cl) r hb cC he (a4j i _ (λe' ez=>by rw[ir]at ez;cases ez;exact qq.symm) h1)
   (show VRels I w ρ vs _ by
    have:(es.modify i λe=>{ e with key:=ck }).toList.map (·.val)=es.toList.map (·.val):=by
     apply e9p;intro j;simp only[e8a,f1s,Array.getElem?_modify];split
     ·rename_i hj;subst hj;cases es[i]?<;>simp
     ·rfl
    rw[this];exact h2) ((a87 (es:=es) i (λe=>{ e with key:=ck }) (λ_=>rfl)).trans h3)
  refine⟨.tuple #[cv,goInt s],_,ρ,?_,step,?_,Moves.same _ _ _⟩
  ·have h5:((es[i]?).map (·.key)).getD ck=e.key:=by simp[ir]
   have h6:((es[i]?).map (λx=>(x.born:Int))).getD 0=s:=by simp[ir,aB]
   have h7:((es.toList[i]?).map (·.val)).getD undef=cv:=by simp[ir,aV]
   simp only[Instr.mapEntry,Sem.run_bind,fa,Result.andThen_ok,getObj,Sem.run,he,bA,gz,e8d,h5,h6,h7,Instr.keyThatStays,lk,f1a,Sem.run_pure,a3c _ he]
  ·refine step.vrel ?_;simp only[VRel];exact⟨_,rfl,by simp only[VRels];exact⟨_,_,rfl,me,_,_,rfl,by simp[VRel,goInt],rfl⟩⟩
 ·rename_i b ks vs bs cl hp;split at hu
  case h_2=>cases hu
  rename_i uy et m6;split at hu
  case h_2=>cases hu
  rename_i z d hz hd;split at hu
  case h_2=>cases hu
  rename_i v0 lb;cases hu;obtain⟨pl,es,kt,uR,rfl,hb,cC,he,h1,h2,h3,fa,iG,bA,gz,_⟩:=a9z ok r hp hm hk;rw[m6]at iG;simp only[Option.some.injEq,TypeDesc.map.injEq]at iG;obtain⟨rfl,rfl⟩:=iG;obtain⟨zv,ek,bZ⟩:=d1v ok hd hz lb;have step:=a5k (n:=n) (dh:=es.push { key:=ck,val:=zv,born:=cl }) (gk:=cl+1) (ks:=ks++[k]) (vs:=vs++[v0]) (bs:=bs++[cl]) r hb cC he
   (by simp only[f2u,e8l,e12,e7j];exact VRels.append h1 (by simp only[VRels];exact⟨_,_,rfl,hk,rfl⟩))
   (by simp only[f2u,e8l,e12,e7j];exact VRels.append h2 (by simp only[VRels];exact⟨_,_,rfl,bZ _ _ _,rfl⟩)) (by simp[h3])
  refine⟨.tuple #[zv,goInt cl],_,ρ,?_,step,?_,Moves.same _ _ _⟩
  ·simp only[Instr.mapEntry,Sem.run_bind,fa,Result.andThen_ok,getObj,Sem.run,he,bA,gz,Option.map_none,ek,a3c _ he,Sem.run_pure]
  ·simp only[VRel];exact⟨_,rfl,by simp only[VRels];exact⟨_,_,rfl,bZ _ _ _,_,_,rfl,by simp[VRel,goInt],rfl⟩⟩
 ·cases hu
def a4t(h:FHeap)(m s v:AV):Option Eff:=
 match m,s with
 |.map b,.int _ i=>match h b with
  |some (.map ks vs bs cl)=>match bs.findIdx? (λ(x:Nat)=>(x:Int)==i)with
   |some j=>some (.set b (.map ks (vs.set j v) bs cl))
   |none=>none
  |_=>none
 |_,_=>none
theorem b4z(r:HRel E.G I K ρ h w){t:TypeId}{m s v:AV}{c cs cv:Value}{e:Eff}(hu:a4t h m s v=some e)(hm:VRel I w ρ m c)(hs:VRel I w ρ s cs)(hv:VRel I w ρ v cv) :
 e4l E I K ρ h n w (Instr.entryStore t c cs cv) e:=by
 unfold a4t at hu;split at hu
 case h_2=>cases hu
 rename_i b kk i;split at hu
 case h_2=>cases hu
 rename_i ks vs bs cl hb;split at hu
 case h_2=>cases hu
 rename_i j hj;cases hu;simp only[VRel]at hm hs;obtain⟨pl,cC,rfl⟩:=hm;subst hs;obtain⟨m',aX,_,_,ho⟩:=r.live b _ hb;obtain rfl:pl=m':=z9o (cC.symm.trans aX);obtain⟨es,he,h1,h2,h3⟩:=ho;have jW:es.findIdx? (λe=>(e.born:Int)==i)=some j:=by rw[←h3,List.findIdx?_map]at hj;rw[show es.findIdx? (λe=>(e.born:Int)==i)=es.toList.findIdx? (λe=>(e.born:Int)==i) by cases es;simp];exact hj
 refine⟨_,ρ,?_,a5k (dh:=es.modify j λe=>{ e with val:=cv }) r hb cC he ?_ ?_ ?_,Moves.same _ _ _⟩
 ·simp only[Instr.entryStore,Sem.run_bind,getObj,Sem.run,he,Result.andThen_ok,asInt,asIntOf,Sem.run_pure,jW,a3c _ he]
 ·exact a4j j _ (λ_ _=>rfl) h1
 ·exact a6c j _ (λ_=>rfl) hv h2
 ·exact(a87 (es:=es) j (λe=>{ e with val:=cv }) (λ_=>rfl)).trans h3
end
end Go.Ax
/- AxSet: sets of numbers: lookup, update, delete, ranging. -/
namespace Go.Ax
section
variable {E:Env}{I K:Nat→Prop}{ρ:PMap}{h:FHeap}{n:Nat}{w:World}
def oor{α:Type}(a b:Option α):Option α:=match a with
 |some x=>some x
 |none=>b
theorem a96{α:Type}{a b:Option α}{x:α}(h:oor a b=some x):a=some x∨b=some x:=by
 cases a with
 |none=>exact .inr h
 |some y=>exact .inl h
def e37:Option TypeDesc→Bool
 |some (.int .i64)=>true
 |_=>false
def c9h:Option TypeDesc→Bool
 |some .bool=>true
 |_=>false
def c3g:Option (List AV)→Bool
 |some [.bool b]=>!b
 |_=>false
def b6s(E:Env)(t:TypeId):Bool:=match E.und t with
 |some (.map kt et)=>e37 (E.und kt)&&(c9h (E.und et)&&c3g (E.zero et))
 |_=>false
theorem b2e{t:TypeId}(hu:b6s E t=true):∃kt et,E.und t=some (.map kt et)∧E.und kt=some (.int .i64)∧E.und et=some .bool∧E.zero et=some [.bool false]:=by
 unfold b6s at hu;split at hu
 case h_2=>cases hu
 rename_i kt et he;simp only[e7h]at hu;obtain⟨h1,h2,h3⟩:=hu;refine⟨kt,et,he,?_,?_,?_⟩
 ·unfold e37 at h1;split at h1
  ·assumption
  ·cases h1
 ·unfold c9h at h2;split at h2
  ·assumption
  ·cases h2
 ·unfold c3g at h3;split at h3
  ·rename_i b hb;cases b
   ·exact hb
   ·cases h3
  ·cases h3
section
variable {ks:List Int}{es:Array MapEntry}{cl:Nat}
theorem USet.key(hs:USet ks es cl){e:MapEntry}(he:e∈es.toList):∃y∈ks,e.key = .int .i64 y:=by have h1:=hs.1.mem_iff.1 (f0z (f:=(·.key)) he);obtain⟨y,hy,h2⟩:=f0r.1 h1;exact⟨y,hy,h2.symm⟩
theorem USet.has(hs:USet ks es cl){x:Int}(hx:x∈ks):∃e∈es.toList,e.key = .int .i64 x:=by have h1:=hs.1.mem_iff.2 (f0z (f:=Value.int .i64) hx);obtain⟨e,he,h2⟩:=f0r.1 h1;exact⟨e,he,h2⟩
theorem b7g{a b:Int}(h:Value.int .i64 a=Value.int .i64 b):a=b:=by cases h;rfl
theorem USet.keys_nodup(hs:USet ks es cl):(es.toList.map (·.key)).Nodup:=by rw[hs.1.nodup_iff];exact List.Pairwise.map _ (λa b bB e=>bB (b7g e)) hs.2.2.1
theorem b3v(x:Int):∀(es:List MapEntry) (i:Nat),(∀e∈es,∃y,e.key = .int .i64 y)→
 (∃j e,es[j]?=some e∧e.key = .int .i64 x∧Instr.findNow (.int .i64) (.int .i64 x) es i=some (some (i+j,e.val)))∨
  ((∀e∈es,e.key≠ .int .i64 x)∧Instr.findNow (.int .i64) (.int .i64 x) es i=some none)
 | [],i,_=>.inr ⟨by simp,rfl⟩
 |e::es,i,h=>by
  obtain⟨y,hy⟩:=h e (by simp);by_cases pA:x=y
  ·subst pA;exact .inl ⟨0,e,rfl,hy,by simp[Instr.findNow,Instr.sameNow,hy]⟩
  ·have e1:Instr.findNow (.int .i64) (.int .i64 x) (e::es) i=Instr.findNow (.int .i64) (.int .i64 x) es (i+1):=by
    have hb:(x==y)=false:=by simpa using pA
    simp[Instr.findNow,Instr.sameNow,hy,hb]
   rcases b3v x es (i+1) (λe he=>h e (by simp[he]))with ⟨j,e',h1,h2,h3⟩|⟨h1,h2⟩
   ·exact .inl ⟨j+1,e',by simpa using h1,h2,by rw[e1,h3,show i+1+j=i+(j+1) by omega]⟩
   ·refine .inr ⟨?_,by rw[e1,h2]⟩;intro e' ez;rcases e9m.1 ez with rfl|ez
    ·rw[hy];exact λe=>pA (b7g e).symm
    ·exact h1 e' ez
theorem b6x(ok:EnvOk E){kt:TypeId}(hk:E.und kt=some (.int .i64))(hs:USet ks es cl)(x:Int) :
 (∃j e,es[j]?=some e∧e.key = .int .i64 x∧x∈ks∧(Instr.findKey kt (.int .i64 x) es.toList).run E.P w = .ok (some (j,.bool true)) w)∨
  (x∉ks∧(Instr.findKey kt (.int .i64 x) es.toList).run E.P w = .ok none w):=by
 rcases b3v x es.toList 0 (λe he=>by obtain⟨y,_,h⟩:=hs.key he;exact⟨y,h⟩)with ⟨j,e,h1,h2,h3⟩|⟨h1,h2⟩
 ·refine .inl ⟨j,e,by simpa using h1,h2,?_,?_⟩
  ·obtain⟨y,hy,h4⟩:=hs.key (c11 h1);rw[h2]at h4;rw[b7g h4];exact hy
  ·unfold Instr.findKey;simp only[Sem.run_bind,a0c ok w hk,Result.andThen_ok,h3,e9y,hs.2.1 e (c11 h1),Sem.run_pure]
 ·refine .inr ⟨λhx=>?_,?_⟩
  ·obtain⟨e,he,h3⟩:=hs.has hx;exact h1 e he h3
  ·unfold Instr.findKey;simp only[Sem.run_bind,a0c ok w hk,Result.andThen_ok,h2,Sem.run_pure]
end
def b53(h:FHeap):AV→Option (List Int)
 |.iset ks=>some ks
 |.map b=>match h b with
  |some (.uset ks)=>some ks
  |_=>none
 |_=>none
theorem c71(r:HRel E.G I K ρ h w){x:AV}{ks:List Int}{c:Value}(hu:b53 h x=some ks)(hx:VRel I w ρ x c) :
 ∃b es cl,c = .map (some b)∧w.heap[b]?=some (.map es cl)∧USet ks es cl:=by
 unfold b53 at hu;split at hu
 ·cases hu;simp only[VRel]at hx;obtain⟨b,es,cl,rfl,_,he,hs⟩:=hx;exact⟨b,es,cl,rfl,he,hs⟩
 ·rename_i b;split at hu
  case h_2=>cases hu
  rename_i jE hb;cases hu;simp only[VRel]at hx;obtain⟨m,hm,rfl⟩:=hx;obtain⟨m',aX,_,_,es,cl,he,hs⟩:=r.live b _ hb;obtain rfl:m=m':=z9o (hm.symm.trans aX);exact⟨m.blk,es,cl,rfl,he,hs⟩
 ·cases hu
/-! ### lookup -/
def b4i(E:Env)(h:FHeap)(t:TypeId)(x k:AV)(ok:Bool):Option AV:=match b53 h x,k with
 |some ks,.int .i64 i=>bif b6s E t then some (bif ok then .tuple [.bool (ks.contains i),.bool (ks.contains i)]else .bool (ks.contains i))else none
 |_,_=>none
theorem d1e(ok:EnvOk E)(r:HRel E.G I K ρ h w){t:TypeId}{x k v:AV}{c ck:Value}{b:Bool}(hv:b4i E h t x k b=some v)(hx:VRel I w ρ x c)(hk:VRel I w ρ k ck) :
 Val E I K ρ h n w (Instr.lookup t c ck b) v .none:=by
 unfold b4i at hv;split at hv
 case h_2=>cases hv
 rename_i ks i hu;rw[cond_eq_ite]at hv;split at hv
 case isFalse=>cases hv
 rename_i ht;obtain⟨kt,et,h1,h2,h3,h4⟩:=b2e ht;obtain⟨bb,es,cl,rfl,he,hs⟩:=c71 r hu hx;simp only[VRel]at hk;subst hk;have bA:=a3o (w:=w) ok (d:=.int .i64) rfl h2 es.isEmpty 9999 (.int .i64 i);have fin:∀q:Bool,(Instr.lookup t (.map (some bb)) (.int .i64 i) b).run E.P w = .ok (if b then .tuple #[.bool q,.bool q]else .bool q) w→ks.contains i=q→Val E I K ρ h n w (Instr.lookup t (.map (some bb)) (.int .i64 i) b) v .none:=by
  intro q ae hq;rw[hq]at hv;refine Val.here r ae ?_;cases b
  ·simp only[e9q,Option.some.injEq]at hv;subst hv;simp[VRel]
  ·simp only[e9i,Option.some.injEq]at hv;subst hv;simp only[f1a,VRel];exact⟨_,rfl,by simp only[VRels];exact⟨_,_,rfl,by simp[VRel],_,_,rfl,by simp[VRel],rfl⟩⟩
 rcases b6x (w:=w) ok h2 hs i with ⟨j,e,g1,g2,g3,g4⟩|⟨g1,g2⟩
 ·refine fin true ?_ (by simpa using g3);simp only[Instr.lookup,Sem.run_bind,a0c ok w h1,Result.andThen_ok,getObj,Sem.run,he,Sem.run_pure,bA,g4]
 ·refine fin false ?_ (by simpa using g1);obtain⟨zv,ek,_,bw⟩:=a6v ok w h4;have bZ:VRels I w ρ [.bool false] zv.cells.toList:=VRels.noRef_any (bw I w);rw[(b6r ok h3 h4 ek).2 rfl]at bZ;simp only[VRels]at bZ;obtain⟨c0,pq,gW,h0,_⟩:=bZ;simp only[List.cons.injEq]at gW;rw[←gW.1]at h0;simp only[VRel]at h0;subst h0;simp only[Instr.lookup,Sem.run_bind,a0c ok w h1,Result.andThen_ok,getObj,Sem.run,he,Sem.run_pure,bA,g2,ek]
/-! ### update -/
def e5k(x:Int):List Int→List Int
 | []=>[x]
 |y::l=>bif decide (x<y)then x::y::l else y::e5k x l
theorem b9m(x:Int):∀l:List Int,(e5k x l).Perm (x::l)
 | []=>List.Perm.refl _
 |y::l=>by
  simp only[e5k,cond_eq_ite];split
  ·exact List.Perm.refl _
  ·exact((b9m x l).cons y).trans (List.Perm.swap ..)
theorem b0l{α:Type}(g:MapEntry→α){es:Array MapEntry}(i:Nat)(f:MapEntry→MapEntry)(hf:∀e,es[i]?=some e→g (f e)=g e):(es.modify i f).toList.map g=es.toList.map g:=by
 apply e9p;intro j;simp only[e8a,f1s,Array.getElem?_modify];split
 ·rename_i hj;subst hj;cases he:es[i]? with
  |none=>simp
  |some e=>simp[hf e he]
 ·rfl
theorem a6d{ks:List Int}{es:Array MapEntry}{cl:Nat}:USet ks es cl↔(es.toList.map (·.key)).Perm (ks.map (Value.int .i64))∧(∀v∈es.toList.map (·.val),v = .bool true)∧ks.Nodup∧(es.toList.map (·.born)).Nodup∧∀b∈es.toList.map (·.born),b<cl:=by unfold USet;simp only[f0r,forall_exists_index,and_imp,forall_apply_eq_imp_iff₂]
theorem a62(r:HRel E.G I K ρ h w){b:Nat}{m:Pl}{o0:AObj}(hb:h b=some o0)(hm:ρ b=some m){es dh:Array MapEntry}{cl gk:Nat}(he:w.heap[m.blk]?=some (.map es cl)){ks:List Int}(hs:USet ks dh gk) :
 Stepped E.G I K ρ w I ρ (h.eff n (.set b (.uset ks))) { w with heap:=w.heap.setIfInBounds m.blk (.map dh gk) }:=by
 have aj:m.blk<w.heap.size:=(f0n.1 he).1;have bG:∀c,c≠m.blk→({ w with heap:=w.heap.setIfInBounds m.blk (.map dh gk) }:World).heap[c]?=w.heap[c]?:=by intro c hc;show(w.heap.setIfInBounds _ _)[c]?=_;rw[f0m,e8g (λh=>hc h.symm)]
 refine a1z r hb hm (by simp) bG rfl rfl rfl ⟨dh,gk,?_,hs⟩;show(w.heap.setIfInBounds _ _)[_]?=_;rw[f0m,e8j rfl,e8j aj]
def b4x(E:Env)(h:FHeap)(t:TypeId)(m k v:AV):Option Eff:=match m,k,v with
 |.map b,.int .i64 i,.bool q=>match h b with
  |some (.uset ks)=>bif b6s E t&&q then some (.set b (.uset (bif ks.contains i then ks else e5k i ks)))else none
  |_=>none
 |_,_,_=>none
theorem c47(ok:EnvOk E)(r:HRel E.G I K ρ h w){t:TypeId}{m k v:AV}{c ck cv:Value}{e:Eff}(hu:b4x E h t m k v=some e)(hm:VRel I w ρ m c)(hk:VRel I w ρ k ck)(hv:VRel I w ρ v cv) :
 e4l E I K ρ h n w (Instr.mapUpdate t c ck cv) e:=by
 unfold b4x at hu;split at hu
 case h_2=>cases hu
 rename_i b i q;split at hu
 case h_2=>cases hu
 rename_i ks hb;rw[cond_eq_ite]at hu;split at hu
 case isFalse=>cases hu
 rename_i ht;simp only[e7h]at ht;obtain⟨ht,rfl⟩:=ht;cases hu;obtain⟨kt,et,h1,h2,h3,h4⟩:=b2e ht;simp only[VRel]at hm hk hv;subst hk hv;obtain⟨pl,cC,rfl⟩:=hm;obtain⟨m',aX,_,_,es,cl,he,hs⟩:=r.live b _ hb;obtain rfl:pl=m':=z9o (cC.symm.trans aX);have bA:=a3o (w:=w) ok (d:=.int .i64) rfl h2 false 9999 (.int .i64 i);rcases b6x (w:=w) ok h2 hs i with ⟨j,e,g1,g2,g3,g4⟩|⟨g1,g2⟩
 ·have hc:ks.contains i=true:=by simpa using g3
  rw[hc,e9i];obtain⟨s1,s2,s3,s4,s5⟩:=a6d.1 hs;have k1:(es.modify j λe=>{ e with key:=.int .i64 i,val:=.bool true }).toList.map (·.key)=es.toList.map (·.key):=b0l _ j _ (λe' ez=>by rw[g1]at ez;cases ez;exact g2.symm);have k2:(es.modify j λe=>{ e with key:=.int .i64 i,val:=.bool true }).toList.map (·.val)=es.toList.map (·.val):=b0l _ j _ (λe' ez=>(hs.2.1 e' (by simpa using Array.mem_of_getElem? ez)).symm);have k3:(es.modify j λe=>{ e with key:=.int .i64 i,val:=.bool true }).toList.map (·.born)=es.toList.map (·.born):=b0l _ j _ (λe' ez=>rfl);refine⟨_,ρ,?_,a62 (dh:=es.modify j λe=>{ e with key:=.int .i64 i,val:=.bool true }) r hb cC he (a6d.2 ⟨by rw[k1];exact s1,by rw[k2];exact s2,s3,by rw[k3];exact s4,by rw[k3];exact s5⟩),Moves.same _ _ _⟩;have h5:((es[j]?).map (·.key)).getD (.int .i64 i) = .int .i64 i:=by simp[g1,g2]
  have h6:Instr.sameBits 10000 (.int .i64 i) (.int .i64 i)=true:=by simp[Instr.sameBits]
  simp only[Instr.mapUpdate,Sem.run_bind,a0c ok w h1,Result.andThen_ok,getObj,Sem.run,he,bA,g4,h5,Instr.keyThatStays,h6,f1a,Sem.run_pure,a3c _ he]
 ·have hc:ks.contains i=false:=by simpa using g1
  rw[hc,e9q];obtain⟨s1,s2,s3,s4,s5⟩:=a6d.1 hs;have hp:=b9m i ks;refine⟨_,ρ,?_,a62 (dh:=es.push { key:=.int .i64 i,val:=.bool true,born:=cl }) (gk:=cl+1) r hb cC he (a6d.2 ⟨?_,?_,?_,?_,?_⟩),Moves.same _ _ _⟩
  ·simp only[Instr.mapUpdate,Sem.run_bind,a0c ok w h1,Result.andThen_ok,getObj,Sem.run,he,bA,g2,a3c _ he]
  ·rw[f2u,e8l];refine(List.perm_append_comm.trans ?_).trans (hp.map _).symm;simpa using s1
  ·intro v hv;rw[f2u,e8l]at hv;rcases e9s.1 hv with h|h
   ·exact s2 v h
   ·simpa using h
  ·rw[hp.nodup_iff,f2c];exact⟨g1,s3⟩
  ·rw[f2u,e8l,List.nodup_append];refine⟨s4,by simp,?_⟩;intro a ha b' aW;have:=s5 a ha;simp only[e12,e7j,e8k]at aW;omega
  ·intro a ha;rw[f2u,e8l]at ha;rcases e9s.1 ha with h|h
   ·have:=s5 a h;omega
   ·simp only[e12,e7j,e8k]at h;omega
/-! ### delete -/
theorem a9w{α:Type}:∀{l:List α} {j:Nat} {e:α},l[j]?=some e→(e::l.eraseIdx j).Perm l
 | [],j,e,h=>by simp at h
 |a::l,0,e,h=>by simp at h;subst h;exact List.Perm.refl _
 |a::l,j+1,e,h=>by have ih:=a9w (l:=l) (j:=j) (e:=e) (by simpa using h);simp only[List.eraseIdx_cons_succ];exact(List.Perm.swap ..).trans (ih.cons a)
def c6k(E:Env)(h:FHeap)(t:TypeId)(m k:AV):Option Eff:=match m,k with
 |.map b,.int .i64 i=>match h b with
  |some (.uset ks)=>bif b6s E t then some (.set b (.uset (ks.filter λy=>!decide (y=i))))else none
  |_=>none
 |_,_=>none
theorem d5c(ok:EnvOk E)(r:HRel E.G I K ρ h w){t sO:TypeId}{m k:AV}{c ck:Value}{e:Eff}(ty:TypeId)(hu:c6k E h t m k=some e)(hm:VRel I w ρ m c)(hk:VRel I w ρ k ck) :
 Val E I K ρ h n w (Builtin.delete_ #[t,sO] ty #[c,ck]) (.tuple []) e:=by
 unfold c6k at hu;split at hu
 case h_2=>cases hu
 rename_i b i;split at hu
 case h_2=>cases hu
 rename_i ks hb;rw[cond_eq_ite]at hu;split at hu
 case isFalse=>cases hu
 rename_i ht;cases hu;obtain⟨kt,et,h1,h2,h3,h4⟩:=b2e ht;simp only[VRel]at hm hk;subst hk;obtain⟨pl,cC,rfl⟩:=hm;obtain⟨m',aX,_,_,es,cl,he,hs⟩:=r.live b _ hb;obtain rfl:pl=m':=z9o (cC.symm.trans aX);have bA:=a3o (w:=w) ok (d:=.int .i64) rfl h2 es.isEmpty 9999 (.int .i64 i);have kh:∀(w':World) (ρ':PMap),VRel I w' ρ' (.tuple []) (.tuple #[]):=λw' ρ'=>by simp only[VRel];exact⟨#[],rfl,by simp[VRels]⟩
 obtain⟨s1,s2,s3,s4,s5⟩:=a6d.1 hs;rcases b6x (w:=w) ok h2 hs i with ⟨j,e,g1,g2,g3,g4⟩|⟨g1,g2⟩
 ·have hj:j<es.toList.length:=by simpa using(f0n.1 g1).1
  have jY:(es.eraseIdxIfInBounds j).toList=es.toList.eraseIdx j:=by unfold Array.eraseIdxIfInBounds;rw[dif_pos (by simpa using hj)];simp
  have dZ:(e::es.toList.eraseIdx j).Perm es.toList:=a9w (by simpa using g1);have ns:(i::ks.filter λy=>!decide (y=i)).Perm ks:=by
   refine(List.perm_ext_iff_of_nodup ?_ s3).2 λz=>?_
   ·rw[f2c];exact⟨by simp,s3.filter _⟩
   ·simp only[e9m,f3a,f0x,decide_eq_false_iff_not];constructor
    ·rintro(rfl|h)
     ·exact g3
     ·exact h.1
    ·intro hz;by_cases re:z=i
     ·exact .inl re
     ·exact .inr ⟨hz,re⟩
  refine⟨.tuple #[],_,ρ,?_,a62 (dh:=es.eraseIdxIfInBounds j) (gk:=cl) r hb cC he (a6d.2 ⟨?_,?_,?_,?_,?_⟩),kh _ _,Moves.same _ _ _⟩
  ·have aO:(getObj pl.blk).run E.P w = .ok (.map es cl) w:=by simp[getObj,Sem.run,he]
   have aE:=a3c (E:=E) (.map (es.eraseIdxIfInBounds j) cl) he;simp[Builtin.delete_,a0c ok w h1,aO,bA,g4,aE]
  ·rw[jY];have h5:=(dZ.map (·.key)).trans (s1.trans (ns.map (Value.int .i64)).symm);simp only[e12,g2]at h5;exact h5.cons_inv
  ·intro v hv;rw[jY]at hv;exact s2 v ((dZ.map (·.val)).subset (by simp only[e12];exact f0w _ hv))
  ·exact s3.filter _
  ·rw[jY];have:=(dZ.map (·.born)).nodup_iff.2 s4;simp only[e12,f2c]at this;exact this.2
  ·intro v hv;rw[jY]at hv;exact s5 v ((dZ.map (·.born)).subset (by simp only[e12];exact f0w _ hv))
 ·have hf:(ks.filter λy=>!decide (y=i))=ks:=List.filter_eq_self.2 λy hy=>by simp;rintro rfl;exact g1 hy
  rw[hf];refine⟨.tuple #[],_,ρ,?_,a62 (dh:=es) (gk:=cl) r hb cC he hs,kh _ _,Moves.same _ _ _⟩;have aO:(getObj pl.blk).run E.P w = .ok (.map es cl) w:=by simp[getObj,Sem.run,he]
  have aE:=a3c (E:=E) (.map es cl) he;simp[Builtin.delete_,a0c ok w h1,aO,bA,g2,aE]
end
end Go.Ax
/- AxSet2: ranging over a set of numbers. -/
namespace Go.Ax
section
variable {E:Env}{I K:Nat→Prop}{ρ:PMap}{h:FHeap}{n:Nat}{w:World}
def c3f:Option TypeDesc→Bool
 |some (.map _ _)=>true
 |_=>false
theorem b61{d:Option TypeDesc}(h:c3f d=true):∃kt et,d=some (.map kt et):=by
 unfold c3f at h;split at h
 ·exact⟨_,_,rfl⟩
 ·cases h
def b85(E:Env)(n:Nat)(t:TypeId)(x:AV):Option (AV×Eff):=match x with
 |.iset ks=>bif c3f (E.und t)then some (.ptr n 0 0,.new (.miter ks [] none))else none
 |.nilmap=>bif c3f (E.und t)then some (.ptr n 0 0,.new (.miter [] [] none))else none
 |_=>none
theorem c6f(ok:EnvOk E)(r:HRel E.G I K ρ h w)(hn:h n=none)(hρ:ρ n=none){t:TypeId}{x v:AV}{c:Value}{e:Eff}(ha:b85 E n t x=some (v,e))(hx:VRel I w ρ x c) :
 Val E I K ρ h n w (Instr.range t c) v e:=by
 unfold b85 at ha;split at ha
 ·rename_i ks;rw[cond_eq_ite]at ha;split at ha
  case isFalse=>cases ha
  rename_i hu;cases ha;obtain⟨kt,et,hu⟩:=b61 hu;simp only[VRel]at hx;obtain⟨b,es,cl,rfl,hI,he,hs⟩:=hx;have aj:b<w.heap.size:=(f0n.1 he).1;refine⟨.pointer (some ⟨w.heap.size,0,none⟩),{ w with heap:=w.heap.push (.mapIter (some b) cl #[] cl) },ρ.set n ⟨w.heap.size,0,0,0⟩,?_,?_,?_,Moves.set _ _ _ rfl⟩
  ·simp[Instr.range,a0c ok w hu,getObj,Sem.run,he,newObj]
  ·refine a2a (ob:=.mapIter (some b) cl #[] cl) r hn hρ rfl rfl rfl rfl rfl ?_;refine⟨rfl,.inr ⟨b,es,cl,#[],hI,?_,hs,by simp,[],by simp,by simp,by simp⟩⟩;show(w.heap.push _)[b]?=_;rw[f3v,e8g (by omega)];exact he
  ·simp only[VRel];exact⟨_,by simp[PMap.set];rfl,by simp⟩
 ·rw[cond_eq_ite]at ha;split at ha
  case isFalse=>cases ha
  rename_i hu;cases ha;obtain⟨kt,et,hu⟩:=b61 hu;simp only[VRel]at hx;subst hx;refine⟨.pointer (some ⟨w.heap.size,0,none⟩),{ w with heap:=w.heap.push (.mapIter none 0 #[] 0) },ρ.set n ⟨w.heap.size,0,0,0⟩,?_,?_,?_,Moves.set _ _ _ rfl⟩
  ·simp[Instr.range,a0c ok w hu,newObj,Sem.run]
  ·exact a2a (ob:=.mapIter none 0 #[] 0) r hn hρ rfl rfl rfl rfl rfl ⟨rfl,.inl ⟨rfl,rfl,by simp⟩⟩
  ·simp only[VRel];exact⟨_,by simp[PMap.set];rfl,by simp⟩
 ·cases ha
def b13(h:FHeap)(it:AV):Option AV:=match it with
 |.ptr b 0 0=>match h b with
  |some (.miter _ cP _)=>match cP.getLast? with
   |some i=>some (.tuple [.int .i64 i,.bool true])
   |none=>none
  |_=>none
 |_=>none
theorem c6j(r:HRel E.G I K ρ h w){it v:AV}{c:Value}(ha:b13 h it=some v)(hx:VRel I w ρ it c):Val E I K ρ h n w (Instr.entry c) v .none:=by
 unfold b13 at ha;split at ha
 case h_2=>cases ha
 rename_i b;split at ha
 case h_2=>cases ha
 rename_i ks cP dj hb;split at ha
 case h_2=>cases ha
 rename_i i hi;cases ha;simp only[VRel]at hx;obtain⟨m,hm,rfl⟩:=hx;obtain⟨m',aX,_,_,h0,ho⟩:=r.live b _ hb;obtain rfl:m=m':=z9o (hm.symm.trans aX);rcases ho with ⟨_,h2,_⟩|⟨c,es,cl,seen,hI,he,hs,kH,dh,g1,g2,g3⟩
 ·rw[h2]at hi;cases hi
 ·have hl:(dh.map (·.key)).getLast?=some (.int .i64 i):=by rw[g3,List.getLast?_map,hi];rfl
  rw[List.getLast?_map]at hl;cases bl:dh.getLast? with
  |none=>rw[bl]at hl;cases hl
  |some e=>
   rw[bl]at hl;simp only[e8d,Option.some.injEq]at hl;have nT:=g1 e (List.mem_of_getLast? bl);have bW:seen.back?=some e.born:=by rw[←Array.getLast?_toList,←g2,List.getLast?_map,bl];rfl
   have nQ:es.find? (λx=>x.born==e.born)=some e:=by
    rw[←Array.find?_toList];have aU:=hs.2.2.2.1;have:∀l:List MapEntry,(l.map (·.born)).Nodup→e∈l→l.find? (λx=>x.born==e.born)=some e:=by
     intro l
     induction l with
     |nil=>intro _ h;cases h
     |cons a l ih=>
      intro hn hm;simp only[e12,f2c]at hn;rcases e9m.1 hm with rfl|hm
      ·simp
      ·have aw:(a.born==e.born)=false:=by
        rw[f0q];intro h;exact hn.1 (h▸f0z (f:=(·.born)) hm)
       rw[List.find?_cons,aw];exact ih hn.2 hm
    exact this _ aU nT
   refine Val.here (c:=.tuple #[.int .i64 i,.bool true]) r ?_ ?_
   ·simp[Instr.entry,h0,getObj,Sem.run,kH,he,bW,nQ,hl,hs.2.1 e nT]
   ·simp only[VRel];exact⟨_,rfl,by simp only[VRels];exact⟨_,_,rfl,by simp[VRel],_,_,rfl,by simp[VRel],rfl⟩⟩
theorem c2c(k:Nat)(hk:0<k):∃i d,i<k∧(choose (.mapNext k)).run E.P w = .ok i { w with drawn:=d }:=by
 simp only[choose,Sem.run];by_cases h:(Question.mapNext k).forced=true
 ·rw[e8j h];exact⟨0,w.drawn,hk,rfl⟩
 ·rw[e8g h];exact⟨_,w.drawn+1,f4n _ hk,rfl⟩
theorem c45{es:List MapEntry}{α:Type}(f:MapEntry→α)(hn:(es.map f).Nodup){a b:MapEntry}(ha:a∈es)(hb:b∈es)(h:f a=f b):a=b:=by
 induction es with
 |nil=>cases ha
 |cons x l ih=>
  simp only[e12,f2c]at hn;rcases e9m.1 ha with rfl|ha
  ·rcases e9m.1 hb with rfl|hb
   ·rfl
   ·exact absurd (h▸f0z (f:=f) hb) hn.1
  ·rcases e9m.1 hb with rfl|hb
   ·exact absurd (show f b∈l.map f from h▸f0z (f:=f) (by assumption)) hn.1
   ·exact ih hn.2 ha hb
theorem d31(r:HRel E.G I K ρ h w){b:Nat}{m:Pl}{ks cP:List Int}{dj:Option (Option Int)}(hb:h b=some (.miter ks cP dj))(hm:ρ b=some m)(ty:TypeId) :
 (∃i,i∈ks∧i∉cP∧∃w',(Instr.next (.pointer (some ⟨m.blk,0,none⟩)) false ty).run E.P w = .ok (.tuple #[.bool true,.int .i64 i,.bool true]) w'∧Stepped E.G I K ρ w I ρ (h.eff n (.set b (.miter ks (cP++[i]) none))) w')∨
  ((∀i∈ks,i∈cP)∧∃w',(Instr.next (.pointer (some ⟨m.blk,0,none⟩)) false ty).run E.P w = .ok (.tuple #[.bool false]) w'∧Stepped E.G I K ρ w I ρ (h.eff n (.set b (.miter ks cP none))) w'):=by
 obtain⟨m',aX,dy,_,h0,ho⟩:=r.live b _ hb;obtain rfl:m=m':=z9o (hm.symm.trans aX);rcases ho with ⟨h1,h2,h3⟩|⟨c,es,cl,seen,hI,he,hs,kH,dh,g1,g2,g3⟩
 ·subst h1 h2;exact .inr ⟨by simp,w,by simp[Instr.next,getObj,Sem.run,h3],a1z r hb hm rfl (λ_ _=>rfl) rfl rfl rfl ⟨h0,.inl ⟨rfl,rfl,h3⟩⟩⟩
 ·have kL:(getObj m.blk).run E.P w = .ok (.mapIter (some c) cl seen cl) w:=by simp[getObj,Sem.run,kH]
  have kK:(getObj c).run E.P w = .ok (.map es cl) w:=by simp[getObj,Sem.run,he]
  have jd:∀e∈es,e.born<cl:=λe he=>hs.2.2.2.2 e (by simpa using he);have fU:(!seen.isEmpty && !es.isEmpty&&es.all (λe=>decide (e.born≥cl)))=false:=by
   rw[Bool.and_eq_false_iff];by_cases nT:es.isEmpty=true
   ·left;simp[nT]
   ·right;have aw:es≠ #[]:=by simpa using nT
    rw[←Bool.not_eq_true,Array.all_eq_true_iff_forall_mem];intro aY;obtain⟨e,iu⟩:=Array.exists_mem_of_ne_empty es aw;have:=aY e iu;have:=jd e iu;simp only[e9j]at *;omega
  obtain⟨left,iT⟩:∃left,left=es.filter (λe=>!seen.contains e.born):=⟨_,rfl⟩
  have dm:∀e,e∈left↔e∈es∧e.born∉seen:=by intro e;rw[iT,Array.mem_filter];simp
  have aN:left.filter (λe=>decide (e.born<cl))=left:=by rw[Array.filter_eq_self];intro e hm;simpa using jd e ((dm e).1 hm).1
  have aS:left.filter (λe=>decide (e.born≥cl)) = #[]:=by rw[Array.filter_eq_empty_iff];intro e hm;have:=jd e ((dm e).1 hm).1;simp;omega
  have ko:∀e∈es,∀i,e.key = .int .i64 i→(e.born∈seen↔i∈cP):=by
   intro e iu i hi;have pT:=hs.2.2.2.1;have jN:=hs.keys_nodup;have jY:e∈es.toList:=by simpa using iu
   constructor
   ·intro h;have h1:e.born∈dh.map (·.born):=by rw[g2];simpa using h
    obtain⟨e',ez,h2⟩:=f0r.1 h1;have:=c45 (·.born) pT (g1 e' ez) jY h2;subst this;have h3:=f0z (f:=(·.key)) ez;rw[g3,hi]at h3;obtain⟨j,hj,h4⟩:=f0r.1 h3;rw[b7g h4]at hj;exact hj
   ·intro h;have h1:Value.int .i64 i∈dh.map (·.key):=by rw[g3];exact f0z h
    obtain⟨e',ez,h2⟩:=f0r.1 h1;have:=c45 (·.key) jN (g1 e' ez) jY (h2.trans hi.symm);subst this;have h3:=f0z (f:=(·.born)) ez;rw[g2]at h3;simpa using h3
  by_cases hl:left.isEmpty=true
  ·refine .inr ⟨λi hi=>?_,w,?_,a1z r hb hm rfl (λ_ _=>rfl) rfl rfl rfl ⟨h0,.inr ⟨c,es,cl,seen,hI,he,hs,kH,dh,g1,g2,g3⟩⟩⟩
   ·obtain⟨e,iu,hk⟩:=hs.has hi;have iu:e∈es:=by simpa using iu
    refine(ko e iu i hk).1 (Decidable.byContradiction λhn=>?_);have:=(dm e).2 ⟨iu,hn⟩;have h0:left = #[]:=by simpa using hl
    rw[h0]at this;simp at this
   ·have h0:left = #[]:=by simpa using hl
    simp only[Instr.next,Sem.run_bind,kL,Result.andThen_ok,kK,fU,←iT,aN,aS];simp[h0,choose,Sem.run,Question.forced]
  ·have ij:0<left.size:=by
    rcases Nat.eq_zero_or_pos left.size with h|h
    ·exact absurd (by simpa using Array.eq_empty_of_size_eq_zero h) hl
    ·exact h
   obtain⟨ix,d,tw,tM⟩:=c2c (E:=E) (w:=w) left.size ij;obtain⟨e,iu⟩:∃e,left[ix]?=some e:=⟨_,Array.getElem?_eq_getElem tw⟩
   obtain⟨jZ,oV⟩:=(dm e).1 (Array.mem_of_getElem? iu);obtain⟨i,hi,hk⟩:=hs.key (e:=e) (by simpa using jZ);have cz:=hs.2.1 e (by simpa using jZ);have eA:m.blk<w.heap.size:=(f0n.1 kH).1;have bO:c≠m.blk:=λe=>dy (e▸hI);refine .inl ⟨i,hi,λhv=>oV ((ko e jZ i hk).2 hv),{ w with heap:=w.heap.setIfInBounds m.blk (.mapIter (some c) cl (seen.push e.born) cl),drawn:=d },?_,?_⟩
   ·have aE:(setObj m.blk (.mapIter (some c) cl (seen.push e.born) cl)).run E.P { w with drawn:=d } = .ok () { w with heap:=w.heap.setIfInBounds m.blk (.mapIter (some c) cl (seen.push e.born) cl),drawn:=d }:=by
     simp[setObj,Sem.run,kH]
    have oX:left.isEmpty=false:=by simpa using hl
    simp only[Instr.next,Sem.run_bind,kL,Result.andThen_ok,kK,fU,←iT,aN,aS,oX,f0s,f3w,Array.empty_append,Array.append_empty,Array.size_map,tM,Array.getElem?_map,iu,e8d,aE,Sem.run_pure,hk,cz]
   ·refine a1z r hb hm (by simp) ?_ rfl rfl rfl ⟨h0,.inr ⟨c,es,cl,seen.push e.born,hI,?_,hs,?_,dh++[e],?_,?_,?_⟩⟩
    ·intro x hx;show(w.heap.setIfInBounds _ _)[x]?=_;rw[f0m,e8g (λh=>hx h.symm)]
    ·show(w.heap.setIfInBounds _ _)[c]?=_;rw[f0m,e8g (λh=>bO h.symm)];exact he
    ·show(w.heap.setIfInBounds _ _)[_]?=_;rw[f0m,e8j rfl,e8j eA]
    ·intro x hx;rcases e9s.1 hx with h|h
     ·exact g1 x h
     ·simp only[e8k]at h;subst h;simpa using jZ
    ·rw[e8l,g2,f2u];rfl
    ·rw[e8l,g3,e8l];simp[hk]
end
end Go.Ax
/- AxStr: ranging over a string. -/
namespace Go.Ax
section
variable {E:Env}{I K:Nat→Prop}{ρ:PMap}{h:FHeap}{n:Nat}{w:World}
def c4a(E:Env)(n:Nat)(t:TypeId)(x:AV):Option (AV×Eff):=
 match E.und t,x with
 |some .string,.str s=>some (.ptr n 0 0,.new (.siter s 0))
 |_,_=>none
theorem d16(ok:EnvOk E)(r:HRel E.G I K ρ h w)(hn:h n=none)(hρ:ρ n=none){t:TypeId}{x v:AV}{c:Value}{e:Eff}(ha:c4a E n t x=some (v,e))(hx:VRel I w ρ x c) :
 Val E I K ρ h n w (Instr.range t c) v e:=by
 unfold c4a at ha;split at ha
 case h_2=>cases ha
 rename_i s hu;cases ha;simp only[VRel]at hx;obtain⟨tb,rfl,ht⟩:=hx;refine⟨.pointer (some ⟨w.heap.size,0,none⟩),{ w with heap:=w.heap.push (.stringIter tb 0) },ρ.set n ⟨w.heap.size,0,0,0⟩,?_,?_,?_,Moves.set _ _ _ rfl⟩
 ·simp[Instr.range,a0c ok w hu]
 ·refine a2a (ob:=.stringIter tb 0) r hn hρ rfl rfl rfl rfl rfl ?_;exact⟨rfl,tb,by simp,ht⟩
 ·simp only[VRel];exact⟨_,by simp[PMap.set];rfl,by simp⟩
def c0c(h:FHeap)(it:AV)(iA:Bool):Option (AV×Eff):=
 match it with
 |.ptr b 0 0=>bif iA then match h b with
  |some (.siter s pos)=>bif Nat.blt pos s.length then
   some (.tuple [.bool true,.int .i64 pos,.int .i32 (Utf8.decode ⟨s.toArray⟩ pos).1],.set b (.siter s (pos+(Utf8.decode ⟨s.toArray⟩ pos).2)))
   else some (.tuple [.bool false],.none)
  |_=>none
  else none
 |_=>none
theorem d57(r:HRel E.G I K ρ h w){it v:AV}{b:Bool}{c:Value}{e:Eff}(ty:TypeId)(ha:c0c h it b=some (v,e))(hx:VRel I w ρ it c) :
 Val E I K ρ h n w (Instr.next c b ty) v e:=by
 unfold c0c at ha;split at ha
 case h_2=>cases ha
 rename_i bb;rw[cond_eq_ite]at ha;split at ha
 case isFalse=>cases ha
 rename_i hs;subst hs;split at ha
 case h_2=>cases ha
 rename_i s pos hb;simp only[VRel]at hx;obtain⟨m,hm,rfl⟩:=hx;obtain⟨m',aX,dy,_,h0,tb,he,ht⟩:=r.live bb _ hb;obtain rfl:m=m':=z9o (hm.symm.trans aX);have kj:tb=⟨s.toArray⟩:=by cases tb;simp only[ByteArray.mk.injEq]at ht⊢;apply f3t;simpa using ht
 have bF:tb.size=s.length:=by rw[kj];simp[ByteArray.size]
 have aO:(getObj m.blk).run E.P w = .ok (.stringIter tb pos) w:=by simp[getObj,Sem.run,he]
 rw[cond_eq_ite]at ha;split at ha
 ·rename_i aj;simp only[e9o]at aj;cases ha;have eA:m.blk<w.heap.size:=(f0n.1 he).1;refine⟨.tuple #[.bool true,goInt pos,.int .i32 (Utf8.decode tb pos).1],{ w with heap:=w.heap.setIfInBounds m.blk (.stringIter tb (pos+(Utf8.decode tb pos).2)) },ρ,?_,?_,?_,Moves.same _ _ _⟩
  ·have aE:(setObj m.blk (.stringIter tb (pos+(Utf8.decode tb pos).2))).run E.P w = .ok () { w with heap:=w.heap.setIfInBounds m.blk (.stringIter tb (pos+(Utf8.decode tb pos).2)) }:=by
    simp[setObj,Sem.run,he]
   simp only[Instr.next,h0,Nat.zero_mul,f3y,Sem.run_bind,aO,Result.andThen_ok];simp[bF,aj,aE]
  ·refine a1z r hb hm (by simp) ?_ rfl rfl rfl ?_
   ·intro c hc;show(w.heap.setIfInBounds _ _)[c]?=_;rw[f0m,e8g (λh=>hc h.symm)]
   ·refine⟨h0,tb,?_,ht⟩;show(w.heap.setIfInBounds _ _)[_]?=_;rw[f0m,e8j rfl,e8j eA,kj]
  ·simp only[VRel];exact⟨_,rfl,by simp only[VRels];exact⟨_,_,rfl,by simp[VRel],_,_,rfl,by simp[VRel,goInt],_,_,rfl,by simp[VRel,kj],rfl⟩⟩
 ·rename_i aj;cases ha;have aj:¬pos<s.length:=by simpa[e9o]using aj
  refine Val.here (c:=.tuple #[.bool false]) r ?_ ?_
  ·simp only[Instr.next,h0,Nat.zero_mul,f3y,Sem.run_bind,aO,Result.andThen_ok];simp[bF,aj]
  ·simp only[VRel];exact⟨_,rfl,by simp only[VRels];exact⟨_,_,rfl,by simp[VRel],rfl⟩⟩
end
end Go.Ax
/- AxAppZ: append of so many zero elements to nil (slices.Grow). -/
namespace Go.Ax
section
variable {E:Env}{I K:Nat→Prop}{ρ:PMap}{h:FHeap}{n:Nat}{w:World}
def a2r(E:Env)(n:Nat)(st xt:TypeId)(s x:AV):Option (AV×Eff):=match s,x with
 |.nilslice,.int _ l=>match E.und st,E.und xt with
  |some (.slice ac),some dx=>bif a2m dx&&decide (0≤l)then match E.zero ac with
   |some z=>bif Nat.blt 0 (E.sz ac)then(match l.toNat with
    |0=>some (.nilslice,.none)
    |m+1=>bif a28 E ac (m+1)then some (.slice n 0 (m+1) none,.new (.row (E.sz ac) (List.replicate (m+1) z)))else none)else none
   |none=>none
   else none
  |_,_=>none
 |_,_=>none
theorem c2m{st xt:TypeId}{s x:AV}{r:AV×Eff}(h:a2r E n st xt s x=some r)(n':Nat)(hp:FHeap):a4h E hp n' st xt s x=none:=by
 unfold a2r at h;split at h
 case h_2=>cases h
 split at h
 case h_2=>cases h
 rename_i ac dx hu eC;rw[cond_eq_ite]at h;split at h
 case isFalse=>cases h
 rename_i hc;simp only[e7h]at hc;unfold a4h;simp only[hu,eC,hc.1,Bool.true_or,e9i]
theorem c2l(ok:EnvOk E)(r:HRel E.G I K ρ h w)(hn:h n=none)(hρ:ρ n=none){st xt:TypeId}{s x v:AV}{e:Eff}{cs cx:Value}(ty:TypeId)
 (ha:a2r E n st xt s x=some (v,e))(hs:VRel I w ρ s cs)(hx:VRel I w ρ x cx):Val E I K ρ h n w (Builtin.append_ #[st,xt] ty #[cs,cx]) v e:=by
 unfold a2r at ha;split at ha
 case h_2=>cases ha
 rename_i k l;split at ha
 case h_2=>cases ha
 rename_i ac dx hu eC;rw[cond_eq_ite]at ha;split at ha
 case isFalse=>cases ha
 rename_i hc;simp only[e7h,e9j]at hc;obtain⟨jS,fk⟩:=hc;split at ha
 case h_2=>cases ha
 rename_i z hz;rw[cond_eq_ite]at ha;split at ha
 case isFalse=>cases ha
 rename_i bF;have bF:0<E.sz ac:=by simpa[e9o]using bF
 obtain⟨⟨de,bp⟩,i',z',im,eJ,jG,jF⟩:=ok.zero ac z hz;have fF:∀w',(zeroValue ac).run E.P w' = .ok z' w':=by intro w';simp[zeroValue,typeInfo,im,eJ]
 have dU:z'.cells.toList.length=E.sz ac:=by rw[←jG,VRels.length (jF (λ_=>False) w)]
 obtain⟨i,hi,_,iq⟩:=b1v ok w bp;have fR:∀w',(typeInfo ac).run E.P w' = .ok i w':=by intro w';have:=hi;simp[typeInfo,im]at this⊢;exact this
 obtain⟨ki,rfl⟩:∃ki,dx = .int ki:=by cases dx<;>simp[a2m]at jS;exact⟨_,rfl⟩
 simp only[VRel]at hs hx;subst hs;subst hx;have oP:∀w',(underlying xt).run E.P w' = .ok (.int ki) w':=λw'=>a0c ok w' eC;have rv:∀w',(underlying st).run E.P w' = .ok (.slice ac) w':=λw'=>a0c ok w' hu;have aQ:∀w',(sizeOf ac).run E.P w' = .ok (E.sz ac) w':=λw'=>a31 ok w' bp;obtain⟨m0,rfl⟩:∃m0:Nat,l=m0:=⟨l.toNat,by omega⟩
 rw[Int.toNat_natCast]at ha;have jS:∀(q:Nat) w',(asInt (.int k (q:Int))).run E.P w' = .ok (q:Int) w':=λq w'=>rfl;cases m0 with
 |zero=>
  cases ha;refine Val.here (c:=.slice none 0 0) r ?_ (by simp[VRel]);have bJ:IntKind.i64.wrap ((0:Nat):Int)=0:=by rfl
  unfold Builtin.append_;simp only[f1c,f0k,f00,Sem.run_bind,rv,Result.andThen_ok,aQ,oP,Sem.run_pure,f1a,jS,bJ];simp[fR]
 |succ m=>
  dsimp only at ha;rw[cond_eq_ite]at ha;split at ha
  case isFalse=>cases ha
  rename_i a7;cases ha;have pJ:=a7;simp only[a28,e7h,e9j]at a7;have sZ:IntKind.i64.wrap ((m+1:Nat):Int)=((m+1:Nat):Int):=b09 (by omega) (by omega);have a9:=a7v (a9n:=m+1) (old:=0) (by omega);have qU:¬(Builtin.nextslicecap (m+1) 0*i.bytes>2^48):=by rw[iq];have:Builtin.nextslicecap (m+1) 0*E.bytes ac≤(2*(m+1)+192)*E.bytes ac:=f1g _ a9;rw[Nat.mul_comm (2*(m+1)+192)]at this;omega
  have tm:(m+1)*E.bytes ac≤281474976710656:=by have:E.bytes ac*(m+1)≤E.bytes ac*(2*(m+1)+192):=Nat.mul_le_mul_left _ (by omega);rw[Nat.mul_comm];omega
  have qT:¬(((m+1:Nat):Int)*(i.bytes:Int)>2^48):=by
   rw[iq];have:((m+1:Nat):Int)*(E.bytes ac:Int)=(((m+1)*E.bytes ac:Nat):Int):=by simp
   rw[this];omega
  have pS:¬(((m+1:Nat):Int)<0):=by omega
  have jO:¬(((m+1:Nat):Int)>IntKind.i64.max):=by simp only[IntKind.max,IntKind.signed,IntKind.bits];simp;omega
  have bl:¬(m+1≤0):=by omega
  have eN:¬((m+1)*E.sz ac=0):=Nat.mul_ne_zero (by omega) (by omega);generalize hcap2:m+1+(w.tape w.drawn (.appendCap (m+1) 0 ac))%(2^63-(m+1))=bd;have aN:∀w',(Builtin.firstCells (E.sz ac) 0 (.slice none 0 0)).run E.P w' = .ok #[] w':=λw'=>rfl;have ae:(Builtin.append_ #[st,xt] ty #[.slice none 0 0,.int k ((m+1:Nat):Int)]).run E.P w =
   .ok (.slice (some ⟨w.heap.size,0,none⟩) (m+1) bd) { w with drawn:=w.drawn+1,heap:=w.heap.push (.cells (Builtin.zeroCells z'.cells (m+1)++Builtin.zeroCells z'.cells (bd-(m+1))) ac) }:=by
   unfold Builtin.append_;simp only[f1c,f0k,f00,Sem.run_bind,rv,Result.andThen_ok,aQ,oP,Sem.run_pure,f1a,jS,sZ,pS,f3w,fR,qT];have na:((m+1:Nat):Int).toNat=m+1:=rfl;simp only[na,e9y,bl,f3w,Sem.run_bind,fR,Result.andThen_ok,jO,false_and,qU,run_choose,run_askRoom,Question.forced,Question.cut,aN,f2n,f0s,eN,fF,a3w,Sem.run_pure];rw[hcap2];simp
  have kP:m+1≤bd:=by omega
  have oG:∀q:Nat,(Builtin.zeroCells z'.cells q).size=q*E.sz ac:=by
   intro q;rw[←e9n,a4v]
   induction q with
   |zero=>simp
   |succ q ih=>rw[f2b,f0y,e8i,ih,dU,f4o,Nat.add_comm]
  generalize bz:Builtin.zeroCells z'.cells (m+1)++Builtin.zeroCells z'.cells (bd-(m+1))=cells at ae;have i9:cells.size=bd*E.sz ac:=by
   subst bz;rw[Array.size_append,oG,oG,←f1r]
   congr 1;omega
  have rk:∀c,I c→({ w with drawn:=w.drawn+1,heap:=w.heap.push (.cells cells ac) }:World).heap[c]?=w.heap[c]?:=by intro c hc;have:=r.imm c hc;show(w.heap.push _)[c]?=_;rw[f3v,e8g (by omega)]
  have fN:({ w with drawn:=w.drawn+1,heap:=w.heap.push (.cells cells ac) }:World).heap[w.heap.size]?=some (.cells cells ac (0,0)):=by show(w.heap.push _)[_]?=_;simp
  have aE:=PMap.set_old (m:=⟨w.heap.size,0,E.sz ac,cells.size⟩) hρ;have em:∀x∈List.replicate (m+1) z,x.length=E.sz ac:=λx hx=>by rw[f01 hx];exact jG
  have ho:ORel E.G I { w with drawn:=w.drawn+1,heap:=w.heap.push (.cells cells ac) } (ρ.set n ⟨w.heap.size,0,E.sz ac,cells.size⟩) ⟨w.heap.size,0,E.sz ac,cells.size⟩ (.row (E.sz ac) (List.replicate (m+1) z)):=by
   refine⟨rfl,bF,⟨cells,ac,fN,rfl,?_⟩,?_⟩
   ·show 0+(List.replicate (m+1) z).length*E.sz ac≤cells.size;rw[f3x,i9,e9y];exact f1g _ kP
   ·rw[VRows.iff];refine⟨em,?_⟩;refine VAt.of_cells (cs:=(Builtin.zeroCells z'.cells (m+1)).toList) (CellsAt.of_heap fN (λj v hj=>?_)) ?_
    ·subst bz;have kG:=(e7k.1 hj).1;simp only[e9n]at kG;rw[e9y,Array.getElem?_append_left kG,←f1s];exact hj
    ·rw[a4v];exact VRels.flatten_replicate (VRels.noRef_any (jF I _)) _
  refine⟨_,_,ρ.set n ⟨w.heap.size,0,E.sz ac,cells.size⟩,ae,?_,?_,Moves.set _ _ _ rfl⟩
  ·exact a2a (ob:=.cells cells ac) r hn hρ rfl rfl rfl rfl rfl ho
  ·simp only[VRel];refine⟨_,bd,rfl,kP,(λq hq=>by cases hq),.inr ⟨_,by simp[PMap.set];rfl,by simp,?_⟩⟩;show 0+(0+bd)*E.sz ac≤cells.size;rw[i9,e9y,e9y];exact e9k _
end
end Go.Ax
/- AxAop: one operation that calls no function of the program, on abstract values; that the model does just that. -/
namespace Go.Ax
set_option maxHeartbeats 200000000
section
variable {E:Env}{I K:Nat→Prop}{ρ:PMap}{h:FHeap}{n:Nat}{w:World}
def b4y(t:Bool)(a b:AV):AV:=
 match a,b with
 |.bool x,.bool y=>.bool (bif t then x else y)
 |a,b=>bif t then a else b
theorem d55{t:Bool}{a b:AV}{ca cb:Value}(ha:VRel I w ρ a ca)(hb:VRel I w ρ b cb):VRel I w ρ (b4y t a b) (if t then ca else cb):=by
 unfold b4y;split
 ·simp only[VRel]at ha hb;subst ha hb;cases t<;>simp[VRel]
 ·cases t<;>simpa
def a5a:List (List AV)→Option (List UInt8)
 | []=>some []
 | [.int .u8 n]::r=>match a5a r with|some l=>some (UInt8.ofNat n.toNat::l)|none=>none
 |_::_=>none
def a6r(E:Env)(h:FHeap)(jq dst:TypeId)(x:AV):Option AV:=
 match E.und jq,E.und dst,x with
 |some (.slice _),some .string,.str _=>none
 |some (.slice e),some .string,x=>match E.und e with
  |some (.int .u8)=>match a24 h 1 x with
   |some aa=>match a5a aa with
    |some l=>some (.str l)
    |none=>none
   |none=>none
  |_=>none
 |_,_,x=>d5f E jq dst x
theorem b6n:∀{aa:List (List AV)} {l:List UInt8} {cv:List Value} (aJ:ByteArray),a5a aa=some l→VRels I w ρ aa.flatten cv→
 ∃s:ByteArray,(∀pw:String,(forIn cv aJ (λc s=>match c with
  |.int .u8 n=>pure (ForInStep.yield (s.push (UInt8.ofNat n.toNat)))
  |_=>do
   stuck pw
   pure (ForInStep.yield s):Value→ByteArray→Sem (ForInStep ByteArray))).run E.P w = .ok s w)∧s.data.toList=aJ.data.toList++l
 | [],l,cv,aJ,ha,hv=>by simp only[a5a,Option.some.injEq]at ha;subst ha;simp only[List.flatten_nil,VRels]at hv;subst hv;exact⟨aJ,λ_=>by simp,by simp⟩
 |r::aa,l,cv,aJ,ha,hv=>by
  unfold a5a at ha;split at ha
  ·rename_i h;cases h
  ·rename_i n r' he;cases he;split at ha
   case h_2=>cases ha
   rename_i l' hl;cases ha;simp only[f0y,e9h,e7l,VRels]at hv;obtain⟨c,cs,rfl,hc,cR⟩:=hv;simp only[VRel]at hc;subst hc;obtain⟨s,h1,h2⟩:=b6n (aJ.push (UInt8.ofNat n.toNat)) hl cR;refine⟨s,λpw=>?_,?_⟩
   ·rw[List.forIn_cons];simp only[Sem.run_bind,Sem.run_pure,Result.andThen_ok];exact h1 pw
   ·rw[h2];simp
  ·cases ha
theorem d1k(ok:EnvOk E)(r:HRel E.G I K ρ h w){jq dst:TypeId}{x v:AV}{c:Value}(hv:a6r E h jq dst x=some v)(hx:VRel I w ρ x c) :
 ∃d,(convert jq dst c).run E.P w = .ok d w∧VRel I w ρ v d:=by
 unfold a6r at hv;split at hv
 ·cases hv
 ·rename_i y e hs hd iO;split at hv
  case h_2=>cases hv
  rename_i he;split at hv
  case h_2=>cases hv
  rename_i aa hr;split at hv
  case h_2=>cases hv
  rename_i l hl;cases hv;obtain⟨al,⟨cv,ae,bw⟩,hk⟩:=a4s r hr hx;obtain⟨s,h1,h2⟩:=b6n (E:=E) (w:=w) .empty hl bw;have fJ:=ae w ⟨rfl,rfl,rfl,rfl⟩;refine⟨.string s,?_,by simp only[VRel];exact⟨s,rfl,by simpa using h2⟩⟩;unfold a24 at hr;split at hr
  ·simp only[VRel]at hx;subst hx;cases hr;simp only[a5a,Option.some.injEq]at hl;subst hl;have:s = .empty:=by
    cases s;simp only[e7i]at h2;have:=Array.toList_inj.1 h2;subst this;rfl
   subst this;simp[convert,a0c ok w hs,a0c ok w hd,a0c ok w he,Conv.bytesToString]
  ·simp only[VRel]at hx;obtain⟨a,cc,k,rfl,_⟩:=hx;rw[cond_eq_ite]at hr;split at hr
   case isFalse=>cases hr
   cases hr;simp only[Builtin.firstCells,Nat.mul_one]at fJ;simp only[convert,Sem.run_bind,a0c ok w hs,a0c ok w hd,a0c ok w he,Result.andThen_ok,Conv.bytesToString,fJ];rw[←Array.forIn_toList];exact(congrArg (λr=>r.andThen (λa w'=>(pure (Value.string a):Sem Value).run E.P w')) (h1 _)).trans rfl
  ·simp only[VRel]at hx;obtain⟨a,cc,rfl,_⟩:=hx;simp only[Builtin.lenOf,Sem.run_pure,Result.ok.injEq,and_true]at al;rw[←al]at fJ;simp only[Builtin.firstCells,Nat.mul_one]at fJ;simp only[convert,Sem.run_bind,a0c ok w hs,a0c ok w hd,a0c ok w he,Result.andThen_ok,Conv.bytesToString,fJ];rw[←Array.forIn_toList];exact(congrArg (λr=>r.andThen (λa w'=>(pure (Value.string a):Sem Value).run E.P w')) (h1 _)).trans rfl
  ·exact absurd rfl (iO _)
  ·cases hr
 ·exact d5e ok hv hx
def b31(E:Env)(t:TypeId):AObj:=bif b6s E t then .uset []else .map [] [] [] 0
theorem b97(r:HRel E.G I K ρ h w)(hn:h n=none)(hρ:ρ n=none){t:TypeId}{s:Sem Value}
 (hs:s.run E.P w = .ok (.map (some w.heap.size)) { w with heap:=w.heap.push (.map #[] 0) }):Val E I K ρ h n w s (.map n) (.new (b31 E t)):=by
 unfold b31;cases b6s E t with
 |false=>exact d9z r hn hρ hs
 |true=>refine⟨_,_,ρ.set n ⟨w.heap.size,0,0,0⟩,hs,?_,by simp only[VRel];exact⟨_,by simp[PMap.set];rfl,rfl⟩,Moves.set _ _ _ rfl⟩;refine a2a (ob:=.map #[] 0) r hn hρ rfl rfl rfl rfl rfl ?_;exact⟨#[],0,by simp,by simp,by simp,by simp,by simp,by simp⟩
def d5i(E:Env)(n:Nat)(h:FHeap)(b:Builtin)(ts:List TypeId)(args:List AV):Option (AV×Eff):=
 match b,ts,args with
 |.len,[t],[x]=>(b88 E h t x).map (·,.none)
 |.cap,[t],[x]=>(e07 E t x).map (·,.none)
 |.append,[st,xt],[s,x]=>oor (a4h E h n st xt s x) (a2r E n st xt s x)
 |.copy,[dt,_],[d,x]=>c6l E h dt d x
 |.clear,[t],[x]=>b6m E h t x
 |.delete,[t,_],[m,k]=>(c6k E h t m k).map (.tuple [],·)
 |.min,_,x::xs=>(d6o x xs).map (·,.none)
 |.max,_,x::xs=>(d59 x xs).map (·,.none)
 |_,_,_=>none
def aop(E:Env)(n:Nat)(h:FHeap)(op:Op)(v:Operand→AV):Option (AV×Eff):=
 match op with
 |.move x=>some (v x,.none)
 |.assign x=>some (v x,.none)
 |.pick c a b=>match v c with
  |.bool t=>some (b4y t (v a) (v b),.none)
  |_=>none
 |.alloc t=>d9y E n t
 |.box _ x=>e0a n (v x)
 |.build t ps=>(b6p E t (ps.toList.map λp=>(p.1,v p.2))).map (·,.none)
 |.buildSlice t len ps=>a3a E n t len (ps.toList.map λp=>(p.1,v p.2))
 |.load t a=>(a60 E h t (v a)).map (·,.none)
 |.store t a x=>(a7h E h t (v a) (v x)).map (.tuple [],·)
 |.nilCheck x=>match v x with
  |.ptr b i o=>some (.ptr b i o,.none)
  |.iptr cs=>some (.iptr cs,.none)
  |.func (.func f) fs cs=>some (.func (.func f) fs cs,.none)
  |_=>none
 |.binOp op t x y _=>(b06 E op t (v x) (v y) (a4b x||a4b y)).map (·,.none)
 |.unOp op _ x=>(aun op (v x)).map (·,.none)
 |.convert s d x=>(a6r E h s d (v x)).map (·,.none)
 |.makeInterface t x=>match E.und t with
  |some (.interface _)=>none
  |some _=>some (.iface t (v x),.none)
  |none=>none
 |.makeFunc fn first cap=>some (.func fn (first.toList.map v) (cap.toList.map v),.none)
 |.makeMap t r=>match r with
  |none=>some (.map n,.new (b31 E t))
  |some x=>match E.und t,v x with
   |some (.map _ _),.int _ _=>some (.map n,.new (b31 E t))
   |_,_=>none
 |.makeSlice t l c=>a3z E n t (v l) (v c)
 |.slice t x lo hi mx=>(a59 E h t (v x) (lo.map v) (hi.map v) (mx.map v)).map (·,.none)
 |.fieldAddr s x f=>(a5i E s (v x) f).map (·,.none)
 |.field t x f=>(b6l E t (v x) f).map (·,.none)
 |.indexAddr t x ix=>(a0v E h t (v x) (v ix)).map (·,.none)
 |.index t x ix=>(b6k E t (v x) (v ix)).map (·,.none)
 |.lookup t x k ok=>(oor (a5v E h t (v x) (v k) ok) (b4i E h t (v x) (v k) ok)).map (·,.none)
 |.mapUpdate t m k x=>(oor (a1y E h t (v m) (v k) (v x)) (b4x E h t (v m) (v k) (v x))).map (.tuple [],·)
 |.insert t m k x=>(oor (a1y E h t (v m) (v k) (v x)) (b4x E h t (v m) (v k) (v x))).map (.tuple [],·)
 |.mapEntry t m k=>b03 E h t (v m) (v k)
 |.entryStore _ m s x=>(a4t h (v m) (v s) (v x)).map (.tuple [],·)
 |.extract t i=>match v t with
  |.tuple vs=>match vs[i]? with
   |some x=>some (x,.none)
   |none=>none
  |_=>none
 |.range t x=>oor (c4a E n t (v x)) (b85 E n t (v x))
 |.next it b=>c0c h (v it) b
 |.entry it=>(b13 h (v it)).map (·,.none)
 |.call { callee:=.builtin b,args,argTypes }=>d5i E n h b argTypes.toList (args.toList.map v)
 |_=>none
def OpOk(E:Env)(I K:Nat→Prop)(ρ:PMap)(h:FHeap)(n:Nat)(a:Act)(w:World)(o:Oper)(v:AV)(e:Eff):Prop:=∃x w' c ρ',(execOp a.eval o).run E.P w = .ok x w'∧(x = .value c∨(x = .skip∧c=undef))∧Stepped E.G I K ρ w I ρ' (h.eff n e) w'∧VRel I w' ρ' v c∧Moves ρ ρ' n e
theorem OpOk.val{a:Act}{o:Oper}{v:AV}{e:Eff}{s:Sem Value}(hs:execOp a.eval o=(do pure (.value (←s))))(hv:Val E I K ρ h n w s v e):OpOk E I K ρ h n a w o v e:=by obtain⟨c,w',ρ',h1,h2,h3,h4⟩:=hv;exact⟨.value c,w',c,ρ',by rw[hs];simp[h1],.inl rfl,h2,h3,h4⟩
theorem OpOk.done{a:Act}{o:Oper}{e:Eff}{s:Sem Unit}(hs:execOp a.eval o=(do s;pure .skip))(hv:e4l E I K ρ h n w s e):OpOk E I K ρ h n a w o (.tuple []) e:=by obtain⟨w',ρ',h1,h2,h4⟩:=hv;exact⟨.skip,w',undef,ρ',by rw[hs];simp[h1],.inr ⟨rfl,rfl⟩,h2,by simp only[VRel,undef];exact⟨#[],rfl,by simp[VRels]⟩,h4⟩
theorem a07{α β:Type}{x:Option α}{f:α→β}{y:β}(h:x.map f=some y):∃a,x=some a∧f a=y:=by
 cases x with
 |none=>cases h
 |some a=>simp only[e8d,Option.some.injEq]at h;exact⟨a,rfl,h⟩
theorem a4y{a:Act}{v:Operand→AV}(hv:∀x,VRel I w ρ (v x) (a.eval x)):∀l:List Operand,VRels I w ρ (l.map v) (l.map a.eval)
 | []=>by simp[VRels]
 |x::l=>by simp only[e12,VRels];exact⟨_,_,rfl,hv x,a4y hv l⟩
theorem b2u{a:Act}{v:Operand→AV}(hv:∀x,VRel I w ρ (v x) (a.eval x)):∀l:List (Nat×Operand),a5d I w ρ (l.map λp=>(p.1,v p.2)) (l.map λp=>(p.1,a.eval p.2))
 | []=>by simp[a5d]
 |x::l=>by simp only[e12,a5d];exact⟨_,_,rfl,hv x.2,b2u hv l⟩
theorem b0j{a:Act}{v:Operand→AV}(hv:∀x,VRel I w ρ (v x) (a.eval x))(x:Option Operand):a3b I w ρ (x.map v) (x.map a.eval):=by
 cases x with
 |none=>simp[a3b]
 |some x=>simp only[e8d,a3b];exact⟨_,rfl,hv x⟩
theorem e0b(ok:EnvOk E)(r:HRel E.G I K ρ h w)(hn:h n=none)(hρ:ρ n=none){b:Builtin}{ts:List TypeId}{args:List AV}{am:List Value}{v:AV}{e:Eff}(ty:TypeId)(po:Array Bool)
 (ha:d5i E n h b ts args=some (v,e))(hv:VRels I w ρ args am):∃s:Sem Value,builtin b ts.toArray ty po am.toArray=(do pure (.value (←s)))∧Val E I K ρ h n w s v e:=by
 unfold d5i at ha;split at ha
 ·simp only[VRels]at hv;obtain⟨c,_,rfl,hx,rfl⟩:=hv;obtain⟨a,h1,h2⟩:=a07 ha;cases h2;exact⟨_,rfl,e00 ok r ty h1 hx⟩
 ·simp only[VRels]at hv;obtain⟨c,_,rfl,hx,rfl⟩:=hv;obtain⟨a,h1,h2⟩:=a07 ha;cases h2;exact⟨_,rfl,e06 ok r ty h1 hx⟩
 ·simp only[VRels]at hv;obtain⟨c,_,rfl,hx,c2,_,rfl,hy,rfl⟩:=hv;refine⟨_,rfl,?_⟩;rcases a96 ha with ha|ha
  ·exact c6o ok r hn hρ ty ha hx hy
  ·exact c2l ok r hn hρ ty ha hx hy
 ·simp only[VRels]at hv;obtain⟨c,_,rfl,hx,c2,_,rfl,hy,rfl⟩:=hv;exact⟨_,rfl,d5d ok r ty ha hx hy⟩
 ·simp only[VRels]at hv;obtain⟨c,_,rfl,hx,rfl⟩:=hv;exact⟨_,rfl,d1l ok r ty ha hx⟩
 ·simp only[VRels]at hv;obtain⟨c,_,rfl,hx,c2,_,rfl,hy,rfl⟩:=hv;obtain⟨a,h1,h2⟩:=a07 ha;cases h2;exact⟨_,rfl,d5c ok r ty h1 hx hy⟩
 ·simp only[VRels]at hv;obtain⟨c,cs,rfl,hx,bE⟩:=hv;obtain⟨a,h1,h2⟩:=a07 ha;cases h2;obtain⟨d,h3,h4⟩:=d1b (E:=E) (w:=w) h1 hx bE;exact⟨_,rfl,Val.here r (by simpa[Builtin.min_]using h3) h4⟩
 ·simp only[VRels]at hv;obtain⟨c,cs,rfl,hx,bE⟩:=hv;obtain⟨a,h1,h2⟩:=a07 ha;cases h2;obtain⟨d,h3,h4⟩:=d1c (E:=E) (w:=w) h1 hx bE;exact⟨_,rfl,Val.here r (by simpa[Builtin.max_]using h3) h4⟩
 ·cases ha
theorem d6n(ok:EnvOk E)(r:HRel E.G I K ρ h w)(hn:h n=none)(hρ:ρ n=none){a:Act}{o:Oper}{v:Operand→AV}{x:AV}{e:Eff}(ha:aop E n h o.op v=some (x,e))
 (hv:∀x,VRel I w ρ (v x) (a.eval x)):OpOk E I K ρ h n a w o x e:=by
 obtain⟨dst,op,type,pos,after,guard⟩:=o;simp only at ha;unfold aop at ha;split at ha
 ·cases ha;exact⟨_,w,_,ρ,rfl,.inl rfl,Stepped.refl r,hv _,Moves.same _ _ _⟩
 ·cases ha;exact⟨_,w,_,ρ,rfl,.inl rfl,Stepped.refl r,hv _,Moves.same _ _ _⟩
 ·rename_i c p q;split at ha
  case h_2=>cases ha
  rename_i t hc;cases ha;have aV:=hv c;rw[hc]at aV;simp only[VRel]at aV;refine⟨.value (if t then a.eval p else a.eval q),w,_,ρ,?_,.inl rfl,Stepped.refl r,d55 (hv p) (hv q),Moves.same _ _ _⟩;simp[execOp,aV,asBool]
 ·exact OpOk.val rfl (d9x ok r hn hρ ha _)
 ·exact OpOk.val rfl (e09 r hn hρ ha (hv _))
 ·obtain⟨y,h1,h2⟩:=a07 ha;cases h2;rename_i t ps;have:=d1m (n:=n) ok r h1 (b2u hv ps.toList);refine OpOk.val (s:=Instr.build t (ps.toList.map λp=>(p.1,a.eval p.2)).toArray) ?_ this;show(do pure (Next.value (←Instr.build t (ps.map λ(i,x)=>(i,a.eval x)))))=_
  congr 2
  apply f3t;simp
 ·rename_i t len ps;have:=b50 (n:=n) ok r hn hρ ha (b2u hv ps.toList);refine OpOk.val (s:=Instr.buildSlice t len (ps.toList.map λp=>(p.1,a.eval p.2)).toArray) ?_ this;show(do pure (Next.value (←Instr.buildSlice t len (ps.map λ(i,x)=>(i,a.eval x)))))=_
  congr 2
  apply f3t;simp
 ·obtain⟨y,h1,h2⟩:=a07 ha;cases h2;exact OpOk.val rfl (d5a ok r h1 (hv _))
 ·obtain⟨y,h1,h2⟩:=a07 ha;cases h2;exact OpOk.done rfl (d13 ok r h1 (hv _) (hv _))
 ·rename_i y;have hy:=hv y;split at ha
  ·rename_i b i o hq;cases ha;rw[hq]at hy;have iD:=hy;simp only[VRel]at iD;obtain⟨m,hm,hc⟩:=iD;exact⟨.value (a.eval y),w,_,ρ,by simp[execOp,hc],.inl rfl,Stepped.refl r,hy,Moves.same _ _ _⟩
  ·rename_i cs hq;cases ha;rw[hq]at hy;have iD:=hy;simp only[VRel]at iD;obtain⟨b,off,hc,_⟩:=iD;exact⟨.value (a.eval y),w,_,ρ,by simp[execOp,hc],.inl rfl,Stepped.refl r,hy,Moves.same _ _ _⟩
  ·rename_i f fs cs hq;cases ha;rw[hq]at hy;have iD:=hy;simp only[VRel]at iD;obtain⟨cB,aI,hc,_⟩:=iD;exact⟨.value (a.eval y),w,_,ρ,by simp[execOp,hc],.inl rfl,Stepped.refl r,hy,Moves.same _ _ _⟩
  ·cases ha
 ·obtain⟨y,h1,h2⟩:=a07 ha;cases h2;obtain⟨c,h3,h4⟩:=e0c (E:=E) (w:=w) ok h1 (hv _) (hv _);exact OpOk.val rfl (Val.here r h3 h4)
 ·obtain⟨y,h1,h2⟩:=a07 ha;cases h2;obtain⟨c,h3,h4⟩:=e44 (E:=E) (w:=w) h1 (hv _);exact OpOk.val rfl (Val.here r h3 h4)
 ·obtain⟨y,h1,h2⟩:=a07 ha;cases h2;obtain⟨c,h3,h4⟩:=d1k ok r h1 (hv _);exact OpOk.val rfl (Val.here r h3 h4)
 ·rename_i t y;split at ha
  ·cases ha
  ·rename_i d aw hd;cases ha;refine OpOk.val (s:=Instr.makeInterface t (a.eval y)) rfl (Val.here (c:=.iface t (a.eval y)) r ?_ (by simp only[VRel];exact⟨_,rfl,hv y⟩));simp only[Instr.makeInterface,Sem.run_bind,a0c ok w hd,Result.andThen_ok];cases d<;>first|rfl|(exact absurd rfl (aw _))
  ·cases ha
 ·rename_i fn first cap
  cases ha;refine OpOk.val (s:=Instr.makeFunc fn (first.map a.eval) (cap.map a.eval)) rfl (Val.here r rfl ?_);simp only[VRel];exact⟨_,_,rfl,by rw[f2e];exact a4y hv _,by rw[f2e];exact a4y hv _⟩
 ·rename_i t rr;split at ha
  ·cases ha;exact OpOk.val (s:=Instr.makeMap t none) rfl (b97 r hn hρ (by simp[Instr.makeMap]))
  ·rename_i y;split at ha
   case h_2=>cases ha
   rename_i hd hy;cases ha;have px:=hv y;rw[hy]at px;simp only[VRel]at px;refine OpOk.val (s:=Instr.makeMap t (some (a.eval y))) rfl (b97 r hn hρ ?_);simp[Instr.makeMap,a0c ok w hd,px,asInt,asIntOf]
 ·exact OpOk.val rfl (b86 ok r hn hρ ha (hv _) (hv _))
 ·obtain⟨y,h1,h2⟩:=a07 ha;cases h2;exact OpOk.val rfl (d14 ok r h1 (hv _) (b0j hv _) (b0j hv _) (b0j hv _))
 ·obtain⟨y,h1,h2⟩:=a07 ha;cases h2;exact OpOk.val rfl (b8a ok r h1 (hv _))
 ·obtain⟨y,h1,h2⟩:=a07 ha;cases h2;exact OpOk.val rfl (d1h ok r h1 (hv _))
 ·obtain⟨y,h1,h2⟩:=a07 ha;cases h2;exact OpOk.val rfl (b89 ok r h1 (hv _) (hv _))
 ·obtain⟨y,h1,h2⟩:=a07 ha;cases h2;exact OpOk.val rfl (d1g ok r h1 (hv _) (hv _))
 ·obtain⟨y,h1,h2⟩:=a07 ha;cases h2;rcases a96 h1 with h1|h1
  ·exact OpOk.val rfl (c6g ok r h1 (hv _) (hv _))
  ·exact OpOk.val rfl (d1e ok r h1 (hv _) (hv _))
 ·obtain⟨y,h1,h2⟩:=a07 ha;cases h2;rcases a96 h1 with h1|h1
  ·exact OpOk.done rfl (b02 ok r h1 (hv _) (hv _) (hv _))
  ·exact OpOk.done rfl (c47 ok r h1 (hv _) (hv _) (hv _))
 ·obtain⟨y,h1,h2⟩:=a07 ha;cases h2;rcases a96 h1 with h1|h1
  ·exact OpOk.done rfl (b02 ok r h1 (hv _) (hv _) (hv _))
  ·exact OpOk.done rfl (c47 ok r h1 (hv _) (hv _) (hv _))
 ·exact OpOk.val rfl (c0e ok r ha (hv _) (hv _))
 ·obtain⟨y,h1,h2⟩:=a07 ha;cases h2;exact OpOk.done rfl (b4z r h1 (hv _) (hv _) (hv _))
 ·rename_i t i;split at ha
  case h_2=>cases ha
  rename_i vs ht;split at ha
  case h_2=>cases ha
  rename_i y hy;cases ha;have md:=hv t;rw[ht]at md;simp only[VRel]at md;obtain⟨cs,hc,cR⟩:=md;obtain⟨c,dK,hr⟩:=VRels.get i cR hy;refine OpOk.val (s:=Instr.extract (a.eval t) i) rfl (Val.here (c:=c) r ?_ hr);have:cs[i]?=some c:=by simpa using dK
  simp[Instr.extract,hc,this]
 ·rcases a96 ha with ha|ha
  ·exact OpOk.val rfl (d16 ok r hn hρ ha (hv _))
  ·exact OpOk.val rfl (c6f ok r hn hρ ha (hv _))
 ·exact OpOk.val rfl (d57 r type ha (hv _))
 ·obtain⟨y,h1,h2⟩:=a07 ha;cases h2;exact OpOk.val rfl (c6j r h1 (hv _))
 ·rename_i b args ts;obtain⟨s,hs,cz⟩:=e0b (E:=E) ok r hn hρ type (args.map λ|.const _=>true|_=>false) ha (a4y hv args.toList);refine OpOk.val ?_ cz;have ht:ts.toList.toArray=ts:=by apply f3t;simp
  rw[ht]at hs;rw[←hs];have hm:(args.toList.map a.eval).toArray=args.map a.eval:=by apply f3t;simp
  rw[hm];rfl
 ·cases ha
end
end Go.Ax
/- AxRen: block numbers that are renamed; what is frozen. -/
namespace Go.Ax
section
variable {G:GTab (List AV)}{I K:Nat→Prop}{ρ ρ':PMap}{h h':FHeap}{w:World}
theorem HRel.rename(r:HRel G I K ρ h w){π:Nat→Option Nat}(hπ:∀b b' m,π b=some b'→ρ b=some m→ρ' b'=some m)
 (hh:∀b' o',h' b'=some o'→∃b o,h b=some o∧π b=some b'∧o'=a0e π o)(lO:∀b' m,ρ' b'=some m→m.blk<w.heap.size):HRel G I K ρ' h' w:={
 live b' o' aW:=by obtain⟨b,o,hb,hp,rfl⟩:=hh b' o' aW;obtain⟨m,h1,h2,h3,h4⟩:=r.live b o hb;exact⟨m,hπ b b' m hp h1,h2,h3,ORel.ren hπ o h4⟩
 inj b1 b2 m1 m2 h1 h2 bR bM he:=by obtain⟨o1,eg⟩:=e7n.1 h1;obtain⟨o2,tk⟩:=e7n.1 h2;obtain⟨c1,q1,fC,fi,_⟩:=hh b1 o1 eg;obtain⟨c2,q2,fm,dO,_⟩:=hh b2 o2 tk;obtain⟨n1,bf,_⟩:=r.live c1 q1 fC;obtain⟨n2,cZ,_⟩:=r.live c2 q2 fm;have e1:=hπ c1 b1 n1 fi bf;have e2:=hπ c2 b2 n2 dO cZ;rw[bR]at e1;rw[bM]at e2;cases e1;cases e2;have:=r.inj c1 c2 _ _ (by simp[fC]) (by simp[fm]) bf cZ he;subst this;rw[fi]at dO;exact z9o dO
 dom:=lO
 imm:=r.imm
 kept:=r.kept
 apart:=r.apart
 glob:=r.glob}
theorem Ext.keepLess{K':Nat→Prop}{w w':World}(e:Ext I K w w')(hK:∀c,K' c→K c):Ext I K' w w':=⟨e.os,e.tape,e.output,e.size,λc hc=>e.keep c (hc.imp id (hK c))⟩
/-! ### freezing -/
def d6d(m:Nat)(top:Bool)(d:AV→Option AV)(b:Nat)(v:AV):Option AV:=bif Nat.blt b m then(bif top then some v else none)else d v
mutual
def a3e(m:Nat)(top:Bool)(d:AV→Option AV):AV→Option AV
 |.ptr b i o=>d6d m top d b (.ptr b i o)
 |.slice b off len cap=>d6d m top d b (.slice b off len cap)
 |.map b=>d6d m top d b (.map b)
 |.yfn b=>bif top&&Nat.blt b m then some (.yfn b)else none
 |.func fn fs cs=>match a54 m top d fs,a54 m top d cs with
  |some fs,some cs=>some (.func fn fs cs)
  |_,_=>none
 |.iface t x=>match a3e m top d x with
  |some x=>some (.iface t x)
  |none=>none
 |.agg cs=>match a54 m top d cs with
  |some cs=>some (.agg cs)
  |none=>none
 |.tuple cs=>match a54 m top d cs with
  |some cs=>some (.tuple cs)
  |none=>none
 |.iptr cs=>some (.iptr cs)
 |.islice aa cap=>some (.islice aa cap)
 |.imap ks vs bs bh=>some (.imap ks vs bs bh)
 |.iset ks=>some (.iset ks)
 |.junk=>some .junk
 |.bool b=>some (.bool b)
 |.int k n=>some (.int k n)
 |.str s=>some (.str s)
 |.nilptr=>some .nilptr
 |.nilslice=>some .nilslice
 |.nilmap=>some .nilmap
 |.nilfunc=>some .nilfunc
 |.nilifc=>some .nilifc
def a54(m:Nat)(top:Bool)(d:AV→Option AV):List AV→Option (List AV)
 | []=>some []
 |v::vs=>match a3e m top d v,a54 m top d vs with
  |some v,some vs=>some (v::vs)
  |_,_=>none
end
def a8v(m:Nat)(d:AV→Option AV):List (List AV)→Option (List (List AV))
 | []=>some []
 |r::rs=>match a54 m false d r,a8v m d rs with
  |some r,some rs=>some (r::rs)
  |_,_=>none
def a4e(h:FHeap)(m:Nat):Nat→AV→Option AV
 |0,_=>none
 |n+1,.ptr b i o=>match h b with
  |some (.row _ aa)=>match aa[i]? with
   |some r=>match a54 m false (a4e h m n) (r.drop o)with
    |some cs=>some (.iptr cs)
    |none=>none
   |none=>none
  |_=>none
 |n+1,.slice b off len cap=>match h b with
  |some (.row _ aa)=>bif Nat.ble (off+len) aa.length then
   match a8v m (a4e h m n) ((aa.drop off).take len)with
   |some rs=>some (.islice rs cap)
   |none=>none
   else none
  |_=>none
 |n+1,.map b=>match h b with
  |some (.map ks vs bs cl)=>match a54 m false (a4e h m n) ks,a54 m false (a4e h m n) vs with
   |some ks,some vs=>some (.imap ks vs bs cl)
   |_,_=>none
  |some (.uset ks)=>some (.iset ks)
  |_=>none
 |_+1,_=>none
def a3h(I:Nat→Prop)(ρ:PMap)(h:FHeap)(m:Nat):Nat→Prop:=λc=>I c∨∃b o p,m≤b∧h b=some o∧ρ b=some p∧p.blk=c
def c2n(I':Nat→Prop)(I:Nat→Prop)(w:World)(ρ:PMap)(m:Nat)(d:AV→Option AV):Prop:=∀b v v' c,(v = .map b∨(∃i o,v = .ptr b i o)∨∃off len cap,v = .slice b off len cap)→m≤b→d v=some v'→VRel I w ρ v c→VRel I' w noP v' c
def PMap.below(ρ:PMap)(m:Nat)(top:Bool):PMap:=λb=>if top=true∧b<m then ρ b else none
theorem a6z{I I':Nat→Prop}{w:World}{ρ:PMap}(_:∀c,I c→I' c){v:AV}{c:Value}(h:VRel I' w noP v c):VRel I' w ρ v c:=VRel.mono (λ_ h=>h) (λ_ _=>rfl) v (λ_ _ h=>by simp[noP]at h) h
variable {I':Nat→Prop}{m:Nat}{top:Bool}{d:AV→Option AV}
mutual
theorem b0p(hI:∀c,I c→I' c)(hd:c2n I' I w ρ m d):∀(v:AV) {v':AV} {c:Value},a3e m top d v=some v'→VRel I w ρ v c→VRel I' w (ρ.below m top) v' c
 |.ptr b i o,v',c,hf,hv=>by
  simp only[a3e,d6d]at hf;rw[cond_eq_ite]at hf;split at hf
  ·rename_i hb;rw[cond_eq_ite]at hf;split at hf
   case isFalse=>cases hf
   rename_i ht;cases hf;simp only[VRel]at hv⊢;obtain⟨p,hp,rfl⟩:=hv;exact⟨p,by simp only[PMap.below];rw[e8j ⟨ht,by simpa[e9o]using hb⟩];exact hp,rfl⟩
  ·rename_i hb;exact a6z (I:=I) hI (hd b _ _ _ (.inr (.inl ⟨i,o,rfl⟩)) (by simpa[e9o]using hb) hf hv)
 |.slice b off len cap,v',c,hf,hv=>by
  simp only[a3e,d6d]at hf;rw[cond_eq_ite]at hf;split at hf
  ·rename_i hb;rw[cond_eq_ite]at hf;split at hf
   case isFalse=>cases hf
   rename_i ht;cases hf;simp only[VRel]at hv⊢;obtain⟨a,cc,rfl,h1,h2,h3⟩:=hv;refine⟨a,cc,rfl,h1,h2,h3.imp id ?_⟩
   rintro⟨p,hp,rfl,hr⟩
   exact⟨p,by simp only[PMap.below];rw[e8j ⟨ht,by simpa[e9o]using hb⟩];exact hp,rfl,hr⟩
  ·rename_i hb;exact a6z (I:=I) hI (hd b _ _ _ (.inr (.inr ⟨off,len,cap,rfl⟩)) (by simpa[e9o]using hb) hf hv)
 |.map b,v',c,hf,hv=>by
  simp only[a3e,d6d]at hf;rw[cond_eq_ite]at hf;split at hf
  ·rename_i hb;rw[cond_eq_ite]at hf;split at hf
   case isFalse=>cases hf
   rename_i ht;cases hf;simp only[VRel]at hv⊢;obtain⟨p,hp,rfl⟩:=hv;exact⟨p,by simp only[PMap.below];rw[e8j ⟨ht,by simpa[e9o]using hb⟩];exact hp,rfl⟩
  ·rename_i hb;exact a6z (I:=I) hI (hd b _ _ _ (.inl rfl) (by simpa[e9o]using hb) hf hv)
 |.yfn b,v',c,hf,hv=>by
  simp only[a3e]at hf;rw[cond_eq_ite]at hf;split at hf
  case isFalse=>cases hf
  rename_i hb;cases hf;simp only[e7h,e9o]at hb;simp only[VRel]at hv⊢;obtain⟨p,hp,rfl⟩:=hv;exact⟨p,by simp only[PMap.below];rw[e8j hb];exact hp,rfl⟩
 |.func fn fs cs,v',c,hf,hv=>by
  simp only[a3e]at hf;split at hf
  case h_2=>cases hf
  rename_i cB aI h1 h2;cases hf;simp only[VRel]at hv⊢;obtain⟨a,b,rfl,h3,h4⟩:=hv;exact⟨a,b,rfl,a82 hI hd fs h1 h3,a82 hI hd cs h2 h4⟩
 |.iface t x,v',c,hf,hv=>by
  simp only[a3e]at hf;split at hf
  case h_2=>cases hf
  rename_i x' h1;cases hf;simp only[VRel]at hv⊢;obtain⟨a,rfl,h3⟩:=hv;exact⟨a,rfl,b0p hI hd x h1 h3⟩
 |.agg cs,v',c,hf,hv=>by
  simp only[a3e]at hf;split at hf
  case h_2=>cases hf
  rename_i aI h1;cases hf;simp only[VRel]at hv⊢;obtain⟨a,rfl,h3⟩:=hv;exact⟨a,rfl,a82 hI hd cs h1 h3⟩
 |.tuple cs,v',c,hf,hv=>by
  simp only[a3e]at hf;split at hf
  case h_2=>cases hf
  rename_i aI h1;cases hf;simp only[VRel]at hv⊢;obtain⟨a,rfl,h3⟩:=hv;exact⟨a,rfl,a82 hI hd cs h1 h3⟩
 |.iptr cs,v',c,hf,hv=>by simp only[a3e,Option.some.injEq]at hf;subst hf;exact a6z (I:=I) hI (VRel.mono (ρ:=noP) (ρ':=noP) hI (λ_ _=>rfl) _ (λ_ _ h=>h) (by simpa only[VRel]using hv))
 |.islice aa cap,v',c,hf,hv=>by simp only[a3e,Option.some.injEq]at hf;subst hf;exact a6z (I:=I) hI (VRel.mono (ρ:=noP) (ρ':=noP) hI (λ_ _=>rfl) _ (λ_ _ h=>h) (by simpa only[VRel]using hv))
 |.imap ks vs bs bh,v',c,hf,hv=>by simp only[a3e,Option.some.injEq]at hf;subst hf;exact a6z (I:=I) hI (VRel.mono (ρ:=noP) (ρ':=noP) hI (λ_ _=>rfl) _ (λ_ _ h=>h) (by simpa only[VRel]using hv))
 |.iset ks,v',c,hf,hv=>by simp only[a3e,Option.some.injEq]at hf;subst hf;exact a6z (I:=I) hI (VRel.mono (ρ:=noP) (ρ':=noP) hI (λ_ _=>rfl) _ (λ_ _ h=>h) (by simpa only[VRel]using hv))
 |.junk,v',c,hf,hv=>by simp only[a3e,Option.some.injEq]at hf;subst hf;simp[VRel]
 |.bool b,v',c,hf,hv=>by simp only[a3e,Option.some.injEq]at hf;subst hf;simpa[VRel]using hv
 |.int k n,v',c,hf,hv=>by simp only[a3e,Option.some.injEq]at hf;subst hf;simpa[VRel]using hv
 |.str s,v',c,hf,hv=>by simp only[a3e,Option.some.injEq]at hf;subst hf;simpa[VRel]using hv
 |.nilptr,v',c,hf,hv=>by simp only[a3e,Option.some.injEq]at hf;subst hf;simpa[VRel]using hv
 |.nilslice,v',c,hf,hv=>by simp only[a3e,Option.some.injEq]at hf;subst hf;simpa[VRel]using hv
 |.nilmap,v',c,hf,hv=>by simp only[a3e,Option.some.injEq]at hf;subst hf;simpa[VRel]using hv
 |.nilfunc,v',c,hf,hv=>by simp only[a3e,Option.some.injEq]at hf;subst hf;simpa[VRel]using hv
 |.nilifc,v',c,hf,hv=>by simp only[a3e,Option.some.injEq]at hf;subst hf;simpa[VRel]using hv
theorem a82(hI:∀c,I c→I' c)(hd:c2n I' I w ρ m d):∀(vs:List AV) {ee:List AV} {cs:List Value},a54 m top d vs=some ee→VRels I w ρ vs cs→VRels I' w (ρ.below m top) ee cs
 | [],ee,cs,hf,hv=>by simp only[a54,Option.some.injEq]at hf;subst hf;simpa[VRels]using hv
 |v::vs,ee,cs,hf,hv=>by
  simp only[a54]at hf;split at hf
  case h_2=>cases hf
  rename_i v1 kU h1 h2;cases hf;simp only[VRels]at hv⊢;obtain⟨c,aI,rfl,h3,h4⟩:=hv;exact⟨c,aI,rfl,b0p hI hd v h1 h3,a82 hI hd vs h2 h4⟩
end
theorem a7b(ρ:PMap)(m:Nat):ρ.below m false=noP:=by funext b;simp[PMap.below,noP]
theorem c22(hI:∀c,I c→I' c)(hd:c2n I' I w ρ m d):∀(vs:List AV) {ee:List AV} {b off:Nat},a54 m false d vs=some ee→VAt I w ρ vs b off→VAt I' w noP ee b off
 | [],ee,b,off,hf,_=>by simp only[a54,Option.some.injEq]at hf;subst hf;simp[VAt]
 |v::vs,ee,b,off,hf,hv=>by
  simp only[a54]at hf;split at hf
  case h_2=>cases hf
  rename_i v1 kU h1 h2;cases hf;simp only[VAt]at hv⊢;obtain⟨⟨c,hc,h3⟩,h4⟩:=hv;have:=b0p hI hd v h1 h3;rw[a7b]at this;exact⟨⟨c,hc,this⟩,c22 hI hd vs h2 h4⟩
theorem a99{m:Nat}{top:Bool}{d:AV→Option AV}:∀{vs ee:List AV},a54 m top d vs=some ee→ee.length=vs.length
 | [],ee,hf=>by simp only[a54,Option.some.injEq]at hf;subst hf;rfl
 |v::vs,ee,hf=>by
  simp only[a54]at hf;split at hf
  case h_2=>cases hf
  rename_i v1 kU h1 h2;cases hf;simp[a99 h2]
theorem d02{k:Nat}(hI:∀c,I c→I' c)(hd:c2n I' I w ρ m d):∀(rs:List (List AV)) {ei:List (List AV)} {b off:Nat},a8v m d rs=some ei→VRows I w k ρ rs b off→VRows I' w k noP ei b off
 | [],ei,b,off,hf,_=>by simp only[a8v,Option.some.injEq]at hf;subst hf;simp[VRows]
 |r::rs,ei,b,off,hf,hv=>by
  simp only[a8v]at hf;split at hf
  case h_2=>cases hf
  rename_i v1 kU h1 h2;cases hf;simp only[VRows]at hv⊢;obtain⟨h3,h4,h5⟩:=hv;exact⟨by rw[a99 h1];exact h3,c22 hI hd r h1 h4,d02 hI hd rs h2 h5⟩
def frzT(m:Nat)(d:AV→Option AV):List (List AV)→Option (List (List AV))
 | []=>some []
 |r::rs=>match a54 m true d r,frzT m d rs with
  |some r',some ei=>some (r'::ei)
  |_,_=>none
theorem c3s(hI:∀c,I c→I' c)(hd:c2n I' I w ρ m d):∀(vs:List AV) {ee:List AV} {b off:Nat},a54 m true d vs=some ee→VAt I w ρ vs b off→VAt I' w (ρ.below m true) ee b off
 | [],ee,b,off,hf,_=>by simp only[a54,Option.some.injEq]at hf;subst hf;simp[VAt]
 |v::vs,ee,b,off,hf,hv=>by
  simp only[a54]at hf;split at hf
  case h_2=>cases hf
  rename_i v1 kU h1 h2;cases hf;simp only[VAt]at hv⊢;obtain⟨⟨c,hc,h3⟩,h4⟩:=hv;exact⟨⟨c,hc,b0p hI hd v h1 h3⟩,c3s hI hd vs h2 h4⟩
theorem c21{k:Nat}(hI:∀c,I c→I' c)(hd:c2n I' I w ρ m d):∀(rs:List (List AV)) {ei:List (List AV)} {b off:Nat},frzT m d rs=some ei→VRows I w k ρ rs b off→VRows I' w k (ρ.below m true) ei b off
 | [],ei,b,off,hf,_=>by simp only[frzT,Option.some.injEq]at hf;subst hf;simp[VRows]
 |r::rs,ei,b,off,hf,hv=>by
  simp only[frzT]at hf;split at hf
  case h_2=>cases hf
  rename_i v1 kU h1 h2;cases hf;simp only[VRows]at hv⊢;obtain⟨h3,h4,h5⟩:=hv;exact⟨by rw[a99 h1];exact h3,c3s hI hd r h1 h4,c21 hI hd rs h2 h5⟩
theorem a98{m:Nat}{d:AV→Option AV}:∀{rs ei:List (List AV)},frzT m d rs=some ei→ei.length=rs.length
 | [],ei,hf=>by simp only[frzT,Option.some.injEq]at hf;subst hf;rfl
 |r::rs,ei,hf=>by
  simp only[frzT]at hf;split at hf
  case h_2=>cases hf
  rename_i v1 kU h1 h2;cases hf;simp[a98 h2]
theorem b3p{m:Nat}{d:AV→Option AV}:∀{rs ei:List (List AV)},a8v m d rs=some ei→ei.length=rs.length
 | [],ei,hf=>by simp only[a8v,Option.some.injEq]at hf;subst hf;rfl
 |r::rs,ei,hf=>by
  simp only[a8v]at hf;split at hf
  case h_2=>cases hf
  rename_i v1 kU h1 h2;cases hf;simp[b3p h2]
end
end Go.Ax
/- AxFrz: a result that is frozen, with the heap that is left. -/
namespace Go.Ax
section
variable {G:GTab (List AV)}{I K:Nat→Prop}{ρ:PMap}{h:FHeap}{w:World}{m:Nat}
theorem a5h(r:HRel G I K ρ h w):∀n,c2n (a3h I ρ h m) I w ρ m (a4e h m n)
 |0=>by intro b v v' c _ _ hd _;simp[a4e]at hd
 |n+1=>by
  have ih:=a5h r n;have hI:∀c,I c→a3h I ρ h m c:=λc hc=>.inl hc;intro b v v' c hv hb hd hr;rcases hv with rfl|⟨i,o,rfl⟩|⟨off,len,cap,rfl⟩
  ·simp only[a4e]at hd;split at hd
   case h_3=>cases hd
   case h_2=>rename_i ks dq;cases hd;simp only[VRel]at hr⊢;obtain⟨p,hp,rfl⟩:=hr;obtain⟨p',gd,_,_,es,cl,he,hs⟩:=r.live b _ dq;obtain rfl:p=p':=z9o (hp.symm.trans gd);exact⟨p.blk,es,cl,rfl,.inr ⟨b,_,p,hb,dq,hp,rfl⟩,he,hs⟩
   rename_i ks vs bs cl dq;split at hd
   case h_2=>cases hd
   rename_i jE ee h1 h2;cases hd;simp only[VRel]at hr⊢;obtain⟨p,hp,rfl⟩:=hr;obtain⟨p',gd,_,_,es,he,hk,gO,qA⟩:=r.live b _ dq;obtain rfl:p=p':=z9o (hp.symm.trans gd);have e1:=a82 hI ih ks h1 hk;have e2:=a82 hI ih vs h2 gO;rw[a7b]at e1 e2;exact⟨p.blk,es,rfl,.inr ⟨b,_,p,hb,dq,hp,rfl⟩,he,e1,e2,qA⟩
  ·simp only[a4e]at hd;split at hd
   case h_2=>cases hd
   rename_i k aa dq;split at hd
   case h_2=>cases hd
   rename_i rr td;split at hd
   case h_2=>cases hd
   rename_i cs h1;cases hd;simp only[VRel]at hr⊢;obtain⟨p,hp,rfl⟩:=hr;obtain⟨p',gd,_,_,hk,_,_,az⟩:=r.live b _ dq;obtain rfl:p=p':=z9o (hp.symm.trans gd);obtain⟨al,br⟩:=VRows.get i az td;have jf:VAt I w ρ (rr.drop o) p.blk (p.off+i*k+o):=by
    by_cases ho:o≤rr.length
    ·exact VAt.drop o ho br
    ·rw[f3s (by omega)];simp[VAt]
   rw[hk];exact⟨p.blk,_,rfl,.inr ⟨b,_,p,hb,dq,hp,rfl⟩,c22 hI ih _ h1 jf⟩
  ·simp only[a4e]at hd;split at hd
   case h_2=>cases hd
   rename_i k aa dq;rw[cond_eq_ite]at hd;split at hd
   case isFalse=>cases hd
   rename_i bN;rw[f1h]at bN;split at hd
   case h_2=>cases hd
   rename_i rs h1;cases hd;have al:rs.length=len:=by rw[b3p h1];simp;omega
   simp only[VRel]at hr⊢;obtain⟨a,cc,rfl,bl,a9,bU⟩:=hr;obtain⟨p',gd,_,_,hk,_,_,az⟩:=r.live b _ dq;refine⟨a,cc,k,by rw[al],by rw[al];exact bl,a9,?_⟩;rcases bU with rfl|⟨p,hp,rfl,_⟩
   ·left;exact f2w.1 (by omega)
   ·right;obtain rfl:p=p':=z9o (hp.symm.trans gd);refine⟨rfl,.inr ⟨b,_,p,hb,dq,hp,rfl⟩,?_⟩;have:=d02 hI ih _ h1 (VRows.take len (VRows.drop off (by omega) az));rw[hk];exact this
theorem HRel.grow{I':Nat→Prop}(r:HRel G I K ρ h w)(hI:∀c,I c→I' c)(nG:∀b o m,h b=some o→ρ b=some m→¬I' m.blk)(hK:∀c,I' c→¬K c)(bF:∀c,I' c→c<w.heap.size) :
 HRel G I' K ρ h w:={
 live b o hb:=by obtain⟨m,h1,h2,h3,h4⟩:=r.live b o hb;exact⟨m,h1,nG b o m hb h1,h3,ORel.mono o hI (λ_ _=>rfl) (λ_ _ h=>h) rfl h4⟩
 inj:=r.inj
 dom:=r.dom
 imm:=bF
 kept:=r.kept
 apart:=hK
 glob g cs hg:=⟨hI _ (r.glob g cs hg).1,VAt.mono hI (λ_ _=>rfl) cs (λ_ _ h=>h) rfl (r.glob g cs hg).2⟩}
def a1e(m:Nat):Nat→Option Nat:=λb=>bif Nat.blt b m then some b else none
theorem a9r(r:HRel G I K ρ h w){n:Nat}{v v':AV}{c:Value}(hf:a3e m true (a4e h m n) v=some v')(hv:VRel I w ρ v c){h':FHeap}
 (hh:∀b o',h' b=some o'→∃o,b<m∧h b=some o∧o'=a0e (a1e m) o) :
 HRel G (a3h I ρ h m) K (ρ.below m true) h' w∧VRel (a3h I ρ h m) w (ρ.below m true) v' c:=by
 have hI:∀c,I c→a3h I ρ h m c:=λc hc=>.inl hc;refine⟨?_,b0p hI (a5h r n) v hf hv⟩;have r0:HRel G I K ρ (λb=>if b<m then h b else none) w:=r.fewer (λb o hb=>by
  split at hb
  ·exact hb
  ·cases hb)
 have r1:HRel G (a3h I ρ h m) K ρ (λb=>if b<m then h b else none) w:=by
  refine r0.grow hI ?_ ?_ ?_
  ·intro b o p hb hp;split at hb
   case isFalse=>cases hb
   rename_i aj;obtain⟨p',gd,dy,_,_⟩:=r.live b o hb;obtain rfl:p=p':=z9o (hp.symm.trans gd)
   rintro(hc|⟨b',o',q,aW,d5,hq,he⟩)
   ·exact dy hc
   ·have:=r.inj b b' p q (by simp[hb]) (by simp[d5]) hp hq he.symm;omega
  ·rintro c (hc|⟨b',o',q,aW,d5,hq,rfl⟩)
   ·exact r.apart c hc
   ·obtain⟨q',ii,_,fA,_⟩:=r.live b' o' d5;obtain rfl:q=q':=z9o (hq.symm.trans ii);exact fA
  ·rintro c (hc|⟨b',o',q,aW,d5,hq,rfl⟩)
   ·exact r.imm c hc
   ·exact r.dom b' q hq
 refine r1.rename (π:=a1e m) ?_ ?_ ?_
 ·intro b b' p hp hb;simp only[a1e]at hp;rw[cond_eq_ite]at hp;split at hp
  case isFalse=>cases hp
  rename_i aj;cases hp;simp only[PMap.below];rw[e8j ⟨trivial,by simpa[e9o]using aj⟩];exact hb
 ·intro b o' hb;obtain⟨o,aj,ho,rfl⟩:=hh b o' hb;refine⟨b,o,by rw[e8j aj];exact ho,?_,rfl⟩;simp only[a1e];rw[cond_eq_ite,e8j (by simpa[e9o]using aj)]
 ·intro b p hb;simp only[PMap.below]at hb;split at hb
  ·exact r.dom b p hb
  ·cases hb
def b1q(m:Nat)(d:AV→Option AV):AObj→AObj
 |.row k aa=>match frzT m d aa with
  |some be=>.row k be
  |none=>a0e (a1e m) (.row k aa)
 |o=>a0e (a1e m) o
theorem d4e(m:Nat)(d:AV→Option AV)(o:AObj):b1q m d o=a0e (a1e m) o∨∃k aa be,o = .row k aa∧frzT m d aa=some be∧b1q m d o = .row k be:=by
 cases o with
 |row k aa=>
  cases hf:frzT m d aa with
  |none=>left;simp[b1q,hf]
  |some be=>right;exact⟨k,aa,be,rfl,hf,by simp[b1q,hf]⟩
 |_=>left;rfl
theorem c24(r:HRel G I K ρ h w){n:Nat}{h':FHeap}(hh:∀b o',h' b=some o'→∃o,b<m∧h b=some o∧o'=b1q m (a4e h m n) o) :
 HRel G (a3h I ρ h m) K (ρ.below m true) h' w:=by
 have hI:∀c,I c→a3h I ρ h m c:=λc hc=>.inl hc;have h1:=(a9r (h':=λb=>if b<m then(h b).map (a0e (a1e m))else none) r (v:=.junk) (v':=.junk) (c:=.nilFunc) (n:=n) (m:=m) rfl (by simp[VRel]) (λb o' hb=>by
  split at hb
  case isFalse=>cases hb
  rename_i aj;cases hx:h b with
  |none=>rw[hx]at hb;cases hb
  |some o=>rw[hx]at hb;cases hb;exact⟨o,aj,rfl,rfl⟩)).1
 have low:∀b,(h' b).isSome→(if b<m then(h b).map (a0e (a1e m))else none).isSome:=by intro b hb;obtain⟨o',ho⟩:=e7n.1 hb;obtain⟨o,aj,hx,_⟩:=hh b o' ho;rw[e8j aj,hx];rfl
 refine⟨?_,λb b' p p' hb aW=>h1.inj b b' p p' (low b hb) (low b' aW),h1.dom,h1.imm,h1.kept,h1.apart,h1.glob⟩;intro b o' hb;obtain⟨o,aj,hx,rfl⟩:=hh b o' hb;obtain⟨p,hp,pV,fA,hO⟩:=h1.live b (a0e (a1e m) o) (by simp only[e8j aj,hx,e8d]);refine⟨p,hp,pV,fA,?_⟩;rcases d4e m (a4e h m n) o with e|⟨k,aa,be,rfl,hf,e⟩
 ·rw[e];exact hO
 ·rw[e];obtain⟨p',gd,_,_,hk,hk0,⟨bQ,el,mz,oe,od⟩,az⟩:=r.live b _ hx;have eF:ρ b=some p:=by
   simp only[PMap.below]at hp;rw[e8j ⟨trivial,aj⟩]at hp;exact hp
  obtain rfl:p=p':=z9o (eF.symm.trans gd);exact⟨hk,hk0,⟨bQ,el,mz,oe,by rw[a98 hf];exact od⟩,c21 hI (a5h r n) aa hf az⟩
end
end Go.Ax
