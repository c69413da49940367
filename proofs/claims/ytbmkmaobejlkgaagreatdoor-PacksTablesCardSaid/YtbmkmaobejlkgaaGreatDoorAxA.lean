/- AxCore: abstract values, abstract heap objects, and what they say of a world. No condition: definitions and their monotonicity. -/
import Derived.Orders
import Derived.Scope
import Derived.Laws.Sem
import Derived.Laws.CopyRow
import GoSem.Extern.Table
import Derived.Laws.Strings
import GoSem.Builtin.Append
import GoSem.Builtin.Len
import GoSem.Builtin.Cap
import GoSem.Builtin.Min
import GoSem.Builtin.Max
import GoSem.Builtin.Copy
import GoSem.Builtin.Clear
import GoSem.Instr.MapUpdate
import GoSem.Instr.MapEntry
import GoSem.Builtin.Delete
import GoSem.Instr.Range
import GoSem.Instr.Next
import GoSem.Instr.Entry
import GoSem.Dispatch
set_option linter.unusedSimpArgs false
set_option linter.unusedVariables false
namespace Go.Ax
theorem c10:type_of% @List.mem_of_getElem?:=@List.mem_of_getElem?
theorem c11:type_of% @List.length_map:=@List.length_map
theorem e12:type_of% @List.map_cons:=@List.map_cons
theorem e9k:type_of% @List.getElem?_eq_some_iff:=@List.getElem?_eq_some_iff
theorem e9l:type_of% @Bool.and_eq_true:=@Bool.and_eq_true
theorem e9m:type_of% @List.length_cons:=@List.length_cons
theorem e9n:type_of% @List.append_nil:=@List.append_nil
theorem e9o:type_of% @List.append_assoc:=@List.append_assoc
theorem e9p:type_of% @List.map_nil:=@List.map_nil
theorem e9q:type_of% @List.nil_append:=@List.nil_append
theorem f0c:type_of% @Option.isSome_iff_exists:=@Option.isSome_iff_exists
theorem f0d:type_of% @List.getElem?_map:=@List.getElem?_map
theorem f0e:type_of% @Option.map_some:=@Option.map_some
theorem f0f:type_of% @List.take_of_length_le:=@List.take_of_length_le
theorem f0g:type_of% @List.length_nil:=@List.length_nil
theorem f0h:type_of% @Nat.zero_le:=@Nat.zero_le
theorem f0i:type_of% @List.getElem?_append_left:=@List.getElem?_append_left
theorem f0j:type_of% @if_neg:=@if_neg
theorem f0k:type_of% @List.cons_append:=@List.cons_append
theorem f0l:type_of% @decide_eq_true_eq:=@decide_eq_true_eq
theorem f1n:type_of% @List.getElem?_append_right:=@List.getElem?_append_right
theorem f1o:type_of% @List.length_append:=@List.length_append
theorem f1p:type_of% @List.getElem?_cons_zero:=@List.getElem?_cons_zero
theorem f1q:type_of% @List.getElem?_cons_succ:=@List.getElem?_cons_succ
theorem f1r:type_of% @if_pos:=@if_pos
theorem f1s:type_of% @List.mem_singleton:=@List.mem_singleton
theorem f1t:type_of% @List.getElem?_mapIdx:=@List.getElem?_mapIdx
theorem f1u:type_of% @Nat.le_refl:=@Nat.le_refl
theorem f2m:type_of% @cond_true:=@cond_true
theorem f2n:type_of% @List.getElem?_eq_none:=@List.getElem?_eq_none
theorem f2o:type_of% @List.map_append:=@List.map_append
theorem f2p:type_of% @Nat.blt_eq:=@Nat.blt_eq
theorem f2q:type_of% @List.take_zero:=@List.take_zero
theorem f2r:type_of% @List.length_set:=@List.length_set
theorem f2s:type_of% @List.mem_cons:=@List.mem_cons
theorem f2t:type_of% @Array.length_toList:=@Array.length_toList
theorem f2u:type_of% @List.all_eq_true:=@List.all_eq_true
theorem f2v:type_of% @List.getElem?_set:=@List.getElem?_set
theorem f2w:type_of% @List.mem_append:=@List.mem_append
theorem f2x:type_of% @decide_eq_true:=@decide_eq_true
theorem f2y:type_of% @Array.getD_eq_getD_getElem?:=@Array.getD_eq_getD_getElem?
theorem f2z:type_of% @cond_false:=@cond_false
theorem f3a:type_of% @List.take_length:=@List.take_length
theorem f3b:type_of% @List.length_range:=@List.length_range
theorem f3c:type_of% @Array.getElem?_setIfInBounds:=@Array.getElem?_setIfInBounds
theorem f3d:type_of% @Array.getElem?_eq_some_iff:=@Array.getElem?_eq_some_iff
theorem f3e:type_of% @Nat.zero_add:=@Nat.zero_add
theorem f3f:type_of% @List.length_take:=@List.length_take
theorem f3g:type_of% @List.ext_getElem?:=@List.ext_getElem?
theorem f3h:type_of% @List.map_congr_left:=@List.map_congr_left
theorem f3i:type_of% @Option.getD_some:=@Option.getD_some
theorem f3j:type_of% @List.mem_or_eq_of_mem_set:=@List.mem_or_eq_of_mem_set
theorem f3k:type_of% @beq_eq_false_iff_ne:=@beq_eq_false_iff_ne
theorem f3l:type_of% @Bool.false_eq_true:=@Bool.false_eq_true
theorem f3m:type_of% @List.getElem?_replicate:=@List.getElem?_replicate
theorem f3n:type_of% @Option.join_some:=@Option.join_some
theorem f3o:type_of% @List.mem_iff_getElem?:=@List.mem_iff_getElem?
theorem f3p:type_of% @List.findIdx?_eq_some_iff_getElem:=@List.findIdx?_eq_some_iff_getElem
theorem f3y:type_of% @List.map_set:=@List.map_set
theorem f3z:type_of% @Bool.not_eq_true':=@Bool.not_eq_true'
theorem f4a:type_of% @List.flatten_cons:=@List.flatten_cons
theorem f4b:type_of% @if_true:=@if_true
theorem f4c:type_of% @List.flatMap_cons:=@List.flatMap_cons
theorem f4f:type_of% @List.mem_map_of_mem:=@List.mem_map_of_mem
theorem f4g:type_of% @List.drop_zero:=@List.drop_zero
theorem f4h:type_of% @List.getElem?_toArray:=@List.getElem?_toArray
theorem f4i:type_of% @Nat.lt_or_ge:=@Nat.lt_or_ge
theorem f4j:type_of% @Ne.symm:=@Ne.symm
theorem f4k:type_of% @Nat.ble_eq:=@Nat.ble_eq
theorem f4l:type_of% @List.mem_map:=@List.mem_map
theorem f4m:type_of% @Nat.mul_le_mul_right:=@Nat.mul_le_mul_right
theorem f4n:type_of% @List.eq_of_mem_replicate:=@List.eq_of_mem_replicate
theorem f4p:type_of% @List.mem_filter:=@List.mem_filter
theorem f4r:type_of% @List.getElem?_take:=@List.getElem?_take
theorem f4s:type_of% @Nat.eq_of_beq_eq_true:=@Nat.eq_of_beq_eq_true
theorem f4t:type_of% @Bool.and_self:=@Bool.and_self
theorem f5m:type_of% @Option.bind_some:=@Option.bind_some
theorem f5n:type_of% @Bool.true_and:=@Bool.true_and
theorem f5o:type_of% @Nat.add_mul:=@Nat.add_mul
theorem f5p:type_of% @Array.getElem?_toList:=@Array.getElem?_toList
theorem f5q:type_of% @List.nodup_cons:=@List.nodup_cons
theorem f5r:type_of% @Array.toList_map:=@Array.toList_map
theorem f5s:type_of% @List.idxOf?_cons:=@List.idxOf?_cons
theorem f5t:type_of% @Nat.add_sub_cancel_left:=@Nat.add_sub_cancel_left
theorem f6h:type_of% @of_eq_true:=@of_eq_true
theorem f6i:type_of% @List.getElem?_drop:=@List.getElem?_drop
theorem f6j:type_of% @List.drop_eq_nil_of_le:=@List.drop_eq_nil_of_le
theorem f6k:type_of% @beq_iff_eq:=@beq_iff_eq
theorem f6l:type_of% @Bool.eq_iff_iff:=@Bool.eq_iff_iff
theorem f6m:type_of% @Bool.not_true:=@Bool.not_true
theorem f6n:type_of% @List.eq_nil_of_length_eq_zero:=@List.eq_nil_of_length_eq_zero
theorem f6o:type_of% @List.replicate_succ:=@List.replicate_succ
theorem f6p:type_of% @Array.toList_push:=@Array.toList_push
theorem f6q:type_of% @Bool.or_eq_true:=@Bool.or_eq_true
theorem f6r:type_of% @Array.ext':=@Array.ext'
theorem f6s:type_of% @Nat.add_zero:=@Nat.add_zero
theorem f6t:type_of% @List.getD_eq_getElem?_getD:=@List.getD_eq_getElem?_getD
theorem f6u:type_of% @List.append_eq_nil_iff:=@List.append_eq_nil_iff
theorem f6x:type_of% @Array.getElem?_push:=@Array.getElem?_push
theorem f6y:type_of% @decide_true:=@decide_true
theorem f6z:type_of% @List.mem_range:=@List.mem_range
theorem f7a:type_of% @decide_eq_false:=@decide_eq_false
theorem f7b:type_of% @List.take_append_drop:=@List.take_append_drop
theorem f7c:type_of% @if_false:=@if_false
theorem f7d:type_of% @List.mem_cons_of_mem:=@List.mem_cons_of_mem
theorem f7e:type_of% @List.map_eq_nil_iff:=@List.map_eq_nil_iff
theorem f7g:type_of% @Nat.beq_eq:=@Nat.beq_eq
theorem f7h:type_of% @Nat.mod_lt:=@Nat.mod_lt
theorem f7i:type_of% @Nat.succ_mul:=@Nat.succ_mul
theorem f7j:type_of% @Nat.le_trans:=@Nat.le_trans
theorem f7k:type_of% @eq_true:=@eq_true
theorem z9e{α:Type}{l:List α}{i:Nat}(h:i<l.length):l[i]?=some l[i]:=List.getElem?_eq_getElem h
theorem z9o{α:Type}{a b:α}(h:some a=some b):a=b:=Option.some.inj h
inductive AV where
 |junk
 |bool (b:Bool)
 |int (k:IntKind)(n:Int)
 |str (s:List UInt8)
 |nilptr
 |nilslice
 |nilmap
 |nilfunc
 |nilifc
 |ptr (b i o:Nat)
 |iptr (cells:List AV)
 |slice (b off len:Nat)(cap:Option Nat)
 |islice (rows:List (List AV))(cap:Option Nat)
 |map (b:Nat)
 |imap (ks vs:List AV)(bs:List Nat)(bh:Nat)
 |iset (ks:List Int)
 |yfn (b:Nat)
 |func (fn:Fn)(first fG:List AV)
 |iface (t:TypeId)(v:AV)
 |agg (cells:List AV)
 |tuple (vs:List AV)
 deriving Inhabited
structure Pl where
 blk:Nat
 off:Nat
 k:Nat
 room:Nat
abbrev PMap:=Nat→Option Pl
def noP:PMap:=λ_=>none
def USet(ks:List Int)(es:Array MapEntry)(cl:Nat):Prop:=(es.toList.map (·.key)).Perm (ks.map (Value.int .i64))∧(∀e∈es.toList,e.val = .bool true)∧ks.Nodup∧(es.toList.map (·.born)).Nodup∧∀e∈es.toList,e.born<cl
mutual
def VRel(I:Nat→Prop)(w:World):PMap→AV→Value→Prop
 |_,.junk,_=>True
 |_,.bool b,v=>v = .bool b
 |_,.int k n,v=>v = .int k n
 |_,.str s,v=>∃t:ByteArray,v = .string t∧t.data.toList=s
 |_,.nilptr,v=>v = .pointer none
 |_,.nilslice,v=>v = .slice none 0 0
 |_,.nilmap,v=>v = .map none
 |_,.nilfunc,v=>v = .nilFunc
 |_,.nilifc,v=>v = .nilIface
 |ρ,.ptr b i o,v=>∃m,ρ b=some m∧v = .pointer (some ⟨m.blk,m.off+i*m.k+o,none⟩)
 |_,.iptr cs,v=>∃c off,v = .pointer (some ⟨c,off,none⟩)∧I c∧VAt I w noP cs c off
 |ρ,.slice b off len cap,v=>∃a c,v = .slice (some a) len c∧len≤c∧(∀n,cap=some n→c=n)∧
  (c=0∨∃m,ρ b=some m∧a=⟨m.blk,m.off+off*m.k,none⟩∧m.off+(off+c)*m.k≤m.room)
 |_,.islice rows cap,v=>∃a c k,v = .slice (some a) rows.length c∧rows.length≤c∧(∀n,cap=some n→c=n)∧
  (rows=[]∨(a.spot=none∧I a.block∧VRows I w k noP rows a.block a.off))
 |ρ,.map b,v=>∃m,ρ b=some m∧v = .map (some m.blk)
 |_,.imap ks vs bs bh,v=>∃c es,v = .map (some c)∧I c∧w.heap[c]?=some (.map es bh)∧
  VRels I w noP ks (es.toList.map (·.key))∧VRels I w noP vs (es.toList.map (·.val))∧es.toList.map (·.born)=bs
 |_,.iset ks,v=>∃c es cl,v = .map (some c)∧I c∧w.heap[c]?=some (.map es cl)∧USet ks es cl
 |ρ,.yfn b,v=>∃m,ρ b=some m∧v = .func (.yield m.blk) #[] #[]
 |ρ,.func fn fs cs,v=>∃cz aJ:Array Value,v = .func fn cz aJ∧VRels I w ρ fs cz.toList∧VRels I w ρ cs aJ.toList
 |ρ,.iface t x,v=>∃x',v = .iface t x'∧VRel I w ρ x x'
 |ρ,.agg cs,v=>∃aJ:Array Value,v = .agg aJ∧VRels I w ρ cs aJ.toList
 |ρ,.tuple cs,v=>∃aJ:Array Value,v = .tuple aJ∧VRels I w ρ cs aJ.toList
def VRels(I:Nat→Prop)(w:World):PMap→List AV→List Value→Prop
 |_,[],l=>l=[]
 |ρ,v::vs,l=>∃c cs,l=c::cs∧VRel I w ρ v c∧VRels I w ρ vs cs
def VAt(I:Nat→Prop)(w:World):PMap→List AV→Nat→Nat→Prop
 |_,[],_,_=>True
 |ρ,v::vs,b,off=>(∃c,w.cell? ⟨b,off,none⟩=some c∧VRel I w ρ v c)∧VAt I w ρ vs b (off+1)
def VRows(I:Nat→Prop)(w:World)(k:Nat):PMap→List (List AV)→Nat→Nat→Prop
 |_,[],_,_=>True
 |ρ,r::rs,b,off=>r.length=k∧VAt I w ρ r b off∧VRows I w k ρ rs b (off+k)
end
theorem b4l{w w':World}{b o:Nat}(h:w'.heap[b]?=w.heap[b]?):w'.cell? ⟨b,o,none⟩=w.cell? ⟨b,o,none⟩:=by simp[World.cell?,h]
section
variable {I I':Nat→Prop}{w w':World}
mutual
theorem VRel.mono(hI:∀c,I c→I' c)(hw:∀c,I c→w'.heap[c]?=w.heap[c]?) :
 ∀{ρ ρ':PMap} (v:AV) {c:Value},(∀b m,ρ b=some m→ρ' b=some m)→VRel I w ρ v c→VRel I' w' ρ' v c
 |ρ,ρ',v,c,hρ,h=>by
  cases v with
  |junk=>simp[VRel]
  |bool b=>simpa[VRel]using h
  |int k n=>simpa[VRel]using h
  |str s=>simpa[VRel]using h
  |nilptr=>simpa[VRel]using h
  |nilslice=>simpa[VRel]using h
  |nilmap=>simpa[VRel]using h
  |nilfunc=>simpa[VRel]using h
  |nilifc=>simpa[VRel]using h
  |ptr b i o=>simp only[VRel]at h⊢;obtain⟨m,hm,rfl⟩:=h;exact⟨m,hρ b m hm,rfl⟩
  |iptr cs=>simp only[VRel]at h⊢;obtain⟨b,off,rfl,hb,h⟩:=h;exact⟨b,off,rfl,hI _ hb,VAt.mono hI hw cs (λ_ _ h=>h) (hw _ hb) h⟩
  |slice b off len cap=>
   simp only[VRel]at h⊢;obtain⟨a,n,rfl,h1,h2,h3⟩:=h;refine⟨a,n,rfl,h1,h2,h3.imp id ?_⟩
   rintro⟨m,hm,rfl,hr⟩
   exact⟨m,hρ b m hm,rfl,hr⟩
  |islice rows cap=>
   simp only[VRel]at h⊢;obtain⟨a,n,k,rfl,h1,h2,h3⟩:=h;refine⟨a,n,k,rfl,h1,h2,h3.imp id ?_⟩
   rintro⟨hs,hb,h⟩
   exact⟨hs,hI _ hb,VRows.mono hI hw rows (λ_ _ h=>h) (hw _ hb) h⟩
  |map b=>simp only[VRel]at h⊢;obtain⟨m,hm,rfl⟩:=h;exact⟨m,hρ b m hm,rfl⟩
  |imap ks vs bs bh=>simp only[VRel]at h⊢;obtain⟨b,es,rfl,hb,he,h1,h2,h3⟩:=h;exact⟨b,es,rfl,hI _ hb,by rw[hw _ hb,he],VRels.mono hI hw ks (λ_ _ h=>h) h1,VRels.mono hI hw vs (λ_ _ h=>h) h2,h3⟩
  |iset ks=>simp only[VRel]at h⊢;obtain⟨b,es,cl,rfl,hb,he,h1⟩:=h;exact⟨b,es,cl,rfl,hI _ hb,by rw[hw _ hb,he],h1⟩
  |yfn b=>simp only[VRel]at h⊢;obtain⟨m,hm,rfl⟩:=h;exact⟨m,hρ b m hm,rfl⟩
  |func fn fs cs=>simp only[VRel]at h⊢;obtain⟨cz,aJ,rfl,h1,h2⟩:=h;exact⟨cz,aJ,rfl,VRels.mono hI hw fs hρ h1,VRels.mono hI hw cs hρ h2⟩
  |iface t x=>simp only[VRel]at h⊢;obtain⟨x',rfl,h⟩:=h;exact⟨x',rfl,VRel.mono hI hw x hρ h⟩
  |agg cs=>simp only[VRel]at h⊢;obtain⟨aJ,rfl,h⟩:=h;exact⟨aJ,rfl,VRels.mono hI hw cs hρ h⟩
  |tuple cs=>simp only[VRel]at h⊢;obtain⟨aJ,rfl,h⟩:=h;exact⟨aJ,rfl,VRels.mono hI hw cs hρ h⟩
theorem VRels.mono(hI:∀c,I c→I' c)(hw:∀c,I c→w'.heap[c]?=w.heap[c]?) :
 ∀{ρ ρ':PMap} (vs:List AV) {cs:List Value},(∀b m,ρ b=some m→ρ' b=some m)→VRels I w ρ vs cs→VRels I' w' ρ' vs cs
 |ρ,ρ',[],cs,hρ,h=>by simpa[VRels]using h
 |ρ,ρ',v::vs,cs,hρ,h=>by simp only[VRels]at h⊢;obtain⟨c,aJ,rfl,h1,h2⟩:=h;exact⟨c,aJ,rfl,VRel.mono hI hw v hρ h1,VRels.mono hI hw vs hρ h2⟩
theorem VAt.mono(hI:∀c,I c→I' c)(hw:∀c,I c→w'.heap[c]?=w.heap[c]?) :
 ∀{ρ ρ':PMap} (vs:List AV) {b off:Nat},(∀b m,ρ b=some m→ρ' b=some m)→w'.heap[b]?=w.heap[b]?→VAt I w ρ vs b off→VAt I' w' ρ' vs b off
 |ρ,ρ',[],b,off,hρ,hb,h=>by simp[VAt]
 |ρ,ρ',v::vs,b,off,hρ,hb,h=>by simp only[VAt]at h⊢;obtain⟨⟨c,hc,h1⟩,h2⟩:=h;exact⟨⟨c,by rw[b4l hb,hc],VRel.mono hI hw v hρ h1⟩,VAt.mono hI hw vs hρ hb h2⟩
theorem VRows.mono{k:Nat}(hI:∀c,I c→I' c)(hw:∀c,I c→w'.heap[c]?=w.heap[c]?) :
 ∀{ρ ρ':PMap} (rs:List (List AV)) {b off:Nat},(∀b m,ρ b=some m→ρ' b=some m)→w'.heap[b]?=w.heap[b]?→VRows I w k ρ rs b off→VRows I' w' k ρ' rs b off
 |ρ,ρ',[],b,off,hρ,hb,h=>by simp[VRows]
 |ρ,ρ',r::rs,b,off,hρ,hb,h=>by simp only[VRows]at h⊢;obtain⟨h0,h1,h2⟩:=h;exact⟨h0,VAt.mono hI hw r hρ hb h1,VRows.mono hI hw rs hρ hb h2⟩
end
end
end Go.Ax
/- AxRel: abstract heaps against worlds; what a step may change; renaming of block numbers. -/
namespace Go.Ax
inductive YSt where
 |ready
 |busy
 |done (id:Option Nat)
 deriving Inhabited,DecidableEq
structure RInfo where
 N:Nat
 ps:List Nat
 asg:Code
 body:Code
 fid:Nat
structure GTab(α:Type) where
 glob:Nat→Option α
 rnd:Nat→Option RInfo
instance {α:Type}:CoeFun (GTab α) (λ_=>Nat→Option α):=⟨GTab.glob⟩
def b4x:Code→Bool
 |.rangeFunc _ _ _ _=>false
 |.seq a b=>b4x a&&b4x b
 |.cond _ a b=>b4x a&&b4x b
 |.block _ b=>b4x b
 |.loop b=>b4x b
 |.scope b=>b4x b
 |_=>true
def c48:Option Nat→Code
 |none=>.ret
 |some id=>.exit id
inductive AObj where
 |row (k:Nat)(rows:List (List AV))
 |map (ks vs:List AV)(bs:List Nat)(bh:Nat)
 |siter (s:List UInt8)(pos:Nat)
 |uset (ks:List Int)
 |miter (ks cG:List Int)(cT:Option (Option Int))
 |yloop (y:Nat)(F:List (Nat×AV))(st:YSt)
 deriving Inhabited
def b9j:List (Nat×AV)→Nat→AV
 | [],_=>.junk
 |(s,v)::r,t=>bif Nat.beq s t then v else b9j r t
def f6v(G:GTab (List AV))(I:Nat→Prop)(w:World)(ρ:PMap)(l:Nat)(y:Nat)(F:List (Nat×AV))(st:YSt):Prop:=
 ∃(ri:RInfo) (r:Loop),G.rnd y=some ri∧w.heap[l]?=some (.loop r)∧r.tmps.size=ri.N∧r.params.toList=ri.ps∧r.assign=ri.asg∧r.body=ri.body∧(∀s,VRel I w ρ (b9j F s) (r.tmps.getD s undef))∧
  (match st with
   |.ready=>r.state = .ready∧r.pending=none
   |.busy=>r.state = .busy
   |.done j=>r.state = .done∧r.pending=some (c48 j))
def f6w(es:Array MapEntry)(seen:Array Nat)(cG:List Int):Prop:=∃cP:List MapEntry,(∀e∈cP,e∈es.toList)∧cP.map (·.born)=seen.toList∧cP.map (·.key)=cG.map (Value.int .i64)
abbrev FHeap:=Nat→Option AObj
def ORel(G:GTab (List AV))(I:Nat→Prop)(w:World)(ρ:PMap)(m:Pl):AObj→Prop
 |.row k rows=>m.k=k∧0<k∧(∃bR e,w.heap[m.blk]?=some (.cells bR e (0,0))∧bR.size=m.room∧m.off+rows.length*k≤m.room)∧VRows I w k ρ rows m.blk m.off
 |.map ks vs bs bh=>∃es,w.heap[m.blk]?=some (.map es bh)∧VRels I w ρ ks (es.toList.map (·.key))∧VRels I w ρ vs (es.toList.map (·.val))∧es.toList.map (·.born)=bs
 |.siter s pos=>m.off=0∧∃t,w.heap[m.blk]?=some (.stringIter t pos)∧t.data.toList=s
 |.uset ks=>∃es cl,w.heap[m.blk]?=some (.map es cl)∧USet ks es cl
 |.miter ks cG _=>m.off=0∧((ks=[]∧cG=[]∧w.heap[m.blk]?=some (.mapIter none 0 #[] 0))∨
  ∃c es cl seen,I c∧w.heap[c]?=some (.map es cl)∧USet ks es cl∧w.heap[m.blk]?=some (.mapIter (some c) cl seen cl)∧f6w es seen cG)
 |.yloop y F st=>f6v G I w ρ m.blk y F st
structure HRel(G:GTab (List AV))(I K:Nat→Prop)(ρ:PMap)(h:FHeap)(w:World):Prop where
 live:∀b o,h b=some o→∃m,ρ b=some m∧¬I m.blk∧¬K m.blk∧ORel G I w ρ m o
 inj:∀b b' m m',(h b).isSome→(h b').isSome→ρ b=some m→ρ b'=some m'→m.blk=m'.blk→b=b'
 dom:∀b m,ρ b=some m→m.blk<w.heap.size
 imm:∀c,I c→c<w.heap.size
 kept:∀c,K c→c<w.heap.size
 apart:∀c,I c→¬K c
 glob:∀g cs,G g=some cs→I g∧VAt I w noP cs g 0
structure Ext(I K:Nat→Prop)(w w':World):Prop where
 os:w'.os=w.os
 tape:w'.tape=w.tape
 output:w'.output=w.output
 size:w.heap.size≤w'.heap.size
 keep:∀c,I c∨K c→w'.heap[c]?=w.heap[c]?
theorem Ext.refl(I K:Nat→Prop)(w:World):Ext I K w w:=⟨rfl,rfl,rfl,f1u _,λ_ _=>rfl⟩
theorem Ext.trans{I I' K:Nat→Prop}{w w' i6:World}(hI:∀c,I c→I' c)(h:Ext I K w w')(k:Ext I' K w' i6):Ext I K w i6:=
 ⟨k.os.trans h.os,k.tape.trans h.tape,k.output.trans h.output,f7j h.size k.size,
  λc hc=>(k.keep c (hc.imp (hI c) id)).trans (h.keep c hc)⟩
theorem ORel.mono{G:GTab (List AV)}{I I':Nat→Prop}{w w':World}{ρ ρ':PMap}{m:Pl}(o:AObj)(hI:∀c,I c→I' c)(hw:∀c,I c→w'.heap[c]?=w.heap[c]?)
 (hρ:∀b m,ρ b=some m→ρ' b=some m)(hb:w'.heap[m.blk]?=w.heap[m.blk]?)(h:ORel G I w ρ m o):ORel G I' w' ρ' m o:=by
 cases o with
 |row k rows=>obtain⟨h1,h2,⟨bR,e,h3,h4⟩,h5⟩:=h;exact⟨h1,h2,⟨bR,e,by rw[hb,h3],h4⟩,VRows.mono hI hw rows hρ hb h5⟩
 |map ks vs bs bh=>obtain⟨es,h1,h2,h3,h4⟩:=h;exact⟨es,by rw[hb,h1],VRels.mono hI hw ks hρ h2,VRels.mono hI hw vs hρ h3,h4⟩
 |siter s pos=>obtain⟨h0,t,h1,h2⟩:=h;exact⟨h0,t,by rw[hb,h1],h2⟩
 |uset ks=>obtain⟨es,cl,h1,h2⟩:=h;exact⟨es,cl,by rw[hb,h1],h2⟩
 |miter ks cG cT=>
  obtain⟨h0,h⟩:=h;rcases h with ⟨h1,h2,h3⟩|⟨c,es,cl,seen,h1,h2,h3,h4,h5⟩
  ·exact⟨h0,.inl ⟨h1,h2,by rw[hb,h3]⟩⟩
  ·exact⟨h0,.inr ⟨c,es,cl,seen,hI c h1,by rw[hw c h1,h2],h3,by rw[hb,h4],h5⟩⟩
 |yloop y F st=>obtain⟨ri,r,h0,h1,h2,h3,h4,h5,h6,h7⟩:=h;exact⟨ri,r,h0,by rw[hb,h1],h2,h3,h4,h5,λs=>VRel.mono hI hw _ hρ (h6 s),h7⟩
structure Stepped(G:GTab (List AV))(I K:Nat→Prop)(ρ:PMap)(w:World)(I':Nat→Prop)(ρ':PMap)(h':FHeap)(w':World):Prop where
 imm:∀c,I c→I' c
 map:∀b m,ρ b=some m→ρ' b=some m
 ext:Ext I K w w'
 rel:HRel G I' K ρ' h' w'
theorem Stepped.vrel{G I K ρ w I' ρ' h' w'}(s:Stepped G I K ρ w I' ρ' h' w'){v:AV}{c:Value}(h:VRel I w ρ v c):VRel I' w' ρ' v c:=VRel.mono s.imm (λc hc=>s.ext.keep c (.inl hc)) v s.map h
theorem Stepped.vrels{G I K ρ w I' ρ' h' w'}(s:Stepped G I K ρ w I' ρ' h' w'){v:List AV}{c:List Value}(h:VRels I w ρ v c):VRels I' w' ρ' v c:=VRels.mono s.imm (λc hc=>s.ext.keep c (.inl hc)) v s.map h
theorem Stepped.refl{G I K ρ h w}(r:HRel G I K ρ h w):Stepped G I K ρ w I ρ h w:=⟨λ_ h=>h,λ_ _ h=>h,Ext.refl _ _ _,r⟩
def SameMem(w w':World):Prop:=w'.heap=w.heap∧w'.tape=w.tape∧w'.os=w.os∧w'.output=w.output
section same
variable {I:Nat→Prop}{w w':World}
theorem SameMem.ext(s:SameMem w w')(I K:Nat→Prop):Ext I K w w':=⟨s.2.2.1,s.2.1,s.2.2.2,by rw[s.1];exact f1u _,λ_ _=>by rw[s.1]⟩
theorem HRel.same{G I K ρ h w w'}(r:HRel G I K ρ h w)(s:SameMem w w'):HRel G I K ρ h w':={
 live b o hb:=by obtain⟨m,h1,h2,h3,h4⟩:=r.live b o hb;exact⟨m,h1,h2,h3,ORel.mono o (λ_ h=>h) (λ_ _=>by rw[s.1]) (λ_ _ h=>h) (by rw[s.1]) h4⟩
 inj:=r.inj
 dom b m hb:=by rw[s.1];exact r.dom b m hb
 imm c hc:=by rw[s.1];exact r.imm c hc
 kept c hc:=by rw[s.1];exact r.kept c hc
 apart:=r.apart
 glob g cs hg:=⟨(r.glob g cs hg).1,VAt.mono (λ_ h=>h) (λ_ _=>by rw[s.1]) cs (λ_ _ h=>h) (by rw[s.1]) (r.glob g cs hg).2⟩}
theorem Stepped.same{G I K ρ h w w'}(r:HRel G I K ρ h w)(s:SameMem w w'):Stepped G I K ρ w I ρ h w':=⟨λ_ h=>h,λ_ _ h=>h,s.ext _ _,r.same s⟩
end same
theorem HRel.fewer{G I K ρ h h' w}(r:HRel G I K ρ h w)(hh:∀b o,h' b=some o→h b=some o):HRel G I K ρ h' w:={
 live b o hb:=r.live b o (hh b o hb)
 inj b b' m m' hb aL:=by
  refine r.inj b b' m m' ?_ ?_
  ·obtain⟨o,ho⟩:=f0c.1 hb;rw[hh b o ho];rfl
  ·obtain⟨o,ho⟩:=f0c.1 aL;rw[hh b' o ho];rfl
 dom:=r.dom
 imm:=r.imm
 kept:=r.kept
 apart:=r.apart
 glob:=r.glob}
/-! ### renaming -/
mutual
def ren(π:Nat→Option Nat):AV→AV
 |.ptr b i o=>match π b with|some b'=>.ptr b' i o|none=>.junk
 |.slice b off len cap=>match π b with|some b'=>.slice b' off len cap|none=>.junk
 |.map b=>match π b with|some b'=>.map b'|none=>.junk
 |.func fn fs cs=>.func fn (b5s π fs) (b5s π cs)
 |.iface t x=>.iface t (ren π x)
 |.agg cs=>.agg (b5s π cs)
 |.tuple cs=>.tuple (b5s π cs)
 |.iptr cs=>.iptr cs
 |.islice rows cap=>.islice rows cap
 |.imap ks vs bs bh=>.imap ks vs bs bh
 |.iset ks=>.iset ks
 |.yfn b=>match π b with|some b'=>.yfn b'|none=>.junk
 |.junk=>.junk
 |.bool b=>.bool b
 |.int k n=>.int k n
 |.str s=>.str s
 |.nilptr=>.nilptr
 |.nilslice=>.nilslice
 |.nilmap=>.nilmap
 |.nilfunc=>.nilfunc
 |.nilifc=>.nilifc
def b5s(π:Nat→Option Nat):List AV→List AV
 | []=>[]
 |v::vs=>ren π v::b5s π vs
end
theorem a72(π:Nat→Option Nat):∀l:List AV,b5s π l=l.map (ren π)
 | []=>rfl
 |v::vs=>by simp[b5s,a72 π vs]
def a0g(π:Nat→Option Nat):AObj→AObj
 |.row k rows=>.row k (rows.map λr=>r.map (ren π))
 |.map ks vs bs bh=>.map (ks.map (ren π)) (vs.map (ren π)) bs bh
 |.siter s pos=>.siter s pos
 |.uset ks=>.uset ks
 |.miter ks cG cT=>.miter ks cG cT
 |.yloop y F st=>.yloop y (F.map λx=>(x.1,ren π x.2)) st
section
variable {I:Nat→Prop}{w:World}{π:Nat→Option Nat}{ρ ρ':PMap}
mutual
theorem VRel.ren(hπ:∀b b' m,π b=some b'→ρ b=some m→ρ' b'=some m):∀(v:AV) {c:Value},VRel I w ρ v c→VRel I w ρ' (Ax.ren π v) c
 |.ptr b i o,c,h=>by
  simp only[VRel]at h;obtain⟨m,hm,rfl⟩:=h;cases hb:π b with
  |none=>simp[Ax.ren,hb,VRel]
  |some b'=>simp only[Ax.ren,hb,VRel];exact⟨m,hπ b b' m hb hm,rfl⟩
 |.slice b off len cap,c,h=>by
  simp only[VRel]at h;obtain⟨a,n,rfl,h1,h2,h3⟩:=h;cases hb:π b with
  |none=>simp[Ax.ren,hb,VRel]
  |some b'=>
   simp only[Ax.ren,hb,VRel];refine⟨a,n,rfl,h1,h2,h3.imp id ?_⟩
   rintro⟨m,hm,rfl,hr⟩
   exact⟨m,hπ b b' m hb hm,rfl,hr⟩
 |.map b,c,h=>by
  simp only[VRel]at h;obtain⟨m,hm,rfl⟩:=h;cases hb:π b with
  |none=>simp[Ax.ren,hb,VRel]
  |some b'=>simp only[Ax.ren,hb,VRel];exact⟨m,hπ b b' m hb hm,rfl⟩
 |.func fn fs cs,c,h=>by simp only[VRel,Ax.ren]at h⊢;obtain⟨cz,aJ,rfl,h1,h2⟩:=h;exact⟨cz,aJ,rfl,VRels.ren hπ fs h1,VRels.ren hπ cs h2⟩
 |.iface t x,c,h=>by simp only[VRel,Ax.ren]at h⊢;obtain⟨x',rfl,h⟩:=h;exact⟨x',rfl,VRel.ren hπ x h⟩
 |.agg cs,c,h=>by simp only[VRel,Ax.ren]at h⊢;obtain⟨aJ,rfl,h⟩:=h;exact⟨aJ,rfl,VRels.ren hπ cs h⟩
 |.tuple cs,c,h=>by simp only[VRel,Ax.ren]at h⊢;obtain⟨aJ,rfl,h⟩:=h;exact⟨aJ,rfl,VRels.ren hπ cs h⟩
 |.iptr cs,c,h=>by simpa[VRel,Ax.ren]using h
 |.islice rows cap,c,h=>by simpa only[VRel,Ax.ren]using h
 |.imap ks vs bs bh,c,h=>by simpa only[VRel,Ax.ren]using h
 |.iset ks,c,h=>by simpa only[VRel,Ax.ren]using h
 |.yfn b,c,h=>by
  simp only[VRel]at h;obtain⟨m,hm,rfl⟩:=h;cases hb:π b with
  |none=>simp[Ax.ren,hb,VRel]
  |some b'=>simp only[Ax.ren,hb,VRel];exact⟨m,hπ b b' m hb hm,rfl⟩
 |.junk,c,h=>by simp[VRel,Ax.ren]
 |.bool b,c,h=>by simpa[VRel,Ax.ren]using h
 |.int k n,c,h=>by simpa[VRel,Ax.ren]using h
 |.str s,c,h=>by simpa[VRel,Ax.ren]using h
 |.nilptr,c,h=>by simpa[VRel,Ax.ren]using h
 |.nilslice,c,h=>by simpa[VRel,Ax.ren]using h
 |.nilmap,c,h=>by simpa[VRel,Ax.ren]using h
 |.nilfunc,c,h=>by simpa[VRel,Ax.ren]using h
 |.nilifc,c,h=>by simpa[VRel,Ax.ren]using h
theorem VRels.ren(hπ:∀b b' m,π b=some b'→ρ b=some m→ρ' b'=some m):∀(vs:List AV) {cs:List Value},VRels I w ρ vs cs→VRels I w ρ' (b5s π vs) cs
 | [],cs,h=>by simpa[VRels,b5s]using h
 |v::vs,cs,h=>by simp only[VRels,b5s]at h⊢;obtain⟨c,aJ,rfl,h1,h2⟩:=h;exact⟨c,aJ,rfl,VRel.ren hπ v h1,VRels.ren hπ vs h2⟩
end
theorem VAt.ren(hπ:∀b b' m,π b=some b'→ρ b=some m→ρ' b'=some m):∀(vs:List AV) {b off:Nat},VAt I w ρ vs b off→VAt I w ρ' (vs.map (Ax.ren π)) b off
 | [],b,off,h=>by simp[VAt]
 |v::vs,b,off,h=>by simp only[VAt,e12]at h⊢;obtain⟨⟨c,hc,h1⟩,h2⟩:=h;exact⟨⟨c,hc,VRel.ren hπ v h1⟩,VAt.ren hπ vs h2⟩
theorem VRows.ren{k:Nat}(hπ:∀b b' m,π b=some b'→ρ b=some m→ρ' b'=some m):∀(rs:List (List AV)) {b off:Nat},VRows I w k ρ rs b off→
 VRows I w k ρ' (rs.map λr=>r.map (Ax.ren π)) b off
 | [],b,off,h=>by simp[VRows]
 |r::rs,b,off,h=>by simp only[VRows,e12]at h⊢;obtain⟨h0,h1,h2⟩:=h;exact⟨by simpa using h0,VAt.ren hπ r h1,VRows.ren hπ rs h2⟩
theorem b9i(π:Nat→Option Nat):∀(F:List (Nat×AV)) (s:Nat),b9j (F.map λx=>(x.1,Ax.ren π x.2)) s=Ax.ren π (b9j F s)
 | [],s=>by simp[b9j,Ax.ren]
 |(t,v)::F,s=>by simp only[e12,b9j,b9i π F s];cases Nat.beq t s<;>rfl
theorem ORel.ren{G:GTab (List AV)}{m:Pl}(hπ:∀b b' m,π b=some b'→ρ b=some m→ρ' b'=some m)(o:AObj)(h:ORel G I w ρ m o):ORel G I w ρ' m (a0g π o):=by
 cases o with
 |row k rows=>obtain⟨h1,h2,h3,h5⟩:=h;exact⟨h1,h2,by simpa using h3,VRows.ren hπ rows h5⟩
 |map ks vs bs bh=>obtain⟨es,h1,h2,h3,h4⟩:=h;exact⟨es,h1,by rw[←a72];exact VRels.ren hπ ks h2,by rw[←a72];exact VRels.ren hπ vs h3,h4⟩
 |siter s pos=>exact h
 |uset ks=>exact h
 |miter ks cG cT=>exact h
 |yloop y F st=>obtain⟨ri,r,h0,h1,h2,h3,h4,h5,h6,h7⟩:=h;refine⟨ri,r,h0,h1,h2,h3,h4,h5,λs=>?_,h7⟩;rw[b9i];exact VRel.ren hπ _ (h6 s)
end
end Go.Ax
/- AxEff: what an operation may do to the abstract heap, and that the relation follows. -/
namespace Go.Ax
inductive Eff where
 |none
 |new (o:AObj)
 |set (b:Nat)(o:AObj)
 |kill (b:Nat)(o:AObj)
def PMap.set(ρ:PMap)(n:Nat)(m:Pl):PMap:=λb=>if b=n then some m else ρ b
def FHeap.set(h:FHeap)(n:Nat)(o:Option AObj):FHeap:=λb=>if b=n then o else h b
def FHeap.eff(h:FHeap)(n:Nat):Eff→FHeap
 |.none=>h
 |.new o=>h.set n (some o)
 |.set b o=>h.set b (some o)
 |.kill b o=>(h.set b Option.none).set n (some o)
def Eff.fresh:Eff→Bool
 |.new _|.kill _ _=>true
 |_=>false
def Moves(ρ ρ':PMap)(n:Nat)(e:Eff):Prop:=(∀b,b≠n→ρ' b=ρ b)∧(e.fresh=false→ρ'=ρ)
theorem Moves.same(ρ:PMap)(n:Nat)(e:Eff):Moves ρ ρ n e:=⟨λ_ _=>rfl,λ_=>rfl⟩
theorem Moves.set(ρ:PMap)(n:Nat){e:Eff}(m:Pl)(he:e.fresh=true):Moves ρ (ρ.set n m) n e:=⟨λb hb=>by simp[PMap.set,hb],λh=>by simp[he]at h⟩
theorem PMap.set_old{ρ:PMap}{n:Nat}{m:Pl}(hn:ρ n=Option.none):∀b m',ρ b=some m'→ρ.set n m b=some m':=by
 intro b m' h;unfold PMap.set;split
 ·subst b;simp[hn]at h
 ·exact h
section
variable {G:GTab (List AV)}{I K:Nat→Prop}{ρ:PMap}{h:FHeap}{w w':World}{n:Nat}
theorem a2a(r:HRel G I K ρ h w)(_:h n=none)(hρ:ρ n=none){ob:Obj}{o:AObj}{m:Pl}
 (hw:w'.heap=w.heap.push ob)(ht:w'.tape=w.tape)(eB:w'.os=w.os)(aE:w'.output=w.output)
 (hm:m.blk=w.heap.size)(ho:ORel G I w' (ρ.set n m) m o):Stepped G I K ρ w I (ρ.set n m) (h.eff n (.new o)) w':=by
 have aF:∀c,c<w.heap.size→w'.heap[c]?=w.heap[c]?:=by intro c hc;rw[hw,f6x,f0j (by omega)]
 have a7:=PMap.set_old (m:=m) hρ;refine⟨λ_ h=>h,a7,⟨eB,ht,aE,by rw[hw];simp,?_⟩,?_⟩
 ·rintro c (hc|hc)
  ·exact aF c (r.imm c hc)
  ·exact aF c (r.kept c hc)
 ·refine⟨?_,?_,?_,?_,?_,r.apart,?_⟩
  ·intro b o' hb;simp only[FHeap.eff,FHeap.set]at hb;split at hb
   ·subst b;cases hb;refine⟨m,by simp[PMap.set],λhc=>?_,λhc=>?_,ho⟩
    ·have:=r.imm _ hc;omega
    ·have:=r.kept _ hc;omega
   ·obtain⟨m',h1,h2,h3,h4⟩:=r.live b o' hb;exact⟨m',a7 b m' h1,h2,h3,ORel.mono o' (λ_ h=>h) (λc hc=>aF c (r.imm c hc)) a7 (aF _ (r.dom b m' h1)) h4⟩
  ·intro b b' m1 m2 hb aL h1 h2 he;simp only[FHeap.eff,FHeap.set,PMap.set]at hb aL h1 h2;split at hb<;>split at aL
   ·omega
   ·rename_i mj iY;rw[f1r mj]at h1;rw[f0j iY]at h2;cases h1;have:=r.dom b' m2 h2;omega
   ·rename_i mj iY;rw[f0j mj]at h1;rw[f1r iY]at h2;cases h2;have:=r.dom b m1 h1;omega
   ·rename_i mj iY;rw[f0j mj]at h1;rw[f0j iY]at h2;exact r.inj b b' m1 m2 hb aL h1 h2 he
  ·intro b m' hb;rw[hw];simp only[Array.size_push];simp only[PMap.set]at hb;split at hb
   ·cases hb;omega
   ·have:=r.dom b m' hb;omega
  ·intro c hc;rw[hw];simp only[Array.size_push];have:=r.imm c hc;omega
  ·intro c hc;rw[hw];simp only[Array.size_push];have:=r.kept c hc;omega
  ·intro g cs hg;obtain⟨h1,h2⟩:=r.glob g cs hg;exact⟨h1,VAt.mono (λ_ h=>h) (λc hc=>aF c (r.imm c hc)) cs (λ_ _ h=>h) (aF g (r.imm g h1)) h2⟩
theorem a22(r:HRel G I K ρ h w){b:Nat}{o0 o:AObj}{m:Pl}(hb:h b=some o0)(hρ:ρ b=some m)
 (aN:w'.heap.size=w.heap.size)(hw:∀c,c≠m.blk→w'.heap[c]?=w.heap[c]?)(ht:w'.tape=w.tape)(eB:w'.os=w.os)(aE:w'.output=w.output)
 (ho:ORel G I w' ρ m o):Stepped G I K ρ w I ρ (h.eff n (.set b o)) w':=by
 obtain⟨m',aV,dg,e9,_⟩:=r.live b o0 hb;obtain rfl:m=m':=z9o (hρ.symm.trans aV);have bM:∀c,I c→w'.heap[c]?=w.heap[c]?:=λc hc=>hw c (λe=>dg (e▸hc));refine⟨λ_ h=>h,λ_ _ h=>h,⟨eB,ht,aE,by omega,?_⟩,?_⟩
 ·rintro c (hc|hc)
  ·exact bM c hc
  ·exact hw c (λe=>e9 (e▸hc))
 ·refine⟨?_,?_,?_,?_,?_,r.apart,?_⟩
  ·intro b' o' aL;simp only[FHeap.eff,FHeap.set]at aL;split at aL
   ·rename_i he;cases aL;subst he;exact⟨m,hρ,dg,e9,ho⟩
   ·rename_i au;obtain⟨m',h1,h2,h3,h4⟩:=r.live b' o' aL;refine⟨m',h1,h2,h3,ORel.mono o' (λ_ h=>h) bM (λ_ _ h=>h) (hw _ ?_) h4⟩;intro e;exact au (r.inj b' b m' m (by simp[aL]) (by simp[hb]) h1 hρ e)
  ·intro b1 b2 m1 m2 h1 h2;refine r.inj b1 b2 m1 m2 ?_ ?_
   ·simp only[FHeap.eff,FHeap.set]at h1;split at h1
    ·subst b1;simp[hb]
    ·exact h1
   ·simp only[FHeap.eff,FHeap.set]at h2;split at h2
    ·subst b2;simp[hb]
    ·exact h2
  ·intro b' m' aL;rw[aN];exact r.dom b' m' aL
  ·intro c hc;rw[aN];exact r.imm c hc
  ·intro c hc;rw[aN];exact r.kept c hc
  ·intro g cs hg;obtain⟨h1,h2⟩:=r.glob g cs hg;exact⟨h1,VAt.mono (λ_ h=>h) bM cs (λ_ _ h=>h) (bM g h1) h2⟩
theorem b1w(r:HRel G I K ρ h w)(hh:h n=none)(hρ:ρ n=none)(b:Nat){ob:Obj}{o:AObj}{m:Pl}
 (hw:w'.heap=w.heap.push ob)(ht:w'.tape=w.tape)(eB:w'.os=w.os)(aE:w'.output=w.output)
 (hm:m.blk=w.heap.size)(ho:ORel G I w' (ρ.set n m) m o):Stepped G I K ρ w I (ρ.set n m) (h.eff n (.kill b o)) w':=by
 have r':HRel G I K ρ (h.set b none) w:=r.fewer (by
  intro b' o' aL;simp only[FHeap.set]at aL;split at aL
  ·cases aL
  ·exact aL)
 have:=a2a (h:=h.set b none) (n:=n) (o:=o) r' (by simp only[FHeap.set];split<;>simp_all) hρ hw ht eB aE hm ho;exact this
theorem a6d(r:HRel G I K ρ h w)(hh:h n=none)(hρ:ρ n=none){b:Nat}{o0 o:AObj}{mb m:Pl}(hb:h b=some o0)(hρb:ρ b=some mb)
 (hm:m.blk=mb.blk)(aN:w'.heap.size=w.heap.size)(hw:∀c,c≠mb.blk→w'.heap[c]?=w.heap[c]?)(ht:w'.tape=w.tape)(eB:w'.os=w.os)(aE:w'.output=w.output)
 (ho:ORel G I w' (ρ.set n m) m o):Stepped G I K ρ w I (ρ.set n m) (h.eff n (.kill b o)) w':=by
 obtain⟨m',aV,dg,e9,_⟩:=r.live b o0 hb;obtain rfl:mb=m':=z9o (hρb.symm.trans aV);have a7:=PMap.set_old (m:=m) hρ;have bM:∀c,I c→w'.heap[c]?=w.heap[c]?:=λc hc=>hw c (λe=>dg (e▸hc));have mj:b≠n:=λe=>by subst e;simp[hh]at hb
 have ag:=r.dom b mb hρb;refine⟨λ_ h=>h,a7,⟨eB,ht,aE,by omega,?_⟩,?_⟩
 ·rintro c (hc|hc)
  ·exact bM c hc
  ·exact hw c (λe=>e9 (e▸hc))
 ·refine⟨?_,?_,?_,?_,?_,r.apart,?_⟩
  ·intro b' o' aL;simp only[FHeap.eff,FHeap.set]at aL;split at aL
   ·rename_i he;cases aL;subst he;exact⟨m,by simp[PMap.set],by rw[hm];exact dg,by rw[hm];exact e9,ho⟩
   ·rename_i au;split at aL
    ·cases aL
    ·rename_i kZ;obtain⟨m',h1,h2,h3,h4⟩:=r.live b' o' aL;refine⟨m',a7 b' m' h1,h2,h3,ORel.mono o' (λ_ h=>h) bM a7 (hw _ ?_) h4⟩;intro e;exact kZ (r.inj b' b m' mb (by simp[aL]) (by simp[hb]) h1 hρb e)
  ·intro b1 b2 m1 m2 cj cN h1 h2 he;simp only[FHeap.eff,FHeap.set,PMap.set]at cj cN h1 h2;by_cases e1:b1=n<;>by_cases e2:b2=n
   ·omega
   ·rw[f1r e1]at h1;rw[f0j e2]at h2;rw[f0j e2]at cN;cases h1;split at cN
    ·cases cN
    ·rename_i au;exact absurd (r.inj b2 b m2 mb cN (by simp[hb]) h2 hρb (by omega)) au
   ·rw[f0j e1]at h1;rw[f1r e2]at h2;rw[f0j e1]at cj;cases h2;split at cj
    ·cases cj
    ·rename_i au;exact absurd (r.inj b1 b m1 mb cj (by simp[hb]) h1 hρb (by omega)) au
   ·rw[f0j e1]at h1;rw[f0j e2]at h2;rw[f0j e1]at cj;rw[f0j e2]at cN;split at cj
    ·cases cj
    ·split at cN
     ·cases cN
     ·exact r.inj b1 b2 m1 m2 cj cN h1 h2 he
  ·intro b' m' aL;rw[aN];simp only[PMap.set]at aL;split at aL
   ·cases aL;omega
   ·exact r.dom b' m' aL
  ·intro c hc;rw[aN];exact r.imm c hc
  ·intro c hc;rw[aN];exact r.kept c hc
  ·intro g cs hg;obtain⟨h1,h2⟩:=r.glob g cs hg;exact⟨h1,VAt.mono (λ_ h=>h) bM cs (λ_ _ h=>h) (bM g h1) h2⟩
end
end Go.Ax
/- AxVal: lists of cells: splitting, reading, replacing. -/
namespace Go.Ax
section
variable {I I':Nat→Prop}{w w':World}{ρ ρ':PMap}
theorem VRels.length:∀{vs:List AV} {cs:List Value},VRels I w ρ vs cs→vs.length=cs.length
 | [],cs,h=>by simp[VRels]at h;simp[h]
 |v::vs,cs,h=>by simp only[VRels]at h;obtain⟨c,aJ,rfl,_,h⟩:=h;simp[VRels.length h]
theorem VRels.append:∀{as bs:List AV} {xs ys:List Value},VRels I w ρ as xs→VRels I w ρ bs ys→VRels I w ρ (as++bs) (xs++ys)
 | [],bs,xs,ys,h,k=>by simp[VRels]at h;simpa[h]using k
 |v::as,bs,xs,ys,h,k=>by simp only[VRels,f0k]at h⊢;obtain⟨c,aJ,rfl,h1,h2⟩:=h;exact⟨c,aJ++ys,rfl,h1,VRels.append h2 k⟩
theorem VRels.get:∀{vs:List AV} {cs:List Value} (i:Nat) {v:AV},VRels I w ρ vs cs→vs[i]?=some v→∃c,cs[i]?=some c∧VRel I w ρ v c
 | [],cs,i,v,h,hv=>by simp at hv
 |x::vs,cs,i,v,h,hv=>by
  simp only[VRels]at h;obtain⟨c,aJ,rfl,h1,h2⟩:=h;cases i with
  |zero=>simp at hv;subst hv;exact⟨c,by simp,h1⟩
  |succ i=>simp at hv;simpa using VRels.get i h2 hv
theorem VRels.drop:∀{vs:List AV} {cs:List Value} (i:Nat),VRels I w ρ vs cs→VRels I w ρ (vs.drop i) (cs.drop i)
 |vs,cs,0,h=>by simpa using h
 | [],cs,i+1,h=>by simp[VRels]at h⊢;simp[h]
 |x::vs,cs,i+1,h=>by simp only[VRels]at h;obtain⟨c,aJ,rfl,h1,h2⟩:=h;simpa using VRels.drop i h2
theorem VRels.take:∀{vs:List AV} {cs:List Value} (i:Nat),VRels I w ρ vs cs→VRels I w ρ (vs.take i) (cs.take i)
 |vs,cs,0,h=>by simp[VRels]
 | [],cs,i+1,h=>by simp[VRels]at h⊢;simp[h]
 |x::vs,cs,i+1,h=>by simp only[VRels]at h;obtain⟨c,aJ,rfl,h1,h2⟩:=h;simp only[List.take_succ_cons,VRels];exact⟨c,aJ.take i,rfl,h1,VRels.take i h2⟩
theorem VRels.set:∀{vs:List AV} {cs:List Value} (i:Nat) {v:AV} {c:Value},VRels I w ρ vs cs→VRel I w ρ v c→VRels I w ρ (vs.set i v) (cs.set i c)
 | [],cs,i,v,c,h,hv=>by simp[VRels]at h⊢;simp[h]
 |x::vs,cs,i,v,c,h,hv=>by
  simp only[VRels]at h;obtain⟨c',aJ,rfl,h1,h2⟩:=h;cases i with
  |zero=>simp only[List.set_cons_zero,VRels];exact⟨c,aJ,rfl,hv,h2⟩
  |succ i=>simp only[List.set_cons_succ,VRels];exact⟨c',aJ.set i c,rfl,h1,VRels.set i h2 hv⟩
def CellsAt(w:World)(cs:List Value)(b off:Nat):Prop:=∀j v,cs[j]?=some v→w.cell? ⟨b,off+j,none⟩=some v
theorem VAt.of_cells:∀{vs:List AV} {cs:List Value} {b off:Nat},CellsAt w cs b off→VRels I w ρ vs cs→VAt I w ρ vs b off
 | [],cs,b,off,_,_=>by simp[VAt]
 |v::vs,cs,b,off,hc,h=>by simp only[VRels,VAt]at h⊢;obtain⟨c,aJ,rfl,h1,h2⟩:=h;refine⟨⟨c,by simpa using hc 0 c (by simp),h1⟩,VAt.of_cells (λj v hv=>?_) h2⟩;have:=hc (j+1) v (by simpa using hv);rw[show off+1+j=off+(j+1) by omega];exact this
theorem VAt.cells:∀{vs:List AV} {b off:Nat},VAt I w ρ vs b off→∃cs,CellsAt w cs b off∧VRels I w ρ vs cs
 | [],b,off,_=>⟨[],λj v hv=>by simp at hv,by simp[VRels]⟩
 |v::vs,b,off,h=>by
  simp only[VAt]at h;obtain⟨⟨c,hc,h1⟩,h2⟩:=h;obtain⟨cs,k1,k2⟩:=VAt.cells h2;refine⟨c::cs,λj v hv=>?_,by simp only[VRels];exact⟨c,cs,rfl,h1,k2⟩⟩;cases j with
  |zero=>simp at hv;subst hv;simpa using hc
  |succ j=>have:=k1 j v (by simpa using hv);rw[show off+(j+1)=off+1+j by omega];exact this
theorem VAt.append:∀{as bs:List AV} {b off:Nat},VAt I w ρ (as++bs) b off↔VAt I w ρ as b off∧VAt I w ρ bs b (off+as.length)
 | [],bs,b,off=>by simp[VAt]
 |v::as,bs,b,off=>by simp only[f0k,VAt,e9m];rw[VAt.append,and_assoc,show off+1+as.length=off+(as.length+1) by omega]
theorem VAt.drop{vs:List AV}{b off:Nat}(i:Nat)(hi:i≤vs.length)(h:VAt I w ρ vs b off):VAt I w ρ (vs.drop i) b (off+i):=by rw[←f7b i vs,VAt.append]at h;simpa[Nat.min_eq_left hi]using h.2
theorem VAt.take{vs:List AV}{b off:Nat}(i:Nat)(h:VAt I w ρ vs b off):VAt I w ρ (vs.take i) b off:=by rw[←f7b i vs,VAt.append]at h;exact h.1
theorem VRows.iff{k:Nat}:∀{rs:List (List AV)} {b off:Nat},VRows I w k ρ rs b off↔(∀r∈rs,r.length=k)∧VAt I w ρ rs.flatten b off
 | [],b,off=>by simp[VRows,VAt]
 |r::rs,b,off=>by
  simp only[VRows,f4a,VAt.append,f2s,forall_eq_or_imp];rw[VRows.iff];constructor
  ·rintro⟨h0,h1,h2,h3⟩;exact⟨⟨h0,h2⟩,h1,by rw[h0];exact h3⟩
  ·rintro⟨⟨h0,h2⟩,h1,h3⟩;exact⟨h0,h1,h2,by rw[h0]at h3;exact h3⟩
theorem a0v{k:Nat}:∀{rs:List (List AV)},(∀r∈rs,r.length=k)→rs.flatten.length=rs.length*k
 | [],_=>by simp
 |r::rs,h=>by simp only[f4a,f1o,e9m];rw[a0v (λr hr=>h r (by simp[hr])),h r (by simp),f7i,Nat.add_comm]
theorem VRows.get{k:Nat}:∀{rs:List (List AV)} {b off:Nat} (i:Nat) {r:List AV},VRows I w k ρ rs b off→rs[i]?=some r→r.length=k∧VAt I w ρ r b (off+i*k)
 | [],b,off,i,r,h,hr=>by simp at hr
 |x::rs,b,off,i,r,h,hr=>by
  simp only[VRows]at h;obtain⟨h0,h1,h2⟩:=h;cases i with
  |zero=>simp at hr;subst hr;exact⟨h0,by simpa using h1⟩
  |succ i=>have:=VRows.get i h2 (by simpa using hr);rw[show off+(i+1)*k=off+k+i*k by rw[f7i];omega];exact this
theorem VRows.append{k:Nat}:∀{as bs:List (List AV)} {b off:Nat},VRows I w k ρ (as++bs) b off↔VRows I w k ρ as b off∧VRows I w k ρ bs b (off+as.length*k)
 | [],bs,b,off=>by simp[VRows]
 |v::as,bs,b,off=>by simp only[f0k,VRows,e9m];rw[VRows.append,show off+k+as.length*k=off+(as.length+1)*k by rw[f7i];omega];simp only[and_assoc]
theorem VRows.drop{k:Nat}{rs:List (List AV)}{b off:Nat}(i:Nat)(hi:i≤rs.length)(h:VRows I w k ρ rs b off):VRows I w k ρ (rs.drop i) b (off+i*k):=by rw[←f7b i rs,VRows.append]at h;simpa[Nat.min_eq_left hi]using h.2
theorem VRows.take{k:Nat}{rs:List (List AV)}{b off:Nat}(i:Nat)(h:VRows I w k ρ rs b off):VRows I w k ρ (rs.take i) b off:=by rw[←f7b i rs,VRows.append]at h;exact h.1
theorem VAt.mono_cells(hI:∀c,I c→I' c)(hw:∀c,I c→w'.heap[c]?=w.heap[c]?)(hρ:∀b m,ρ b=some m→ρ' b=some m) :
 ∀{vs:List AV} {b off:Nat},(∀j,j<vs.length→w'.cell? ⟨b,off+j,none⟩=w.cell? ⟨b,off+j,none⟩)→VAt I w ρ vs b off→VAt I' w' ρ' vs b off
 | [],b,off,_,_=>by simp[VAt]
 |v::vs,b,off,hc,h=>by simp only[VAt]at h⊢;obtain⟨⟨c,cR,h1⟩,h2⟩:=h;refine⟨⟨c,by rw[←cR];simpa using hc 0 (by simp),VRel.mono hI hw v hρ h1⟩,VAt.mono_cells hI hw hρ (λj hj=>?_) h2⟩;rw[show off+1+j=off+(j+1) by omega];exact hc (j+1) (by simp;omega)
theorem VRows.mono_cells{k:Nat}(hI:∀c,I c→I' c)(hw:∀c,I c→w'.heap[c]?=w.heap[c]?)(hρ:∀b m,ρ b=some m→ρ' b=some m)
 {rs:List (List AV)}{b off:Nat}(hc:∀j,j<rs.length*k→w'.cell? ⟨b,off+j,none⟩=w.cell? ⟨b,off+j,none⟩)(h:VRows I w k ρ rs b off):VRows I' w' k ρ' rs b off:=by
 rw[VRows.iff]at h⊢;exact⟨h.1,VAt.mono_cells hI hw hρ (by rw[a0v h.1];exact hc) h.2⟩
theorem a7f{b o:Nat}{bR:Array Value}{e:TypeId}{fz:Nat×Nat}(h:w.heap[b]?=some (.cells bR e fz)):w.cell? ⟨b,o,none⟩=bR[o]?:=by simp[World.cell?,h]
theorem CellsAt.of_heap{b off:Nat}{bR:Array Value}{e:TypeId}{fz:Nat×Nat}{cs:List Value}(h:w.heap[b]?=some (.cells bR e fz))
 (hc:∀j v,cs[j]?=some v→bR[off+j]?=some v):CellsAt w cs b off:=by
 intro j v hv;rw[a7f h];exact hc j v hv
theorem VRels.noRef_any{vs:List AV}{cs:List Value}(h:VRels I w noP vs cs):VRels I w ρ vs cs:=VRels.mono (λ_ h=>h) (λ_ _=>rfl) vs (λ_ _ h=>by simp[noP]at h) h
theorem VRel.noRef_any{v:AV}{c:Value}(h:VRel I w noP v c):VRel I w ρ v c:=VRel.mono (λ_ h=>h) (λ_ _=>rfl) v (λ_ _ h=>by simp[noP]at h) h
theorem VAt.noRef_any{vs:List AV}{b off:Nat}(h:VAt I w noP vs b off):VAt I w ρ vs b off:=VAt.mono (λ_ h=>h) (λ_ _=>rfl) vs (λ_ _ h=>by simp[noP]at h) rfl h
end
end Go.Ax
/- AxEnv: the tables of a program that the evaluator d3x; frames; operands. -/
namespace Go.Ax
structure FInfo where
 code:Code
 ntmps:Nat
 results:List ResultVar
abbrev a02:=List (Option AObj)
structure Env where
 P:Program
 und:TypeId→Option TypeDesc
 sz:TypeId→Nat
 bytes:TypeId→Nat
 zero:TypeId→Option (List AV)
 eqok:TypeId→Bool
 G:GTab (List AV)
 fn:FuncId→Option FInfo
 keep:FuncId→Nat→List Nat
 thaw:FuncId→Bool
 ro:FuncId→Bool
 ext:FuncId→Bool
 prim:FuncId→List AV→Option (AV×a02):=λ_ _=>none
 zf:FuncId→Bool:=λ_=>false
abbrev yId:FuncId:=999999999
def a2d:TypeDesc→Bool
 |.struct _|.array _ _=>true
 |_=>false
structure EnvOk(E:Env):Prop where
 und:∀t d,E.und t=some d→E.P.underlying t=some d∧∃i,E.P.info? t=some i∧i.size=E.sz t∧i.bytes=E.bytes t
 zero:∀t cs,E.zero t=some cs→(∃d,E.und t=some d)∧∃i z,E.P.info? t=some i∧i.zero=some z∧cs.length=E.sz t∧
  ∀I w,VRels I w noP cs z.cells.toList
 zshape:∀t d i z,E.und t=some d→E.P.info? t=some i→i.zero=some z→(a2d d=true→∃a,z = .agg a)∧(a2d d=false→z.cells = #[z])
 eqok:∀t,E.eqok t=true→E.P.eqGuardType E.P.depth t=false∧E.P.stoodInHeld t=false∧(∃i,E.P.info? t=some i∧i.comparable=true)∧
  ∀fs,E.und t=some (.struct fs)→∀f∈fs.toList,f.name≠ "_"
 fn:∀f i,E.fn f=some i→∃fn,E.P.funcs[f]?=some fn∧fn.body=some i.code∧fn.ntmps=i.ntmps∧fn.results.toList=i.results∧(fn.name == "runtime.NumGoroutine")=false
 ext:∀f,E.ext f=true→(E.fn f).isSome=false→∃fn,E.P.funcs[f]?=some fn∧fn.body=none∧(fn.name == "runtime.NumGoroutine")=false∧Extern.findNext fn=none∧Extern.find fn=some Extern.BytealgIndexByte.indexByte
 mixed:E.P.follows .mixedOrders=true
 yid:E.fn yId=none
section
variable {E:Env}(ok:EnvOk E){t:TypeId}{d:TypeDesc}(w:World)
include ok
theorem a0a(h:E.und t=some d):(underlying t).run E.P w = .ok d w:=run_underlying (ok.und t d h).1 w
theorem b24(h:E.und t=some d):∃i,(typeInfo t).run E.P w = .ok i w∧i.size=E.sz t∧i.bytes=E.bytes t:=by obtain⟨_,i,hi,h1,h2⟩:=ok.und t d h;exact⟨i,by simp[typeInfo,hi],h1,h2⟩
theorem a36(h:E.und t=some d):(sizeOf t).run E.P w = .ok (E.sz t) w:=by obtain⟨i,hi,h1,_⟩:=b24 ok w h;simp[sizeOf,hi,h1]
theorem b2t(h:E.und t=some d):(isAgg t).run E.P w = .ok (a2d d) w:=by unfold isAgg;simp only[Sem.run_bind,a0a ok w h,Result.andThen_ok];cases d<;>rfl
theorem a6y{cs:List AV}(h:E.zero t=some cs):∃z,(zeroValue t).run E.P w = .ok z w∧cs.length=E.sz t∧∀I w',VRels I w' noP cs z.cells.toList:=by obtain⟨_,i,z,hi,hz,h1,h2⟩:=ok.zero t cs h;exact⟨z,by simp[zeroValue,typeInfo,hi,hz],h1,h2⟩
end
/-! ### frames -/
abbrev Frm:=List (Nat×AV)
def a38:Frm→Nat→AV
 | [],_=>.junk
 |(s,v)::r,t=>bif Nat.beq s t then v else a38 r t
theorem d2w(s t:Nat):Nat.beq s t=(s==t):=by
 by_cases h:s=t
 ·subst h;simp
 ·rw[f3k.2 h];cases hb:Nat.beq s t with
  |false=>rfl
  |true=>exact absurd (f4s hb) h
def a3l(F:Frm)(d:Option Nat)(v:AV):Frm:=
 match d with
 |some s=>(s,v)::F
 |none=>F
def FRel(I:Nat→Prop)(w:World)(ρ:PMap)(N:Nat)(F:Frm)(tmps:Array Value):Prop:=tmps.size=N∧∀s,VRel I w ρ (a38 F s) (tmps.getD s undef)
def a3u:Value→AV
 |.bool b=>.bool b
 |.int k n=>.int k n
 |.string s=>.str s.data.toList
 |.pointer a=>match a with|none=>.nilptr|some _=>.junk
 |.slice a l c=>match a,l,c with|none,0,0=>.nilslice|_,_,_=>.junk
 |.map r=>match r with|none=>.nilmap|some _=>.junk
 |.nilFunc=>.nilfunc
 |.nilIface=>.nilifc
 |.tuple vs=>match vs.toList with|[]=>.tuple []|_=>.junk
 |_=>.junk
def c4x:Value→AV
 |.agg cs=>.agg (cs.toList.map a3u)
 |v=>a3u v
def opv(E:Env)(F:Frm):Operand→AV
 |.tmp t=>a38 F t
 |.const v=>c4x v
 |.global g=>match E.G g with|some cs=>.iptr cs|none=>.junk
 |.func f=>.func (.func f) [] []
section
variable {I:Nat→Prop}{w:World}{ρ:PMap}
theorem b1q(v:Value):VRel I w ρ (a3u v) v:=by
 cases v with
 |pointer a=>cases a<;>simp[a3u,VRel]
 |slice a l c=>cases a<;>cases l<;>cases c<;>simp[a3u,VRel]
 |map a=>cases a<;>simp[a3u,VRel]
 |tuple vs=>
  simp only[a3u];split
  ·rename_i h;simp only[VRel];exact⟨vs,rfl,by simp[VRels,h]⟩
  ·simp[VRel]
 |_=>simp[a3u,VRel]
theorem a7d:∀l:List Value,VRels I w ρ (l.map a3u) l
 | []=>by simp[VRels]
 |v::l=>by simp only[e12,VRels];exact⟨v,l,rfl,b1q v,a7d l⟩
theorem c12(v:Value):VRel I w ρ (c4x v) v:=by
 unfold c4x;split
 ·rename_i cs;simp only[VRel];exact⟨cs,rfl,a7d _⟩
 ·exact b1q v
theorem b35{E:Env}{K:Nat→Prop}{h:FHeap}{N:Nat}{F:Frm}{a:Act}(r:HRel E.G I K ρ h w)(hF:FRel I w ρ N F a.tmps)(x:Operand) :
 VRel I w ρ (opv E F x) (a.eval x):=by
 cases x with
 |tmp t=>exact hF.2 t
 |const v=>exact c12 v
 |global g=>
  simp only[opv,Act.eval];cases hg:E.G g with
  |none=>simp[VRel]
  |some cs=>obtain⟨h1,h2⟩:=r.glob g cs hg;simp only[VRel];exact⟨g,0,rfl,h1,h2⟩
 |func f=>simp only[opv,Act.eval,VRel];exact⟨#[],#[],rfl,by simp[VRels],by simp[VRels]⟩
theorem a82(F:Frm)(d s:Nat)(v:AV):a38 (a3l F (some d) v) s=if d=s then v else a38 F s:=by
 simp only[a3l,a38,d2w];by_cases h:d=s
 ·simp[h]
 ·simp[h,f3k.2 h]
theorem FRel.set{N:Nat}{F:Frm}{a:Act}{d:Option Nat}{v:AV}{c:Value}(hF:FRel I w ρ N F a.tmps)(hd:∀s,d=some s→s<N)(hv:VRel I w ρ v c) :
 FRel I w ρ N (a3l F d v) (a.put d c).tmps:=by
 cases d with
 |none=>exact hF
 |some d=>
  have ag:=hd d rfl;refine⟨by simp[Act.put,hF.1],λs=>?_⟩;rw[a82];simp only[Act.put,f2y,f3c,hF.1];split
  ·subst s;simpa[ag]using hv
  ·have:=hF.2 s;simpa[f2y]using this
theorem FRel.mono{I':Nat→Prop}{w':World}{ρ':PMap}{N:Nat}{F:Frm}{t:Array Value}(hF:FRel I w ρ N F t)
 (hv:∀(v:AV) (c:Value),VRel I w ρ v c→VRel I' w' ρ' v c):FRel I' w' ρ' N F t:=⟨hF.1,λs=>hv _ _ (hF.2 s)⟩
end
def AV.cells:AV→List AV
 |.agg cs=>cs
 |v=>[v]
def AV.storable:AV→Bool
 |.junk|.agg _|.tuple _=>false
 |_=>true
section
variable {I:Nat→Prop}{w:World}{ρ:PMap}
theorem VRel.storable{v:AV}{c:Value}(h:VRel I w ρ v c)(hs:v.storable=true):c.oneCell'=true:=by
 cases v<;>simp[AV.storable]at hs<;>simp only[VRel]at h
 all_goals first
  |(subst h;rfl)
  |(obtain⟨_,rfl,_⟩:=h;rfl)
  |(obtain⟨_,_,rfl⟩:=h;rfl)
  |(obtain⟨_,_,rfl,_⟩:=h;rfl)
  |(obtain⟨_,_,_,rfl,_⟩:=h;rfl)
theorem VRel.cells{v:AV}{c:Value}(h:VRel I w ρ v c)(hj:v≠ .junk):VRels I w ρ v.cells c.cells.toList:=by
 cases v
 case junk=>exact absurd rfl hj
 case agg cs=>simp only[VRel]at h;obtain⟨aJ,rfl,h⟩:=h;exact h
 all_goals
  have hc:c.cells = #[c]:=by
   simp only[VRel]at h
   first
    |(subst h;rfl)
    |(obtain⟨_,rfl,_⟩:=h;rfl)
    |(obtain⟨_,_,rfl⟩:=h;rfl)
    |(obtain⟨_,_,rfl,_⟩:=h;rfl)
    |(obtain⟨_,_,_,rfl,_⟩:=h;rfl)
  rw[hc];simp only[AV.cells,VRels];exact⟨c,[],rfl,h,rfl⟩
theorem VRels.storable:∀{vs:List AV} {cs:List Value},VRels I w ρ vs cs→vs.all AV.storable=true→∀c∈cs,c.oneCell'=true
 | [],cs,h,_=>by simp[VRels]at h;simp[h]
 |v::vs,cs,h,hs=>by
  simp only[VRels]at h;obtain⟨c,aJ,rfl,h1,h2⟩:=h;simp only[List.all_cons,e9l]at hs;intro x hx;simp only[f2s]at hx;rcases hx with rfl|hx
  ·exact VRel.storable h1 hs.1
  ·exact VRels.storable h2 hs.2 x hx
end
end Go.Ax
/- AxMem: loads, stores, new variables, rows and maps, addresses: what they do to abstract values, and that the model's operations do just that. -/
namespace Go.Ax
def Val(E:Env)(I K:Nat→Prop)(ρ:PMap)(h:FHeap)(n:Nat)(w:World)(s:Sem Value)(v:AV)(e:Eff):Prop:=∃c w' ρ',s.run E.P w = .ok c w'∧Stepped E.G I K ρ w I ρ' (h.eff n e) w'∧VRel I w' ρ' v c∧Moves ρ ρ' n e
def e6l(E:Env)(I K:Nat→Prop)(ρ:PMap)(h:FHeap)(n:Nat)(w:World)(s:Sem Unit)(e:Eff):Prop:=∃w' ρ',s.run E.P w = .ok () w'∧Stepped E.G I K ρ w I ρ' (h.eff n e) w'∧Moves ρ ρ' n e
section
variable {E:Env}{I K:Nat→Prop}{ρ:PMap}{h:FHeap}{n:Nat}{w:World}
theorem Val.quiet(r:HRel E.G I K ρ h w){s:Sem Value}{v:AV}{c:Value}{w':World}(hs:s.run E.P w = .ok c w')(hw:SameMem w w')(hv:VRel I w ρ v c) :
 Val E I K ρ h n w s v .none:=
 ⟨c,w',ρ,hs,Stepped.same r hw,VRel.mono (λ_ h=>h) (λ_ _=>by rw[hw.1]) v (λ_ _ h=>h) hv,Moves.same _ _ _⟩
theorem Val.here(r:HRel E.G I K ρ h w){s:Sem Value}{v:AV}{c:Value}(hs:s.run E.P w = .ok c w)(hv:VRel I w ρ v c):Val E I K ρ h n w s v .none:=Val.quiet r hs ⟨rfl,rfl,rfl,rfl⟩ hv
/-! ### loads -/
def a2k(E:Env)(t:TypeId)(cs:List AV):Option AV:=
 bif cs.length==E.sz t then
  match E.und t with
  |some d=>bif a2d d then some (.agg cs)else cs.head?
  |none=>none
 else none
def a5e(E:Env)(h:FHeap)(t:TypeId):AV→Option AV
 |.ptr b i o=>match h b with
  |some (.row _ rows)=>match rows[i]? with
   |some r=>a2k E t ((r.drop o).take (E.sz t))
   |none=>none
  |_=>none
 |.iptr cs=>a2k E t (cs.take (E.sz t))
 |_=>none
theorem a6z(ok:EnvOk E){t:TypeId}{cs:List AV}{v:AV}{b off:Nat}{ρ:PMap}(hv:a2k E t cs=some v)(hc:VAt I w ρ cs b off) :
 ∃c,(loadVar t ⟨b,off,none⟩).run E.P w = .ok c w∧VRel I w ρ v c:=by
 unfold a2k at hv;rw[cond_eq_ite]at hv;split at hv
 case isFalse=>cases hv
 rename_i hl;have hl:cs.length=E.sz t:=by simpa using hl
 cases hd:E.und t with
 |none=>simp[hd]at hv
 |some d=>
  simp only[hd]at hv;obtain⟨cv,h1,h2⟩:=VAt.cells hc;have ai:cv.length=E.sz t:=by rw[←hl];exact(VRels.length h2).symm
  have qH:∀j:Nat,(⟨b,off,none⟩:Addr).add j=⟨b,off+j,none⟩:=by intro j;unfold Addr.add;split<;>simp_all
  unfold loadVar;simp only[Sem.run_bind,b2t ok w hd,Result.andThen_ok,Sem.run_ite];cases dC:a2d d with
  |true=>simp only[dC,f2m,Option.some.injEq]at hv;subst hv;have:=run_loadCells_list (P:=E.P) w ⟨b,off,none⟩ cv (λj v hj=>by rw[qH];exact h1 j v hj);rw[ai]at this;refine⟨.agg cv.toArray,?_,by simp only[VRel];exact⟨cv.toArray,rfl,by simpa using h2⟩⟩;simp[a36 ok w hd,this]
  |false=>
   simp only[dC,f2z]at hv;cases cs with
   |nil=>simp at hv
   |cons x cs=>simp at hv;subst hv;simp only[VRels]at h2;obtain⟨c,aJ,rfl,h3,_⟩:=h2;have:=h1 0 c (by simp);refine⟨c,?_,h3⟩;simp at this;simp[this]
theorem d6v(ok:EnvOk E)(r:HRel E.G I K ρ h w){t:TypeId}{p v:AV}{c:Value}(hl:a5e E h t p=some v)(hp:VRel I w ρ p c) :
 Val E I K ρ h n w (Instr.loadAt t c) v .none:=by
 cases p with
 |ptr b i o=>
  simp only[a5e]at hl;cases hb:h b with
  |none=>simp[hb]at hl
  |some ob=>
   cases ob with
   |row k rows=>
    simp only[hb]at hl;cases hr:rows[i]? with
    |none=>simp[hr]at hl
    |some rw'=>
     simp only[hr]at hl;obtain⟨m,hm,_,_,ho⟩:=r.live b _ hb;obtain⟨hk,hk0,_,az⟩:=ho;obtain⟨ai,aW⟩:=VRows.get i az hr;simp only[VRel]at hp;obtain⟨m',aV,rfl⟩:=hp;obtain rfl:m=m':=z9o (hm.symm.trans aV);by_cases bJ:o≤rw'.length
     ·have iZ:VAt I w ρ ((rw'.drop o).take (E.sz t)) m.blk (m.off+i*m.k+o):=by
       rw[hk];exact VAt.take _ (VAt.drop o bJ aW)
      obtain⟨c,hc,hv⟩:=a6z ok hl iZ;exact Val.here r (by simp[Instr.loadAt,Instr.sureAddr,hc]) hv
     ·have:rw'.drop o=[]:=f6j (by omega);rw[this]at hl;unfold a2k at hl;have hd:∀d,E.und t=some d→True:=λ_ _=>trivial;simp only[List.take_nil,f0g]at hl;rw[cond_eq_ite]at hl;split at hl
      ·rename_i h0;cases hd:E.und t with
       |none=>simp[hd]at hl
       |some d=>
        simp only[hd]at hl;have h0:E.sz t=0:=(show 0=E.sz t by simpa using h0).symm;cases dC:a2d d with
        |true=>simp[dC]at hl;subst hl;refine Val.here (c:=.agg #[]) r ?_ (by simp only[VRel];exact⟨#[],rfl,by simp[VRels]⟩);simp[Instr.loadAt,Instr.sureAddr,loadVar,b2t ok w hd,dC,a36 ok w hd,h0,loadCells,loadCellsFrom]
        |false=>simp[dC]at hl
      ·cases hl
   |map ks vs bs cl=>simp[hb]at hl
   |siter s pos=>simp[hb]at hl
   |uset ks=>simp[hb]at hl
   |miter ks cG cT=>simp[hb]at hl
   |yloop y Fy st=>simp[hb]at hl
 |iptr cs=>simp only[a5e]at hl;simp only[VRel]at hp;obtain⟨b,off,rfl,hI,aW⟩:=hp;obtain⟨c,hc,hv⟩:=a6z ok hl (VAt.take _ aW);exact Val.here r (by simp[Instr.loadAt,Instr.sureAddr,hc]) (VRel.noRef_any hv)
 |_=>simp[a5e]at hl
/-! ### stores -/
def splice(r:List AV)(o:Nat)(cs:List AV):List AV:=r.take o++cs++r.drop (o+cs.length)
def a7n(E:Env)(h:FHeap)(t:TypeId)(p x:AV):Option Eff:=
 match p with
 |.ptr b i o=>match h b with
  |some (.row k rows)=>match rows[i]? with
   |some r=>bif x.cells.length==E.sz t&&(E.und t).isSome&&Nat.ble (o+x.cells.length) r.length&&x.cells.all AV.storable
    then some (.set b (.row k (rows.set i (splice r o x.cells))))else none
   |none=>none
  |_=>none
 |_=>none
theorem VRows.splice{k:Nat}{rows:List (List AV)}{blk off i o:Nat}{r cs:List AV}{w':World}(bM:∀c,I c→w'.heap[c]?=w.heap[c]?)
 (az:VRows I w k ρ rows blk off)(hr:rows[i]?=some r)(ho:o+cs.length≤k)
 (eX:∀x,(x<off+i*k+o∨off+i*k+o+cs.length≤x)→w'.cell? ⟨blk,x,none⟩=w.cell? ⟨blk,x,none⟩)
 (aQ:VAt I w' ρ cs blk (off+i*k+o)):VRows I w' k ρ (rows.set i (Ax.splice r o cs)) blk off:=by
 have hi:i<rows.length:=(e9k.1 hr).1;have kJ:rows=rows.take i++r::rows.drop (i+1):=by
  conv=>lhs;rw[←f7b i rows]
  congr 1
  rw[List.drop_eq_getElem_cons hi]
  congr 1
  exact(e9k.1 hr).2
 have a7:rows.set i (Ax.splice r o cs)=rows.take i++Ax.splice r o cs::rows.drop (i+1):=by rw[List.set_eq_take_append_cons_drop,f1r hi]
 rw[a7];rw[kJ]at az;rw[VRows.append]at az⊢;obtain⟨h1,h2⟩:=az;have ru:(rows.take i).length=i:=by simp;omega
 simp only[VRows,ru]at h2⊢;obtain⟨h3,h4,h5⟩:=h2;have mono:=λ(vs:List AV) (b off:Nat) hc (hh:VAt I w ρ vs b off)=>VAt.mono_cells (I':=I) (w':=w') (ρ':=ρ) (λ_ h=>h) bM (λ_ _ h=>h) hc hh;refine⟨?_,?_,?_,?_⟩
 ·refine VRows.mono_cells (λ_ h=>h) bM (λ_ _ h=>h) (λj hj=>eX _ (.inl ?_)) h1;rw[ru]at hj;omega
 ·unfold Ax.splice;simp;omega
 ·unfold Ax.splice;rw[VAt.append,VAt.append];have kG:(r.take o).length=o:=by simp;omega
  refine⟨⟨?_,by rw[kG];exact aQ⟩,?_⟩
  ·exact mono _ _ _ (λj hj=>eX _ (.inl (by rw[kG]at hj;omega))) (VAt.take o h4)
  ·have:=VAt.drop (o+cs.length) (by omega) h4;rw[f1o,kG,show off+i*k+(o+cs.length)=off+i*k+o+cs.length by omega];rw[show off+i*k+(o+cs.length)=off+i*k+o+cs.length by omega]at this;exact mono _ _ _ (λj hj=>eX _ (.inr (by omega))) this
 ·refine VRows.mono_cells (λ_ h=>h) bM (λ_ _ h=>h) (λj hj=>eX _ (.inr (by omega))) h5
theorem b2j{w:World}{blk o:Nat}{bR:Array Value}{e:TypeId}(cv:List Value)(hb:w.heap[blk]?=some (.cells bR e (0,0)))(bP:o+cv.length≤bR.size)
 (m4:∀c∈cv,c.oneCell'=true)(P:Program) :
 ∃w',(storeCells ⟨blk,o,none⟩ cv).run P w = .ok () w'∧(∃db,w'.heap[blk]?=some (.cells db e (0,0))∧db.size=bR.size)∧
  (∀c,c≠blk→w'.heap[c]?=w.heap[c]?)∧w'.heap.size=w.heap.size∧w'.tape=w.tape∧w'.os=w.os∧w'.output=w.output∧
  CellsAt w' cv blk o∧(∀x,(x<o∨o+cv.length≤x)→w'.cell? ⟨blk,x,none⟩=w.cell? ⟨blk,x,none⟩):=by
 refine⟨_,run_storeCells_at (P:=P) blk o e cv 0 bR w hb (by omega) m4,?_⟩;simp only[f6s];generalize aQ:(bR.toList.take o++cv++bR.toList.drop (o+cv.length)).toArray=db;have bJ:db.size=bR.size:=by subst aQ;simp;omega
 have hh:=setRow_heap w blk bR db e (0,0) hb;have aG:∀x,db[x]?=if x<o then bR[x]? else if x<o+cv.length then cv[x-o]? else bR[x]?:=by
  intro x;subst aQ;have kG:(bR.toList.take o).length=o:=by simp;omega
  have iq:(bR.toList.take o++cv).length=o+cv.length:=by simp;omega
  rw[f4h];by_cases h1:x<o
  ·rw[e9o,f0i (by rw[kG];omega)];simp[h1]
  ·by_cases h2:x<o+cv.length
   ·rw[f0i (by rw[iq];omega),f1n (by rw[kG];omega),kG];simp[h1,h2]
   ·rw[f1n (by rw[iq];omega),iq];simp only[f6i,f0j h1,f0j h2];rw[show o+cv.length+(x-(o+cv.length))=x by omega];simp
 refine⟨⟨db,hh,bJ⟩,λc hc=>setRow_other w blk c db hc,setRow_size w blk db,rfl,rfl,rfl,?_,?_⟩
 ·refine CellsAt.of_heap hh (λj v hj=>?_);have bu:j<cv.length:=(e9k.1 hj).1;rw[aG,f0j (by omega),f1r (by omega),show o+j-o=j by omega];exact hj
 ·intro x hx;rw[a7f hh,a7f hb,aG];rcases hx with hx|hx
  ·rw[f1r hx]
  ·rw[f0j (by omega),f0j (by omega)]
theorem d27(ok:EnvOk E)(r:HRel E.G I K ρ h w){t:TypeId}{p x:AV}{e:Eff}{c cx:Value}(hl:a7n E h t p x=some e)(hp:VRel I w ρ p c)(hx:VRel I w ρ x cx) :
 e6l E I K ρ h n w (Instr.storeAt t c cx) e:=by
 cases p with
 |ptr b i o=>
  simp only[a7n]at hl;cases hb:h b with
  |none=>simp[hb]at hl
  |some ob=>
   cases ob with
   |row k rows=>
    simp only[hb]at hl;cases hr:rows[i]? with
    |none=>simp[hr]at hl
    |some rr=>
     simp only[hr]at hl;rw[cond_eq_ite]at hl;split at hl
     case isFalse=>cases hl
     rename_i hc;simp only[e9l,f6k,f4k]at hc;obtain⟨⟨⟨dZ,eP⟩,sj⟩,si⟩:=hc;cases hl;obtain⟨d,hd⟩:=f0c.1 eP;obtain⟨m,hm,dg,_,ho⟩:=r.live b _ hb;obtain⟨hk,hk0,⟨bR,el,ej,a8,bP⟩,az⟩:=ho;obtain⟨ai,aW⟩:=VRows.get i az hr;simp only[VRel]at hp;obtain⟨m',aV,rfl⟩:=hp;obtain rfl:m=m':=z9o (hm.symm.trans aV);have hj:x≠ .junk:=by rintro rfl;simp[AV.cells,AV.storable]at si
     have dY:=VRel.cells hx hj;have ma:=VRels.length dY;have hi:i<rows.length:=(e9k.1 hr).1;have gh:i*k+k≤rows.length*k:=by rw[←f7i];exact f4m k hi
     obtain⟨w',ac,⟨db,aL,gI⟩,bK,bJ,ht,eB,aE,aQ,cg⟩:=b2j (w:=w) (blk:=m.blk) (o:=m.off+i*k+o) cx.cells.toList ej
      (by rw[←ma];omega) (VRels.storable dY si) E.P
     have bM:∀c,I c→w'.heap[c]?=w.heap[c]?:=λc hc=>bK c (λe=>dg (e▸hc));refine⟨w',ρ,?_,?_,Moves.same _ _ _⟩
     ·simp only[Instr.storeAt,Instr.sureAddr,storeVar,Sem.run_bind,Sem.run_pure,Result.andThen_ok,a36 ok w hd];have pz:cx.cells.size=E.sz t:=by rw[←dZ,ma];simp
      simp only[pz,ne_eq,not_true_eq_false,f7c,hk];simpa using ac
     ·refine a22 r hb hm bJ bK ht eB aE ?_;refine⟨hk,hk0,⟨db,el,aL,by omega,by simp only[f2r];omega⟩,?_⟩;refine VRows.splice bM az hr (by rw[ai]at sj;exact sj) (λx hx=>cg x (by rw[←ma];exact hx)) ?_;exact VAt.of_cells aQ (VRels.mono (λ_ h=>h) bM _ (λ_ _ h=>h) dY)
   |map ks vs bs cl=>simp[hb]at hl
   |siter s pos=>simp[hb]at hl
   |uset ks=>simp[hb]at hl
   |miter ks cG cT=>simp[hb]at hl
   |yloop y Fy st=>simp[hb]at hl
 |_=>simp[a7n]at hl
/-! ### new blocks -/
theorem a9l(r:HRel E.G I K ρ h w)(hn:h n=none)(hρ:ρ n=none){el:TypeId}{k:Nat}(hk:0<k){rows:List (List AV)}{cells:Array Value}
 (ai:∀x∈rows,x.length=k)(hv:VRels I w ρ rows.flatten cells.toList){s:Sem Value}{v:AV}{mk:Addr→Value}{w0:World}(cA:SameMem w w0)
 (hs:s.run E.P w = .ok (mk ⟨w.heap.size,0,none⟩) { w0 with heap:=w0.heap.push (.cells cells el) })
 (l8:∀w' ρ',ρ' n=some ⟨w.heap.size,0,k,cells.size⟩→VRel I w' ρ' v (mk ⟨w.heap.size,0,none⟩)) :
 Val E I K ρ h n w s v (.new (.row k rows)):=by
 have a7:=PMap.set_old (m:=⟨w.heap.size,0,k,cells.size⟩) hρ;have aF:∀c,I c→({ w0 with heap:=w0.heap.push (.cells cells el) }:World).heap[c]?=w.heap[c]?:=by intro c hc;have:=r.imm c hc;show(w0.heap.push _)[c]?=_;rw[cA.1,f6x,f0j (by omega)]
 have aQ:({ w0 with heap:=w0.heap.push (.cells cells el) }:World).heap[w.heap.size]?=some (.cells cells el (0,0)):=by show(w0.heap.push _)[_]?=_;rw[cA.1];simp
 refine⟨_,_,ρ.set n ⟨w.heap.size,0,k,cells.size⟩,hs,?_,l8 _ _ (by simp[PMap.set]),Moves.set _ _ _ rfl⟩;refine a2a (ob:=.cells cells el) r hn hρ (by show w0.heap.push _=_;rw[cA.1]) cA.2.1 cA.2.2.1 cA.2.2.2 rfl ?_;refine⟨rfl,hk,⟨cells,el,aQ,rfl,?_⟩,?_⟩
 ·have:=VRels.length hv;rw[a0v ai]at this;simp at this;simp;omega
 ·rw[VRows.iff];refine⟨ai,VAt.of_cells (cs:=cells.toList) (CellsAt.of_heap aQ (λj v hj=>by simpa using hj)) ?_⟩;exact VRels.mono (λ_ h=>h) aF _ a7 hv
theorem a43(el:TypeId)(cells:Array Value)(w:World):(newRow el cells).run E.P w = .ok ⟨w.heap.size,0,none⟩ { w with heap:=w.heap.push (.cells cells el) }:=by simp[newRow]
def e1v(E:Env)(n:Nat)(t:TypeId):Option (AV×Eff):=
 match E.zero t with
 |some z=>bif Nat.blt 0 z.length then some (.ptr n 0 0,.new (.row z.length [z]))else none
 |none=>none
theorem e1u(ok:EnvOk E)(r:HRel E.G I K ρ h w)(hn:h n=none)(hρ:ρ n=none){t:TypeId}{v:AV}{e:Eff}(ha:e1v E n t=some (v,e))(old:Value) :
 Val E I K ρ h n w (Instr.alloc t true old) v e:=by
 unfold e1v at ha;cases hz:E.zero t with
 |none=>simp[hz]at ha
 |some z=>
  simp only[hz]at ha;rw[cond_eq_ite]at ha;split at ha
  case isFalse=>cases ha
  rename_i fm;cases ha;obtain⟨zv,ew,hl,bA⟩:=a6y ok w hz;refine a9l (el:=t) (cells:=zv.cells) (mk:=λa=>.pointer (some a)) r hn hρ (by simpa[f2p]using fm) (by simp) (by simpa using VRels.noRef_any (bA I w)) ⟨rfl,rfl,rfl,rfl⟩ ?_ ?_
  ·simp[Instr.alloc,ew,newVar,a43]
  ·intro w' ρ' h';simp only[VRel];exact⟨_,h',by simp⟩
def e27(n:Nat)(x:AV):Option (AV×Eff):=
 match x with
 |.junk=>none
 |x=>bif Nat.blt 0 x.cells.length then some (.ptr n 0 0,.new (.row x.cells.length [x.cells]))else none
theorem e26(r:HRel E.G I K ρ h w)(hn:h n=none)(hρ:ρ n=none){t:TypeId}{x v:AV}{c:Value}{e:Eff}(ha:e27 n x=some (v,e))(hx:VRel I w ρ x c) :
 Val E I K ρ h n w (Instr.box t c) v e:=by
 have hj:x≠ .junk:=by rintro rfl;simp[e27]at ha
 have oW:(bif Nat.blt 0 x.cells.length then some (AV.ptr n 0 0,Eff.new (.row x.cells.length [x.cells]))else none)=some (v,e):=by cases x<;>first|exact absurd rfl hj|exact ha
 rw[cond_eq_ite]at oW;split at oW
 case isFalse=>cases oW
 rename_i fm;cases oW;refine a9l (el:=t) (cells:=c.cells) (mk:=λa=>.pointer (some a)) r hn hρ (by simpa[f2p]using fm) (by simp) (by simpa using VRel.cells hx hj) ⟨rfl,rfl,rfl,rfl⟩ ?_ ?_
 ·simp[Instr.box,newVar,a43]
 ·intro w' ρ' h';simp only[VRel];exact⟨_,h',by simp⟩
theorem e1w(r:HRel E.G I K ρ h w)(hn:h n=none)(hρ:ρ n=none){s:Sem Value}
 (hs:s.run E.P w = .ok (.map (some w.heap.size)) { w with heap:=w.heap.push (.map #[] 0) }):Val E I K ρ h n w s (.map n) (.new (.map [] [] [] 0)):=by
 refine⟨_,_,ρ.set n ⟨w.heap.size,0,0,0⟩,hs,?_,by simp only[VRel];exact⟨_,by simp[PMap.set];rfl,rfl⟩,Moves.set _ _ _ rfl⟩;refine a2a (ob:=.map #[] 0) r hn hρ rfl rfl rfl rfl rfl ?_;exact⟨#[],by simp,by simp[VRels],by simp[VRels],rfl⟩
end
end Go.Ax
/- AxAdr: addresses of fields and elements, parts of values, slices of slices and strings. -/
namespace Go.Ax
section
variable {E:Env}{I K:Nat→Prop}{ρ:PMap}{h:FHeap}{n:Nat}{w:World}
theorem VAt.drop'{vs:List AV}{b off:Nat}(i:Nat)(h:VAt I w ρ vs b off):VAt I w ρ (vs.drop i) b (off+i):=by
 by_cases hi:i≤vs.length
 ·exact VAt.drop i hi h
 ·rw[f6j (by omega)];simp[VAt]
theorem a4j(b o j:Nat):(⟨b,o,none⟩:Addr).add j=⟨b,o+j,none⟩:=by unfold Addr.add;split<;>simp_all
def a5l(E:Env)(s:TypeId)(p:AV)(f:Nat):Option AV:=
 match E.und s with
 |some (.struct fs)=>match fs[f]? with
  |some fd=>bif !(E.sz fd.type==0)&&(E.und fd.type).isSome then
   match p with
   |.ptr b i o=>some (.ptr b i (o+fd.offset))
   |.iptr cs=>some (.iptr (cs.drop fd.offset))
   |_=>none
   else none
  |none=>none
 |_=>none
theorem b8y(ok:EnvOk E)(r:HRel E.G I K ρ h w){s:TypeId}{p v:AV}{f:Nat}{c:Value}(hl:a5l E s p f=some v)(hp:VRel I w ρ p c) :
 Val E I K ρ h n w (Instr.fieldAt s c f) v .none:=by
 unfold a5l at hl;cases hu:E.und s with
 |none=>simp[hu]at hl
 |some d=>
  cases d
  case struct fs=>
   simp only[hu]at hl;cases hf:fs[f]? with
   |none=>simp[hf]at hl
   |some fd=>
    simp only[hf]at hl;rw[cond_eq_ite]at hl;split at hl
    case isFalse=>cases hl
    rename_i hc;simp only[e9l,f3z,f3k]at hc;obtain⟨hz,hs⟩:=hc;obtain⟨uM,nD⟩:=f0c.1 hs;have eW:∀b o:Nat,(fieldPlace ⟨b,o,none⟩ fd).run E.P w = .ok ⟨b,o+fd.offset,none⟩ w:=by intro b o;simp[fieldPlace,a36 ok w nD,hz,a4j]
    cases p with
    |ptr b i o=>simp only[Option.some.injEq]at hl;subst hl;simp only[VRel]at hp;obtain⟨m,hm,rfl⟩:=hp;refine Val.here (c:=.pointer (some ⟨m.blk,m.off+i*m.k+o+fd.offset,none⟩)) r ?_ (by simp only[VRel];exact⟨m,hm,by rw[Nat.add_assoc _ o]⟩);simp[Instr.fieldAt,a0a ok w hu,hf,Instr.sureAddr,eW]
    |iptr cs=>simp only[Option.some.injEq]at hl;subst hl;simp only[VRel]at hp;obtain⟨b,off,rfl,hI,aW⟩:=hp;refine Val.here (c:=.pointer (some ⟨b,off+fd.offset,none⟩)) r ?_ (by simp only[VRel];exact⟨b,_,rfl,hI,VAt.drop' _ aW⟩);simp[Instr.fieldAt,a0a ok w hu,hf,Instr.sureAddr,eW]
    |_=>simp at hl
  all_goals simp[hu]at hl
theorem a8i(ok:EnvOk E){t:TypeId}{cs:List AV}{cv:Array Value}{off:Nat}{v:AV}(hv:a2k E t ((cs.drop off).take (E.sz t))=some v)
 (hc:VRels I w ρ cs cv.toList):∃c,(part t cv off).run E.P w = .ok c w∧VRel I w ρ v c:=by
 unfold a2k at hv;rw[cond_eq_ite]at hv;split at hv
 case isFalse=>cases hv
 rename_i hl;have hl:((cs.drop off).take (E.sz t)).length=E.sz t:=by simpa using hl
 cases hd:E.und t with
 |none=>simp[hd]at hv
 |some d=>
  simp only[hd]at hv;unfold part;cases dC:a2d d with
  |true=>simp only[dC,f2m,Option.some.injEq]at hv;subst hv;refine⟨.agg (cv.extract off (off+E.sz t)),by simp[b2t ok w hd,dC,a36 ok w hd],?_⟩;simp only[VRel];refine⟨_,rfl,?_⟩;have:=VRels.take (E.sz t) (VRels.drop off hc);simpa[Array.toList_extract,List.extract_eq_take_drop,List.extract]using this
  |false=>
   simp only[dC,f2z]at hv;have hk:=VRels.take (E.sz t) (VRels.drop off hc);have h0:((cs.drop off).take (E.sz t))[0]?=some v:=by rw[←List.head?_eq_getElem?];exact hv
   obtain⟨c,cR,pq⟩:=VRels.get 0 hk h0;have:cv[off]?=some c:=by
    rw[f4r]at cR;split at cR
    ·simpa[f6i]using cR
    ·cases cR
   exact⟨c,by simp[b2t ok w hd,dC,this],pq⟩
theorem c98(ok:EnvOk E)(r:HRel E.G I K ρ h w){t:TypeId}{cs:List AV}{cv:Array Value}{off:Nat}{v:AV}(hv:a2k E t ((cs.drop off).take (E.sz t))=some v)
 (hc:VRels I w ρ cs cv.toList):Val E I K ρ h n w (part t cv off) v .none:=by
 obtain⟨c,h1,h2⟩:=a8i ok hv hc;exact Val.here r h1 h2
def d2o(E:Env)(t:TypeId)(x:AV)(f:Nat):Option AV:=
 match E.und t,x with
 |some (.struct fs),.agg cs=>match fs[f]? with
  |some fd=>a2k E fd.type ((cs.drop fd.offset).take (E.sz fd.type))
  |none=>none
 |_,_=>none
theorem d2n(ok:EnvOk E)(r:HRel E.G I K ρ h w){t:TypeId}{x v:AV}{f:Nat}{c:Value}(hl:d2o E t x f=some v)(hx:VRel I w ρ x c) :
 Val E I K ρ h n w (Instr.field t c f) v .none:=by
 unfold d2o at hl;split at hl
 ·rename_i fs cs hu;cases hf:fs[f]? with
  |none=>simp[hf]at hl
  |some fd=>
   simp only[hf]at hl;simp only[VRel]at hx;obtain⟨cv,rfl,hc⟩:=hx;have ac:(Instr.field t (.agg cv) f).run E.P w=(part fd.type cv fd.offset).run E.P w:=by simp[Instr.field,a0a ok w hu,hf,asAgg]
   obtain⟨c,w',ρ',h1,h2⟩:=c98 ok (n:=n) r hl hc;exact⟨c,w',ρ',by rw[ac,h1],h2⟩
 ·cases hl
def c7e(x:AV)(len:Nat):Option Nat:=
 match x with
 |.int _ i=>bif decide (0≤i)&&decide (i<(len:Int))then some i.toNat else none
 |_=>none
theorem b4v{x:AV}{len j:Nat}{c:Value}(hi:c7e x len=some j)(hx:VRel I w ρ x c):∃k i,c = .int k i∧x = .int k i∧0≤i∧i<len∧i.toNat=j∧j<len:=by
 unfold c7e at hi;split at hi
 ·rename_i k i;rw[cond_eq_ite]at hi;split at hi
  ·rename_i hc;simp only[e9l,f0l]at hc;simp only[VRel]at hx;cases hi;exact⟨k,i,hx,rfl,hc.1,hc.2,rfl,by omega⟩
  ·cases hi
 ·cases hi
def a0s(E:Env)(h:FHeap)(t:TypeId)(p ix:AV):Option AV:=
 match E.und t with
 |some (.array len aa)=>match c7e ix len with
  |some j=>bif (E.und aa).isSome then match p with
   |.ptr b i o=>some (.ptr b i (o+j*E.sz aa))
   |.iptr cs=>some (.iptr (cs.drop (j*E.sz aa)))
   |_=>none
   else none
  |none=>none
 |some (.slice aa)=>bif (E.und aa).isSome then match p with
  |.slice b off len _=>match c7e ix len with
   |some j=>match h b with
    |some (.row k _)=>bif k==E.sz aa then some (.ptr b (off+j) 0)else none
    |_=>none
   |none=>none
  |.islice rows _=>match c7e ix rows.length with
   |some j=>match rows[j]? with
    |some r=>bif r.length==E.sz aa then some (.iptr r)else none
    |none=>none
   |none=>none
  |_=>none
  else none
 |_=>none
theorem b8w(ok:EnvOk E)(r:HRel E.G I K ρ h w){t:TypeId}{p ix v:AV}{c ci:Value}(hl:a0s E h t p ix=some v)(hp:VRel I w ρ p c)(hx:VRel I w ρ ix ci) :
 Val E I K ρ h n w (Instr.indexAt t c ci) v .none:=by
 unfold a0s at hl;split at hl
 ·rename_i len aa hu;cases hi:c7e ix len with
  |none=>simp[hi]at hl
  |some j=>
   simp only[hi]at hl;obtain⟨k,i,rfl,_,h0,h1,hj,bu⟩:=b4v hi hx;rw[cond_eq_ite]at hl;split at hl
   case isFalse=>cases hl
   rename_i he;obtain⟨de,bp⟩:=f0c.1 he;cases p with
   |ptr b i' o=>simp only[Option.some.injEq]at hl;subst hl;simp only[VRel]at hp;obtain⟨m,hm,rfl⟩:=hp;refine Val.here (c:=.pointer (some ⟨m.blk,m.off+i'*m.k+o+j*E.sz aa,none⟩)) r ?_ (by simp only[VRel];exact⟨m,hm,by rw[Nat.add_assoc _ o]⟩);simp[Instr.indexAt,asIntOf,a0a ok w hu,Instr.sureAddr,h0,h1,a36 ok w bp,hj,a4j]
   |iptr cs=>simp only[Option.some.injEq]at hl;subst hl;simp only[VRel]at hp;obtain⟨b,off,rfl,hI,aW⟩:=hp;refine Val.here (c:=.pointer (some ⟨b,off+j*E.sz aa,none⟩)) r ?_ (by simp only[VRel];exact⟨b,_,rfl,hI,VAt.drop' _ aW⟩);simp[Instr.indexAt,asIntOf,a0a ok w hu,Instr.sureAddr,h0,h1,a36 ok w bp,hj,a4j]
   |_=>simp at hl
 ·rename_i aa hu;rw[cond_eq_ite]at hl;split at hl
  case isFalse=>cases hl
  rename_i he;obtain⟨de,bp⟩:=f0c.1 he;cases p with
  |slice b off len cap=>
   simp only at hl;cases hi:c7e ix len with
   |none=>simp[hi]at hl
   |some j=>
    simp only[hi]at hl;obtain⟨k,i,rfl,_,h0,h1,hj,bu⟩:=b4v hi hx;cases hb:h b with
    |none=>simp[hb]at hl
    |some o=>
     cases o with
     |row kk rows=>
      simp only[hb]at hl;rw[cond_eq_ite]at hl;split at hl
      case isFalse=>cases hl
      rename_i hk;have hk:kk=E.sz aa:=by simpa using hk
      cases hl;obtain⟨m,hm,_,_,ho⟩:=r.live b _ hb;simp only[VRel]at hp;obtain⟨a,cc,rfl,bd,_,bT⟩:=hp;rcases bT with hz|⟨m',aV,rfl,_⟩
      ·omega
      obtain rfl:m=m':=z9o (hm.symm.trans aV);have l8:m.k=E.sz aa:=by rw[ho.1,hk]
      refine Val.here (c:=.pointer (some ⟨m.blk,m.off+off*m.k+j*m.k,none⟩)) r ?_ (by simp only[VRel];exact⟨m,hm,by rw[f5o];simp;omega⟩);simp[Instr.indexAt,asIntOf,a0a ok w hu,h0,h1,a36 ok w bp,hj,a4j,l8]
     |map ks vs bs cl=>simp[hb]at hl
     |siter s pos=>simp[hb]at hl
     |uset ks=>simp[hb]at hl
     |miter ks cG cT=>simp[hb]at hl
     |yloop y Fy st=>simp[hb]at hl
  |islice rows cap=>
   simp only at hl;cases hi:c7e ix rows.length with
   |none=>simp[hi]at hl
   |some j=>
    simp only[hi]at hl;obtain⟨k,i,rfl,_,h0,h1,hj,bu⟩:=b4v hi hx;cases hr:rows[j]? with
    |none=>simp[hr]at hl
    |some rr=>
     simp only[hr]at hl;rw[cond_eq_ite]at hl;split at hl
     case isFalse=>cases hl
     rename_i hk;have hk:rr.length=E.sz aa:=by simpa using hk
     cases hl;simp only[VRel]at hp;obtain⟨a,cc,kk,rfl,bd,_,bT⟩:=hp;rcases bT with hz|⟨hs,hI,az⟩
     ·subst hz;simp at bu
     obtain⟨ai,aW⟩:=VRows.get j az hr;have ha:a=⟨a.block,a.off,none⟩:=by cases a;simp_all
     refine Val.here (c:=.pointer (some ⟨a.block,a.off+j*kk,none⟩)) r ?_ (by simp only[VRel];exact⟨_,_,rfl,hI,aW⟩);rw[ha];simp[Instr.indexAt,asIntOf,a0a ok w hu,h0,h1,a36 ok w bp,hj,a4j,←hk,ai]
  |_=>simp at hl
 ·cases hl
def d2m(E:Env)(t:TypeId)(x ix:AV):Option AV:=
 match E.und t,x with
 |some (.array len aa),.agg cs=>match c7e ix len with
  |some j=>bif (E.und aa).isSome then a2k E aa ((cs.drop (j*E.sz aa)).take (E.sz aa))else none
  |none=>none
 |some .string,.str s=>match c7e ix s.length with
  |some j=>match s[j]? with
   |some b=>some (.int .u8 b.toNat)
   |none=>none
  |none=>none
 |_,_=>none
theorem d23(t:ByteArray)(i:Nat):t[i]?=t.data.toList[i]?:=by
 simp only[f5p];by_cases hi:i<t.size
 ·have h2:i<t.data.size:=hi;rw[getElem?_pos t i hi,getElem?_pos t.data i h2];rfl
 ·have h2:¬i<t.data.size:=hi;rw[getElem?_neg t i hi,getElem?_neg t.data i h2]
theorem d2l(ok:EnvOk E)(r:HRel E.G I K ρ h w){t:TypeId}{x ix v:AV}{c ci:Value}(hl:d2m E t x ix=some v)(hp:VRel I w ρ x c)(hx:VRel I w ρ ix ci) :
 Val E I K ρ h n w (Instr.index t c ci) v .none:=by
 unfold d2m at hl;split at hl
 ·rename_i len aa cs hu;cases hi:c7e ix len with
  |none=>simp[hi]at hl
  |some j=>
   simp only[hi]at hl;obtain⟨k,i,rfl,_,h0,h1,hj,bu⟩:=b4v hi hx;rw[cond_eq_ite]at hl;split at hl
   case isFalse=>cases hl
   rename_i he;obtain⟨de,bp⟩:=f0c.1 he;simp only[VRel]at hp;obtain⟨cv,rfl,hc⟩:=hp;have ac:(Instr.index t (.agg cv) (.int k i)).run E.P w=(part aa cv (j*E.sz aa)).run E.P w:=by simp[Instr.index,asIntOf,a0a ok w hu,h0,h1,a36 ok w bp,hj]
   obtain⟨c,w',ρ',h1,h2⟩:=c98 ok (n:=n) r hl hc;exact⟨c,w',ρ',by rw[ac,h1],h2⟩
 ·rename_i s hu;cases hi:c7e ix s.length with
  |none=>simp[hi]at hl
  |some j=>
   simp only[hi]at hl;obtain⟨k,i,rfl,_,h0,h1,hj,bu⟩:=b4v hi hx;simp only[VRel]at hp;obtain⟨tb,rfl,hs⟩:=hp;cases hb:s[j]? with
   |none=>simp[hb]at hl
   |some b=>
    simp only[hb,Option.some.injEq]at hl;subst hl;have:tb[i.toNat]?=some b:=by rw[d23,hs,hj,hb]
    refine Val.here (c:=.int .u8 b.toNat) r ?_ (by simp[VRel]);simp[Instr.index,asIntOf,a0a ok w hu,h0,this]
 ·cases hl
/-! ### slicing -/
def a19(x:Option AV)(y:Nat)(d:Nat):Option Nat:=
 match x with
 |none=>some d
 |some (.int _ i)=>bif decide (0≤i)&&decide (i≤(y:Int))then some i.toNat else none
 |some _=>none
def a3e(I:Nat→Prop)(w:World)(ρ:PMap):Option AV→Option Value→Prop
 |none,c=>c=none
 |some v,c=>∃x,c=some x∧VRel I w ρ v x
theorem a4w{x:Option AV}{c:Option Value}{y d j:Nat}(hb:a19 x y d=some j)(hx:a3e I w ρ x c)(y':Nat)(hy:y≤y')(code:BoundsCode) :
 (match c with|some v=>Instr.sliceBound v y' code|none=>pure d:Sem Nat).run E.P w = .ok j w∧(c.isSome=true→j≤y):=by
 unfold a19 at hb;split at hb
 ·simp only[a3e]at hx;subst hx;cases hb;simp
 ·rename_i k i;simp only[a3e,VRel]at hx;obtain⟨_,rfl,rfl⟩:=hx;rw[cond_eq_ite]at hb;split at hb
  ·rename_i hc;simp only[e9l,f0l]at hc;cases hb;have:0≤i∧i≤(y':Int):=⟨hc.1,by omega⟩
   exact⟨by simp[Instr.sliceBound,asIntOf,this],λ_=>by omega⟩
  ·cases hb
 ·cases hb
end
end Go.Ax
/- AxSli: slices of slices and strings; composite values; rows that are c45. -/
namespace Go.Ax
section
variable {E:Env}{I K:Nat→Prop}{ρ:PMap}{h:FHeap}{n:Nat}{w:World}
def a1h(len:Nat)(cap:Option Nat):Nat:=match cap with|some c=>c|none=>len
def a5b(E:Env)(h:FHeap)(t:TypeId)(x:AV)(lo hi mx:Option AV):Option AV:=
 match E.und t,x with
 |some .string,.str s=>
  match mx,a19 hi s.length s.length with
  |none,some j=>match a19 lo j 0 with
   |some l=>some (.str ((s.take j).drop l))
   |none=>none
  |_,_=>none
 |some (.slice aa),.slice b off len cap=>
  bif (E.und aa).isSome then
  match h b with
  |some (.row k _)=>bif k==E.sz aa then
   match mx with
   |none=>match a19 hi (a1h len cap) len with
    |some j=>match a19 lo j 0 with
     |some l=>some (.slice b (off+l) (j-l) (cap.map (·- l)))
     |none=>none
    |none=>none
   |some m=>match a19 (some m) (a1h len cap) 0 with
    |some mm=>match hi with
     |none=>none
     |some _=>match a19 hi mm 0 with
      |some j=>match a19 lo j 0 with
       |some l=>some (.slice b (off+l) (j-l) (some (mm-l)))
       |none=>none
      |none=>none
    |none=>none
   else none
  |_=>none
  else none
 |some (.slice aa),.islice rows cap=>
  bif (E.und aa).isSome&&rows.all (λr=>r.length==E.sz aa)then
   match mx with
   |none=>match a19 hi rows.length rows.length with
    |some j=>match a19 lo j 0 with
     |some l=>some (.islice ((rows.take j).drop l) (cap.map (·- l)))
     |none=>none
    |none=>none
   |some m=>match a19 (some m) rows.length 0 with
    |some mm=>match hi with
     |none=>none
     |some _=>match a19 hi mm 0 with
      |some j=>match a19 lo j 0 with
       |some l=>some (.islice ((rows.take j).drop l) (some (mm-l)))
       |none=>none
      |none=>none
    |none=>none
  else none
 |some (.slice aa),.nilslice=>
  bif (E.und aa).isSome then
  match mx with
  |none=>match a19 hi 0 0 with
   |some j=>match a19 lo j 0 with
    |some _=>some .nilslice
    |none=>none
   |none=>none
  |some m=>match a19 (some m) 0 0 with
   |some mm=>match hi with
    |none=>none
    |some _=>match a19 hi mm 0 with
     |some j=>match a19 lo j 0 with
      |some _=>some .nilslice
      |none=>none
     |none=>none
   |none=>none
  else none
 |_,_=>none
theorem b8p{lo hi:Option AV}{go gF:Option Value}{e5 kw j l:Nat}(hj:a19 hi e5 kw=some j)(hl:a19 lo j 0=some l)
 (rh:a3e I w ρ hi gF)(rl:a3e I w ρ lo go)(mF:Bool)(len cap:Nat)(ai:kw=len)(aU:e5≤cap)(jy:kw≤e5) :
 (Instr.sliceBounds mF len cap go gF none).run E.P w = .ok (l,j,cap) w∧l≤j∧j≤e5:=by
 subst ai;have fO:=a4w (E:=E) hl rl j (f1u _) .sliceB;have bu:l≤j:=by
  unfold a19 at hl;split at hl
  ·cases hl;omega
  ·rw[cond_eq_ite]at hl;split at hl
   ·rename_i hc;simp only[e9l,f0l]at hc;cases hl;omega
   ·cases hl
  ·cases hl
 have ns:j≤e5:=by
  unfold a19 at hj;split at hj
  ·cases hj;omega
  ·rw[cond_eq_ite]at hj;split at hj
   ·rename_i hc;simp only[e9l,f0l]at hc;cases hj;omega
   ·cases hj
  ·cases hj
 refine⟨?_,bu,ns⟩;unfold Instr.sliceBounds;cases mF
 ·have dN:=a4w (E:=E) hj rh cap aU .sliceAlen;cases gF<;>cases go<;>simp at dN fO<;>simp[dN,fO]
 ·have dN:=a4w (E:=E) hj rh cap aU .sliceAcap;cases gF<;>cases go<;>simp at dN fO<;>simp[dN,fO]
theorem c39{lo hi:Option AV}{m:AV}{go gF:Option Value}{cm:Value}{e5 mm j l:Nat}(hm:a19 (some m) e5 0=some mm)(hj:a19 hi mm 0=some j)(hl:a19 lo j 0=some l)
 (rm:VRel I w ρ m cm)(rh:a3e I w ρ hi gF)(mf:hi.isSome=true)(rl:a3e I w ρ lo go)(mF:Bool)(len cap:Nat)(aU:e5≤cap) :
 (Instr.sliceBounds mF len cap go gF (some cm)).run E.P w = .ok (l,j,mm) w∧l≤j∧j≤mm∧mm≤e5:=by
 have qy:∃ch,gF=some ch:=by
  cases hi with
  |none=>simp at mf
  |some x=>simp only[a3e]at rh;obtain⟨y,h,_⟩:=rh;exact⟨y,h⟩
 obtain⟨ch,rfl⟩:=qy;have fO:=a4w (E:=E) hl rl j (f1u _) .slice3C;have dN:=a4w (E:=E) hj rh mm (f1u _) .slice3B;have le:∀{x:Option AV} {y d z:Nat},a19 x y d=some z→d≤y→z≤y:=by
  intro x y d z hz hd;unfold a19 at hz;split at hz
  ·cases hz;omega
  ·rw[cond_eq_ite]at hz;split at hz
   ·rename_i hc;simp only[e9l,f0l]at hc;cases hz;omega
   ·cases hz
  ·cases hz
 refine⟨?_,le hl (f0h _),le hj (f0h _),le hm (f0h _)⟩;unfold Instr.sliceBounds;cases mF
 ·have jd:=a4w (E:=E) (c:=some cm) hm (by simp only[a3e];exact⟨cm,rfl,rm⟩) cap aU .slice3Alen;cases go<;>simp at jd dN fO<;>simp[jd,dN,fO]
 ·have jd:=a4w (E:=E) (c:=some cm) hm (by simp only[a3e];exact⟨cm,rfl,rm⟩) cap aU .slice3Acap;cases go<;>simp at jd dN fO<;>simp[jd,dN,fO]
theorem a21(ok:EnvOk E){t aa:TypeId}(hu:E.und t=some (.slice aa)){de:TypeDesc}(he:E.und aa=some de){a:Option Addr}{len cap l j m:Nat}{go gF oz:Option Value}
 (hb:(Instr.sliceBounds true len cap go gF oz).run E.P w = .ok (l,j,m) w) :
 (Instr.sliceAt t (.slice a len cap) go gF oz).run E.P w = .ok (.slice (if m=l then a else a.map (·.add (l*E.sz aa))) (j-l) (m-l)) w:=by
 simp[Instr.sliceAt,a0a ok w hu,Instr.slice,hb,a36 ok w he]
theorem a67(s:ByteArray)(l j:Nat):(s.extract l j).data.toList=(s.data.toList.take j).drop l:=by rw[ByteArray.data_extract,Array.toList_extract,List.extract_eq_take_drop];rw[List.drop_take]
theorem a8s{b off len:Nat}{cap:Option Nat}{a:Addr}{c l j m:Nat}{k:Nat}{rows:List (List AV)}{i4:Option Nat}{sz:Nat}
 (r:HRel E.G I K ρ h w)(hb:h b=some (.row k rows))(hk:k=sz)(hp:VRel I w ρ (.slice b off len cap) (.slice (some a) len c))
 (tD:l≤j)(tI:j≤m)(tA:m≤c)(aU:∀n,i4=some n→m-l=n) :
 VRel I w ρ (.slice b (off+l) (j-l) i4) (.slice (if m=l then some a else(some a).map (·.add (l*sz))) (j-l) (m-l)):=by
 simp only[VRel]at hp⊢;obtain⟨a',c',he,bd,hc,bT⟩:=hp;cases he;by_cases cJ:m=l
 ·rw[f1r cJ];exact⟨a,m-l,by simp,by omega,aU,.inl (by omega)⟩
 ·rw[f0j cJ];rcases bT with h0|⟨mm,dm,rfl,a8⟩
  ·omega
  ·obtain⟨m',aV,_,_,ho⟩:=r.live b _ hb;obtain rfl:mm=m':=z9o (dm.symm.trans aV);refine⟨_,m-l,rfl,by omega,aU,.inr ⟨mm,dm,?_,?_⟩⟩
   ·dsimp only;rw[a4j,ho.1,hk,f5o]
    congr 1;omega
   ·have:(off+l+(m-l))*mm.k≤(off+c)*mm.k:=f4m _ (by omega);omega
theorem a7s{rows:List (List AV)}{cap:Option Nat}{a:Addr}{c l j m sz:Nat}{i4:Option Nat}(aR:rows.all (λr=>r.length==sz)=true)
 (hp:VRel I w ρ (.islice rows cap) (.slice (some a) rows.length c))(tD:l≤j)(tI:j≤m)(rS:j≤rows.length)(_:m≤c)(aU:∀n,i4=some n→m-l=n) :
 VRel I w ρ (.islice ((rows.take j).drop l) i4) (.slice (if m=l then some a else(some a).map (·.add (l*sz))) (j-l) (m-l)):=by
 simp only[VRel]at hp⊢;obtain⟨a',c',k,he,bd,hc,bT⟩:=hp;cases he;have ai:((rows.take j).drop l).length=j-l:=by simp;omega
 by_cases cJ:m=l
 ·rw[f1r cJ];refine⟨a,m-l,k,by rw[ai],by rw[ai];omega,aU,.inl ?_⟩;apply f6j;simp;omega
 ·rw[f0j cJ];refine⟨_,m-l,k,by rw[ai];rfl,by rw[ai];omega,aU,?_⟩;rcases bT with h0|⟨hs,hI,az⟩
  ·left;subst h0;simp
  ·by_cases hr:rows=[]
   ·left;subst hr;simp
   ·right;have lg:k=sz:=by
     cases rows with
     |nil=>exact absurd rfl hr
     |cons r rs=>simp only[VRows]at az;simp only[List.all_cons,e9l,f6k]at aR;omega
    have ha:a=⟨a.block,a.off,none⟩:=by cases a;simp_all
    rw[ha];dsimp only;rw[a4j];refine⟨rfl,hI,?_⟩;have h2:l≤(rows.take j).length:=by simp;omega
    have:=VRows.drop l h2 (VRows.take j az);rw[lg]at this⊢;exact this
theorem d28(ok:EnvOk E)(r:HRel E.G I K ρ h w){t:TypeId}{x v:AV}{lo hi mx:Option AV}{c:Value}{go gF oz:Option Value}(hl:a5b E h t x lo hi mx=some v)
 (hx:VRel I w ρ x c)(rl:a3e I w ρ lo go)(rh:a3e I w ρ hi gF)(rm:a3e I w ρ mx oz):Val E I K ρ h n w (Instr.sliceAt t c go gF oz) v .none:=by
 unfold a5b at hl;split at hl
 · -- strings
  rename_i s hu;split at hl
  ·rename_i j hj;simp only[a3e]at rm;subst rm;cases bH:a19 lo j 0 with
   |none=>simp[bH]at hl
   |some l=>
    simp only[bH,Option.some.injEq]at hl;subst hl;simp only[VRel]at hx;obtain⟨tb,rfl,hs⟩:=hx;have bJ:tb.size=s.length:=by rw[←hs,f2t];rfl
    obtain⟨hb,h1,h2⟩:=b8p (E:=E) hj bH rh rl false tb.size tb.size bJ.symm (by omega) (f1u _);refine Val.here (c:=.string (tb.extract l j)) r ?_ (by simp only[VRel];exact⟨_,rfl,by rw[a67,hs]⟩);simp[Instr.sliceAt,a0a ok w hu,Instr.slice,hb]
  ·cases hl
 · -- a mutable block
  rename_i aa b off len cap hu;rw[cond_eq_ite]at hl;split at hl
  case isFalse=>cases hl
  rename_i he;obtain⟨de,bp⟩:=f0c.1 he;split at hl
  case h_2=>cases hl
  rename_i k rows hb;rw[cond_eq_ite]at hl;split at hl
  case isFalse=>cases hl
  rename_i hk;have hk:k=E.sz aa:=by simpa using hk
  have fU:=hx;simp only[VRel]at fU;obtain⟨a,cc,rfl,bd,aU,bT⟩:=fU;have km:a1h len cap≤cc:=by unfold a1h;cases cap with|none=>exact bd|some c=>rw[aU c rfl];exact f1u _
  have nk:len≤a1h len cap:=by unfold a1h;cases cap with|none=>exact f1u _|some c=>rw[←aU c rfl];exact bd
  cases mx with
  |none=>
   simp only[a3e]at rm;subst rm;simp only at hl;cases hj:a19 hi (a1h len cap) len with
   |none=>simp[hj]at hl
   |some j=>
    simp only[hj]at hl;cases bH:a19 lo j 0 with
    |none=>simp[bH]at hl
    |some l=>
     simp only[bH,Option.some.injEq]at hl;subst hl;obtain⟨gC,h1,h2⟩:=b8p (E:=E) hj bH rh rl true len cc rfl km nk;refine Val.here r (a21 ok hu bp gC) (a8s r hb hk hx h1 (by omega) (f1u _) ?_);intro q hq;cases cap with
     |none=>simp at hq
     |some c=>simp at hq;rw[aU c rfl];exact hq
  |some m=>
   simp only[a3e]at rm;obtain⟨cm,rfl,rm⟩:=rm;simp only at hl;cases dm:a19 (some m) (a1h len cap) 0 with
   |none=>simp[dm]at hl
   |some mm=>
    simp only[dm]at hl;cases hi with
    |none=>simp at hl
    |some hi=>
     simp only at hl;cases hj:a19 (some hi) mm 0 with
     |none=>simp[hj]at hl
     |some j=>
      simp only[hj]at hl;cases bH:a19 lo j 0 with
      |none=>simp[bH]at hl
      |some l=>simp only[bH,Option.some.injEq]at hl;subst hl;obtain⟨gC,h1,h2,h3⟩:=c39 (E:=E) dm hj bH rm rh rfl rl true len cc km;exact Val.here r (a21 ok hu bp gC) (a8s r hb hk hx h1 h2 (by omega) (λq hq=>by cases hq;rfl))
 · -- immutable memory
  rename_i aa rows cap hu;rw[cond_eq_ite]at hl;split at hl
  case isFalse=>cases hl
  rename_i he;simp only[e9l]at he;obtain⟨de,bp⟩:=f0c.1 he.1;have fU:=hx;simp only[VRel]at fU;obtain⟨a,cc,kk,rfl,bd,aU,bT⟩:=fU;cases mx with
  |none=>
   simp only[a3e]at rm;subst rm;simp only at hl;cases hj:a19 hi rows.length rows.length with
   |none=>simp[hj]at hl
   |some j=>
    simp only[hj]at hl;cases bH:a19 lo j 0 with
    |none=>simp[bH]at hl
    |some l=>
     simp only[bH,Option.some.injEq]at hl;subst hl;obtain⟨gC,h1,h2⟩:=b8p (E:=E) hj bH rh rl true rows.length cc rfl bd (f1u _);refine Val.here r (a21 ok hu bp gC) (a7s he.2 hx h1 (by omega) h2 (f1u _) ?_);intro q hq;cases cap with
     |none=>simp at hq
     |some c=>simp at hq;rw[aU c rfl];exact hq
  |some m=>
   simp only[a3e]at rm;obtain⟨cm,rfl,rm⟩:=rm;simp only at hl;cases dm:a19 (some m) rows.length 0 with
   |none=>simp[dm]at hl
   |some mm=>
    simp only[dm]at hl;cases hi with
    |none=>simp at hl
    |some hi=>
     simp only at hl;cases hj:a19 (some hi) mm 0 with
     |none=>simp[hj]at hl
     |some j=>
      simp only[hj]at hl;cases bH:a19 lo j 0 with
      |none=>simp[bH]at hl
      |some l=>simp only[bH,Option.some.injEq]at hl;subst hl;obtain⟨gC,h1,h2,h3⟩:=c39 (E:=E) dm hj bH rm rh rfl rl true rows.length cc bd;exact Val.here r (a21 ok hu bp gC) (a7s he.2 hx h1 h2 (by omega) (by omega) (λq hq=>by cases hq;rfl))
 · -- nil
  rename_i aa hu;rw[cond_eq_ite]at hl;split at hl
  case isFalse=>cases hl
  rename_i he;obtain⟨de,bp⟩:=f0c.1 he;simp only[VRel]at hx;subst hx;cases mx with
  |none=>
   simp only[a3e]at rm;subst rm;simp only at hl;cases hj:a19 hi 0 0 with
   |none=>simp[hj]at hl
   |some j=>
    simp only[hj]at hl;cases bH:a19 lo j 0 with
    |none=>simp[bH]at hl
    |some l=>
     simp only[bH,Option.some.injEq]at hl;subst hl;obtain⟨gC,h1,h2⟩:=b8p (E:=E) hj bH rh rl true 0 0 rfl (f1u _) (f1u _);obtain rfl:j=0:=by omega
     obtain rfl:l=0:=by omega
     exact Val.here (c:=.slice none 0 0) r (by rw[a21 ok hu bp gC];rfl) (by simp[VRel])
  |some m=>
   simp only[a3e]at rm;obtain⟨cm,rfl,rm⟩:=rm;simp only at hl;cases dm:a19 (some m) 0 0 with
   |none=>simp[dm]at hl
   |some mm=>
    simp only[dm]at hl;cases hi with
    |none=>simp at hl
    |some hi=>
     simp only at hl;cases hj:a19 (some hi) mm 0 with
     |none=>simp[hj]at hl
     |some j=>
      simp only[hj]at hl;cases bH:a19 lo j 0 with
      |none=>simp[bH]at hl
      |some l=>
       simp only[bH,Option.some.injEq]at hl;subst hl;obtain⟨gC,h1,h2,h3⟩:=c39 (E:=E) dm hj bH rm rh rfl rl true 0 0 (f1u _);obtain rfl:mm=0:=by omega
       obtain rfl:j=0:=by omega
       obtain rfl:l=0:=by omega
       exact Val.here (c:=.slice none 0 0) r (by rw[a21 ok hu bp gC];rfl) (by simp[VRel])
 ·cases hl
end
end Go.Ax
/- AxMake: composite values, slice literals, make. -/
namespace Go.Ax
section
variable {E:Env}{I K:Nat→Prop}{ρ:PMap}{h:FHeap}{n:Nat}{w:World}
def AV.isJunk:AV→Bool
 |.junk=>true
 |_=>false
theorem AV.not_junk{v:AV}(h:v.isJunk=false):v≠ .junk:=by rintro rfl;simp[AV.isJunk]at h
def b19(eG:Nat→Option (Nat×Nat))(cells:List AV):List (Nat×AV)→Option (List AV)
 | []=>some cells
 |(i,v)::af=>match eG i with
  |none=>none
  |some (off,size)=>bif !v.isJunk&&v.cells.length==size&&Nat.ble (off+size) cells.length then b19 eG (splice cells off v.cells) af else none
def a5f(I:Nat→Prop)(w:World)(ρ:PMap):List (Nat×AV)→List (Nat×Value)→Prop
 | [],l=>l=[]
 |(i,v)::r,l=>∃c r',l=(i,c)::r'∧VRel I w ρ v c∧a5f I w ρ r r'
def e5x(a:List Value)(off:Nat)(cs:List Value):List Value:=a.take off++cs++a.drop (off+cs.length)
theorem c0o(off:Nat):∀(cs:List Value) (j:Nat) (a:Array Value),off+j+cs.length≤a.size→
 (((cs.zipIdx j).foldl (λ(a:Array Value) (x:Value×Nat)=>a.setIfInBounds (off+x.2) x.1) a).toList=e5x a.toList (off+j) cs)
 | [],j,a,_=>by simp[e5x]
 |c::cs,j,a,hl=>by
  simp only[e9m]at hl;simp only[List.zipIdx_cons,List.foldl_cons];rw[c0o off cs (j+1) _ (by simp;omega)];unfold e5x;simp only[Array.toList_setIfInBounds,e9m];rw[show off+(j+1)=(off+j)+1 by omega,show(off+j)+(cs.length+1)=(off+j)+1+cs.length by omega];have ag:off+j<a.toList.length:=by simp;omega
  rw[List.take_succ_eq_append_getElem (by simpa using ag),List.take_set_of_le (f1u _),List.drop_set_of_lt (by omega)];simp
theorem VRels.splice{vs cs:List AV}{xs ys:List Value}{off:Nat}(h:VRels I w ρ vs xs)(k:VRels I w ρ cs ys):VRels I w ρ (Ax.splice vs off cs) (e5x xs off ys):=by unfold Ax.splice e5x;rw[VRels.length k];exact VRels.append (VRels.append (VRels.take off h) k) (VRels.drop _ h)
theorem b2h{eG:Nat→Option (Nat×Nat)}:∀{aq:List (Nat×AV)} {cells ie:List AV} {cv:Array Value} {bQ:List (Nat×Value)},
 b19 eG cells aq=some ie→VRels I w ρ cells cv.toList→a5f I w ρ aq bQ→∃gE,Instr.fill eG cv bQ=some gE∧VRels I w ρ ie gE.toList
 | [],cells,ie,cv,bQ,hf,hc,hp=>by simp only[a5f]at hp;subst hp;simp only[b19,Option.some.injEq]at hf;subst hf;exact⟨cv,rfl,hc⟩
 |(i,v)::af,cells,ie,cv,bQ,hf,hc,hp=>by
  simp only[a5f]at hp;obtain⟨c,r',rfl,hv,hp⟩:=hp;simp only[b19]at hf;cases dz:eG i with
  |none=>simp[dz]at hf
  |some os=>
   obtain⟨off,size⟩:=os;simp only[dz]at hf;rw[cond_eq_ite]at hf;split at hf
   case isFalse=>cases hf
   rename_i fF;simp only[e9l,f3z,f6k,f4k]at fF;obtain⟨⟨hj,bJ⟩,bP⟩:=fF;have dY:=VRel.cells hv (AV.not_junk hj);have ma:=VRels.length dY;have ld:=VRels.length hc;simp only[f2t]at ma ld;have jr:=c0o off c.cells.toList 0 cv (by simp;omega);simp only[f6s]at jr;have aQ:VRels I w ρ (splice cells off v.cells) ((c.cells.zipIdx.foldl (λcs (x:Value×Nat)=>cs.setIfInBounds (off+x.2) x.1) cv).toList):=by
    have e:(c.cells.zipIdx.foldl (λcs (x:Value×Nat)=>cs.setIfInBounds (off+x.2) x.1) cv) =
     (c.cells.toList.zipIdx.foldl (λcs (x:Value×Nat)=>cs.setIfInBounds (off+x.2) x.1) cv):=by
     rw[←Array.foldl_toList,Array.toList_zipIdx]
    rw[e,jr];exact VRels.splice hc dY
   obtain⟨gE,h1,h2⟩:=b2h hf aQ hp;refine⟨gE,?_,h2⟩;simp only[Instr.fill,dz];have:¬((c.cells.size≠size||decide (off+c.cells.size>cv.size))=true):=by simp only[ne_eq,f6q,f0l,not_or];omega
   rw[f0j (by simpa using this)];exact h1
def b77(E:Env)(t:TypeId)(aq:List (Nat×AV)):Option AV:=
 match E.zero t with
 |none=>none
 |some z=>match E.und t with
  |some (.struct fs)=>bif fs.toList.all (λf=>(E.und f.type).isSome)then
   match b19 (λi=>(fs[i]?).map λf=>(f.offset,E.sz f.type)) z aq with
   |some cs=>some (.agg cs)
   |none=>none
   else none
  |some (.array _ aa)=>bif (E.und aa).isSome then
   match b19 (λi=>some (i*E.sz aa,E.sz aa)) z aq with
   |some cs=>some (.agg cs)
   |none=>none
   else none
  |_=>none
theorem b5n(ok:EnvOk E):∀(fs:List Field) (w:World),fs.all (λf=>(E.und f.type).isSome)=true→
 (fs.mapM (λf=>do pure (f.offset,←sizeOf f.type):Field→Sem (Nat×Nat))).run E.P w = .ok (fs.map λ(f:Field)=>(f.offset,E.sz f.type)) w
 | [],w,_=>by simp
 |f::fs,w,hf=>by simp only[List.all_cons,e9l]at hf;obtain⟨d,hd⟩:=f0c.1 hf.1;have ih:=b5n ok fs w hf.2;simp only[List.mapM_cons,Sem.run_bind,a36 ok w hd,Result.andThen_ok,Sem.run_pure,ih,e12]
theorem d2t(ok:EnvOk E)(r:HRel E.G I K ρ h w){t:TypeId}{aq:List (Nat×AV)}{bQ:List (Nat×Value)}{v:AV}(hl:b77 E t aq=some v)(hp:a5f I w ρ aq bQ) :
 Val E I K ρ h n w (Instr.build t bQ.toArray) v .none:=by
 unfold b77 at hl;cases hz:E.zero t with
 |none=>simp[hz]at hl
 |some z=>
  simp only[hz]at hl;obtain⟨zv,ew,_,bA⟩:=a6y ok w hz;have bC:VRels I w ρ z zv.cells.toList:=VRels.noRef_any (bA I w);split at hl
  ·rename_i fs hu;rw[cond_eq_ite]at hl;split at hl
   case isFalse=>cases hl
   rename_i aR;split at hl
   case h_2=>cases hl
   rename_i cs hf;cases hl;obtain⟨gE,h1,h2⟩:=b2h hf bC hp;refine Val.here (c:=.agg gE) r ?_ (by simp only[VRel];exact⟨gE,rfl,h2⟩);have dz:=b5n ok fs.toList w aR;have hm:(fs.mapM (λf=>do pure (f.offset,←sizeOf f.type):Field→Sem (Nat×Nat))).run E.P w = .ok (fs.map λ(f:Field)=>(f.offset,E.sz f.type)) w:=by
    rw[Array.mapM_eq_mapM_toList,Sem.run_map,dz];simp only[Result.andThen_ok]
    congr 1
    apply f6r;simp
   have eW:(λ(i:Nat)=>(fs.map λ(f:Field)=>(f.offset,E.sz f.type))[i]?)=(λ(i:Nat)=>(fs[i]?).map λ(f:Field)=>(f.offset,E.sz f.type)):=by funext i;simp
   simp only[Instr.build,Sem.run_bind,ew,Result.andThen_ok,a0a ok w hu,hm,eW,h1,Sem.run_pure]
  ·rename_i m aa hu;rw[cond_eq_ite]at hl;split at hl
   case isFalse=>cases hl
   rename_i he;obtain⟨de,bp⟩:=f0c.1 he;split at hl
   case h_2=>cases hl
   rename_i cs hf;cases hl;obtain⟨gE,h1,h2⟩:=b2h hf bC hp;refine Val.here (c:=.agg gE) r ?_ (by simp only[VRel];exact⟨gE,rfl,h2⟩);simp only[Instr.build,Sem.run_bind,ew,Result.andThen_ok,a0a ok w hu,a36 ok w bp,h1,Sem.run_pure]
  ·cases hl
/-! ### rows of equal elements -/
theorem a3g{α:Type}[Inhabited α](zs:List α):∀c:Nat,((List.range (c*zs.length)).map λi=>zs[i%zs.length]!)=(List.replicate c zs).flatten
 |0=>by simp
 |c+1=>by
  rw[f7i,List.range_add,f2o,a3g zs c,List.replicate_succ',List.flatten_append]
  congr 1
  simp only[List.map_map,f4a,List.flatten_nil,e9n];apply List.ext_getElem
  ·simp
  ·intro i h1 h2;simp only[List.getElem_map,List.getElem_range,Function.comp];rw[Nat.add_comm,Nat.add_mul_mod_self_right,Nat.mod_eq_of_lt h2];simp[h2]
theorem VRels.flatten_replicate{z:List AV}{zs:List Value}(hz:VRels I w ρ z zs):∀c,VRels I w ρ (List.replicate c z).flatten (List.replicate c zs).flatten
 |0=>by simp[VRels]
 |c+1=>by simp only[f6o,f4a];exact VRels.append hz (VRels.flatten_replicate hz c)
def a47(E:Env)(n:Nat)(t:TypeId)(len cap:AV):Option (AV×Eff):=
 match E.und t,len,cap with
 |some (.slice aa),.int _ l,.int _ c=>
  match E.zero aa with
  |some z=>bif decide (0≤l)&&decide (l≤c)&&decide (c≤281474976710656)&&decide ((E.bytes aa:Int)*c≤281474976710656)&&Nat.blt 0 z.length then
   some (.slice n 0 l.toNat (some c.toNat),.new (.row z.length (List.replicate c.toNat z)))else none
  |none=>none
 |_,_,_=>none
theorem b0f{x:Int}(h0:0≤x)(h1:x≤281474976710656):IntKind.i64.wrap x=x:=by simp[IntKind.wrap,IntKind.signed,IntKind.bits];omega
theorem b8t(ok:EnvOk E)(r:HRel E.G I K ρ h w)(hn:h n=none)(hρ:ρ n=none){t:TypeId}{len cap v:AV}{e:Eff}{cl cc:Value}(ha:a47 E n t len cap=some (v,e))
 (ai:VRel I w ρ len cl)(aU:VRel I w ρ cap cc):Val E I K ρ h n w (Instr.makeSlice t cl cc) v e:=by
 unfold a47 at ha;split at ha
 ·rename_i aa k1 l k2 c hu;cases hz:E.zero aa with
  |none=>simp[hz]at ha
  |some z=>
   simp only[hz]at ha;rw[cond_eq_ite]at ha;split at ha
   case isFalse=>cases ha
   rename_i hc;simp only[e9l,f0l,f2p]at hc;obtain⟨⟨⟨⟨h0,h1⟩,h2⟩,h3⟩,h4⟩:=hc;cases ha;simp only[VRel]at ai aU;subst ai aU;obtain⟨⟨de,bp⟩,_⟩:=ok.zero aa z hz;obtain⟨zv,ew,i8,bA⟩:=a6y ok w hz;have d6:=bA I w;have dJ:=VRels.length d6;obtain⟨i,hi,tK,rW⟩:=b24 ok w bp;have td:IntKind.i64.wrap c=c:=b0f (by omega) h2;have fI:IntKind.i64.wrap l=l:=b0f h0 (by omega);have qE:(i.bytes:Int)*c≤281474976710656:=by rw[rW];exact h3
   have bE:(i.bytes:Int)*l≤281474976710656:=Int.le_trans (Int.mul_le_mul_of_nonneg_left h1 (by omega)) qE;have ff:∀w',(zeroValue aa).run E.P w' = .ok zv w':=by intro w';obtain⟨_,i',z',gQ,ey,_⟩:=ok.zero aa z hz;have:=ew;simp[zeroValue,typeInfo,gQ,ey]at this⊢;exact this
   refine a9l (el:=aa) (k:=z.length) (rows:=List.replicate c.toNat z) (cells:=(Array.range (c.toNat*E.sz aa)).map (λi=>zv.cells[i%zv.cells.size]!))
    (mk:=λa=>.slice (some a) l.toNat c.toNat) r hn hρ h4 (by intro x hx;rw[f4n hx]) ?_ ⟨rfl,rfl,rfl,rfl⟩ ?_ ?_
   ·rw[show((Array.range (c.toNat*E.sz aa)).map (λi=>zv.cells[i%zv.cells.size]!)).toList=(List.replicate c.toNat zv.cells.toList).flatten by
     rw[←a3g];simp only[f5r,Array.toList_range,f2t];rw[show E.sz aa=zv.cells.size by rw[←i8,dJ];simp];apply f3h;intro a _;rw[Array.getElem!_toList]]
    exact VRels.flatten_replicate (VRels.noRef_any d6) _
   ·have m9:¬(c<0∨281474976710656<(i.bytes:Int)*c):=by omega
    have e1:(decide (c<0)||decide ((i.bytes:Int)*c>2^48)||decide (l<0)||decide (l>c))=false:=by simp only[Bool.or_eq_false_iff,decide_eq_false_iff_not];omega
    simp only[Instr.makeSlice,Sem.run_bind,a0a ok w hu,Result.andThen_ok,asInt,asIntOf,Sem.run_pure,hi,td,fI];simp only[e1,f3l,f7c];by_cases bY:c.toNat*E.sz aa=0
    ·have:c.toNat=0:=by
      rcases Nat.mul_eq_zero.1 bY with h|h
      ·exact h
      ·omega
     have fL:∀f:Nat→Value,Array.map f (Array.range 0) = #[]:=by intro f;simp
     simp[a36 ok w bp,this,a43];rw[fL,fL]
    ·simp[a36 ok w bp,bY,ff,a43]
   ·intro w' ρ' h';simp only[VRel];exact⟨_,c.toNat,rfl,by omega,λq hq=>by cases hq;rfl,.inr ⟨_,h',by simp,by simp[i8]⟩⟩
 ·cases ha
def b4s(k:Nat)(rows:List (List AV)):List (Nat×AV)→Option (List (List AV))
 | []=>some rows
 |(i,v)::af=>bif !v.isJunk&&v.cells.length==k&&Nat.blt i rows.length then b4s k (rows.set i v.cells) af else none
theorem b42{k:Nat}:∀(rows:List (List AV)) (i:Nat) (cs:List AV),(∀r∈rows,r.length=k)→cs.length=k→i<rows.length→(rows.set i cs).flatten=splice rows.flatten (i*k) cs
 | [],i,cs,_,_,hi=>by simp at hi
 |r::rows,0,cs,hr,hc,_=>by
  have:r.length=cs.length:=by rw[hr r (by simp),hc]
  simp[splice,←this]
 |r::rows,i+1,cs,hr,hc,hi=>by have hk:r.length=k:=hr r (by simp);have ih:=b42 rows i cs (λr iA=>hr r (by simp[iA])) hc (by simpa using hi);simp only[List.set_cons_succ,f4a,ih];unfold splice;rw[f7i,List.take_append,List.drop_append];have e1:r.take (i*k+k)=r:=f0f (by omega);have e2:r.drop (i*k+k+cs.length)=[]:=f6j (by omega);rw[e1,e2];rw[show i*k+k-r.length=i*k by omega,show i*k+k+cs.length-r.length=i*k+cs.length by omega];simp
theorem b73{k:Nat}(len:Nat):∀{aq:List (Nat×AV)} {rows ie:List (List AV)},b4s k rows aq=some ie→(∀r∈rows,r.length=k)→rows.length=len→
 b19 (λi=>some (i*k,k)) rows.flatten aq=some ie.flatten∧(∀r∈ie,r.length=k)∧ie.length=len
 | [],rows,ie,hf,hr,ai=>by simp only[b4s,Option.some.injEq]at hf;subst hf;exact⟨rfl,hr,ai⟩
 |(i,v)::af,rows,ie,hf,hr,ai=>by
  simp only[b4s]at hf;rw[cond_eq_ite]at hf;split at hf
  case isFalse=>cases hf
  rename_i hc;simp only[e9l,f3z,f6k,f2p]at hc;obtain⟨⟨hj,hk⟩,hi⟩:=hc;have ih:=b73 len hf (by
   intro r iA;rcases f3j iA with h|h
   ·exact hr r h
   ·rw[h,hk]) (by simpa using ai)
  refine⟨?_,ih.2⟩;simp only[b19];have bF:=a0v hr;have bP:Nat.ble (i*k+k) rows.flatten.length=true:=by rw[f4k,bF,←f7i];exact f4m k hi
  simp only[hj,hk,bP,Bool.not_false,beq_self_eq_true,f4t,f2m];rw[←b42 rows i v.cells hr hk hi];exact ih.1
def a3d(E:Env)(n:Nat)(t:TypeId)(len:Nat)(aq:List (Nat×AV)):Option (AV×Eff):=
 match E.und t with
 |some (.slice aa)=>match E.zero aa with
  |some z=>bif Nat.blt 0 z.length&&Nat.ble (len*z.length) 16777216 then
   match b4s z.length (List.replicate len z) aq with
   |some rows=>some (.slice n 0 len (some len),.new (.row z.length rows))
   |none=>none
   else none
  |none=>none
 |_=>none
theorem b5f(ok:EnvOk E)(r:HRel E.G I K ρ h w)(hn:h n=none)(hρ:ρ n=none){t:TypeId}{len:Nat}{aq:List (Nat×AV)}{bQ:List (Nat×Value)}{v:AV}{e:Eff}
 (ha:a3d E n t len aq=some (v,e))(hp:a5f I w ρ aq bQ):Val E I K ρ h n w (Instr.buildSlice t len bQ.toArray) v e:=by
 unfold a3d at ha;split at ha
 ·rename_i aa hu;cases hz:E.zero aa with
  |none=>simp[hz]at ha
  |some z=>
   simp only[hz]at ha;rw[cond_eq_ite]at ha;split at ha
   case isFalse=>cases ha
   rename_i hc;simp only[e9l,f2p,f4k]at hc;split at ha
   case h_2=>cases ha
   rename_i rows az;cases ha;obtain⟨⟨de,bp⟩,_⟩:=ok.zero aa z hz;obtain⟨zv,ew,i8,bA⟩:=a6y ok w hz;have d6:=bA I w;have dJ:=VRels.length d6;simp only[f2t]at dJ;obtain⟨nB,j4,ai⟩:=b73 len az (by intro x hx;rw[f4n hx]) (by simp);have lC:VRels I w ρ (List.replicate len z).flatten ((Array.range (len*E.sz aa)).map (λi=>zv.cells[i%zv.cells.size]!)).toList:=by rw[show((Array.range (len*E.sz aa)).map (λi=>zv.cells[i%zv.cells.size]!)).toList=(List.replicate len zv.cells.toList).flatten by rw[←a3g];simp only[f5r,Array.toList_range,f2t];rw[show E.sz aa=zv.cells.size by rw[←i8,dJ]];apply f3h;intro a _;rw[Array.getElem!_toList]];exact VRels.flatten_replicate (VRels.noRef_any d6) _
   obtain⟨gE,h1,h2⟩:=b2h nB lC hp;refine a9l (el:=aa) (k:=z.length) (cells:=gE) (mk:=λa=>.slice (some a) len len) r hn hρ hc.1 j4 h2 ⟨rfl,rfl,rfl,rfl⟩ ?_ ?_
   ·have bd:¬(len*E.sz aa>2^24):=by rw[←i8];omega
    rw[i8]at h1;simp only[Instr.buildSlice,Sem.run_bind,a0a ok w hu,Result.andThen_ok,a36 ok w bp,bd,f7c];by_cases bY:len*E.sz aa=0
    ·have fL:∀f:Nat→Value,Array.map f (Array.range 0) = #[]:=by intro f;simp
     simp only[bY,f4b,fL]at h1⊢;simp[h1,a43]
    ·simp only[bY,f7c,Sem.run_bind,ew,Result.andThen_ok,Sem.run_pure];simp[h1,a43]
   ·intro w' ρ' h';simp only[VRel];exact⟨_,len,rfl,f1u _,λq hq=>by cases hq;rfl,.inr ⟨_,h',by simp,by
     have h3:len*z.length=gE.size:=by have:=VRels.length h2;rw[a0v j4,ai,f2t]at this;exact this
     show 0+(0+len)*z.length≤gE.size;rw[f3e,f3e,h3];exact f1u _⟩⟩
 ·cases ha
end
end Go.Ax
/- AxBin: arithmetic, comparisons, equality, conversions. -/
namespace Go.Ax
section
variable {E:Env}{I K:Nat→Prop}{ρ:PMap}{h:FHeap}{n:Nat}{w:World}
def c5b(op:BinOp)(k:IntKind)(a b:Int):Option AV:=
 match op with
 |.add=>some (.int k (k.wrap (a+b)))
 |.sub=>some (.int k (k.wrap (a-b)))
 |.mul=>some (.int k (k.wrap (a*b)))
 |.quo=>bif b==0 then none else some (.int k (k.wrap (a.tdiv b)))
 |.rem=>bif b==0 then none else some (.int k (a.tmod b))
 |.and=>some (.int k (k.wrap (BitVec.ofInt k.bits a&&&BitVec.ofInt k.bits b).toNat))
 |.or=>some (.int k (k.wrap (BitVec.ofInt k.bits a|||BitVec.ofInt k.bits b).toNat))
 |.xor=>some (.int k (k.wrap (BitVec.ofInt k.bits a^^^BitVec.ofInt k.bits b).toNat))
 |.andNot=>some (.int k (k.wrap (BitVec.ofInt k.bits a &&& ~~~ BitVec.ofInt k.bits b).toNat))
 |.eql=>some (.bool (a==b))
 |.neq=>some (.bool (a != b))
 |.lss=>some (.bool (decide (a<b)))
 |.leq=>some (.bool (decide (a≤b)))
 |.gtr=>some (.bool (decide (b<a)))
 |.geq=>some (.bool (decide (b≤a)))
 |_=>none
def f0x(op:BinOp)(a b:List UInt8):Option AV:=
 match op with
 |.add=>bif decide (a.length+b.length≤4611686018427387904)then some (.str (a++b))else none
 |.eql=>some (.bool (a==b))
 |.neq=>some (.bool (!(a==b)))
 |.lss=>some (.bool (Op.bytesLess a b))
 |.leq=>some (.bool (Op.bytesLess a b||a==b))
 |.gtr=>some (.bool (!(Op.bytesLess a b||a==b)))
 |.geq=>some (.bool (!(Op.bytesLess a b)))
 |_=>none
def a8a(E:Env)(eq:TypeId→AV→AV→Option Bool):List Field→List AV→List AV→Option Bool
 | [],_,_=>some true
 |f::fs,xs,ys=>
  match a2k E f.type ((xs.drop f.offset).take (E.sz f.type)),a2k E f.type ((ys.drop f.offset).take (E.sz f.type))with
  |some a,some b=>match eq f.type a b,a8a E eq fs xs ys with
   |some p,some q=>some (p&&q)
   |_,_=>none
  |_,_=>none
def b0a(E:Env)(eq:TypeId→AV→AV→Option Bool)(aa:TypeId)(xs ys:List AV):Nat→Nat→Option Bool
 |_,0=>some true
 |i,m+1=>
  match a2k E aa ((xs.drop (i*E.sz aa)).take (E.sz aa)),a2k E aa ((ys.drop (i*E.sz aa)).take (E.sz aa))with
  |some a,some b=>match eq aa a b,b0a E eq aa xs ys (i+1) m with
   |some p,some q=>some (p&&q)
   |_,_=>none
  |_,_=>none
def a6u:TypeDesc→AV→Option Bool
 |.pointer _,.nilptr=>some true
 |.pointer _,.ptr ..=>some false
 |.pointer _,.iptr ..=>some false
 |.slice _,.nilslice=>some true
 |.slice _,.slice ..=>some false
 |.slice _,.islice ..=>some false
 |.map _ _,.nilmap=>some true
 |.map _ _,.map ..=>some false
 |.map _ _,.imap ..=>some false
 |.map _ _,.iset ..=>some false
 |.func _ _ _,.nilfunc=>some true
 |.func _ _ _,.func ..=>some false
 |_,_=>none
def a2l:TypeDesc→AV→Bool
 |.pointer _,.nilptr=>true
 |.slice _,.nilslice=>true
 |.map _ _,.nilmap=>true
 |.func _ _ _,.nilfunc=>true
 |_,_=>false
def b52:TypeDesc→Value
 |.pointer _=>.pointer none
 |.slice _=>.slice none 0 0
 |.map _ _=>.map none
 |_=>.nilFunc
def aeq(E:Env):Nat→TypeId→AV→AV→Option Bool
 |0,_,_,_=>none
 |d+1,t,x,y=>
  match E.und t,x,y with
  |some .bool,.bool a,.bool b=>some (a==b)
  |some (.int _),.int k a,.int k' b=>bif k==k' then some (a==b)else none
  |some .string,.str a,.str b=>some (a==b)
  |some (.struct fs),.agg xs,.agg ys=>bif E.eqok t then a8a E (aeq E d) fs.toList xs ys else none
  |some (.array len aa),.agg xs,.agg ys=>bif (E.und aa).isSome then b0a E (aeq E d) aa xs ys 0 len else none
  |some d,.nilptr,y=>bif a2l d .nilptr then a6u d y else none
  |some d,x,.nilptr=>bif a2l d .nilptr then a6u d x else none
  |some d,.nilslice,y=>bif a2l d .nilslice then a6u d y else none
  |some d,x,.nilslice=>bif a2l d .nilslice then a6u d x else none
  |some d,.nilmap,y=>bif a2l d .nilmap then a6u d y else none
  |some d,x,.nilmap=>bif a2l d .nilmap then a6u d x else none
  |some d,.nilfunc,y=>bif a2l d .nilfunc then a6u d y else none
  |some d,x,.nilfunc=>bif a2l d .nilfunc then a6u d x else none
  |some (.interface _),.nilifc,.iface _ _=>some false
  |some (.interface _),.iface _ _,.nilifc=>some false
  |some (.interface _),.iface t1 a,.iface t2 b=>bif t1==t2 then bif E.eqok t1 then aeq E d t1 a b else none else some false
  |_,_,_=>none
theorem b5o(ok:EnvOk E){eq:TypeId→Value→Value→Sem Bool}{gq:TypeId→AV→AV→Option Bool}
 (cQ:∀t a b ca cb p,gq t a b=some p→VRel I w ρ a ca→VRel I w ρ b cb→(eq t ca cb).run E.P w = .ok p w)
 {xs ys:List AV}{cx cy:Array Value}(hx:VRels I w ρ xs cx.toList)(hy:VRels I w ρ ys cy.toList) :
 ∀(fs:List Field) (q:Bool),a8a E gq fs xs ys=some q→(∀f∈fs,f.name≠ "_")→
  (forIn fs ((none,()):Option Bool×Unit) (λf _=>
   if f.name≠ "_" then do
    let a←part f.type cx f.offset
    let b←part f.type cy f.offset
    let c←eq f.type a b
    if(!c)=true then pure (ForInStep.done (some false,()))else pure (ForInStep.yield (none,()))
   else pure (ForInStep.yield (none,())):Field→Option Bool×Unit→Sem (ForInStep (Option Bool×Unit)))).run E.P w
  = .ok (if q then(none,())else(some false,())) w
 | [],q,hq,_=>by simp only[a8a,Option.some.injEq]at hq;subst hq;simp
 |f::fs,q,hq,hn=>by
  simp only[a8a]at hq;split at hq
  case h_2=>cases hq
  rename_i a b ha hb;split at hq
  case h_2=>cases hq
  rename_i p q' hp fk;cases hq;obtain⟨ca,h1,h2⟩:=a8i ok ha hx;obtain⟨cb,h3,h4⟩:=a8i ok hb hy;have h5:=cQ f.type a b ca cb p hp h2 h4;have ih:=b5o ok cQ hx hy fs q' fk (λf hf=>hn f (by simp[hf]))
  have iD:f.name≠ "_" := hn f (by simp)
  rw[List.forIn_cons];simp only[ne_eq,iD,not_false_eq_true,f4b,Sem.run_bind,h1,h3,h5,Result.andThen_ok];cases p
  ·simp
  ·simp only[f6m,f3l,f7c,Sem.run_pure,Result.andThen_ok,f5n];exact ih
theorem b9n(ok:EnvOk E){eq:TypeId→Value→Value→Sem Bool}{gq:TypeId→AV→AV→Option Bool}{aa:TypeId}
 (cQ:∀t a b ca cb p,gq t a b=some p→VRel I w ρ a ca→VRel I w ρ b cb→(eq t ca cb).run E.P w = .ok p w)
 {xs ys:List AV}{cx cy:Array Value}(hx:VRels I w ρ xs cx.toList)(hy:VRels I w ρ ys cy.toList) :
 ∀(m i:Nat) (q:Bool),b0a E gq aa xs ys i m=some q→
  (forIn (List.range' i m) ((none,()):Option Bool×Unit) (λi _=>do
   let a←part aa cx (i*E.sz aa)
   let b←part aa cy (i*E.sz aa)
   let c←eq aa a b
   if(!c)=true then pure (ForInStep.done (some false,()))else pure (ForInStep.yield (none,())):Nat→Option Bool×Unit→Sem (ForInStep (Option Bool×Unit)))).run E.P w
  = .ok (if q then(none,())else(some false,())) w
 |0,i,q,hq=>by simp only[b0a,Option.some.injEq]at hq;subst hq;simp
 |m+1,i,q,hq=>by
  simp only[b0a]at hq;split at hq
  case h_2=>cases hq
  rename_i a b ha hb;split at hq
  case h_2=>cases hq
  rename_i p q' hp fk;cases hq;obtain⟨ca,h1,h2⟩:=a8i ok ha hx;obtain⟨cb,h3,h4⟩:=a8i ok hb hy;have h5:=cQ aa a b ca cb p hp h2 h4;have ih:=b9n ok cQ hx hy m (i+1) q' fk;rw[List.range'_succ,List.forIn_cons];simp only[Sem.run_bind,h1,h3,h5,Result.andThen_ok];cases p
  ·simp
  ·simp only[f6m,f3l,f7c,Sem.run_pure,Result.andThen_ok,f5n];exact ih
section
variable {t:TypeId}{d:Nat}
theorem b8i{e:TypeId}(ht:(underlying t).run E.P w = .ok (.pointer e) w)(b:Option Addr):(Op.equalIn (d+1) t (.pointer none) (.pointer b)).run E.P w = .ok b.isNone w:=by unfold Op.equalIn;simp only[Sem.run_bind,ht,Result.andThen_ok];rfl
theorem b8h{e:TypeId}(ht:(underlying t).run E.P w = .ok (.pointer e) w)(b:Option Addr):(Op.equalIn (d+1) t (.pointer b) (.pointer none)).run E.P w = .ok b.isNone w:=by unfold Op.equalIn;simp only[Sem.run_bind,ht,Result.andThen_ok];cases b<;>rfl
theorem b15{e:TypeId}(ht:(underlying t).run E.P w = .ok (.slice e) w)(b:Option Addr)(l c:Nat):(Op.equalIn (d+1) t (.slice none 0 0) (.slice b l c)).run E.P w = .ok b.isNone w:=by unfold Op.equalIn;simp only[Sem.run_bind,ht,Result.andThen_ok];rfl
theorem b14{e:TypeId}(ht:(underlying t).run E.P w = .ok (.slice e) w)(b:Option Addr)(l c:Nat):(Op.equalIn (d+1) t (.slice b l c) (.slice none 0 0)).run E.P w = .ok b.isNone w:=by unfold Op.equalIn;simp only[Sem.run_bind,ht,Result.andThen_ok];cases b<;>rfl
theorem b2d{k e:TypeId}(ht:(underlying t).run E.P w = .ok (.map k e) w)(b:Option Nat):(Op.equalIn (d+1) t (.map none) (.map b)).run E.P w = .ok b.isNone w:=by unfold Op.equalIn;simp only[Sem.run_bind,ht,Result.andThen_ok];rfl
theorem b2c{k e:TypeId}(ht:(underlying t).run E.P w = .ok (.map k e) w)(b:Option Nat):(Op.equalIn (d+1) t (.map b) (.map none)).run E.P w = .ok b.isNone w:=by unfold Op.equalIn;simp only[Sem.run_bind,ht,Result.andThen_ok];cases b<;>rfl
theorem c0v{ps rs:Array TypeId}{v:Bool}(ht:(underlying t).run E.P w = .ok (.func ps rs v) w):(Op.equalIn (d+1) t .nilFunc .nilFunc).run E.P w = .ok true w:=by unfold Op.equalIn;simp only[Sem.run_bind,ht,Result.andThen_ok];rfl
theorem d1f{ps rs:Array TypeId}{v:Bool}(ht:(underlying t).run E.P w = .ok (.func ps rs v) w)(f:Fn)(a b:Array Value):(Op.equalIn (d+1) t .nilFunc (.func f a b)).run E.P w = .ok false w:=by unfold Op.equalIn;simp only[Sem.run_bind,ht,Result.andThen_ok];rfl
theorem d1e{ps rs:Array TypeId}{v:Bool}(ht:(underlying t).run E.P w = .ok (.func ps rs v) w)(f:Fn)(a b:Array Value):(Op.equalIn (d+1) t (.func f a b) .nilFunc).run E.P w = .ok false w:=by unfold Op.equalIn;simp only[Sem.run_bind,ht,Result.andThen_ok];rfl
theorem d2q{dd:TypeDesc}{y:AV}{q:Bool}{c:Value}(ht:(underlying t).run E.P w = .ok dd w)(hq:a6u dd y=some q)(hy:VRel I w ρ y c) :
 (Op.equalIn (d+1) t (b52 dd) c).run E.P w = .ok q w∧(Op.equalIn (d+1) t c (b52 dd)).run E.P w = .ok q w:=by
 unfold a6u at hq;split at hq<;>cases hq<;>simp only[VRel]at hy<;>simp only[b52]
 ·subst hy;exact⟨b8i ht _,b8h ht _⟩
 ·obtain⟨_,_,rfl⟩:=hy;exact⟨b8i ht _,b8h ht _⟩
 ·obtain⟨_,_,rfl,_⟩:=hy;exact⟨b8i ht _,b8h ht _⟩
 ·subst hy;exact⟨b15 ht _ _ _,b14 ht _ _ _⟩
 ·obtain⟨_,_,rfl,_⟩:=hy;exact⟨b15 ht _ _ _,b14 ht _ _ _⟩
 ·obtain⟨_,_,_,rfl,_⟩:=hy;exact⟨b15 ht _ _ _,b14 ht _ _ _⟩
 ·subst hy;exact⟨b2d ht _,b2c ht _⟩
 ·obtain⟨_,_,rfl⟩:=hy;exact⟨b2d ht _,b2c ht _⟩
 ·obtain⟨_,_,rfl,_⟩:=hy;exact⟨b2d ht _,b2c ht _⟩
 ·obtain⟨_,_,_,rfl,_⟩:=hy;exact⟨b2d ht _,b2c ht _⟩
 ·subst hy;exact⟨c0v ht,c0v ht⟩
 ·obtain⟨_,_,rfl,_⟩:=hy;exact⟨d1f ht _ _ _,d1e ht _ _ _⟩
theorem d5n(ht:(underlying t).run E.P w = .ok .bool w)(a b:Bool):(Op.equalIn (d+1) t (.bool a) (.bool b)).run E.P w = .ok (a==b) w:=by unfold Op.equalIn;simp only[Sem.run_bind,ht,Result.andThen_ok];rfl
theorem e13{k0:IntKind}(ht:(underlying t).run E.P w = .ok (.int k0) w)(k:IntKind)(a b:Int):(Op.equalIn (d+1) t (.int k a) (.int k b)).run E.P w = .ok (a==b) w:=by unfold Op.equalIn;simp only[Sem.run_bind,ht,Result.andThen_ok,f4b];rfl
theorem e11(ht:(underlying t).run E.P w = .ok .string w)(a b:ByteArray):(Op.equalIn (d+1) t (.string a) (.string b)).run E.P w = .ok (a==b) w:=by unfold Op.equalIn;simp only[Sem.run_bind,ht,Result.andThen_ok];rfl
theorem b6u{ms:Array (String×TypeId)}(ht:(underlying t).run E.P w = .ok (.interface ms) w)(u:TypeId)(x:Value) :
 (Op.equalIn (d+1) t .nilIface (.iface u x)).run E.P w = .ok false w∧(Op.equalIn (d+1) t (.iface u x) .nilIface).run E.P w = .ok false w:=by
 unfold Op.equalIn;simp only[Sem.run_bind,ht,Result.andThen_ok];exact⟨rfl,rfl⟩
theorem c6s{ms:Array (String×TypeId)}(ht:(underlying t).run E.P w = .ok (.interface ms) w)(u u':TypeId)(x x':Value)(au:u≠u') :
 (Op.equalIn (d+1) t (.iface u x) (.iface u' x')).run E.P w = .ok false w:=by
 unfold Op.equalIn;simp only[Sem.run_bind,ht,Result.andThen_ok,ne_eq,au,not_false_eq_true,f4b];rfl
theorem e14{ms:Array (String×TypeId)}{i:TypeInfo}(ht:(underlying t).run E.P w = .ok (.interface ms) w)(u:TypeId)(x x':Value)(hi:(typeInfo u).run E.P w = .ok i w)(hc:i.comparable=true) :
 (Op.equalIn (d+1) t (.iface u x) (.iface u x')).run E.P w=(Op.equalIn d u x x').run E.P w:=by
 conv=>lhs;unfold Op.equalIn
 simp only[Sem.run_bind,ht,Result.andThen_ok,ne_eq,not_true_eq_false,f7c,hi,hc,f6m,f3l]
end
theorem b4n(a b:ByteArray):(a==b)=(a.data.toList==b.data.toList):=by have e:(a==b)=(a.data==b.data):=rfl;rw[e,f6l];simp only[f6k,Array.toList_inj]
theorem c5c(ok:EnvOk E):∀(d:Nat) {t:TypeId} {x y:AV} {q:Bool} {cx cy:Value},aeq E d t x y=some q→VRel I w ρ x cx→VRel I w ρ y cy→
 ∀D,d≤D→(Op.equalIn D t cx cy).run E.P w = .ok q w
 |0,t,x,y,q,cx,cy,hq,hx,hy,D,hD=>by simp[aeq]at hq
 |d+1,t,x,y,q,cx,cy,hq,hx,hy,D,hD=>by
  obtain⟨D,rfl⟩:∃D',D=D'+1:=⟨D-1,by omega⟩
  unfold aeq at hq;have bN:∀{dd:TypeDesc} {z nz:AV} {c:Value},E.und t=some dd→(bif a2l dd nz then a6u dd z else none)=some q→VRel I w ρ z c→
   a2l dd nz=true∧(Op.equalIn (D+1) t (b52 dd) c).run E.P w = .ok q w∧(Op.equalIn (D+1) t c (b52 dd)).run E.P w = .ok q w:=by
   intro dd z nz c hu hb hz;cases hk:a2l dd nz with
   |false=>rw[hk]at hb;cases hb
   |true=>rw[hk,f2m]at hb;exact⟨rfl,d2q (a0a ok w hu) hb hz⟩
  have fc:∀{dd:TypeDesc},(a2l dd .nilptr=true→b52 dd = .pointer none)∧(a2l dd .nilslice=true→b52 dd = .slice none 0 0)∧
   (a2l dd .nilmap=true→b52 dd = .map none)∧(a2l dd .nilfunc=true→b52 dd = .nilFunc):=by
   intro dd;cases dd<;>simp[a2l,b52]
  split at hq
  ·rename_i hu;simp only[VRel]at hx hy;subst hx hy;cases hq;exact d5n (a0a ok w hu) _ _
  ·rename_i hu;simp only[VRel]at hx hy;subst hx hy;rw[cond_eq_ite]at hq;split at hq
   ·rename_i hk;cases hq;have hk:=eq_of_beq hk;subst hk;exact e13 (a0a ok w hu) _ _ _
   ·cases hq
  ·rename_i hu;simp only[VRel]at hx hy;obtain⟨a,rfl,ha⟩:=hx;obtain⟨b,rfl,hb⟩:=hy;cases hq;rw[e11 (a0a ok w hu),b4n,ha,hb]
  ·rename_i fs xs ys hu;simp only[VRel]at hx hy;obtain⟨ax,rfl,hx⟩:=hx;obtain⟨ay,rfl,hy⟩:=hy;rw[cond_eq_ite]at hq;split at hq
   case isFalse=>cases hq
   rename_i he;obtain⟨_,aw,_,gd⟩:=ok.eqok t he;have hf:=b5o (I:=I) (w:=w) (ρ:=ρ) ok (eq:=Op.equalIn D) (gq:=aeq E d) (λt a b ca cb p hp h1 h2=>c5c ok d hp h1 h2 D (by omega)) hx hy fs.toList q hq (λf hf=>gd fs hu f hf);unfold Op.equalIn;simp only[Sem.run_bind,a0a ok w hu,Result.andThen_ok,run_program,aw,f3l,f7c];rw[←Array.forIn_toList];rw[hf];cases q<;>rfl
  ·rename_i len aa xs ys hu;simp only[VRel]at hx hy;obtain⟨ax,rfl,hx⟩:=hx;obtain⟨ay,rfl,hy⟩:=hy;rw[cond_eq_ite]at hq;split at hq
   case isFalse=>cases hq
   rename_i he;obtain⟨de,bp⟩:=f0c.1 he;have hf:=b9n (I:=I) (w:=w) (ρ:=ρ) ok (eq:=Op.equalIn D) (gq:=aeq E d) (aa:=aa) (λt a b ca cb p hp h1 h2=>c5c ok d hp h1 h2 D (by omega)) hx hy len 0 q hq;unfold Op.equalIn;simp only[Sem.run_bind,a0a ok w hu,Result.andThen_ok,a36 ok w bp];rw[Std.Legacy.Range.forIn_eq_forIn_range'];have bJ:(Std.Legacy.Range.size [:len])=len:=by simp[Std.Legacy.Range.size]
   simp only[bJ];rw[hf];cases q<;>rfl
  ·simp only[VRel]at hx;subst hx;obtain⟨h1,h2,_⟩:=bN (by assumption) hq hy;rw[fc.1 h1]at h2;exact h2
  ·simp only[VRel]at hy;subst hy;obtain⟨h1,_,h2⟩:=bN (by assumption) hq hx;rw[fc.1 h1]at h2;exact h2
  ·simp only[VRel]at hx;subst hx;obtain⟨h1,h2,_⟩:=bN (by assumption) hq hy;rw[fc.2.1 h1]at h2;exact h2
  ·simp only[VRel]at hy;subst hy;obtain⟨h1,_,h2⟩:=bN (by assumption) hq hx;rw[fc.2.1 h1]at h2;exact h2
  ·simp only[VRel]at hx;subst hx;obtain⟨h1,h2,_⟩:=bN (by assumption) hq hy;rw[fc.2.2.1 h1]at h2;exact h2
  ·simp only[VRel]at hy;subst hy;obtain⟨h1,_,h2⟩:=bN (by assumption) hq hx;rw[fc.2.2.1 h1]at h2;exact h2
  ·simp only[VRel]at hx;subst hx;obtain⟨h1,h2,_⟩:=bN (by assumption) hq hy;rw[fc.2.2.2 h1]at h2;exact h2
  ·simp only[VRel]at hy;subst hy;obtain⟨h1,_,h2⟩:=bN (by assumption) hq hx;rw[fc.2.2.2 h1]at h2;exact h2
  ·rename_i hu;simp only[VRel]at hx hy;subst hx;obtain⟨x',rfl,_⟩:=hy;cases hq;exact(b6u (a0a ok w hu) _ _).1
  ·rename_i hu;simp only[VRel]at hx hy;subst hy;obtain⟨x',rfl,_⟩:=hx;cases hq;exact(b6u (a0a ok w hu) _ _).2
  ·rename_i hu;simp only[VRel]at hx hy;obtain⟨x',rfl,hx⟩:=hx;obtain⟨y',rfl,hy⟩:=hy;rw[cond_eq_ite]at hq;split at hq
   ·rename_i he;have he:=eq_of_beq he;subst he;rw[cond_eq_ite]at hq;split at hq
    case isFalse=>cases hq
    rename_i hk;obtain⟨_,_,⟨i,hi,hc⟩,_⟩:=ok.eqok _ hk;rw[e14 (i:=i) (a0a ok w hu) _ _ _ (by simp[typeInfo,hi]) hc];exact c5c ok d hq hx hy D (by omega)
   ·rename_i au;cases hq;exact c6s (a0a ok w hu) _ _ _ _ (by simpa using au)
  ·cases hq
end
end Go.Ax
/- AxOp1: the model's binary and unary operations and conversions, against the abstract ones. -/
namespace Go.Ax
section
variable {E:Env}{I K:Nat→Prop}{ρ:PMap}{h:FHeap}{n:Nat}{w:World}
theorem e1z{op:BinOp}{k:IntKind}{a b:Int}{v:AV}(hv:c5b op k a b=some v)(t:TypeId)(hs:op≠ .shl∧op≠ .shr) :
 ∃c,(binOp op t (.int k a) (.int k b)).run E.P w = .ok c w∧VRel I w ρ v c:=by
 cases op<;>simp only[c5b]at hv
 case shl=>cases hv
 case shr=>cases hv
 case quo=>
  rw[cond_eq_ite]at hv;split at hv
  ·cases hv
  ·rename_i hb;cases hv;have hb:b≠0:=by simpa using hb
   exact⟨_,by simp[binOp,Op.intDiv,hb];rfl,by simp[VRel]⟩
 case rem=>
  rw[cond_eq_ite]at hv;split at hv
  ·cases hv
  ·rename_i hb;cases hv;have hb:b≠0:=by simpa using hb
   exact⟨_,by simp[binOp,Op.intDiv,hb];rfl,by simp[VRel]⟩
 all_goals cases hv
 all_goals exact⟨_,by simp[binOp,Op.intArith,Op.intBits,Op.intCmp];rfl,by simp[VRel]⟩
theorem e1n{op:BinOp}{a b:ByteArray}{v:AV}(hv:f0x op a.data.toList b.data.toList=some v)(t:TypeId) :
 ∃c,(binOp op t (.string a) (.string b)).run E.P w = .ok c w∧VRel I w ρ v c:=by
 have ta:=ByteArray.toList_eq a;have tb:=ByteArray.toList_eq b;cases op<;>simp only[f0x]at hv
 case add=>
  rw[cond_eq_ite]at hv;split at hv
  case isFalse=>cases hv
  rename_i hl;cases hv;have hl:a.data.toList.length+b.data.toList.length≤4611686018427387904:=by simpa using hl
  have h1:¬(((a.size+b.size:Nat):Int)>IntKind.i64.max):=by simp only[f2t]at hl;have:a.size=a.data.size:=rfl;have:b.size=b.data.size:=rfl;simp only[IntKind.max,IntKind.signed,IntKind.bits];simp;omega
  refine⟨.string (a++b),?_,by simp only[VRel];exact⟨_,rfl,by simp[ByteArray.data_append]⟩⟩;simp only[binOp,Op.stringOp,h1,f7c,Sem.run_pure]
 all_goals cases hv
 all_goals
  refine⟨_,by simp only[binOp,Op.stringOp,ta,tb,Sem.run_pure];rfl,by simp[VRel]⟩
def AV.eqShape:AV→Bool
 |.bool _|.nilptr|.nilslice|.nilmap|.nilfunc|.nilifc|.ptr ..|.iptr ..|.slice ..|.islice ..|.map ..|.imap ..|.iset _|.yfn _|.func ..|.iface ..|.agg ..=>true
 |_=>false
def b1u(E:Env)(op:BinOp)(t:TypeId)(x y:AV)(pb:Bool):Option AV:=
 match op,x,y with
 |.shl,.int k a,.int _ b=>bif decide (b<0)then none else some (.int k (k.wrap (a*2^(min b.toNat k.bits))))
 |.shr,.int k a,.int _ b=>bif decide (b<0)then none else some (.int k (a.fdiv (2^(min b.toNat k.bits))))
 |op,.int k a,.int k' b=>bif k==k' then c5b op k a b else none
 |op,.str a,.str b=>f0x op a b
 |.eql,.nilifc,.nilifc=>match E.und t with|some (.interface _)=>bif pb then some (.bool true)else none|_=>none
 |.neq,.nilifc,.nilifc=>match E.und t with|some (.interface _)=>bif pb then some (.bool false)else none|_=>none
 |.eql,.agg a,.agg b=>bif E.eqok t then(aeq E 6 t (.agg a) (.agg b)).map .bool else none
 |.neq,.agg a,.agg b=>bif E.eqok t then(aeq E 6 t (.agg a) (.agg b)).map (λq=>.bool (!q))else none
 |.eql,x,y=>bif x.eqShape then(aeq E 6 t x y).map .bool else none
 |.neq,x,y=>bif x.eqShape then(aeq E 6 t x y).map (λq=>.bool (!q))else none
 |_,_,_=>none
def Value.eqShape:Value→Bool
 |.bool _|.pointer _|.slice ..|.map _|.func ..|.nilFunc|.iface ..|.nilIface|.agg _=>true
 |_=>false
theorem VRel.eqShape{x:AV}{c:Value}(hx:VRel I w ρ x c)(hs:x.eqShape=true):Value.eqShape c=true:=by
 cases x<;>simp[AV.eqShape]at hs<;>simp only[VRel]at hx
 all_goals first
  |(subst hx;rfl)
  |(obtain⟨_,rfl,_⟩:=hx;rfl)
  |(obtain⟨_,_,rfl⟩:=hx;rfl)
  |(obtain⟨_,_,rfl,_⟩:=hx;rfl)
  |(obtain⟨_,_,_,rfl,_⟩:=hx;rfl)
theorem b4p(t:TypeId)(cx cy:Value)(hs:Value.eqShape cx=true):binOp .eql t cx cy=(do pure (.bool (←Op.equal t cx cy))):=by cases cx<;>simp[Value.eqShape]at hs<;>first|rfl|(cases cy<;>rfl)
theorem b4o(t:TypeId)(cx cy:Value)(hs:Value.eqShape cx=true):binOp .neq t cx cy=(do pure (.bool (!(←Op.equal t cx cy)))):=by cases cx<;>simp[Value.eqShape]at hs<;>first|rfl|(cases cy<;>rfl)
def a81:Value→Value→Bool
 |.nilIface,.nilIface=>false
 |.agg _,.agg _=>false
 |_,_=>true
theorem a7c(op:BinOp)(t:TypeId)(x y:Operand)(a b:Value)(hf:op≠ .eql∧op≠ .neq):(eqGuard op t x y a b).run E.P w = .ok () w:=by unfold eqGuard;cases op<;>first|rfl|(exact absurd rfl hf.1)|(exact absurd rfl hf.2)
theorem a45(op:BinOp)(t:TypeId)(x y:Operand)(a b:Value)(hf:a81 a b=true):(eqGuard op t x y a b).run E.P w = .ok () w:=by
 by_cases dA:op≠ .eql∧op≠ .neq
 ·exact a7c op t x y a b dA
 ·have:op = .eql∨op = .neq:=by cases op<;>simp at dA⊢
  unfold a81 at hf;rcases this with rfl|rfl
  all_goals
   unfold eqGuard;simp only[f6m,f3l,f7c];split
   ·simp at hf
   ·simp at hf
   ·rfl
theorem b4a(ok:EnvOk E)(op:BinOp)(t:TypeId)(x y:Operand)(a b:Array Value)(hf:E.eqok t=true):(eqGuard op t x y (.agg a) (.agg b)).run E.P w = .ok () w:=by
 by_cases dA:op≠ .eql∧op≠ .neq
 ·exact a7c op t x y _ _ dA
 ·have:op = .eql∨op = .neq:=by cases op<;>simp at dA⊢
  rcases this with rfl|rfl
  all_goals
   unfold eqGuard;simp only[f6m,f3l,f7c,Sem.run_bind,run_program,Result.andThen_ok,(ok.eqok t hf).1,Bool.not_false,f4b];rfl
def a4h:Operand→Bool
 |.const _=>true
 |_=>false
theorem b49(op:BinOp)(t:TypeId)(x y:Operand)(hc:(a4h x||a4h y)=true):(eqGuard op t x y .nilIface .nilIface).run E.P w = .ok () w:=by
 by_cases dA:op≠ .eql∧op≠ .neq
 ·exact a7c op t x y _ _ dA
 ·have:op = .eql∨op = .neq:=by cases op<;>simp at dA⊢
  rcases this with rfl|rfl
  all_goals
   unfold eqGuard;cases x<;>cases y<;>simp[a4h]at hc<;>rfl
theorem b1l(ok:EnvOk E){t:TypeId}{ms:Array (String×TypeId)}(hu:E.und t=some (.interface ms)):(Op.equal t .nilIface .nilIface).run E.P w = .ok true w:=by unfold Op.equal Op.maxDepth Op.equalIn;simp only[Sem.run_bind,a0a ok w hu,Result.andThen_ok];rfl
theorem b1k{x y:AV}{cx cy:Value}(hx:VRel I w ρ x cx)(hy:VRel I w ρ y cy)(hs:x.eqShape=true)(h1:¬(x = .nilifc∧(y = .nilifc∨y = .junk)))
 (h2:∀a,x = .agg a→(∀b,y≠ .agg b)∧y≠ .junk):a81 cx cy=true:=by
 have gi:=VRel.eqShape hx hs;cases x<;>simp[AV.eqShape]at hs<;>simp only[VRel]at hx
 case nilifc=>subst hx;cases cy<;>simp[a81];cases y<;>simp only[VRel]at hy<;>first|(simp at hy;done)|(exact h1 ⟨rfl,by simp⟩)|(obtain⟨_,h,_⟩:=hy;simp at h;done)|(obtain⟨_,_,h⟩:=hy;simp at h;done)|(obtain⟨_,_,h,_⟩:=hy;simp at h;done)|(obtain⟨_,_,_,h,_⟩:=hy;simp at h;done)
 case agg a=>obtain⟨ca,rfl,_⟩:=hx;obtain⟨h3,h4⟩:=h2 a rfl;cases cy<;>simp[a81];cases y<;>simp only[VRel]at hy<;>first|(simp at hy;done)|(exact h4 rfl)|(exact h3 _ rfl)|(obtain⟨_,h,_⟩:=hy;simp at h;done)|(obtain⟨_,_,h⟩:=hy;simp at h;done)|(obtain⟨_,_,h,_⟩:=hy;simp at h;done)|(obtain⟨_,_,_,h,_⟩:=hy;simp at h;done)
 all_goals first
  |(subst hx;rfl)
  |(obtain⟨_,rfl,_⟩:=hx;rfl)
  |(obtain⟨_,_,rfl⟩:=hx;rfl)
  |(obtain⟨_,_,rfl,_⟩:=hx;rfl)
  |(obtain⟨_,_,_,rfl,_⟩:=hx;rfl)
theorem a4z{α β:Type}{x:Sem α}{y:Sem β}{a:α}{P:Program}{w w':World}(hx:x.run P w = .ok a w'):(do let _←x;y).run P w=y.run P w':=by simp[hx]
theorem a56(ok:EnvOk E){t:TypeId}{x y:AV}{q:Bool}{cx cy:Value}(hq:aeq E 6 t x y=some q)(hx:VRel I w ρ x cx)(hy:VRel I w ρ y cy) :
 (Op.equal t cx cy).run E.P w = .ok q w:=c5c ok 6 hq hx hy 10000 (by omega)
theorem c5d{d:Nat}{t:TypeId}{x:AV}:aeq E d t x .junk=none:=by
 cases d with
 |zero=>rfl
 |succ d=>
  unfold aeq;split<;>first|rfl|skip
  all_goals simp_all[a6u]
  all_goals (cases h:a2l _ _<;>simp[a6u])
theorem e29(ok:EnvOk E){op:BinOp}{t:TypeId}{x y v:AV}{xo yo:Operand}{cx cy:Value}(hv:b1u E op t x y (a4h xo||a4h yo)=some v)
 (hx:VRel I w ρ x cx)(hy:VRel I w ρ y cy):∃c,(do eqGuard op t xo yo cx cy;binOp op t cx cy).run E.P w = .ok c w∧VRel I w ρ v c:=by
 unfold b1u at hv;split at hv
 ·simp only[VRel]at hx hy;subst hx hy;rw[cond_eq_ite]at hv;split at hv
  ·cases hv
  ·rename_i hb;cases hv;rw[a4z (a45 _ _ _ _ _ _ rfl)];simp only[f0l]at hb;exact⟨_,by simp[binOp,Op.shift,hb];rfl,by simp[VRel]⟩
 ·simp only[VRel]at hx hy;subst hx hy;rw[cond_eq_ite]at hv;split at hv
  ·cases hv
  ·rename_i hb;cases hv;rw[a4z (a45 _ _ _ _ _ _ rfl)];simp only[f0l]at hb;exact⟨_,by simp[binOp,Op.shift,hb];rfl,by simp[VRel]⟩
 ·rename_i h1 h2;simp only[VRel]at hx hy;subst hx hy;rw[cond_eq_ite]at hv;split at hv
  case isFalse=>cases hv
  rename_i hk;have hk:=eq_of_beq hk;subst hk;rw[a4z (a45 _ _ _ _ _ _ rfl)];exact e1z hv t ⟨by rintro rfl;simp_all,by rintro rfl;simp_all⟩
 ·simp only[VRel]at hx hy;obtain⟨a,rfl,ha⟩:=hx;obtain⟨b,rfl,hb⟩:=hy;rw[a4z (a45 _ _ _ _ _ _ rfl)];subst ha hb;exact e1n hv t
 ·simp only[VRel]at hx hy;subst hx hy;split at hv
  case h_2=>cases hv
  rename_i ms hu;rw[cond_eq_ite]at hv;split at hv
  case isFalse=>cases hv
  rename_i hc;cases hv;rw[a4z (b49 _ _ _ _ hc),b4p _ _ _ rfl];exact⟨.bool true,by simp[b1l ok hu],by simp[VRel]⟩
 ·simp only[VRel]at hx hy;subst hx hy;split at hv
  case h_2=>cases hv
  rename_i ms hu;rw[cond_eq_ite]at hv;split at hv
  case isFalse=>cases hv
  rename_i hc;cases hv;rw[a4z (b49 _ _ _ _ hc),b4o _ _ _ rfl];exact⟨.bool false,by simp[b1l ok hu],by simp[VRel]⟩
 ·rename_i a b;rw[cond_eq_ite]at hv;split at hv
  case isFalse=>cases hv
  rename_i he;cases hq:aeq E 6 t (.agg a) (.agg b)with
  |none=>simp[hq]at hv
  |some q=>simp only[hq,f0e,Option.some.injEq]at hv;subst hv;have cQ:=a56 ok hq hx hy;simp only[VRel]at hx hy;obtain⟨ca,rfl,_⟩:=hx;obtain⟨cb,rfl,_⟩:=hy;rw[a4z (b4a ok _ _ _ _ _ _ he),b4p _ _ _ rfl];exact⟨.bool q,by simp[cQ],by simp[VRel]⟩
 ·rename_i a b;rw[cond_eq_ite]at hv;split at hv
  case isFalse=>cases hv
  rename_i he;cases hq:aeq E 6 t (.agg a) (.agg b)with
  |none=>simp[hq]at hv
  |some q=>simp only[hq,f0e,Option.some.injEq]at hv;subst hv;have cQ:=a56 ok hq hx hy;simp only[VRel]at hx hy;obtain⟨ca,rfl,_⟩:=hx;obtain⟨cb,rfl,_⟩:=hy;rw[a4z (b4a ok _ _ _ _ _ _ he),b4o _ _ _ rfl];exact⟨.bool (!q),by simp[cQ],by simp[VRel]⟩
 ·rename_i a9 dV l7 j2;rw[cond_eq_ite]at hv;split at hv
  case isFalse=>cases hv
  rename_i he;cases hq:aeq E 6 t x y with
  |none=>simp[hq]at hv
  |some q=>
   simp only[hq,f0e,Option.some.injEq]at hv;subst hv;have cQ:=a56 ok hq hx hy;have fy:y≠ .junk:=by rintro rfl;rw[c5d]at hq;cases hq
   have hg:=b1k hx hy he (by
    rintro⟨rfl,h|h⟩
    ·subst h;simp_all
    ·exact fy h) (by
    rintro a rfl
    exact⟨λb hb=>by subst hb;simp_all,fy⟩)
   rw[a4z (a45 _ _ _ _ _ _ hg),b4p _ _ _ (VRel.eqShape hx he)];exact⟨.bool q,by simp[cQ],by simp[VRel]⟩
 ·rename_i a9 dV l7 j2;rw[cond_eq_ite]at hv;split at hv
  case isFalse=>cases hv
  rename_i he;cases hq:aeq E 6 t x y with
  |none=>simp[hq]at hv
  |some q=>
   simp only[hq,f0e,Option.some.injEq]at hv;subst hv;have cQ:=a56 ok hq hx hy;have fy:y≠ .junk:=by rintro rfl;rw[c5d]at hq;cases hq
   have hg:=b1k hx hy he (by
    rintro⟨rfl,h|h⟩
    ·subst h;simp_all
    ·exact fy h) (by
    rintro a rfl
    exact⟨λb hb=>by subst hb;simp_all,fy⟩)
   rw[a4z (a45 _ _ _ _ _ _ hg),b4o _ _ _ (VRel.eqShape hx he)];exact⟨.bool (!q),by simp[cQ],by simp[VRel]⟩
 ·cases hv
def aun(op:UnOp)(x:AV):Option AV:=
 match op,x with
 |.neg,.int k a=>some (.int k (k.wrap (0-a)))
 |.not,.bool b=>some (.bool (!b))
 |.xor,.int k a=>some (.int k (k.wrap (BitVec.ofInt k.bits (if k.signed then -1 else k.max)^^^BitVec.ofInt k.bits a).toNat))
 |_,_=>none
theorem e66{op:UnOp}{x v:AV}{c:Value}(hv:aun op x=some v)(hx:VRel I w ρ x c):∃d,(Op.unary op c).run E.P w = .ok d w∧VRel I w ρ v d:=by
 unfold aun at hv;split at hv
 all_goals first|(cases hv;done)|skip
 all_goals simp only[VRel]at hx;subst hx;cases hv
 ·exact⟨_,by simp[Op.unary,Op.intArith];rfl,by simp[VRel]⟩
 ·exact⟨_,by simp[Op.unary];rfl,by simp[VRel]⟩
 ·exact⟨_,by simp[Op.unary,Op.intBits];rfl,by simp[VRel]⟩
def d70(E:Env)(i7 dst:TypeId)(x:AV):Option AV:=
 match E.und i7,E.und dst,x with
 |some _,some (.int k),.int _ n=>some (.int k (k.wrap n))
 |some .string,some .string,.str s=>some (.str s)
 |_,_,_=>none
theorem d6z(ok:EnvOk E){i7 dst:TypeId}{x v:AV}{c:Value}(hv:d70 E i7 dst x=some v)(hx:VRel I w ρ x c):∃d,(convert i7 dst c).run E.P w = .ok d w∧VRel I w ρ v d:=by
 unfold d70 at hv;split at hv
 ·rename_i hs hd;simp only[VRel]at hx;subst hx;cases hv;exact⟨_,by simp[convert,a0a ok w hs,a0a ok w hd,Conv.intToInt];rfl,by simp[VRel]⟩
 ·rename_i hs hd;simp only[VRel]at hx;obtain⟨t,rfl,ht⟩:=hx;cases hv;exact⟨.string t,by simp[convert,a0a ok w hs,a0a ok w hd],by simp only[VRel];exact⟨t,rfl,ht⟩⟩
 ·cases hv
end
end Go.Ax
/- AxApp: append. -/
namespace Go.Ax
section
variable {E:Env}{I K:Nat→Prop}{ρ:PMap}{h:FHeap}{n:Nat}{w:World}
def a1z(h:FHeap)(k:Nat):AV→Option (List (List AV))
 |.nilslice=>some []
 |.islice rows _=>bif rows.all (λr=>r.length==k)then some rows else none
 |.slice b off len _=>match h b with
  |some (.row k' rows)=>bif k'==k&&Nat.ble (off+len) rows.length then some ((rows.drop off).take len)else none
  |_=>none
 |.str s=>bif k==1 then some (s.map λb=>[.int .u8 b.toNat])else none
 |_=>none
theorem a8x:∀l:List UInt8,VRels I w ρ (l.map λb=>[AV.int .u8 b.toNat]).flatten (l.map λb=>Value.int .u8 b.toNat)
 | []=>by simp[VRels]
 |b::l=>by simp only[e12,f4a,f0k,e9q,VRels];exact⟨_,_,rfl,by simp[VRel],a8x l⟩
theorem SameMem.cell{w w':World}(s:SameMem w w')(a:Addr):w'.cell? a=w.cell? a:=by simp[World.cell?,s.1]
theorem a4u(r:HRel E.G I K ρ h w){k:Nat}{x:AV}{xs:List (List AV)}{c:Value}(ha:a1z h k x=some xs)(hx:VRel I w ρ x c) :
 (Builtin.lenOf c).run E.P w = .ok xs.length w∧(∃cv:Array Value,(∀w',SameMem w w'→(Builtin.firstCells k xs.length c).run E.P w' = .ok cv w')∧VRels I w ρ xs.flatten cv.toList)∧∀r∈xs,r.length=k:=by
 unfold a1z at ha;split at ha
 ·cases ha;simp only[VRel]at hx;subst hx;exact⟨rfl,⟨#[],λ_ _=>rfl,by simp[VRels]⟩,by simp⟩
 ·rename_i rows cap;rw[cond_eq_ite]at ha;split at ha
  case isFalse=>cases ha
  rename_i aR;cases ha;simp only[f2u,f6k]at aR;simp only[VRel]at hx;obtain⟨a,cc,kk,rfl,bd,_,bT⟩:=hx;refine⟨rfl,?_,aR⟩;rcases bT with rfl|⟨hs,hI,az⟩
  ·exact⟨#[],λw' _=>by simp[Builtin.firstCells,loadCells,loadCellsFrom],by simp[VRels]⟩
  ·rw[VRows.iff]at az;obtain⟨cv,h1,h2⟩:=VAt.cells az.2;have hl:cv.length=xs.length*k:=by rw[←VRels.length h2,a0v aR]
   have ha:a=⟨a.block,a.off,none⟩:=by cases a;simp_all
   refine⟨cv.toArray,λw' eo=>?_,by simpa using VRels.noRef_any h2⟩;have:=run_loadCells_list (P:=E.P) w' a cv (λj v hj=>by rw[ha,a4j,eo.cell];exact h1 j v hj);rw[hl]at this;simpa[Builtin.firstCells]using this
 ·rename_i b off len cap;split at ha
  case h_2=>cases ha
  rename_i k' rows hb;rw[cond_eq_ite]at ha;split at ha
  case isFalse=>cases ha
  rename_i hc;cases ha;simp only[e9l,f6k,f4k]at hc;obtain⟨rfl,bP⟩:=hc;obtain⟨m,hm,_,_,ho⟩:=r.live b _ hb;obtain⟨hk,hk0,_,az⟩:=ho;have ai:((rows.drop off).take len).length=len:=by simp;omega
  simp only[VRel]at hx;obtain⟨a,cc,rfl,bd,_,bT⟩:=hx;have aT:=VRows.take len (VRows.drop off (by omega) az);rw[VRows.iff]at aT;refine⟨by simp[Builtin.lenOf,ai],?_,aT.1⟩;rw[ai];rcases bT with rfl|⟨m',aV,rfl,a8⟩
  ·have:len=0:=by omega
   subst this;exact⟨#[],λw' _=>by simp[Builtin.firstCells,loadCells,loadCellsFrom],by simp[VRels]⟩
  ·obtain rfl:m=m':=z9o (hm.symm.trans aV);obtain⟨cv,h1,h2⟩:=VAt.cells aT.2;have hl:cv.length=len*k':=by rw[←VRels.length h2,a0v aT.1,ai]
   refine⟨cv.toArray,λw' eo=>?_,by simpa using h2⟩;have:=run_loadCells_list (P:=E.P) w' ⟨m.blk,m.off+off*m.k,none⟩ cv (λj v hj=>by rw[a4j,hk,eo.cell];exact h1 j v hj);rw[hl]at this;simpa[Builtin.firstCells]using this
 ·rename_i s;rw[cond_eq_ite]at ha;split at ha
  case isFalse=>cases ha
  rename_i hk;cases ha;have hk:k=1:=by simpa using hk
  subst hk;simp only[VRel]at hx;obtain⟨t,rfl,ht⟩:=hx;have bJ:t.size=s.length:=by rw[←ht,f2t];rfl
  refine⟨by simp[Builtin.lenOf,bJ],⟨_,λw' _=>by simp only[Builtin.firstCells,Sem.run_pure];rfl,?_⟩,by simp⟩;rw[f5r,a67];simp only[f4g,c11,ht,f3a];exact a8x s
 ·cases ha
def a2m:TypeDesc→Bool
 |.int _=>true
 |_=>false
def a2f(E:Env)(aa:TypeId)(a9n:Nat):Bool:=decide (a9n≤17592186044416)&&decide (E.bytes aa*(2*a9n+192)≤281474976710656)
theorem c0l(a9n:Nat):∀(r c:Nat),c≤2*a9n+192→Builtin.growBy a9n r c≤2*a9n+192
 |0,c,h=>h
 |r+1,c,h=>by
  simp only[Builtin.growBy];split
  ·exact h
  ·rename_i hc;exact c0l a9n r _ (by omega)
theorem a7z{a9n old:Nat}(h:old<a9n):Builtin.nextslicecap a9n old≤2*a9n+192:=by
 unfold Builtin.nextslicecap;split
 ·omega
 ·split
  ·omega
  ·exact c0l a9n 4 old (by omega)
theorem a4x(z:Array Value)(m:Nat):(Builtin.zeroCells z m).toList=(List.replicate m z.toList).flatten:=by rw[←a3g];simp only[Builtin.zeroCells,f5r,Array.toList_range,f2t];apply f3h;intro a _;rw[Array.getElem!_toList]
theorem b2s(ok:EnvOk E){st xt aa:TypeId}{dx:TypeDesc}(hu:E.und st=some (.slice aa))(em:E.und xt=some dx)(br:a2m dx=false)
 {z:List AV}(hz:E.zero aa=some z){base:Option Addr}{aI bz m:Nat}{cx:Value}{old new:Array Value}(ty:TypeId)
 (ai:(Builtin.lenOf cx).run E.P w = .ok m w)(iC:bz<aI+m)(a8:a2f E aa (aI+m)=true)
 (aF:∀w',SameMem w w'→(Builtin.firstCells (E.sz aa) aI (.slice base aI bz)).run E.P w' = .ok old w')
 (aQ:∀w',SameMem w w'→(Builtin.firstCells (E.sz aa) m cx).run E.P w' = .ok new w') :
 ∃(bc:Nat) (zs:List Value) (w0:World),SameMem w w0∧aI+m≤bc∧zs.length=E.sz aa∧
  (Builtin.append_ #[st,xt] ty #[.slice base aI bz,cx]).run E.P w =
   .ok (.slice (some ⟨w.heap.size,0,none⟩) (aI+m) bc)
    { w0 with heap:=w0.heap.push (.cells (old++new++(List.replicate (bc-(aI+m)) zs).flatten.toArray) aa) }:=by
 obtain⟨⟨de,bp⟩,i',z',gQ,ey,jj,ji⟩:=ok.zero aa z hz;simp only[a2f,e9l,f0l]at a8;have ff:∀w',(zeroValue aa).run E.P w' = .ok z' w':=by intro w';simp[zeroValue,typeInfo,gQ,ey]
 have dJ:z'.cells.toList.length=E.sz aa:=by rw[←jj,VRels.length (ji (λ_=>False) w)]
 obtain⟨i,hi,_,je⟩:=b24 ok w bp;have fA:∀w',(typeInfo aa).run E.P w' = .ok i w':=by intro w';have:=hi;simp[typeInfo,gQ]at this⊢;exact this
 have sU:∀w',(underlying xt).run E.P w' = .ok dx w':=λw'=>a0a ok w' em;refine⟨aI+m+(w.tape w.drawn (.appendCap (aI+m) bz aa))%(2^63-(aI+m)),z'.cells.toList,{ w with drawn:=w.drawn+1 },⟨rfl,rfl,rfl,rfl⟩,by omega,dJ,?_⟩;have bd:¬(aI+m≤bz):=by omega
 have aU:=a7z iC;have qR:¬(Builtin.nextslicecap (aI+m) bz*i.bytes>2^48):=by rw[je];have:Builtin.nextslicecap (aI+m) bz*E.bytes aa≤(2*(aI+m)+192)*E.bytes aa:=f4m _ aU;rw[Nat.mul_comm (2*(aI+m)+192)]at this;omega
 have jw:¬(((aI+m:Nat):Int)>IntKind.i64.max):=by simp only[IntKind.max,IntKind.signed,IntKind.bits];simp;omega
 have rL:¬((((aI+m:Nat):Int)>IntKind.i64.max)∧(False∨i.bytes=0)):=λhh=>jw hh.1;have m5:=aF { w with drawn:=w.drawn+1 } ⟨rfl,rfl,rfl,rfl⟩;have nb:=aQ { w with drawn:=w.drawn+1 } ⟨rfl,rfl,rfl,rfl⟩;have m9:∀k:IntKind,dx≠ .int k:=by rintro k rfl;simp[a2m]at br
 unfold Builtin.append_;simp only[f4h,f1p,f1q,Sem.run_bind,a0a ok w hu,Result.andThen_ok,a36 ok w bp];simp only[sU w,Result.andThen_ok,Sem.run_pure];simp only[f3l,f7c,Sem.run_bind,ai,Result.andThen_ok,bd,fA,false_or,jw,false_and,qR,Bool.not_false,f4b,run_choose,run_askRoom,
  Question.forced,Question.cut,m5,nb,ff,a43,Sem.run_pure]
 congr 4
 apply f6r;simp only[Array.toList_append,a4x]
theorem a39(ok:EnvOk E){st xt aa:TypeId}{dx de:TypeDesc}(hu:E.und st=some (.slice aa))(bp:E.und aa=some de)(em:E.und xt=some dx)(br:a2m dx=false)
 {base:Option Addr}{aI bz m:Nat}{cx:Value}{new:Array Value}(ty:TypeId){w':World}
 (ai:(Builtin.lenOf cx).run E.P w = .ok m w)(bd:aI+m≤bz)
 (aQ:(Builtin.firstCells (E.sz aa) m cx).run E.P w = .ok new w)
 (aw:∀a,base=some a→(storeCells (a.add (aI*E.sz aa)) new.toList).run E.P w = .ok () w')(dk:base=none→w'=w) :
 (Builtin.append_ #[st,xt] ty #[.slice base aI bz,cx]).run E.P w = .ok (.slice base (aI+m) bz) w':=by
 have m9:∀k:IntKind,dx≠ .int k:=by rintro k rfl;simp[a2m]at br
 unfold Builtin.append_;simp only[f4h,f1p,f1q,Sem.run_bind,a0a ok w hu,Result.andThen_ok,a36 ok w bp,a0a ok w em,Sem.run_pure];simp only[f3l,f7c,Sem.run_bind,ai,Result.andThen_ok,bd,Bool.not_false,f4b,aQ];cases base with
 |none=>simp[dk rfl]
 |some a=>simp[aw a rfl]
def a4k(E:Env)(h:FHeap)(n:Nat)(st xt:TypeId)(s x:AV):Option (AV×Eff):=
 match E.und st,E.und xt with
 |some (.slice aa),some dx=>
  bif a2m dx || !(E.zero aa).isSome || !(Nat.blt 0 (E.sz aa))then none else
  match a1z h (E.sz aa) x with
  |none=>none
  |some xs=>match s with
   |.nilslice=>match xs with
    | []=>some (.nilslice,.none)
    |y::ys=>bif a2f E aa (y::ys).length then some (.slice n 0 (y::ys).length none,.new (.row (E.sz aa) (y::ys)))else none
   |.islice rows cap=>bif rows.all (λr=>r.length==E.sz aa)then match xs with
    | []=>some (.islice rows cap,.none)
    |y::ys=>match cap with
     |some c=>bif Nat.blt c (rows.length+(y::ys).length)&&a2f E aa (rows.length+(y::ys).length)then
      some (.slice n 0 (rows.length+(y::ys).length) none,.new (.row (E.sz aa) (rows++(y::ys))))else none
     |none=>none
    else none
   |.slice b off len cap=>match h b with
    |some (.row kk rows)=>bif kk==E.sz aa&&Nat.ble (off+len) rows.length then
     match cap with
     |none=>bif a2f E aa (len+xs.length)&&xs.all (λr=>r.all AV.storable)then
      some (.slice n 0 (len+xs.length) none,.kill b (.row (E.sz aa) (bif Nat.beq (off+len) rows.length then rows.drop off++xs else(rows.drop off).take len++xs)))else none
     |some c=>bif Nat.ble (len+xs.length) c then
      bif Nat.ble (off+len+xs.length) rows.length&&xs.all (λr=>r.all AV.storable)then
       some (.slice b off (len+xs.length) (some c),.set b (.row (E.sz aa) (rows.take (off+len)++xs++rows.drop (off+len+xs.length))))else none
      else bif a2f E aa (len+xs.length)then
       some (.slice n 0 (len+xs.length) none,.new (.row (E.sz aa) ((rows.drop off).take len++xs)))else none
     else none
    |_=>none
   |_=>none
 |_,_=>none
theorem VRels.flat_append{as bs:List (List AV)}{xs ys:List Value}(h:VRels I w ρ as.flatten xs)(k:VRels I w ρ bs.flatten ys):VRels I w ρ (as++bs).flatten (xs++ys):=by rw[List.flatten_append];exact VRels.append h k
theorem b2a(ok:EnvOk E)(r:HRel E.G I K ρ h w)(hn:h n=none)(hρ:ρ n=none){st xt aa:TypeId}{dx:TypeDesc}(hu:E.und st=some (.slice aa))(em:E.und xt=some dx)
 (br:a2m dx=false){z:List AV}(hz:E.zero aa=some z)(bJ:0<E.sz aa){base:Option Addr}{aI bz m:Nat}{cx:Value}{old new:Array Value}(ty:TypeId){ss xs:List (List AV)}
 (ai:(Builtin.lenOf cx).run E.P w = .ok m w)(iC:bz<aI+m)(a8:a2f E aa (aI+m)=true)
 (aF:∀w',SameMem w w'→(Builtin.firstCells (E.sz aa) aI (.slice base aI bz)).run E.P w' = .ok old w')
 (aQ:∀w',SameMem w w'→(Builtin.firstCells (E.sz aa) m cx).run E.P w' = .ok new w')
 (lU:VRels I w ρ ss.flatten old.toList)(bI:VRels I w ρ xs.flatten new.toList)(kK:∀r∈ss,r.length=E.sz aa)(eb:∀r∈xs,r.length=E.sz aa)
 (ep:ss.length=aI)(kC:xs.length=m){e:Eff}(he:e = .new (.row (E.sz aa) (ss++xs))∨∃b,e = .kill b (.row (E.sz aa) (ss++xs))) :
 Val E I K ρ h n w (Builtin.append_ #[st,xt] ty #[.slice base aI bz,cx]) (.slice n 0 (aI+m) none) e:=by
 obtain⟨bc,zs,w0,cA,aU,i8,ac⟩:=b2s ok hu em br hz ty ai iC a8 aF aQ;generalize bC:old++new++(List.replicate (bc-(aI+m)) zs).flatten.toArray=cells at ac;have fC:∀m,(List.replicate m zs).flatten.length=m*E.sz aa:=by
  intro m;induction m with
  |zero=>simp
  |succ m ih=>rw[f6o,f4a,f1o,ih,i8,f7i,Nat.add_comm]
 have dS:old.size=aI*E.sz aa:=by have:=VRels.length lU;rw[a0v kK,ep,f2t]at this;exact this.symm
 have ef:new.size=m*E.sz aa:=by have:=VRels.length bI;rw[a0v eb,kC,f2t]at this;exact this.symm
 have aN:cells.size=bc*E.sz aa:=by
  subst bC;simp only[Array.size_append,dS,ef,List.size_toArray,fC];rw[←f5o,←f5o]
  congr 1;omega
 have re:∀c,I c→({ w0 with heap:=w0.heap.push (.cells cells aa) }:World).heap[c]?=w.heap[c]?:=by intro c hc;have:=r.imm c hc;show(w0.heap.push _)[c]?=_;rw[cA.1,f6x,f0j (by omega)]
 have fv:({ w0 with heap:=w0.heap.push (.cells cells aa) }:World).heap[w.heap.size]?=some (.cells cells aa (0,0)):=by show(w0.heap.push _)[_]?=_;rw[cA.1];simp
 have a7:=PMap.set_old (m:=⟨w.heap.size,0,E.sz aa,cells.size⟩) hρ;have ho:ORel E.G I { w0 with heap:=w0.heap.push (.cells cells aa) } (ρ.set n ⟨w.heap.size,0,E.sz aa,cells.size⟩) ⟨w.heap.size,0,E.sz aa,cells.size⟩ (.row (E.sz aa) (ss++xs)):=by
  refine⟨rfl,bJ,⟨cells,aa,fv,rfl,?_⟩,?_⟩
  ·show 0+(ss++xs).length*E.sz aa≤cells.size;rw[f1o,ep,kC,aN,f3e];exact f4m _ aU
  ·rw[VRows.iff];refine⟨by intro x hx;rcases f2w.1 hx with h|h;exact kK x h;exact eb x h,?_⟩;refine VAt.of_cells (cs:=(old++new).toList) (CellsAt.of_heap fv (λj v hj=>?_)) ?_
   ·subst bC;have j6:=(e9k.1 hj).1;simp only[f2t]at j6;rw[f3e,Array.getElem?_append_left j6,←f5p];exact hj
   ·rw[Array.toList_append];exact VRels.mono (λ_ h=>h) re _ a7 (VRels.flat_append lU bI)
 refine⟨_,_,ρ.set n ⟨w.heap.size,0,E.sz aa,cells.size⟩,ac,?_,?_,Moves.set _ _ _ (by rcases he with rfl|⟨b,rfl⟩<;>rfl)⟩
 ·rcases he with rfl|⟨b,rfl⟩
  ·exact a2a (ob:=.cells cells aa) r hn hρ (by show w0.heap.push _=_;rw[cA.1]) cA.2.1 cA.2.2.1 cA.2.2.2 rfl ho
  ·exact b1w (ob:=.cells cells aa) r hn hρ b (by show w0.heap.push _=_;rw[cA.1]) cA.2.1 cA.2.2.1 cA.2.2.2 rfl ho
 ·simp only[VRel];refine⟨_,bc,rfl,aU,(λq hq=>by cases hq),.inr ⟨_,by simp[PMap.set];rfl,by simp,?_⟩⟩;show 0+(0+bc)*E.sz aa≤cells.size;rw[aN,f3e,f3e];exact f1u _
theorem b6i(ok:EnvOk E)(r:HRel E.G I K ρ h w){st xt aa:TypeId}{dx de:TypeDesc}(hu:E.und st=some (.slice aa))(bp:E.und aa=some de)(em:E.und xt=some dx)
 (br:a2m dx=false){m:Pl}{b off aI bz nn:Nat}{rows xs:List (List AV)}{cx:Value}{new:Array Value}(ty:TypeId)
 (hb:h b=some (.row (E.sz aa) rows))(hm:ρ b=some m)(dD:off+aI≤rows.length)(a8:m.off+(off+bz)*m.k≤m.room)
 (ai:(Builtin.lenOf cx).run E.P w = .ok nn w)(bd:aI+nn≤bz)(aQ:(Builtin.firstCells (E.sz aa) nn cx).run E.P w = .ok new w)
 (bI:VRels I w ρ xs.flatten new.toList)(eb:∀r∈xs,r.length=E.sz aa)(kC:xs.length=nn)(aw:xs.all (λr=>r.all AV.storable)=true) :
 ∃w',(Builtin.append_ #[st,xt] ty #[.slice (some ⟨m.blk,m.off+off*m.k,none⟩) aI bz,cx]).run E.P w = .ok (.slice (some ⟨m.blk,m.off+off*m.k,none⟩) (aI+nn) bz) w'∧
  w'.heap.size=w.heap.size∧(∀c,c≠m.blk→w'.heap[c]?=w.heap[c]?)∧w'.tape=w.tape∧w'.os=w.os∧w'.output=w.output∧
  (∃bR e,w'.heap[m.blk]?=some (.cells bR e (0,0))∧bR.size=m.room)∧VRows I w' (E.sz aa) ρ (rows.take (off+aI)++xs) m.blk m.off∧
  (∀x,m.off+(off+aI+nn)*E.sz aa≤x→w'.cell? ⟨m.blk,x,none⟩=w.cell? ⟨m.blk,x,none⟩):=by
 obtain⟨m',aV,dg,_,ho⟩:=r.live b _ hb;obtain rfl:m=m':=z9o (hm.symm.trans aV);obtain⟨hk,hk0,⟨bR,el,ej,aN,_⟩,az⟩:=ho;have ef:new.toList.length=nn*E.sz aa:=by have:=VRels.length bI;rw[a0v eb,kC]at this;exact this.symm
 have fC:xs.flatten.all AV.storable=true:=by rw[f2u]at aw⊢;intro v hv;obtain⟨l,hl,pt⟩:=List.mem_flatten.1 hv;exact f2u.1 (aw l hl) v pt
 have nX:(⟨m.blk,m.off+off*m.k,none⟩:Addr).add (aI*E.sz aa)=⟨m.blk,m.off+(off+aI)*E.sz aa,none⟩:=by rw[a4j,hk,f5o,Nat.add_assoc]
 have bP:m.off+(off+aI)*E.sz aa+new.toList.length≤bR.size:=by rw[aN,ef,Nat.add_assoc,←f5o];rw[hk]at a8;have:(off+aI+nn)*E.sz aa≤(off+bz)*E.sz aa:=f4m _ (by omega);omega
 obtain⟨w',ac,⟨db,aL,gI⟩,bK,bJ,ht,eB,aE,bC,cg⟩:=b2j (w:=w) (blk:=m.blk) (o:=m.off+(off+aI)*E.sz aa) new.toList ej bP (VRels.storable bI fC) E.P;have bM:∀c,I c→w'.heap[c]?=w.heap[c]?:=λc hc=>bK c (λe=>dg (e▸hc));refine⟨w',?_,bJ,bK,ht,eB,aE,⟨db,el,aL,by omega⟩,?_,?_⟩
 ·exact a39 ok hu bp em br ty ai bd aQ (λa ha=>by cases ha;rw[nX];exact ac) (λh=>by cases h)
 ·rw[VRows.append];have cU:(rows.take (off+aI)).length=off+aI:=by simp;omega
  refine⟨?_,?_⟩
  ·refine VRows.mono_cells (λ_ h=>h) bM (λ_ _ h=>h) (λj hj=>cg _ (.inl ?_)) (VRows.take (off+aI) az);rw[cU]at hj;omega
  ·rw[VRows.iff,cU];exact⟨eb,VAt.of_cells bC (VRels.mono (λ_ h=>h) bM _ (λ_ _ h=>h) bI)⟩
 ·intro x hx;refine cg x (.inr ?_);rw[ef,Nat.add_assoc,←f5o];exact hx
theorem c7k(ok:EnvOk E)(r:HRel E.G I K ρ h w)(hn:h n=none)(hρ:ρ n=none){st xt:TypeId}{s x v:AV}{e:Eff}{cs cx:Value}(ty:TypeId)
 (ha:a4k E h n st xt s x=some (v,e))(hs:VRel I w ρ s cs)(hx:VRel I w ρ x cx):Val E I K ρ h n w (Builtin.append_ #[st,xt] ty #[cs,cx]) v e:=by
 unfold a4k at ha;split at ha
 case h_2=>cases ha
 rename_i aa dx hu em;rw[cond_eq_ite]at ha;split at ha
 case isTrue=>cases ha
 rename_i hc;simp only[f6q,f3z,not_or,Bool.not_eq_true,Bool.not_eq_false,f2p]at hc;obtain⟨⟨br,oC⟩,bJ⟩:=hc;obtain⟨z,hz⟩:=f0c.1 oC;obtain⟨⟨de,bp⟩,_⟩:=ok.zero aa z hz;split at ha
 case h_1=>cases ha
 rename_i xs bI;obtain⟨ai,⟨new,aQ,ju⟩,eb⟩:=a4u r bI hx;have eK:=aQ w ⟨rfl,rfl,rfl,rfl⟩;split at ha
 · -- nil
  simp only[VRel]at hs;subst hs;split at ha
  ·cases ha;refine Val.here (c:=.slice none 0 0) r ?_ (by simp[VRel]);exact a39 ok hu bp em br ty ai (by simp) eK (λa h=>by cases h) (λ_=>rfl)
  ·rename_i y ys;rw[cond_eq_ite]at ha;split at ha
   case isFalse=>cases ha
   rename_i a8;cases ha;have:=b2a (ss:=[]) (old:=#[]) (base:=none) (aI:=0) (bz:=0) (e:=.new (.row (E.sz aa) ([]++(y::ys)))) ok r hn hρ hu em br hz bJ ty ai (by simp) (by simpa using a8)
    (λw' _=>rfl) aQ (by simp[VRels]) ju (by simp) eb rfl rfl (.inl rfl)
   simpa using this
 · -- immutable memory
  rename_i rows cap;rw[cond_eq_ite]at ha;split at ha
  case isFalse=>cases ha
  rename_i aR;have mT:=hs;simp only[VRel]at mT;obtain⟨a,cc,kk,rfl,bd,aU,bT⟩:=mT;split at ha
  ·cases ha;refine Val.here r ?_ hs;have:=a39 ok hu bp em br (base:=some a) (aI:=rows.length) (bz:=cc) ty (w':=w) ai (by simpa using bd) eK (λa' h=>by
    have:new.toList=[]:=by have:=VRels.length ju;simpa using this.symm
    rw[this];rfl) (λh=>by cases h)
   simpa using this
  ·rename_i y ys;split at ha
   case h_2=>cases ha
   rename_i c;rw[cond_eq_ite]at ha;split at ha
   case isFalse=>cases ha
   rename_i a8;cases ha;simp only[e9l,f2p]at a8;obtain⟨_,⟨old,aF,jt⟩,kK⟩:=a4u (k:=E.sz aa) (xs:=rows) r (by simp only[a1z,aR,f2m]) hs;have cR:=aU c rfl;exact b2a ok r hn hρ hu em br hz bJ ty ai (by omega) a8.2 aF aQ jt ju kK eb rfl rfl (.inl rfl)
 · -- a mutable block
  rename_i b off len cap;split at ha
  case h_2=>cases ha
  rename_i kk rows hb;rw[cond_eq_ite]at ha;split at ha
  case isFalse=>cases ha
  rename_i cR;simp only[e9l,f6k,f4k]at cR;obtain⟨rfl,bP⟩:=cR;have mT:=hs;simp only[VRel]at mT;obtain⟨a,c,rfl,bd,aU,bT⟩:=mT;obtain⟨fh,⟨old,aF,jt⟩,kK⟩:=a4u (k:=E.sz aa) (xs:=(rows.drop off).take len) r (by simp only[a1z,hb,beq_self_eq_true,f5n,Nat.ble_eq_true_of_le bP,f2m]) hs;have ep:((rows.drop off).take len).length=len:=by simp;omega
  rw[ep]at aF;split at ha
  · -- capacity unknown
   rw[cond_eq_ite]at ha;split at ha
   case isFalse=>cases ha
   rename_i aR;cases ha;simp only[e9l]at aR;obtain⟨a8,aw⟩:=aR;have hR:(bif Nat.beq (off+len) rows.length then rows.drop off++xs else(rows.drop off).take len++xs)=(rows.drop off).take len++xs:=by
    cases hq:Nat.beq (off+len) rows.length with
    |false=>rfl
    |true=>have cQ:=f4s hq;rw[f2m,f0f (by simp;omega)]
   rw[hR];by_cases eN:len+xs.length≤c
   ·rcases bT with rfl|⟨m,hm,rfl,dF⟩
    · -- no capacity at all: nothing is appended to nothing
     have h0:len=0:=by omega
     have pn:xs=[]:=List.length_eq_zero_iff.1 (by omega);subst h0 pn;obtain⟨m,hm,dg,e9,hk,hk0,⟨bR,el,ej,aN,fD⟩,az⟩:=r.live b _ hb;have hd:(rows.drop off).take 0=[]:=f2q;have a7:=PMap.set_old (m:=⟨m.blk,m.off,m.k,m.room⟩) hρ;refine⟨.slice (some a) 0 0,w,ρ.set n ⟨m.blk,m.off,m.k,m.room⟩,?_,?_,?_,Moves.set _ _ _ rfl⟩
     ·have:=a39 ok hu bp em br (base:=some a) (aI:=0) (bz:=0) ty (w':=w) ai (by simp) eK (λa' h=>by
       have:new.toList=[]:=by have:=VRels.length ju;simpa using this.symm
       rw[this];rfl) (λh=>by cases h)
      simpa using this
     ·refine a6d (mb:=m) r hn hρ hb hm rfl rfl (λ_ _=>rfl) rfl rfl rfl ?_;refine⟨hk,hk0,⟨bR,el,ej,aN,?_⟩,?_⟩
      ·simp[hd];omega
      ·simp[hd,VRows]
     ·simp only[VRel];exact⟨a,0,rfl,by simp,(λq hq=>by cases hq),.inl rfl⟩
    ·obtain⟨w',ac,gI,bK,ht,eB,aE,⟨bR,el,aL,bq⟩,fY,_⟩:=b6i (nn:=xs.length) ok r hu bp em br ty hb hm bP dF ai eN eK ju eb rfl aw;obtain⟨m',aV,dg,e9,hk,hk0,_,_⟩:=r.live b _ hb;obtain rfl:m=m':=z9o (hm.symm.trans aV);have a7:=PMap.set_old (m:=⟨m.blk,m.off+off*m.k,m.k,m.room⟩) hρ;have bM:∀c,I c→w'.heap[c]?=w.heap[c]?:=λc hc=>bK c (λe=>dg (e▸hc));refine⟨_,w',ρ.set n ⟨m.blk,m.off+off*m.k,m.k,m.room⟩,ac,?_,?_,Moves.set _ _ _ rfl⟩
     ·refine a6d (mb:=m) r hn hρ hb hm rfl gI bK ht eB aE ?_;have dM:((rows.drop off).take len++xs).length=len+xs.length:=by rw[f1o,ep]
      refine⟨hk,hk0,⟨bR,el,aL,bq,?_⟩,?_⟩
      ·rw[dM,←hk,Nat.add_assoc,←f5o];have:(off+(len+xs.length))*m.k≤(off+c)*m.k:=f4m _ (by omega);exact f7j (Nat.add_le_add_left this m.off) dF
      ·have h1:=VRows.drop (rs:=rows.take (off+len)++xs) off (by simp;omega) fY;rw[List.drop_append_of_le_length (by rw[f3f];omega),List.drop_take,f5t]at h1;rw[show off*E.sz aa=off*m.k by rw[hk]]at h1;exact VRows.mono (λ_ h=>h) (λ_ _=>rfl) _ a7 rfl h1
     ·simp only[VRel];refine⟨_,c,rfl,eN,(λq hq=>by cases hq),.inr ⟨_,by simp[PMap.set];rfl,by simp,?_⟩⟩;show m.off+off*m.k+(0+c)*m.k≤m.room;rw[f3e,Nat.add_assoc,←f5o];exact dF
   ·have:=b2a (e:=.kill b (.row (E.sz aa) ((rows.drop off).take len++xs))) ok r hn hρ hu em br hz bJ ty ai (by omega) a8 aF aQ jt ju kK eb ep rfl (.inr ⟨b,rfl⟩);exact this
  · -- capacity known
   rename_i c';have qz:c=c':=aU c' rfl;subst qz;rw[cond_eq_ite]at ha;split at ha
   ·rename_i eN;simp only[f4k]at eN;rw[cond_eq_ite]at ha;split at ha
    case isFalse=>cases ha
    rename_i aR;cases ha;simp only[e9l,f4k]at aR;obtain⟨b9,aw⟩:=aR;rcases bT with rfl|⟨m,hm,rfl,dF⟩
    ·have h0:len=0:=by omega
     have pn:xs=[]:=List.length_eq_zero_iff.1 (by omega);subst h0 pn;have az:rows.take (off+0)++[]++rows.drop (off+0+([]:List (List AV)).length)=rows:=by simp
     rw[az];refine⟨.slice (some a) 0 0,w,ρ,?_,?_,?_,Moves.same _ _ _⟩
     ·have:=a39 ok hu bp em br (base:=some a) (aI:=0) (bz:=0) ty (w':=w) ai (by simp) eK (λa' h=>by
       have:new.toList=[]:=by have:=VRels.length ju;simpa using this.symm
       rw[this];rfl) (λh=>by cases h)
      simpa using this
     ·obtain⟨m,hm,_,_,ho⟩:=r.live b _ hb;exact a22 r hb hm rfl (λ_ _=>rfl) rfl rfl rfl ho
     ·simp only[VRel];exact⟨a,0,rfl,by simp,(λq hq=>by cases hq;rfl),.inl rfl⟩
    ·obtain⟨w',ac,gI,bK,ht,eB,aE,⟨bR,el,aL,bq⟩,fY,cg⟩:=b6i (nn:=xs.length) ok r hu bp em br ty hb hm bP dF ai eN eK ju eb rfl aw;obtain⟨m',aV,dg,e9,hk,hk0,⟨_,_,_,_,fD⟩,kO⟩:=r.live b _ hb;obtain rfl:m=m':=z9o (hm.symm.trans aV);have bM:∀c,I c→w'.heap[c]?=w.heap[c]?:=λc hc=>bK c (λe=>dg (e▸hc));have dM:(rows.take (off+len)++xs).length=off+len+xs.length:=by simp;omega
     refine⟨_,w',ρ,ac,?_,?_,Moves.same _ _ _⟩
     ·refine a22 r hb hm gI bK ht eB aE ⟨hk,hk0,⟨bR,el,aL,bq,?_⟩,?_⟩
      ·have:(rows.take (off+len)++xs++rows.drop (off+len+xs.length)).length=rows.length:=by
        rw[f1o,dM];simp;omega
       rw[this];exact fD
      ·rw[VRows.append];refine⟨fY,?_⟩;rw[dM];refine VRows.mono_cells (λ_ h=>h) bM (λ_ _ h=>h) (λj hj=>cg _ (by omega)) (VRows.drop (off+len+xs.length) b9 kO)
     ·simp only[VRel];exact⟨_,c,rfl,eN,(λq hq=>by cases hq;rfl),.inr ⟨m,hm,rfl,dF⟩⟩
   ·rename_i rI;rw[cond_eq_ite]at ha;split at ha
    case isFalse=>cases ha
    rename_i a8;cases ha;have rI:¬(len+xs.length≤c):=by simpa using rI
    exact b2a ok r hn hρ hu em br hz bJ ty ai (by omega) a8 aF aQ jt ju kK eb ep rfl (.inl rfl)
 ·cases ha
end
end Go.Ax
/- AxBlt: len, cap, min, max, copy. -/
namespace Go.Ax
section
variable {E:Env}{I K:Nat→Prop}{ρ:PMap}{h:FHeap}{n:Nat}{w:World}
def b8v(E:Env)(h:FHeap)(t:TypeId)(x:AV):Option AV:=
 match E.und t,x with
 |some .string,.str s=>some (.int .i64 s.length)
 |some (.array n _),x=>bif x.isJunk then none else some (.int .i64 n)
 |some (.slice _),.nilslice=>some (.int .i64 0)
 |some (.slice _),.slice _ _ len _=>some (.int .i64 len)
 |some (.slice _),.islice rows _=>some (.int .i64 rows.length)
 |some (.map _ _),.nilmap=>some (.int .i64 0)
 |some (.map _ _),.imap ks _ _ _=>some (.int .i64 ks.length)
 |some (.map _ _),.iset ks=>some (.int .i64 ks.length)
 |some (.map _ _),.map b=>match h b with
  |some (.map ks _ _ _)=>some (.int .i64 ks.length)
  |some (.uset ks)=>some (.int .i64 ks.length)
  |_=>none
 |_,_=>none
theorem e1x(ok:EnvOk E)(r:HRel E.G I K ρ h w){t:TypeId}{x v:AV}{c:Value}(ty:TypeId)(hv:b8v E h t x=some v)(hx:VRel I w ρ x c) :
 Val E I K ρ h n w (Builtin.len_ #[t] ty #[c]) v .none:=by
 unfold b8v at hv;split at hv
 ·rename_i hu;cases hv;simp only[VRel]at hx;obtain⟨tb,rfl,ht⟩:=hx;have:tb.size=tb.data.toList.length:=by rw[f2t];rfl
  exact Val.here (c:=goInt tb.size) r (by simp[Builtin.len_,a0a ok w hu]) (by rw[←ht,this];simp[goInt,VRel])
 ·rename_i y m e hu;rw[cond_eq_ite]at hv;split at hv
  ·cases hv
  ·cases hv;refine Val.here (c:=goInt m) r ?_ (by simp[goInt,VRel]);cases c<;>simp[Builtin.len_,a0a ok w hu]
 ·rename_i hu;cases hv;simp only[VRel]at hx;subst hx;exact Val.here (c:=goInt 0) r (by simp[Builtin.len_,a0a ok w hu]) (by simp[goInt,VRel])
 ·rename_i hu;cases hv;simp only[VRel]at hx;obtain⟨a,cc,rfl,_⟩:=hx;exact Val.here (c:=goInt _) r (by simp[Builtin.len_,a0a ok w hu];rfl) (by simp[goInt,VRel])
 ·rename_i hu;cases hv;simp only[VRel]at hx;obtain⟨a,cc,k,rfl,_⟩:=hx;exact Val.here (c:=goInt _) r (by simp[Builtin.len_,a0a ok w hu];rfl) (by simp[goInt,VRel])
 ·rename_i hu;cases hv;simp only[VRel]at hx;subst hx;exact Val.here (c:=goInt 0) r (by simp[Builtin.len_,a0a ok w hu]) (by simp[goInt,VRel])
 ·rename_i hu;cases hv;simp only[VRel]at hx;obtain⟨cc,es,rfl,_,he,cK,_,_⟩:=hx;have hl:=VRels.length cK;simp only[c11,f2t]at hl;refine Val.here (c:=goInt es.size) r ?_ (by rw[hl];simp[goInt,VRel]);simp[Builtin.len_,a0a ok w hu,getObj,Sem.run,he]
 ·rename_i hu;cases hv;simp only[VRel]at hx;obtain⟨cc,es,cl,rfl,_,he,hs⟩:=hx;have hl:=hs.1.length_eq;simp only[c11,f2t]at hl;refine Val.here (c:=goInt es.size) r ?_ (by rw[hl];simp[goInt,VRel]);simp[Builtin.len_,a0a ok w hu,getObj,Sem.run,he]
 ·rename_i b hu;split at hv
  case h_3=>cases hv
  case h_2=>rename_i ks hb;cases hv;simp only[VRel]at hx;obtain⟨m,hm,rfl⟩:=hx;obtain⟨m',aV,_,_,ho⟩:=r.live b _ hb;obtain rfl:m=m':=z9o (hm.symm.trans aV);obtain⟨es,cl,he,hs⟩:=ho;have hl:=hs.1.length_eq;simp only[c11,f2t]at hl;refine Val.here (c:=goInt es.size) r ?_ (by rw[hl];simp[goInt,VRel]);simp[Builtin.len_,a0a ok w hu,getObj,Sem.run,he]
  rename_i ks vs bs cl hb;cases hv;simp only[VRel]at hx;obtain⟨m,hm,rfl⟩:=hx;obtain⟨m',aV,_,_,ho⟩:=r.live b _ hb;obtain rfl:m=m':=z9o (hm.symm.trans aV);obtain⟨es,he,cK,_,_⟩:=ho;have hl:=VRels.length cK;simp only[c11,f2t]at hl;refine Val.here (c:=goInt es.size) r ?_ (by rw[hl];simp[goInt,VRel]);simp[Builtin.len_,a0a ok w hu,getObj,Sem.run,he]
 ·cases hv
def d32(E:Env)(t:TypeId)(x:AV):Option AV:=
 match E.und t,x with
 |some (.slice _),.nilslice=>some (.int .i64 0)
 |some (.slice _),.slice _ _ _ (some c)=>some (.int .i64 c)
 |some (.slice _),.islice _ (some c)=>some (.int .i64 c)
 |_,_=>none
theorem e23(ok:EnvOk E)(r:HRel E.G I K ρ h w){t:TypeId}{x v:AV}{c:Value}(ty:TypeId)(hv:d32 E t x=some v)(hx:VRel I w ρ x c) :
 Val E I K ρ h n w (Builtin.cap_ #[t] ty #[c]) v .none:=by
 unfold d32 at hv;split at hv
 ·rename_i hu;cases hv;simp only[VRel]at hx;subst hx;exact Val.here (c:=goInt 0) r (by simp[Builtin.cap_,a0a ok w hu]) (by simp[goInt,VRel])
 ·rename_i hu;cases hv;simp only[VRel]at hx;obtain⟨a,cc,rfl,_,hc,_⟩:=hx;have:=hc _ rfl;exact Val.here (c:=goInt cc) r (by simp[Builtin.cap_,a0a ok w hu]) (by rw[this];simp[goInt,VRel])
 ·rename_i hu;cases hv;simp only[VRel]at hx;obtain⟨a,cc,k,rfl,_,hc,_⟩:=hx;have:=hc _ rfl;exact Val.here (c:=goInt cc) r (by simp[Builtin.cap_,a0a ok w hu]) (by rw[this];simp[goInt,VRel])
 ·cases hv
def d2g:AV→List AV→Option AV
 |x,[]=>match x with|.int k a=>some (.int k a)|_=>none
 |.int k a,.int _ b::r=>d2g (.int k (if b<a then b else a)) r
 |_,_::_=>none
def d6u:AV→List AV→Option AV
 |x,[]=>match x with|.int k a=>some (.int k a)|_=>none
 |.int k a,.int _ b::r=>d6u (.int k (if b>a then b else a)) r
 |_,_::_=>none
theorem d2f:∀{xs:List AV} {x v:AV} {c:Value} {cs:List Value},d2g x xs=some v→VRel I w ρ x c→VRels I w ρ xs cs→
 ∃d,(cs.foldlM Builtin.min2 c).run E.P w = .ok d w∧VRel I w ρ v d
 | [],x,v,c,cs,hv,hx,bI=>by
  simp only[VRels]at bI;subst bI;simp only[d2g]at hv;split at hv
  ·cases hv;exact⟨c,by simp,hx⟩
  ·cases hv
 |y::ys,x,v,c,cs,hv,hx,bI=>by
  simp only[VRels]at bI;obtain⟨cy,aJ,rfl,hy,kz⟩:=bI;unfold d2g at hv;split at hv
  ·rename_i h;cases h
  ·rename_i k a k' b r he;cases he;simp only[VRel]at hx hy;subst hx hy;obtain⟨d,h1,h2⟩:=d2f (c:=.int k (if b<a then b else a)) hv (by simp[VRel]) kz;exact⟨d,by simp only[List.foldlM_cons,Builtin.min2,Sem.run_bind,Sem.run_pure,Result.andThen_ok,h1],h2⟩
  ·cases hv
theorem d2h:∀{xs:List AV} {x v:AV} {c:Value} {cs:List Value},d6u x xs=some v→VRel I w ρ x c→VRels I w ρ xs cs→
 ∃d,(cs.foldlM Builtin.max2 c).run E.P w = .ok d w∧VRel I w ρ v d
 | [],x,v,c,cs,hv,hx,bI=>by
  simp only[VRels]at bI;subst bI;simp only[d6u]at hv;split at hv
  ·cases hv;exact⟨c,by simp,hx⟩
  ·cases hv
 |y::ys,x,v,c,cs,hv,hx,bI=>by
  simp only[VRels]at bI;obtain⟨cy,aJ,rfl,hy,kz⟩:=bI;unfold d6u at hv;split at hv
  ·rename_i h;cases h
  ·rename_i k a k' b r he;cases he;simp only[VRel]at hx hy;subst hx hy;obtain⟨d,h1,h2⟩:=d2h (c:=.int k (if b>a then b else a)) hv (by simp[VRel]) kz;exact⟨d,by simp only[List.foldlM_cons,Builtin.max2,Sem.run_bind,Sem.run_pure,Result.andThen_ok,h1],h2⟩
  ·cases hv
theorem a9b(r:HRel E.G I K ρ h w){k:Nat}{x:AV}{xs:List (List AV)}{c:Value}(ha:a1z h k x=some xs)(hx:VRel I w ρ x c)(j:Nat)(hj:j≤xs.length) :
 ∃cv:Array Value,(Builtin.firstCells k j c).run E.P w = .ok cv w∧VRels I w ρ (xs.take j).flatten cv.toList:=by
 have bu:(xs.take j).length=j:=by simp;omega
 have key:∀(a:Addr) (n cap:Nat),a.spot=none→VAt I w ρ (xs.take j).flatten a.block a.off→(∀r∈xs.take j,r.length=k)→∃cv:Array Value,(Builtin.firstCells k j (.slice (some a) n cap)).run E.P w = .ok cv w∧VRels I w ρ (xs.take j).flatten cv.toList:=by
  intro a n cap hs aW hk;obtain⟨cv,h1,h2⟩:=VAt.cells aW;have hl:cv.length=j*k:=by rw[←VRels.length h2,a0v hk,bu]
  have ha:a=⟨a.block,a.off,none⟩:=by cases a;simp_all
  refine⟨cv.toArray,?_,by simpa using h2⟩;have:=run_loadCells_list (P:=E.P) w a cv (λi v hi=>by rw[ha,a4j];exact h1 i v hi);rw[hl]at this;simpa[Builtin.firstCells]using this
 obtain⟨_,_,aR⟩:=a4u r ha hx;have kn:∀r∈xs.take j,r.length=k:=λr hr=>aR r (List.mem_of_mem_take hr);unfold a1z at ha;split at ha
 ·cases ha;simp only[VRel]at hx;subst hx;exact⟨#[],rfl,by simp[VRels]⟩
 ·rename_i rows cap;rw[cond_eq_ite]at ha;split at ha
  case isFalse=>cases ha
  cases ha;simp only[VRel]at hx;obtain⟨a,cc,kk,rfl,bd,_,bT⟩:=hx;rcases bT with rfl|⟨hs,hI,az⟩
  ·have:j=0:=by simpa using hj
   subst this;exact⟨#[],by simp[Builtin.firstCells,loadCells,loadCellsFrom],by simp[VRels]⟩
  ·exact key a _ _ hs (VAt.noRef_any (VRows.iff.1 (VRows.take j az)).2) kn
 ·rename_i b off len cap;split at ha
  case h_2=>cases ha
  rename_i k' rows hb;rw[cond_eq_ite]at ha;split at ha
  case isFalse=>cases ha
  rename_i hc;cases ha;simp only[e9l,f6k,f4k]at hc;obtain⟨rfl,bP⟩:=hc;obtain⟨m,hm,_,_,ho⟩:=r.live b _ hb;obtain⟨hk,hk0,_,az⟩:=ho;simp only[VRel]at hx;obtain⟨a,cc,rfl,bd,_,bT⟩:=hx;rcases bT with rfl|⟨m',aV,rfl,a8⟩
  ·have:j=0:=by simp at hj;omega
   subst this;exact⟨#[],by simp[Builtin.firstCells,loadCells,loadCellsFrom],by simp[VRels]⟩
  ·obtain rfl:m=m':=z9o (hm.symm.trans aV);refine key _ _ _ rfl ?_ kn;rw[hk];exact(VRows.iff.1 (VRows.take j (VRows.take len (VRows.drop off (by omega) az)))).2
 ·rename_i s;rw[cond_eq_ite]at ha;split at ha
  case isFalse=>cases ha
  cases ha;simp only[VRel]at hx;obtain⟨t,rfl,ht⟩:=hx;refine⟨_,by simp only[Builtin.firstCells,Sem.run_pure];rfl,?_⟩;rw[f5r,a67,←List.map_take];simp only[f4g,ht,Nat.sub_zero];exact a8x _
 ·cases ha
theorem b5y(r:HRel E.G I K ρ h w){m:Pl}{b off k:Nat}{rows xs:List (List AV)}{new:List Value}(hb:h b=some (.row k rows))(hm:ρ b=some m)(bP:off+xs.length≤rows.length)
 (bI:VRels I w ρ xs.flatten new)(eb:∀r∈xs,r.length=k)(aw:xs.all (λr=>r.all AV.storable)=true) :
 ∃w',(storeCells ⟨m.blk,m.off+off*m.k,none⟩ new).run E.P w = .ok () w'∧Stepped E.G I K ρ w I ρ (h.eff n (.set b (.row k (rows.take off++xs++rows.drop (off+xs.length))))) w':=by
 obtain⟨m',aV,dg,_,ho⟩:=r.live b _ hb;obtain rfl:m=m':=z9o (hm.symm.trans aV);obtain⟨hk,hk0,⟨bR,el,ej,aN,fD⟩,az⟩:=ho;have ef:new.length=xs.length*k:=by have:=VRels.length bI;rw[a0v eb]at this;exact this.symm
 have fC:xs.flatten.all AV.storable=true:=by rw[f2u]at aw⊢;intro v hv;obtain⟨l,hl,pt⟩:=List.mem_flatten.1 hv;exact f2u.1 (aw l hl) v pt
 have dG:m.off+off*m.k+new.length≤bR.size:=by rw[aN,ef,hk,Nat.add_assoc,←f5o];exact f7j (Nat.add_le_add_left (f4m k bP) _) fD
 obtain⟨w',ac,⟨db,aL,gI⟩,bK,bJ,ht,eB,aE,bC,cg⟩:=b2j (w:=w) (blk:=m.blk) (o:=m.off+off*m.k) new ej dG (VRels.storable bI fC) E.P;have bM:∀c,I c→w'.heap[c]?=w.heap[c]?:=λc hc=>bK c (λe=>dg (e▸hc));have cU:(rows.take off).length=off:=by simp;omega
 refine⟨w',ac,a22 r hb hm bJ bK ht eB aE ⟨hk,hk0,⟨db,el,aL,by omega,?_⟩,?_⟩⟩
 ·have:(rows.take off++xs++rows.drop (off+xs.length)).length=rows.length:=by simp;omega
  rw[this];exact fD
 ·rw[VRows.append,VRows.append];refine⟨⟨?_,?_⟩,?_⟩
  ·refine VRows.mono_cells (λ_ h=>h) bM (λ_ _ h=>h) (λj hj=>cg _ (.inl ?_)) (VRows.take off az);rw[cU]at hj;rw[hk];omega
  ·rw[VRows.iff,cU,←hk];exact⟨by rw[hk];exact eb,VAt.of_cells bC (VRels.mono (λ_ h=>h) bM _ (λ_ _ h=>h) bI)⟩
  ·rw[f1o,cU];refine VRows.mono_cells (λ_ h=>h) bM (λ_ _ h=>h) (λj hj=>cg _ (.inr ?_)) (VRows.drop (off+xs.length) bP az);rw[ef,hk,f5o];omega
def c7h(E:Env)(h:FHeap)(dt:TypeId)(d x:AV):Option (AV×Eff):=
 match E.und dt with
 |some (.slice aa)=>bif (E.und aa).isSome then
  match a1z h (E.sz aa) x with
  |none=>none
  |some xs=>match d with
   |.nilslice=>some (.int .i64 0,.none)
   |.slice b off len _=>bif Nat.beq len 0 then some (.int .i64 0,.none)else match h b with
    |some (.row kk rows)=>bif kk==E.sz aa&&Nat.ble (off+len) rows.length&&Nat.blt 0 len&&(xs.take len).all (λr=>r.all AV.storable)then
     some (.int .i64 ((xs.take len).length:Nat),.set b (.row kk (rows.take off++xs.take len++rows.drop (off+(xs.take len).length))))else none
    |_=>none
   |_=>none else none
 |_=>none
theorem d6y(ok:EnvOk E)(r:HRel E.G I K ρ h w){dt xt:TypeId}{d x v:AV}{e:Eff}{cd cx:Value}(ty:TypeId)
 (ha:c7h E h dt d x=some (v,e))(hd:VRel I w ρ d cd)(hx:VRel I w ρ x cx):Val E I K ρ h n w (Builtin.copy_ #[dt,xt] ty #[cd,cx]) v e:=by
 unfold c7h at ha;split at ha
 case h_2=>cases ha
 rename_i aa hu;rw[cond_eq_ite]at ha;split at ha
 case isFalse=>cases ha
 rename_i tN;obtain⟨de,bp⟩:=f0c.1 tN;split at ha
 case h_1=>cases ha
 rename_i xs bI;obtain⟨ai,_,eb⟩:=a4u r bI hx;split at ha
 ·cases ha;simp only[VRel]at hd;subst hd;obtain⟨cv,h1,h2⟩:=a9b r bI hx 0 (by omega);refine Val.here (c:=goInt 0) r ?_ (by simp[goInt,VRel]);have eY:Nat.min xs.length 0=0:=Nat.min_zero _;simp only[Builtin.copy_,f4h,f1p,f1q,Sem.run_bind,a0a ok w hu,Result.andThen_ok,ai,a36 ok w bp,eY,h1,Sem.run_pure];rfl
 ·rename_i b off len cap;rw[cond_eq_ite]at ha;split at ha
  ·rename_i h0;have h0:=f4s h0;subst h0;cases ha;simp only[VRel]at hd;obtain⟨a,c,rfl,bd,_,_⟩:=hd;obtain⟨cv,h1,h2⟩:=a9b r bI hx 0 (by omega);have aS:cv.toList=[]:=by have:=VRels.length h2;simpa using this.symm
   refine Val.here (c:=goInt 0) r ?_ (by simp[goInt,VRel]);have eY:Nat.min xs.length 0=0:=Nat.min_zero _;simp only[Builtin.copy_,f4h,f1p,f1q,Sem.run_bind,a0a ok w hu,Result.andThen_ok,ai,a36 ok w bp,eY,h1,aS];cases a<;>rfl
  split at ha
  case h_2=>cases ha
  rename_i kk rows hb;rw[cond_eq_ite]at ha;split at ha
  case isFalse=>cases ha
  rename_i cR;cases ha;simp only[e9l,f6k,f4k,f2p]at cR;obtain⟨⟨⟨rfl,bP⟩,fO⟩,aw⟩:=cR;simp only[VRel]at hd;obtain⟨a,c,rfl,bd,_,bT⟩:=hd;rcases bT with rfl|⟨m,hm,rfl,a8⟩
  ·omega
  have cJ:(xs.take len).length=Nat.min xs.length len:=by rw[f3f,Nat.min_comm]
  have pT:Nat.min xs.length len≤xs.length:=Nat.min_le_left _ _;have rK:Nat.min xs.length len≤len:=Nat.min_le_right _ _;obtain⟨cv,h1,h2⟩:=a9b r bI hx _ pT;have fg:xs.take (Nat.min xs.length len)=xs.take len:=by
   rcases Nat.le_total xs.length len with h|h
   ·rw[show Nat.min xs.length len=xs.length from Nat.min_eq_left h,f3a,f0f h]
   ·rw[show Nat.min xs.length len=len from Nat.min_eq_right h]
  rw[fg]at h2;obtain⟨w',ac,bm⟩:=b5y (n:=n) r hb hm (off:=off) (xs:=xs.take len) (by omega) h2 (λr hr=>eb r (List.mem_of_mem_take hr)) aw;refine⟨goInt (xs.take len).length,w',ρ,?_,bm,by simp[goInt,VRel],Moves.same _ _ _⟩;simp only[Builtin.copy_,f4h,f1p,f1q,Sem.run_bind,a0a ok w hu,Result.andThen_ok,ai,a36 ok w bp,h1,ac,Sem.run_pure,cJ]
 ·cases ha
def b75(E:Env)(h:FHeap)(t:TypeId)(x:AV):Option (AV×Eff):=
 match E.und t,x with
 |some (.slice _),.nilslice=>some (.tuple [],.none)
 |some (.slice aa),.slice b off len _=>bif Nat.beq len 0 then some (.tuple [],.none)else match E.zero aa with
  |some z=>match h b with
   |some (.row kk rows)=>bif kk==E.sz aa&&Nat.ble (off+len) rows.length&&z.all AV.storable then
    some (.tuple [],.set b (.row kk (rows.take off++List.replicate len z++rows.drop (off+(List.replicate len z).length))))else none
   |_=>none
  |none=>none
 |_,_=>none
theorem a7r{z:List AV}{zs:List Value}(hz:VRels I w ρ z zs):∀n:Nat,VRels I w ρ (List.replicate n z).flatten (List.replicate n zs).flatten
 |0=>by simp[VRels]
 |n+1=>by rw[f6o,f6o,f4a,f4a];exact VRels.append hz (a7r hz n)
theorem d2s(ok:EnvOk E)(r:HRel E.G I K ρ h w){t:TypeId}{x v:AV}{e:Eff}{cx:Value}(ty:TypeId)
 (ha:b75 E h t x=some (v,e))(hx:VRel I w ρ x cx):Val E I K ρ h n w (Builtin.clear_ #[t] ty #[cx]) v e:=by
 unfold b75 at ha;split at ha
 ·rename_i aa hu;cases ha;simp only[VRel]at hx;subst hx;refine Val.here (c:=.tuple #[]) r ?_ (by simp only[VRel];exact⟨#[],rfl,by simp[VRels]⟩);simp[Builtin.clear_,a0a ok w hu]
 ·rename_i aa b off len cap hu;simp only[VRel]at hx;obtain⟨a,c,rfl,bd,_,bT⟩:=hx;rw[cond_eq_ite]at ha;split at ha
  ·rename_i h0;have h0:=f4s h0;subst h0;cases ha;refine Val.here (c:=.tuple #[]) r ?_ (by simp only[VRel];exact⟨#[],rfl,by simp[VRels]⟩);simp[Builtin.clear_,a0a ok w hu]
  rename_i h0;have fO:len≠0:=λe=>h0 (by subst e;rfl);split at ha
  case h_2=>cases ha
  rename_i z hz;split at ha
  case h_2=>cases ha
  rename_i kk rows hb;rw[cond_eq_ite]at ha;split at ha
  case isFalse=>cases ha
  rename_i cR;cases ha;simp only[e9l,f6k,f4k]at cR;obtain⟨⟨rfl,bP⟩,aw⟩:=cR;rcases bT with rfl|⟨m,hm,rfl,a8⟩
  ·omega
  obtain⟨z',ey,i8,d6⟩:=a6y ok w hz;have dD:=List.length_replicate (n:=len) (a:=z);obtain⟨w',ac,bm⟩:=b5y (n:=n) r hb hm (off:=off) (xs:=List.replicate len z) (new:=(List.replicate len z'.cells.toList).flatten) (by omega) (a7r (VRels.noRef_any (d6 I w)) len)
   (λr hr=>by rw[f4n hr];exact i8) (by rw[f2u];intro r hr;rw[f4n hr];exact aw)
  refine⟨.tuple #[],w',ρ,?_,bm,by simp only[VRel];exact⟨#[],rfl,by simp[VRels]⟩,Moves.same _ _ _⟩;obtain⟨sO,rfl⟩:∃l,len=l+1:=⟨len-1,by omega⟩
  simp only[Builtin.clear_,f4h,f1p,Sem.run_bind,a0a ok w hu,Result.andThen_ok,ey,a4x,ac,Sem.run_pure]
 ·cases ha
end
end Go.Ax
/- AxMap: maps with d3y keys: lookup, update, delete. -/
namespace Go.Ax
section
variable {E:Env}{I K:Nat→Prop}{ρ:PMap}{h:FHeap}{n:Nat}{w:World}
def a5u:TypeDesc→Bool
 |.int _|.string|.bool=>true
 |_=>false
def c6d(E:Env)(t:TypeId):Bool:=
 match E.und t with
 |some (.struct fs)=>E.eqok t&&fs.toList.all λf=>match E.und f.type with|some d=>a5u d|none=>false
 |some d=>a5u d
 |none=>false
def c58:AV→AV→Bool
 |.int k a,.int k' b=>k==k'&&a==b
 |.str a,.str b=>a==b
 |.bool a,.bool b=>a==b
 |_,_=>false
def b72:List AV→List AV→Bool
 | [],[]=>true
 |a::as,b::bs=>c58 a b&&b72 as bs
 |_,_=>false
def d6o:AV→AV→Bool
 |.agg a,.agg b=>b72 a b
 |a,b=>c58 a b
theorem c1f{a b:AV}(hs:c58 a b=true){ca cb:Value}(ha:VRel I w ρ a ca)(hb:VRel I w ρ b cb):ca=cb∧∀m,Instr.sameBits m ca cb=true:=by
 unfold c58 at hs;split at hs
 ·simp only[e9l,f6k]at hs;obtain⟨rfl,rfl⟩:=hs;simp only[VRel]at ha hb;subst ha hb;exact⟨rfl,λm=>by cases m<;>simp[Instr.sameBits]⟩
 ·simp only[f6k]at hs;subst hs;simp only[VRel]at ha hb;obtain⟨t,rfl,ht⟩:=ha;obtain⟨t',rfl,rv⟩:=hb;have:t=t':=by
   cases t;cases t';simp only[ByteArray.mk.injEq];exact Array.toList_inj.1 (ht.trans rv.symm)
  subst this;exact⟨rfl,λm=>by cases m<;>simp[Instr.sameBits,b4n]⟩
 ·simp only[f6k]at hs;subst hs;simp only[VRel]at ha hb;subst ha hb;exact⟨rfl,λm=>by cases m<;>simp[Instr.sameBits]⟩
 ·cases hs
theorem c1e:∀{as bs:List AV} {cs ds:List Value},b72 as bs=true→VRels I w ρ as cs→VRels I w ρ bs ds→
 cs=ds∧∀m,(cs.zip ds).all (λ(x,y)=>Instr.sameBits m x y)=true
 | [],[],cs,ds,_,ha,hb=>by simp only[VRels]at ha hb;subst ha hb;exact⟨rfl,by simp⟩
 |a::as,b::bs,cs,ds,hs,ha,hb=>by simp only[VRels]at ha hb;obtain⟨c,aJ,rfl,h1,h2⟩:=ha;obtain⟨d,uP,rfl,h3,h4⟩:=hb;simp only[b72,e9l]at hs;obtain⟨rfl,h5⟩:=c1f hs.1 h1 h3;obtain⟨rfl,h6⟩:=c1e hs.2 h2 h4;exact⟨rfl,λm=>by simp only[List.zip_cons_cons,List.all_cons,h5 m,f5n];exact h6 m⟩
 | [],_::_,cs,ds,hs,_,_=>by simp[b72]at hs
 |_::_,[],cs,ds,hs,_,_=>by simp[b72]at hs
theorem d6n{a b:AV}(hs:d6o a b=true){ca cb:Value}(ha:VRel I w ρ a ca)(hb:VRel I w ρ b cb):ca=cb∧Instr.sameBits 10000 ca cb=true:=by
 unfold d6o at hs;split at hs
 ·simp only[VRel]at ha hb;obtain⟨ca,rfl,ha⟩:=ha;obtain⟨cb,rfl,hb⟩:=hb;obtain⟨he,h1⟩:=c1e hs ha hb;have he:ca=cb:=Array.toList_inj.1 he;subst he;refine⟨rfl,?_⟩;show(ca.size==ca.size&&(ca.toList.zip ca.toList).all λ(x,y)=>Instr.sameBits 9999 x y)=true;rw[h1 9999];simp
 ·obtain⟨h1,h2⟩:=c1f hs ha hb;exact⟨h1,h2 10000⟩
def a29(eq:AV→AV→Option Bool)(k:AV):List AV→Nat→Option (Option Nat)
 | [],_=>some none
 |x::xs,i=>match eq k x with
  |some q=>bif q then some (some i)else a29 eq k xs (i+1)
  |none=>none
theorem a9x(ok:EnvOk E){kt:TypeId}{k:AV}{ck:Value}(hk:VRel I w ρ k ck):∀{ks:List AV} {es:List MapEntry} {i:Nat} {r:Option Nat},
 a29 (aeq E 6 kt) k ks i=some r→VRels I w ρ ks (es.map (·.key))→
 (Instr.findAsking kt ck es i).run E.P w = .ok (r.map λj=>(j,((es[j-i]?).map (·.val)).getD undef)) w∧∀j,r=some j→i≤j∧j-i<es.length
 | [],es,i,r,hf,cK=>by simp only[VRels,f7e]at cK;subst cK;simp only[a29,Option.some.injEq]at hf;subst hf;exact⟨rfl,by simp⟩
 |x::ks,es,i,r,hf,cK=>by
  cases es with
  |nil=>simp[VRels]at cK
  |cons e es=>
   simp only[e12,VRels,List.cons.injEq]at cK;obtain⟨c,cs,⟨rfl,rfl⟩,hx,cK⟩:=cK;simp only[a29]at hf;split at hf
   case h_2=>cases hf
   rename_i q hq;have cQ:=a56 ok hq hk hx;unfold Instr.findAsking;simp only[Sem.run_bind,cQ,Result.andThen_ok];cases q with
   |true=>simp only[f2m,Option.some.injEq]at hf;subst hf;exact⟨by simp,by simp⟩
   |false=>
    simp only[f2z]at hf;obtain⟨h1,h2⟩:=a9x ok hk (es:=es) hf cK;simp only[f3l,f7c];rw[h1];refine⟨?_,λj hj=>?_⟩
    ·cases r with
     |none=>rfl
     |some j=>obtain⟨h3,h4⟩:=h2 j rfl;simp only[f0e];rw[show j-i=(j-(i+1))+1 by omega];simp
    ·obtain⟨h3,h4⟩:=h2 j hj;simp;omega
theorem e22{t:TypeId}{k0:IntKind}(hu:E.und t=some (.int k0)){d:Nat}{x y:AV}{q:Bool}(hq:aeq E (d+1) t x y=some q):∃k a b,x = .int k a∧y = .int k b∧q=(a==b):=by
 unfold aeq at hq;rw[hu]at hq;split at hq
 case h_2=>
  rw[cond_eq_ite]at hq;split at hq
  ·rename_i hk;cases hq;have hk:=eq_of_beq hk;subst hk;exact⟨_,_,_,rfl,rfl,rfl⟩
  ·cases hq
 all_goals (try simp only[Option.some.injEq]at *);subst_vars;simp_all[a2l]
theorem e21{t:TypeId}(hu:E.und t=some .string){d:Nat}{x y:AV}{q:Bool}(hq:aeq E (d+1) t x y=some q):∃a b,x = .str a∧y = .str b∧q=(a==b):=by
 unfold aeq at hq;rw[hu]at hq;split at hq
 case h_3=>cases hq;exact⟨_,_,rfl,rfl,rfl⟩
 all_goals (try simp only[Option.some.injEq]at *);subst_vars;simp_all[a2l]
theorem d6w{t:TypeId}(hu:E.und t=some .bool){d:Nat}{x y:AV}{q:Bool}(hq:aeq E (d+1) t x y=some q):∃a b,x = .bool a∧y = .bool b∧q=(a==b):=by
 unfold aeq at hq;rw[hu]at hq;split at hq
 case h_1=>cases hq;exact⟨_,_,rfl,rfl,rfl⟩
 all_goals (try simp only[Option.some.injEq]at *);subst_vars;simp_all[a2l]
theorem c5s{d:TypeDesc}(hd:a5u d=true){kt:TypeId}(hu:E.und kt=some d){k x:AV}{ck cx:Value}{q:Bool}(hk:VRel I w ρ k ck)(hx:VRel I w ρ x cx)
 (hq:aeq E 6 kt k x=some q):Instr.sameNow d ck cx=some q:=by
 cases d<;>simp[a5u]at hd
 ·obtain⟨a,b,rfl,rfl,rfl⟩:=d6w hu hq;simp only[VRel]at hk hx;subst hk hx;rfl
 ·obtain⟨kk,a,b,rfl,rfl,rfl⟩:=e22 hu hq;simp only[VRel]at hk hx;subst hk hx;simp[Instr.sameNow]
 ·obtain⟨a,b,rfl,rfl,rfl⟩:=e21 hu hq;simp only[VRel]at hk hx;obtain⟨t,rfl,rfl⟩:=hk;obtain⟨t',rfl,rfl⟩:=hx;simp only[Instr.sameNow,b4n]
theorem b6q{k:AV}{ck:Value}{d:TypeDesc}(hd:a5u d=true){kt:TypeId}(hu:E.und kt=some d)(hk:VRel I w ρ k ck):∀{ks:List AV} {es:List MapEntry} {i:Nat} {r:Option Nat},
 a29 (aeq E 6 kt) k ks i=some r→VRels I w ρ ks (es.map (·.key))→
 Instr.findNow d ck es i=some (r.map λj=>(j,((es[j-i]?).map (·.val)).getD undef))∧∀j,r=some j→i≤j∧j-i<es.length
 | [],es,i,r,hf,cK=>by simp only[VRels,f7e]at cK;subst cK;simp only[a29,Option.some.injEq]at hf;subst hf;exact⟨rfl,by simp⟩
 |x::ks,es,i,r,hf,cK=>by
  cases es with
  |nil=>simp[VRels]at cK
  |cons e es=>
   simp only[e12,VRels,List.cons.injEq]at cK;obtain⟨c,cs,⟨rfl,rfl⟩,hx,cK⟩:=cK;simp only[a29]at hf;split at hf
   case h_2=>cases hf
   rename_i q hq;have aj:=c5s hd hu hk hx hq;unfold Instr.findNow;rw[aj];cases q with
   |true=>simp only[f2m,Option.some.injEq]at hf;subst hf;exact⟨by simp,by simp⟩
   |false=>
    simp only[f2z]at hf;obtain⟨h1,h2⟩:=b6q hd hu hk (es:=es) hf cK;dsimp only;rw[h1];refine⟨?_,λj hj=>?_⟩
    ·cases r with
     |none=>rfl
     |some j=>obtain⟨h3,h4⟩:=h2 j rfl;simp only[f0e];rw[show j-i=(j-(i+1))+1 by omega];simp
    ·obtain⟨h3,h4⟩:=h2 j hj;simp;omega
theorem b59{ck:Value}{fs:Array Field}:∀(es:List MapEntry) (i:Nat),Instr.findNow (.struct fs) ck es i=if es=[]then some none else none
 | [],i=>by simp[Instr.findNow]
 |e::es,i=>by simp[Instr.findNow,Instr.sameNow]
theorem b12(ok:EnvOk E){kt:TypeId}(oT:c6d E kt=true){k:AV}{ck:Value}(hk:VRel I w ρ k ck){ks:List AV}{es:List MapEntry}{r:Option Nat}
 (hf:a29 (aeq E 6 kt) k ks 0=some r)(cK:VRels I w ρ ks (es.map (·.key))) :
 (Instr.findKey kt ck es).run E.P w = .ok (r.map λj=>(j,((es[j]?).map (·.val)).getD undef)) w∧∀j,r=some j→j<es.length:=by
 unfold c6d at oT;split at oT
 ·rename_i fs hu;obtain⟨h1,h2⟩:=a9x ok hk hf cK;refine⟨?_,λj hj=>(h2 j hj).2⟩;unfold Instr.findKey;simp only[Sem.run_bind,a0a ok w hu,Result.andThen_ok,b59];by_cases he:es=[]
  ·subst he;simp at cK;have:ks=[]:=by cases ks with|nil=>rfl|cons a b=>simp[VRels]at cK
   subst this;simp only[a29,Option.some.injEq]at hf;subst hf;simp
  ·simp only[he,f7c];simpa using h1
 ·rename_i d _ hu;obtain⟨h1,h2⟩:=b6q oT hu hk hf cK;refine⟨?_,λj hj=>(h2 j hj).2⟩;unfold Instr.findKey;simp only[Sem.run_bind,a0a ok w hu,Result.andThen_ok,h1];simp
 ·cases oT
theorem a3v(ok:EnvOk E){t:TypeId}{d:TypeDesc}(hd:a5u d=true)(hu:E.und t=some d)(b:Bool)(m:Nat)(c:Value):(Instr.checkKey b (m+1) t c).run E.P w = .ok () w:=by unfold Instr.checkKey;simp only[Sem.run_bind,a0a ok w hu,Result.andThen_ok];cases d<;>simp[a5u]at hd<;>rfl
def b29(E:Env):List Field→List AV→Bool
 | [],_=>true
 |f::fs,cs=>(a2k E f.type ((cs.drop f.offset).take (E.sz f.type))).isSome&&b29 E fs cs
def c47(E:Env)(t:TypeId)(x:AV):Bool:=
 match E.und t,x with
 |some (.struct fs),.agg cs=>b29 E fs.toList cs
 |some (.struct _),_=>false
 |_,_=>true
theorem b4k(ok:EnvOk E){t:TypeId}(ht:c6d E t=true){x:AV}{c:Value}(hx:VRel I w ρ x c)(hv:c47 E t x=true)(b:Bool):(Instr.checkKey b 10000 t c).run E.P w = .ok () w:=by
 unfold c6d at ht;split at ht
 ·rename_i fs hu;simp only[e9l]at ht;unfold c47 at hv;rw[hu]at hv;cases x<;>simp at hv;rename_i cs;simp only[VRel]at hx;obtain⟨cv,rfl,hc⟩:=hx;obtain⟨_,_,_,gd⟩:=ok.eqok t ht.1;unfold Instr.checkKey;simp only[Sem.run_bind,a0a ok w hu,Result.andThen_ok];have key:∀(l:List Field),(∀f∈l,f∈fs.toList)→b29 E l cs=true→
   (forIn l () (λf _=>if f.name≠ "_" then do
    Instr.checkKey b 9999 f.type (←part f.type cv f.offset)
    pure (ForInStep.yield ())
    else pure (ForInStep.yield ()):Field→Unit→Sem (ForInStep Unit))).run E.P w = .ok () w:=by
   intro l
   induction l with
   |nil=>intro _ _;simp
   |cons f l ih=>
    intro hm hp;simp only[b29,e9l]at hp;obtain⟨v,hv⟩:=f0c.1 hp.1;obtain⟨cc,h1,_⟩:=a8i ok hv hc;have hf:=hm f (by simp);have mW:=f2u.1 ht.2 f hf;split at mW
    case h_2=>cases mW
    rename_i d hd;have iD:=gd fs hu f hf;rw[List.forIn_cons];simp only[ne_eq,iD,not_false_eq_true,f4b,Sem.run_bind,h1,Result.andThen_ok,a3v ok mW hd,Sem.run_pure];exact ih (λg hg=>hm g (by simp[hg])) hp.2
  rw[←Array.forIn_toList];exact(congrArg (λr=>Result.andThen r (λ_ w'=>(pure ():Sem Unit).run E.P w')) (key fs.toList (λ_ h=>h) hv)).trans rfl
 ·rename_i d _ hu;exact a3v ok ht hu b 9999 c
 ·cases ht
def b74(h:FHeap):AV→Option (List AV×List AV)
 |.nilmap=>some ([],[])
 |.imap ks vs _ _=>some (ks,vs)
 |.map b=>match h b with
  |some (.map ks vs _ _)=>some (ks,vs)
  |_=>none
 |_=>none
def a7j(E:Env)(h:FHeap)(t:TypeId)(x k:AV)(ok:Bool):Option AV:=
 match E.und t with
 |some (.map kt et)=>bif c6d E kt&&c47 E kt k then
  match b74 h x,E.zero et,E.und et with
  |some (ks,vs),some z,some d=>match a29 (aeq E 6 kt) k ks 0 with
   |some (some i)=>match vs[i]? with
    |some v=>some (bif ok then .tuple [v,.bool true]else v)
    |none=>none
   |some none=>bif a2d d then some (bif ok then .tuple [.agg z,.bool false]else .agg z)else
    match z with
    | [v]=>some (bif ok then .tuple [v,.bool false]else v)
    |_=>none
   |none=>none
  |_,_,_=>none
  else none
 |_=>none
theorem d2i(r:HRel E.G I K ρ h w){x:AV}{ks vs:List AV}{c:Value}(ha:b74 h x=some (ks,vs))(hx:VRel I w ρ x c) :
 (c = .map none∧ks=[]∧vs=[])∨∃b es cl,c = .map (some b)∧w.heap[b]?=some (.map es cl)∧VRels I w ρ ks (es.toList.map (·.key))∧VRels I w ρ vs (es.toList.map (·.val)):=by
 unfold b74 at ha;split at ha
 ·cases ha;simp only[VRel]at hx;exact .inl ⟨hx,rfl,rfl⟩
 ·cases ha;simp only[VRel]at hx;obtain⟨b,es,rfl,_,he,h1,h2,_⟩:=hx;exact .inr ⟨b,es,_,rfl,he,VRels.noRef_any h1,VRels.noRef_any h2⟩
 ·rename_i b;split at ha
  case h_2=>cases ha
  rename_i jh d5 bs cl hb;cases ha;simp only[VRel]at hx;obtain⟨m,hm,rfl⟩:=hx;obtain⟨m',aV,_,_,ho⟩:=r.live b _ hb;obtain rfl:m=m':=z9o (hm.symm.trans aV);obtain⟨es,he,h1,h2,_⟩:=ho;exact .inr ⟨m.blk,es,cl,rfl,he,h1,h2⟩
 ·cases ha
theorem b79(ok:EnvOk E){t:TypeId}{d:TypeDesc}{z:List AV}{zv:Value}(hd:E.und t=some d)(hz:E.zero t=some z)(ew:(zeroValue t).run E.P w = .ok zv w) :
 (a2d d=true→∃a,zv = .agg a)∧(a2d d=false→zv.cells = #[zv]):=by
 obtain⟨_,i,z',hi,ey,_⟩:=ok.zero t z hz;have:zv=z':=by simp[zeroValue,typeInfo,hi,ey]at ew;exact ew.symm
 subst this;exact ok.zshape t d i zv hd hi ey
theorem c7c(ok:EnvOk E)(r:HRel E.G I K ρ h w){t:TypeId}{x k v:AV}{c ck:Value}{b:Bool}(hv:a7j E h t x k b=some v)(hx:VRel I w ρ x c)(hk:VRel I w ρ k ck) :
 Val E I K ρ h n w (Instr.lookup t c ck b) v .none:=by
 unfold a7j at hv;split at hv
 case h_2=>cases hv
 rename_i kt et hu;rw[cond_eq_ite]at hv;split at hv
 case isFalse=>cases hv
 rename_i bZ;simp only[e9l]at bZ;split at hv
 case h_2=>cases hv
 rename_i ks vs z d hm hz hd;obtain⟨zv,ew,_,bA⟩:=a6y ok w hz;have d6:VRels I w ρ z zv.cells.toList:=VRels.noRef_any (bA I w);have jg:∃es:List MapEntry,((c = .map none∧es=[])∨∃b cl,c = .map (some b)∧w.heap[b]?=some (.map es.toArray cl))∧VRels I w ρ ks (es.map (·.key))∧VRels I w ρ vs (es.map (·.val)):=by
  rcases d2i r hm hx with ⟨rfl,rfl,rfl⟩|⟨b,es,cl,rfl,he,h1,h2⟩
  ·exact⟨[],.inl ⟨rfl,rfl⟩,by simp[VRels],by simp[VRels]⟩
  ·exact⟨es.toList,.inr ⟨b,cl,rfl,by simpa using he⟩,h1,h2⟩
 obtain⟨es,ac,cK,eH⟩:=jg;cases hf:a29 (aeq E 6 kt) k ks 0 with
 |none=>simp[hf]at hv
 |some ri=>
  obtain⟨er,ag⟩:=b12 ok bZ.1 hk hf cK;have bG:=b4k ok bZ.1 hk bZ.2 es.toArray.isEmpty;simp only[hf]at hv;cases ri with
  |some i=>
   simp only at hv;cases kD:vs[i]? with
   |none=>simp[kD]at hv
   |some v0=>
    simp only[kD,Option.some.injEq]at hv;obtain⟨cv,aS,lV⟩:=VRels.get i eH kD;have cq:((es[i]?).map (·.val)).getD undef=cv:=by rw[f0d]at aS;rw[aS];rfl
    refine Val.here (c:=if b then .tuple #[cv,.bool true]else cv) r ?_ ?_
    ·rcases ac with ⟨rfl,rfl⟩|⟨b',cl,rfl,he⟩
     ·simp at aS
     ·simp only[Instr.lookup,Sem.run_bind,a0a ok w hu,Result.andThen_ok,getObj,Sem.run,he,Sem.run_pure,bG,er,f0e,cq]
    ·subst hv;cases b
     ·exact lV
     ·simp only[f2m,f4b,VRel];exact⟨_,rfl,by simp only[VRels];exact⟨_,_,rfl,lV,_,_,rfl,by simp[VRel],rfl⟩⟩
  |none=>
   simp only at hv;have ni:(Instr.lookup t c ck b).run E.P w = .ok (if b then .tuple #[zv,.bool false]else zv) w:=by
    rcases ac with ⟨rfl,rfl⟩|⟨b',cl,rfl,he⟩
    ·simp only[Instr.lookup,Sem.run_bind,a0a ok w hu,Result.andThen_ok,Sem.run_pure,bG,er,Option.map_none,ew]
    ·simp only[Instr.lookup,Sem.run_bind,a0a ok w hu,Result.andThen_ok,getObj,Sem.run,he,Sem.run_pure,bG,er,Option.map_none,ew]
   have fin:∀v0,VRel I w ρ v0 zv→(bif b then AV.tuple [v0,.bool false]else v0)=v→Val E I K ρ h n w (Instr.lookup t c ck b) v .none:=by
    intro v0 h0 mM;refine Val.here r ni ?_;subst mM;cases b
    ·exact h0
    ·simp only[f2m,f4b,VRel];exact⟨_,rfl,by simp only[VRels];exact⟨_,_,rfl,h0,_,_,rfl,by simp[VRel],rfl⟩⟩
   rw[cond_eq_ite]at hv;split at hv
   ·rename_i dC;obtain⟨a,rfl⟩:=(b79 ok hd hz ew).1 dC;simp only[Option.some.injEq]at hv;exact fin (.agg z) (by simp only[VRel];exact⟨a,rfl,d6⟩) hv
   ·rename_i dC;split at hv
    case h_2=>cases hv
    rename_i v0 _;simp only[Option.some.injEq]at hv;have hc:=(b79 ok hd hz ew).2 (by simpa using dC);rw[hc]at d6;simp only[VRels]at d6;obtain⟨c0,cs0,he,h0,_⟩:=d6;simp only[List.cons.injEq]at he;exact fin v0 (by rw[he.1];exact h0) hv
end
end Go.Ax
/- AxMap2: maps that are b2j. -/
namespace Go.Ax
section
variable {E:Env}{I K:Nat→Prop}{ρ:PMap}{h:FHeap}{n:Nat}{w:World}
def b1t(E:Env)(h:FHeap)(t:TypeId)(m k:AV):Option (Nat×List AV×List AV×List Nat×Nat×Option Nat):=
 match E.und t,m with
 |some (.map kt _),.map b=>bif c6d E kt&&c47 E kt k then
  match h b with
  |some (.map ks vs bs cl)=>match a29 (aeq E 6 kt) k ks 0 with
   |some (some i)=>match ks[i]? with
    |some k0=>bif d6o k0 k then some (b,ks,vs,bs,cl,some i)else none
    |none=>none
   |some none=>some (b,ks,vs,bs,cl,none)
   |none=>none
  |_=>none
  else none
 |_,_=>none
def a2o(E:Env)(h:FHeap)(t:TypeId)(m k v:AV):Option Eff:=
 match b1t E h t m k with
 |some (b,ks,vs,bs,cl,some i)=>some (.set b (.map ks (vs.set i v) bs cl))
 |some (b,ks,vs,bs,cl,none)=>some (.set b (.map (ks++[k]) (vs++[v]) (bs++[cl]) (cl+1)))
 |none=>none
theorem a4p{ks:List AV}{es:Array MapEntry}(i:Nat)(f:MapEntry→MapEntry)(hf:∀e,es[i]?=some e→(f e).key=e.key)(hk:VRels I w ρ ks (es.toList.map (·.key))) :
 VRels I w ρ ks ((es.modify i f).toList.map (·.key)):=by
 have:(es.modify i f).toList.map (·.key)=es.toList.map (·.key):=by
  apply f3g;intro j;simp only[f0d,f5p,Array.getElem?_modify];split
  ·rename_i hj;subst hj;cases he:es[i]? with
   |none=>simp
   |some e=>simp[hf e he]
  ·rfl
 rw[this];exact hk
theorem a69{vs:List AV}{v:AV}{c:Value}{es:Array MapEntry}(i:Nat)(f:MapEntry→MapEntry)(hf:∀e,(f e).val=c)(hv:VRel I w ρ v c)(hk:VRels I w ρ vs (es.toList.map (·.val))) :
 VRels I w ρ (vs.set i v) ((es.modify i f).toList.map (·.val)):=by
 have:(es.modify i f).toList.map (·.val)=(es.toList.map (·.val)).set i c:=by
  apply f3g;intro j;simp only[f0d,f5p,Array.getElem?_modify,f2v,c11,f2t];split
  ·rename_i hj;subst hj;split
   ·rename_i ag;simp[ag,hf]
   ·rename_i ag;simp[Array.getElem?_eq_none (Nat.le_of_not_lt ag)]
  ·rfl
 rw[this];exact VRels.set i hk hv
theorem a87{es:Array MapEntry}(i:Nat)(f:MapEntry→MapEntry)(hf:∀e,(f e).born=e.born):(es.modify i f).toList.map (·.born)=es.toList.map (·.born):=by
 apply f3g;intro j;simp only[f0d,f5p,Array.getElem?_modify];split
 ·rename_i hj;subst hj;cases es[i]?<;>simp[hf]
 ·rfl
theorem a3f{b:Nat}{es:Array MapEntry}{cl:Nat}(o:Obj)(he:w.heap[b]?=some (.map es cl)):(setObj b o).run E.P w = .ok () { w with heap:=w.heap.setIfInBounds b o }:=by simp[setObj,Sem.run,he]
theorem a5n(r:HRel E.G I K ρ h w){b:Nat}{m:Pl}{o0:AObj}(hb:h b=some o0)(hm:ρ b=some m){es cP:Array MapEntry}{cl fS:Nat}(he:w.heap[m.blk]?=some (.map es cl))
 {ks vs:List AV}{bs:List Nat}(hk:VRels I w ρ ks (cP.toList.map (·.key)))(hv:VRels I w ρ vs (cP.toList.map (·.val)))(qC:cP.toList.map (·.born)=bs) :
 Stepped E.G I K ρ w I ρ (h.eff n (.set b (.map ks vs bs fS))) { w with heap:=w.heap.setIfInBounds m.blk (.map cP fS) }:=by
 have ag:m.blk<w.heap.size:=(f3d.1 he).1;obtain⟨m',aV,dg,_,_⟩:=r.live b _ hb;obtain rfl:m=m':=z9o (hm.symm.trans aV);have bK:∀c,c≠m.blk→({ w with heap:=w.heap.setIfInBounds m.blk (.map cP fS) }:World).heap[c]?=w.heap[c]?:=by intro c hc;show(w.heap.setIfInBounds _ _)[c]?=_;rw[f3c,f0j (λh=>hc h.symm)]
 have bM:∀c,I c→({ w with heap:=w.heap.setIfInBounds m.blk (.map cP fS) }:World).heap[c]?=w.heap[c]?:=λc hc=>bK c (λe=>dg (e▸hc));refine a22 r hb hm (by simp) bK rfl rfl rfl ?_;refine⟨cP,?_,VRels.mono (λ_ h=>h) bM ks (λ_ _ h=>h) hk,VRels.mono (λ_ h=>h) bM vs (λ_ _ h=>h) hv,qC⟩;show(w.heap.setIfInBounds _ _)[_]?=_;rw[f3c,f1r rfl,f1r ag]
theorem b04(ok:EnvOk E)(r:HRel E.G I K ρ h w){t:TypeId}{m k:AV}{c ck:Value}{b cl:Nat}{ks vs:List AV}{bs:List Nat}{oi:Option Nat}
 (hp:b1t E h t m k=some (b,ks,vs,bs,cl,oi))(hm:VRel I w ρ m c)(hk:VRel I w ρ k ck) :
 ∃(pl:Pl) (es:Array MapEntry) (kt et:TypeId),c = .map (some pl.blk)∧h b=some (.map ks vs bs cl)∧ρ b=some pl∧w.heap[pl.blk]?=some (.map es cl)∧
  VRels I w ρ ks (es.toList.map (·.key))∧VRels I w ρ vs (es.toList.map (·.val))∧es.toList.map (·.born)=bs∧(underlying t).run E.P w = .ok (.map kt et) w∧E.und t=some (.map kt et)∧
  (Instr.checkKey false 10000 kt ck).run E.P w = .ok () w∧
  (Instr.findKey kt ck es.toList).run E.P w = .ok (oi.map λj=>(j,((es.toList[j]?).map (·.val)).getD undef)) w∧
  (∀i,oi=some i→∃e,es[i]?=some e∧e.key=ck∧Instr.sameBits 10000 e.key ck=true):=by
 unfold b1t at hp;split at hp
 case h_2=>cases hp
 rename_i kt et b' hu;rw[cond_eq_ite]at hp;split at hp
 case isFalse=>cases hp
 rename_i bZ;simp only[e9l]at bZ;split at hp
 case h_2=>cases hp
 rename_i jh d5 un fS hb;simp only[VRel]at hm;obtain⟨pl,dz,rfl⟩:=hm;obtain⟨m',aV,_,_,ho⟩:=r.live b' _ hb;obtain rfl:pl=m':=z9o (dz.symm.trans aV);obtain⟨es,he,h1,h2,h3⟩:=ho;have bG:=b4k (w:=w) ok bZ.1 hk bZ.2 false;split at hp
 ·rename_i i hf;split at hp
  case h_2=>cases hp
  rename_i k0 hk0;rw[cond_eq_ite]at hp;split at hp
  case isFalse=>cases hp
  rename_i hs;cases hp;obtain⟨er,ag⟩:=b12 ok bZ.1 hk hf h1;obtain⟨cv,aS,lV⟩:=VRels.get i h1 hk0;obtain⟨cQ,kM⟩:=d6n hs lV hk;rw[f0d]at aS;cases hE:es.toList[i]? with
  |none=>rw[hE]at aS;cases aS
  |some e=>rw[hE]at aS;simp only[f0e,Option.some.injEq]at aS;refine⟨pl,es,kt,et,rfl,hb,dz,he,h1,h2,h3,a0a ok w hu,hu,bG,er,?_⟩;intro i' gQ;cases gQ;exact⟨e,by simpa using hE,by rw[aS];exact cQ,by rw[aS];exact kM⟩
 ·rename_i hf;cases hp;obtain⟨er,ag⟩:=b12 ok bZ.1 hk hf h1;exact⟨pl,es,kt,et,rfl,hb,dz,he,h1,h2,h3,a0a ok w hu,hu,bG,er,λi hi=>by cases hi⟩
 ·cases hp
theorem b07(ok:EnvOk E)(r:HRel E.G I K ρ h w){t:TypeId}{m k v:AV}{c ck cv:Value}{e:Eff}(hu:a2o E h t m k v=some e)(hm:VRel I w ρ m c)(hk:VRel I w ρ k ck)(hv:VRel I w ρ v cv) :
 e6l E I K ρ h n w (Instr.mapUpdate t c ck cv) e:=by
 unfold a2o at hu;split at hu
 ·rename_i b ks vs bs cl i hp;cases hu;obtain⟨pl,es,kt,et,rfl,hb,dz,he,h1,h2,h3,eT,_,bG,er,hi⟩:=b04 ok r hp hm hk;obtain⟨e,hE,qr,kM⟩:=hi i rfl;refine⟨_,ρ,?_,a5n (cP:=es.modify i λe=>{ e with key:=ck,val:=cv }) r hb dz he ?_ ?_ ?_,Moves.same _ _ _⟩
  ·have:((es[i]?).map (·.key)).getD ck=e.key:=by simp[hE]
   simp only[Instr.mapUpdate,Sem.run_bind,eT,Result.andThen_ok,getObj,Sem.run,he,bG,er,f0e,this,Instr.keyThatStays,kM,f4b,Sem.run_pure,a3f _ he]
  ·exact a4p i _ (λe' eD=>by rw[hE]at eD;cases eD;exact qr.symm) h1
  ·exact a69 i _ (λ_=>rfl) hv h2
  ·exact(a87 (es:=es) i (λe=>{ e with key:=ck,val:=cv }) (λ_=>rfl)).trans h3
 ·rename_i b ks vs bs cl hp;cases hu;obtain⟨pl,es,kt,et,rfl,hb,dz,he,h1,h2,h3,eT,_,bG,er,_⟩:=b04 ok r hp hm hk;refine⟨_,ρ,?_,a5n (cP:=es.push { key:=ck,val:=cv,born:=cl }) (fS:=cl+1) r hb dz he ?_ ?_ ?_,Moves.same _ _ _⟩
  ·simp only[Instr.mapUpdate,Sem.run_bind,eT,Result.andThen_ok,getObj,Sem.run,he,bG,er,Option.map_none,a3f _ he]
  ·simp only[f6p,f2o,e12,e9p];exact VRels.append h1 (by simp only[VRels];exact⟨_,_,rfl,hk,rfl⟩)
  ·simp only[f6p,f2o,e12,e9p];exact VRels.append h2 (by simp only[VRels];exact⟨_,_,rfl,hv,rfl⟩)
  ·simp[h3]
 ·cases hu
def c1n(d:TypeDesc)(z:List AV):Option AV:=bif a2d d then some (.agg z)else match z with|[v]=>some v|_=>none
def b08(E:Env)(h:FHeap)(t:TypeId)(m k:AV):Option (AV×Eff):=
 match b1t E h t m k with
 |some (b,ks,vs,bs,cl,some i)=>match vs[i]?,bs[i]? with
  |some v,some s=>some (.tuple [v,.int .i64 s],.set b (.map ks vs bs cl))
  |_,_=>none
 |some (b,ks,vs,bs,cl,none)=>match E.und t with
  |some (.map _ et)=>match E.zero et,E.und et with
   |some z,some d=>match c1n d z with
    |some v=>some (.tuple [v,.int .i64 cl],.set b (.map (ks++[k]) (vs++[v]) (bs++[cl]) (cl+1)))
    |none=>none
   |_,_=>none
  |_=>none
 |none=>none
theorem d33(ok:EnvOk E){t:TypeId}{d:TypeDesc}{z:List AV}{v:AV}(hd:E.und t=some d)(hz:E.zero t=some z)
 (hv:c1n d z=some v):∃zv,(∀w',(zeroValue t).run E.P w' = .ok zv w')∧∀I w' ρ,VRel I w' ρ v zv:=by
 obtain⟨_,i,z',hi,ey,_,bA⟩:=ok.zero t z hz;have ac:∀w',(zeroValue t).run E.P w' = .ok z' w':=λw'=>by simp[zeroValue,typeInfo,hi,ey]
 obtain⟨s1,s2⟩:=ok.zshape t d i z' hd hi ey;refine⟨z',ac,λI w' ρ=>?_⟩;have d6:VRels I w' ρ z z'.cells.toList:=VRels.noRef_any (bA I w');unfold c1n at hv;rw[cond_eq_ite]at hv;split at hv
 ·rename_i dC;obtain⟨a,rfl⟩:=s1 dC;simp only[Option.some.injEq]at hv;subst hv;simp only[VRel];exact⟨a,rfl,d6⟩
 ·rename_i dC;split at hv
  case h_2=>cases hv
  cases hv;rw[s2 (by simpa using dC)]at d6;simp only[VRels]at d6;obtain⟨c0,cs0,he,h0,_⟩:=d6;simp only[List.cons.injEq]at he;rw[he.1];exact h0
theorem c1j(ok:EnvOk E)(r:HRel E.G I K ρ h w){t:TypeId}{m k v:AV}{c ck:Value}{e:Eff}(hu:b08 E h t m k=some (v,e))(hm:VRel I w ρ m c)(hk:VRel I w ρ k ck) :
 Val E I K ρ h n w (Instr.mapEntry t c ck) v e:=by
 unfold b08 at hu;split at hu
 ·rename_i b ks vs bs cl i hp;split at hu
  case h_2=>cases hu
  rename_i v0 s mM hs;cases hu;obtain⟨pl,es,kt,et,rfl,hb,dz,he,h1,h2,h3,eT,_,bG,er,hi⟩:=b04 ok r hp hm hk;obtain⟨e,hE,qr,kM⟩:=hi i rfl;obtain⟨cv,aS,lV⟩:=VRels.get i h2 mM;have aw:(es.toList.map (·.born))[i]?=some s:=by rw[h3];exact hs
  rw[f0d]at aS aw;have qs:es.toList[i]?=some e:=by simpa using hE
  rw[qs]at aS aw;simp only[f0e,Option.some.injEq]at aS aw;have step:=a5n (n:=n) (cP:=es.modify i λe=>{ e with key:=ck }) (fS:=cl) r hb dz he (a4p i _ (λe' eD=>by rw[hE]at eD;cases eD;exact qr.symm) h1)
   (show VRels I w ρ vs _ by
    have:(es.modify i λe=>{ e with key:=ck }).toList.map (·.val)=es.toList.map (·.val):=by
     apply f3g;intro j;simp only[f0d,f5p,Array.getElem?_modify];split
     ·rename_i hj;subst hj;cases es[i]?<;>simp
     ·rfl
    rw[this];exact h2) ((a87 (es:=es) i (λe=>{ e with key:=ck }) (λ_=>rfl)).trans h3)
  refine⟨.tuple #[cv,goInt s],_,ρ,?_,step,?_,Moves.same _ _ _⟩
  ·have h5:((es[i]?).map (·.key)).getD ck=e.key:=by simp[hE]
   have h6:((es[i]?).map (λx=>(x.born:Int))).getD 0=s:=by simp[hE,aw]
   have h7:((es.toList[i]?).map (·.val)).getD undef=cv:=by simp[hE,aS]
   simp only[Instr.mapEntry,Sem.run_bind,eT,Result.andThen_ok,getObj,Sem.run,he,bG,er,f0e,h5,h6,h7,Instr.keyThatStays,kM,f4b,Sem.run_pure,a3f _ he]
  ·refine step.vrel ?_;simp only[VRel];exact⟨_,rfl,by simp only[VRels];exact⟨_,_,rfl,lV,_,_,rfl,by simp[VRel,goInt],rfl⟩⟩
 ·rename_i b ks vs bs cl hp;split at hu
  case h_2=>cases hu
  rename_i uw et mN;split at hu
  case h_2=>cases hu
  rename_i z d hz hd;split at hu
  case h_2=>cases hu
  rename_i v0 mM;cases hu;obtain⟨pl,es,kt,uN,rfl,hb,dz,he,h1,h2,h3,eT,io,bG,er,_⟩:=b04 ok r hp hm hk;rw[mN]at io;simp only[Option.some.injEq,TypeDesc.map.injEq]at io;obtain⟨rfl,rfl⟩:=io;obtain⟨zv,ew,d6⟩:=d33 ok hd hz mM;have step:=a5n (n:=n) (cP:=es.push { key:=ck,val:=zv,born:=cl }) (fS:=cl+1) (ks:=ks++[k]) (vs:=vs++[v0]) (bs:=bs++[cl]) r hb dz he
   (by simp only[f6p,f2o,e12,e9p];exact VRels.append h1 (by simp only[VRels];exact⟨_,_,rfl,hk,rfl⟩))
   (by simp only[f6p,f2o,e12,e9p];exact VRels.append h2 (by simp only[VRels];exact⟨_,_,rfl,d6 _ _ _,rfl⟩)) (by simp[h3])
  refine⟨.tuple #[zv,goInt cl],_,ρ,?_,step,?_,Moves.same _ _ _⟩
  ·simp only[Instr.mapEntry,Sem.run_bind,eT,Result.andThen_ok,getObj,Sem.run,he,bG,er,Option.map_none,ew,a3f _ he,Sem.run_pure]
  ·simp only[VRel];exact⟨_,rfl,by simp only[VRels];exact⟨_,_,rfl,d6 _ _ _,_,_,rfl,by simp[VRel,goInt],rfl⟩⟩
 ·cases hu
def a4v(h:FHeap)(m s v:AV):Option Eff:=
 match m,s with
 |.map b,.int _ i=>match h b with
  |some (.map ks vs bs cl)=>match bs.findIdx? (λ(x:Nat)=>(x:Int)==i)with
   |some j=>some (.set b (.map ks (vs.set j v) bs cl))
   |none=>none
  |_=>none
 |_,_=>none
theorem b5e(r:HRel E.G I K ρ h w){t:TypeId}{m s v:AV}{c cs cv:Value}{e:Eff}(hu:a4v h m s v=some e)(hm:VRel I w ρ m c)(hs:VRel I w ρ s cs)(hv:VRel I w ρ v cv) :
 e6l E I K ρ h n w (Instr.entryStore t c cs cv) e:=by
 unfold a4v at hu;split at hu
 case h_2=>cases hu
 rename_i b kk i;split at hu
 case h_2=>cases hu
 rename_i ks vs bs cl hb;split at hu
 case h_2=>cases hu
 rename_i j hj;cases hu;simp only[VRel]at hm hs;obtain⟨pl,dz,rfl⟩:=hm;subst hs;obtain⟨m',aV,_,_,ho⟩:=r.live b _ hb;obtain rfl:pl=m':=z9o (dz.symm.trans aV);obtain⟨es,he,h1,h2,h3⟩:=ho;have dp:es.findIdx? (λe=>(e.born:Int)==i)=some j:=by rw[←h3,List.findIdx?_map]at hj;rw[show es.findIdx? (λe=>(e.born:Int)==i)=es.toList.findIdx? (λe=>(e.born:Int)==i) by cases es;simp];exact hj
 refine⟨_,ρ,?_,a5n (cP:=es.modify j λe=>{ e with val:=cv }) r hb dz he ?_ ?_ ?_,Moves.same _ _ _⟩
 ·simp only[Instr.entryStore,Sem.run_bind,getObj,Sem.run,he,Result.andThen_ok,asInt,asIntOf,Sem.run_pure,dp,a3f _ he]
 ·exact a4p j _ (λ_ _=>rfl) h1
 ·exact a69 j _ (λ_=>rfl) hv h2
 ·exact(a87 (es:=es) j (λe=>{ e with val:=cv }) (λ_=>rfl)).trans h3
end
end Go.Ax
/- AxSet: sets of numbers: lookup, update, delete, ranging. -/
namespace Go.Ax
section
variable {E:Env}{I K:Nat→Prop}{ρ:PMap}{h:FHeap}{n:Nat}{w:World}
def oor{α:Type}(a b:Option α):Option α:=match a with
 |some x=>some x
 |none=>b
theorem a91{α:Type}{a b:Option α}{x:α}(h:oor a b=some x):a=some x∨b=some x:=by
 cases a with
 |none=>exact .inr h
 |some y=>exact .inl h
def e59:Option TypeDesc→Bool
 |some (.int .i64)=>true
 |_=>false
def d0g:Option TypeDesc→Bool
 |some .bool=>true
 |_=>false
def c4a:Option (List AV)→Bool
 |some [.bool b]=>!b
 |_=>false
def b7b(E:Env)(t:TypeId):Bool:=match E.und t with
 |some (.map kt et)=>e59 (E.und kt)&&(d0g (E.und et)&&c4a (E.zero et))
 |_=>false
theorem b2k{t:TypeId}(hu:b7b E t=true):∃kt et,E.und t=some (.map kt et)∧E.und kt=some (.int .i64)∧E.und et=some .bool∧E.zero et=some [.bool false]:=by
 unfold b7b at hu;split at hu
 case h_2=>cases hu
 rename_i kt et he;simp only[e9l]at hu;obtain⟨h1,h2,h3⟩:=hu;refine⟨kt,et,he,?_,?_,?_⟩
 ·unfold e59 at h1;split at h1
  ·assumption
  ·cases h1
 ·unfold d0g at h2;split at h2
  ·assumption
  ·cases h2
 ·unfold c4a at h3;split at h3
  ·rename_i b hb;cases b
   ·exact hb
   ·cases h3
  ·cases h3
section
variable {ks:List Int}{es:Array MapEntry}{cl:Nat}
theorem USet.key(hs:USet ks es cl){e:MapEntry}(he:e∈es.toList):∃y∈ks,e.key = .int .i64 y:=by have h1:=hs.1.mem_iff.1 (f4f (f:=(·.key)) he);obtain⟨y,hy,h2⟩:=f4l.1 h1;exact⟨y,hy,h2.symm⟩
theorem USet.has(hs:USet ks es cl){x:Int}(hx:x∈ks):∃e∈es.toList,e.key = .int .i64 x:=by have h1:=hs.1.mem_iff.2 (f4f (f:=Value.int .i64) hx);obtain⟨e,he,h2⟩:=f4l.1 h1;exact⟨e,he,h2⟩
theorem b86{a b:Int}(h:Value.int .i64 a=Value.int .i64 b):a=b:=by cases h;rfl
theorem USet.keys_nodup(hs:USet ks es cl):(es.toList.map (·.key)).Nodup:=by rw[hs.1.nodup_iff];exact List.Pairwise.map _ (λa b aX e=>aX (b86 e)) hs.2.2.1
theorem b45(x:Int):∀(es:List MapEntry) (i:Nat),(∀e∈es,∃y,e.key = .int .i64 y)→
 (∃j e,es[j]?=some e∧e.key = .int .i64 x∧Instr.findNow (.int .i64) (.int .i64 x) es i=some (some (i+j,e.val)))∨
  ((∀e∈es,e.key≠ .int .i64 x)∧Instr.findNow (.int .i64) (.int .i64 x) es i=some none)
 | [],i,_=>.inr ⟨by simp,rfl⟩
 |e::es,i,h=>by
  obtain⟨y,hy⟩:=h e (by simp);by_cases pj:x=y
  ·subst pj;exact .inl ⟨0,e,rfl,hy,by simp[Instr.findNow,Instr.sameNow,hy]⟩
  ·have e1:Instr.findNow (.int .i64) (.int .i64 x) (e::es) i=Instr.findNow (.int .i64) (.int .i64 x) es (i+1):=by
    have hb:(x==y)=false:=by simpa using pj
    simp[Instr.findNow,Instr.sameNow,hy,hb]
   rcases b45 x es (i+1) (λe he=>h e (by simp[he]))with ⟨j,e',h1,h2,h3⟩|⟨h1,h2⟩
   ·exact .inl ⟨j+1,e',by simpa using h1,h2,by rw[e1,h3,show i+1+j=i+(j+1) by omega]⟩
   ·refine .inr ⟨?_,by rw[e1,h2]⟩;intro e' eD;rcases f2s.1 eD with rfl|eD
    ·rw[hy];exact λe=>pj (b86 e).symm
    ·exact h1 e' eD
theorem b7g(ok:EnvOk E){kt:TypeId}(hk:E.und kt=some (.int .i64))(hs:USet ks es cl)(x:Int) :
 (∃j e,es[j]?=some e∧e.key = .int .i64 x∧x∈ks∧(Instr.findKey kt (.int .i64 x) es.toList).run E.P w = .ok (some (j,.bool true)) w)∨
  (x∉ks∧(Instr.findKey kt (.int .i64 x) es.toList).run E.P w = .ok none w):=by
 rcases b45 x es.toList 0 (λe he=>by obtain⟨y,_,h⟩:=hs.key he;exact⟨y,h⟩)with ⟨j,e,h1,h2,h3⟩|⟨h1,h2⟩
 ·refine .inl ⟨j,e,by simpa using h1,h2,?_,?_⟩
  ·obtain⟨y,hy,h4⟩:=hs.key (c10 h1);rw[h2]at h4;rw[b86 h4];exact hy
  ·unfold Instr.findKey;simp only[Sem.run_bind,a0a ok w hk,Result.andThen_ok,h3,f3e,hs.2.1 e (c10 h1),Sem.run_pure]
 ·refine .inr ⟨λhx=>?_,?_⟩
  ·obtain⟨e,he,h3⟩:=hs.has hx;exact h1 e he h3
  ·unfold Instr.findKey;simp only[Sem.run_bind,a0a ok w hk,Result.andThen_ok,h2,Sem.run_pure]
end
def b5i(h:FHeap):AV→Option (List Int)
 |.iset ks=>some ks
 |.map b=>match h b with
  |some (.uset ks)=>some ks
  |_=>none
 |_=>none
theorem c7v(r:HRel E.G I K ρ h w){x:AV}{ks:List Int}{c:Value}(hu:b5i h x=some ks)(hx:VRel I w ρ x c) :
 ∃b es cl,c = .map (some b)∧w.heap[b]?=some (.map es cl)∧USet ks es cl:=by
 unfold b5i at hu;split at hu
 ·cases hu;simp only[VRel]at hx;obtain⟨b,es,cl,rfl,_,he,hs⟩:=hx;exact⟨b,es,cl,rfl,he,hs⟩
 ·rename_i b;split at hu
  case h_2=>cases hu
  rename_i jh hb;cases hu;simp only[VRel]at hx;obtain⟨m,hm,rfl⟩:=hx;obtain⟨m',aV,_,_,es,cl,he,hs⟩:=r.live b _ hb;obtain rfl:m=m':=z9o (hm.symm.trans aV);exact⟨m.blk,es,cl,rfl,he,hs⟩
 ·cases hu
/-! ### lookup -/
def b4u(E:Env)(h:FHeap)(t:TypeId)(x k:AV)(ok:Bool):Option AV:=match b5i h x,k with
 |some ks,.int .i64 i=>bif b7b E t then some (bif ok then .tuple [.bool (ks.contains i),.bool (ks.contains i)]else .bool (ks.contains i))else none
 |_,_=>none
theorem d2j(ok:EnvOk E)(r:HRel E.G I K ρ h w){t:TypeId}{x k v:AV}{c ck:Value}{b:Bool}(hv:b4u E h t x k b=some v)(hx:VRel I w ρ x c)(hk:VRel I w ρ k ck) :
 Val E I K ρ h n w (Instr.lookup t c ck b) v .none:=by
 unfold b4u at hv;split at hv
 case h_2=>cases hv
 rename_i ks i hu;rw[cond_eq_ite]at hv;split at hv
 case isFalse=>cases hv
 rename_i ht;obtain⟨kt,et,h1,h2,h3,h4⟩:=b2k ht;obtain⟨bb,es,cl,rfl,he,hs⟩:=c7v r hu hx;simp only[VRel]at hk;subst hk;have bG:=a3v (w:=w) ok (d:=.int .i64) rfl h2 es.isEmpty 9999 (.int .i64 i);have fin:∀q:Bool,(Instr.lookup t (.map (some bb)) (.int .i64 i) b).run E.P w = .ok (if b then .tuple #[.bool q,.bool q]else .bool q) w→ks.contains i=q→Val E I K ρ h n w (Instr.lookup t (.map (some bb)) (.int .i64 i) b) v .none:=by
  intro q ac hq;rw[hq]at hv;refine Val.here r ac ?_;cases b
  ·simp only[f2z,Option.some.injEq]at hv;subst hv;simp[VRel]
  ·simp only[f2m,Option.some.injEq]at hv;subst hv;simp only[f4b,VRel];exact⟨_,rfl,by simp only[VRels];exact⟨_,_,rfl,by simp[VRel],_,_,rfl,by simp[VRel],rfl⟩⟩
 rcases b7g (w:=w) ok h2 hs i with ⟨j,e,g1,g2,g3,g4⟩|⟨g1,g2⟩
 ·refine fin true ?_ (by simpa using g3);simp only[Instr.lookup,Sem.run_bind,a0a ok w h1,Result.andThen_ok,getObj,Sem.run,he,Sem.run_pure,bG,g4]
 ·refine fin false ?_ (by simpa using g1);obtain⟨zv,ew,_,bA⟩:=a6y ok w h4;have d6:VRels I w ρ [.bool false] zv.cells.toList:=VRels.noRef_any (bA I w);rw[(b79 ok h3 h4 ew).2 rfl]at d6;simp only[VRels]at d6;obtain⟨c0,cs0,gz,h0,_⟩:=d6;simp only[List.cons.injEq]at gz;rw[←gz.1]at h0;simp only[VRel]at h0;subst h0;simp only[Instr.lookup,Sem.run_bind,a0a ok w h1,Result.andThen_ok,getObj,Sem.run,he,Sem.run_pure,bG,g2,ew]
/-! ### update -/
def e7o(x:Int):List Int→List Int
 | []=>[x]
 |y::l=>bif decide (x<y)then x::y::l else y::e7o x l
theorem c0h(x:Int):∀l:List Int,(e7o x l).Perm (x::l)
 | []=>List.Perm.refl _
 |y::l=>by
  simp only[e7o,cond_eq_ite];split
  ·exact List.Perm.refl _
  ·exact((c0h x l).cons y).trans (List.Perm.swap ..)
theorem b0s{α:Type}(g:MapEntry→α){es:Array MapEntry}(i:Nat)(f:MapEntry→MapEntry)(hf:∀e,es[i]?=some e→g (f e)=g e):(es.modify i f).toList.map g=es.toList.map g:=by
 apply f3g;intro j;simp only[f0d,f5p,Array.getElem?_modify];split
 ·rename_i hj;subst hj;cases he:es[i]? with
  |none=>simp
  |some e=>simp[hf e he]
 ·rfl
theorem a6a{ks:List Int}{es:Array MapEntry}{cl:Nat}:USet ks es cl↔(es.toList.map (·.key)).Perm (ks.map (Value.int .i64))∧(∀v∈es.toList.map (·.val),v = .bool true)∧ks.Nodup∧(es.toList.map (·.born)).Nodup∧∀b∈es.toList.map (·.born),b<cl:=by unfold USet;simp only[f4l,forall_exists_index,and_imp,forall_apply_eq_imp_iff₂]
theorem a5z(r:HRel E.G I K ρ h w){b:Nat}{m:Pl}{o0:AObj}(hb:h b=some o0)(hm:ρ b=some m){es cP:Array MapEntry}{cl fS:Nat}(he:w.heap[m.blk]?=some (.map es cl)){ks:List Int}(hs:USet ks cP fS) :
 Stepped E.G I K ρ w I ρ (h.eff n (.set b (.uset ks))) { w with heap:=w.heap.setIfInBounds m.blk (.map cP fS) }:=by
 have ag:m.blk<w.heap.size:=(f3d.1 he).1;have bK:∀c,c≠m.blk→({ w with heap:=w.heap.setIfInBounds m.blk (.map cP fS) }:World).heap[c]?=w.heap[c]?:=by intro c hc;show(w.heap.setIfInBounds _ _)[c]?=_;rw[f3c,f0j (λh=>hc h.symm)]
 refine a22 r hb hm (by simp) bK rfl rfl rfl ⟨cP,fS,?_,hs⟩;show(w.heap.setIfInBounds _ _)[_]?=_;rw[f3c,f1r rfl,f1r ag]
def b5c(E:Env)(h:FHeap)(t:TypeId)(m k v:AV):Option Eff:=match m,k,v with
 |.map b,.int .i64 i,.bool q=>match h b with
  |some (.uset ks)=>bif b7b E t&&q then some (.set b (.uset (bif ks.contains i then ks else e7o i ks)))else none
  |_=>none
 |_,_,_=>none
theorem c57(ok:EnvOk E)(r:HRel E.G I K ρ h w){t:TypeId}{m k v:AV}{c ck cv:Value}{e:Eff}(hu:b5c E h t m k v=some e)(hm:VRel I w ρ m c)(hk:VRel I w ρ k ck)(hv:VRel I w ρ v cv) :
 e6l E I K ρ h n w (Instr.mapUpdate t c ck cv) e:=by
 unfold b5c at hu;split at hu
 case h_2=>cases hu
 rename_i b i q;split at hu
 case h_2=>cases hu
 rename_i ks hb;rw[cond_eq_ite]at hu;split at hu
 case isFalse=>cases hu
 rename_i ht;simp only[e9l]at ht;obtain⟨ht,rfl⟩:=ht;cases hu;obtain⟨kt,et,h1,h2,h3,h4⟩:=b2k ht;simp only[VRel]at hm hk hv;subst hk hv;obtain⟨pl,dz,rfl⟩:=hm;obtain⟨m',aV,_,_,es,cl,he,hs⟩:=r.live b _ hb;obtain rfl:pl=m':=z9o (dz.symm.trans aV);have bG:=a3v (w:=w) ok (d:=.int .i64) rfl h2 false 9999 (.int .i64 i);rcases b7g (w:=w) ok h2 hs i with ⟨j,e,g1,g2,g3,g4⟩|⟨g1,g2⟩
 ·have hc:ks.contains i=true:=by simpa using g3
  rw[hc,f2m];obtain⟨s1,s2,s3,s4,s5⟩:=a6a.1 hs;have k1:(es.modify j λe=>{ e with key:=.int .i64 i,val:=.bool true }).toList.map (·.key)=es.toList.map (·.key):=b0s _ j _ (λe' eD=>by rw[g1]at eD;cases eD;exact g2.symm);have k2:(es.modify j λe=>{ e with key:=.int .i64 i,val:=.bool true }).toList.map (·.val)=es.toList.map (·.val):=b0s _ j _ (λe' eD=>(hs.2.1 e' (by simpa using Array.mem_of_getElem? eD)).symm);have k3:(es.modify j λe=>{ e with key:=.int .i64 i,val:=.bool true }).toList.map (·.born)=es.toList.map (·.born):=b0s _ j _ (λe' eD=>rfl);refine⟨_,ρ,?_,a5z (cP:=es.modify j λe=>{ e with key:=.int .i64 i,val:=.bool true }) r hb dz he (a6a.2 ⟨by rw[k1];exact s1,by rw[k2];exact s2,s3,by rw[k3];exact s4,by rw[k3];exact s5⟩),Moves.same _ _ _⟩;have h5:((es[j]?).map (·.key)).getD (.int .i64 i) = .int .i64 i:=by simp[g1,g2]
  have h6:Instr.sameBits 10000 (.int .i64 i) (.int .i64 i)=true:=by simp[Instr.sameBits]
  simp only[Instr.mapUpdate,Sem.run_bind,a0a ok w h1,Result.andThen_ok,getObj,Sem.run,he,bG,g4,h5,Instr.keyThatStays,h6,f4b,Sem.run_pure,a3f _ he]
 ·have hc:ks.contains i=false:=by simpa using g1
  rw[hc,f2z];obtain⟨s1,s2,s3,s4,s5⟩:=a6a.1 hs;have hp:=c0h i ks;refine⟨_,ρ,?_,a5z (cP:=es.push { key:=.int .i64 i,val:=.bool true,born:=cl }) (fS:=cl+1) r hb dz he (a6a.2 ⟨?_,?_,?_,?_,?_⟩),Moves.same _ _ _⟩
  ·simp only[Instr.mapUpdate,Sem.run_bind,a0a ok w h1,Result.andThen_ok,getObj,Sem.run,he,bG,g2,a3f _ he]
  ·rw[f6p,f2o];refine(List.perm_append_comm.trans ?_).trans (hp.map _).symm;simpa using s1
  ·intro v hv;rw[f6p,f2o]at hv;rcases f2w.1 hv with h|h
   ·exact s2 v h
   ·simpa using h
  ·rw[hp.nodup_iff,f5q];exact⟨g1,s3⟩
  ·rw[f6p,f2o,List.nodup_append];refine⟨s4,by simp,?_⟩;intro a ha b' aL;have:=s5 a ha;simp only[e12,e9p,f1s]at aL;omega
  ·intro a ha;rw[f6p,f2o]at ha;rcases f2w.1 ha with h|h
   ·have:=s5 a h;omega
   ·simp only[e12,e9p,f1s]at h;omega
/-! ### delete -/
theorem a9z{α:Type}:∀{l:List α} {j:Nat} {e:α},l[j]?=some e→(e::l.eraseIdx j).Perm l
 | [],j,e,h=>by simp at h
 |a::l,0,e,h=>by simp at h;subst h;exact List.Perm.refl _
 |a::l,j+1,e,h=>by have ih:=a9z (l:=l) (j:=j) (e:=e) (by simpa using h);simp only[List.eraseIdx_cons_succ];exact(List.Perm.swap ..).trans (ih.cons a)
def c7g(E:Env)(h:FHeap)(t:TypeId)(m k:AV):Option Eff:=match m,k with
 |.map b,.int .i64 i=>match h b with
  |some (.uset ks)=>bif b7b E t then some (.set b (.uset (ks.filter λy=>!decide (y=i))))else none
  |_=>none
 |_,_=>none
theorem d6x(ok:EnvOk E)(r:HRel E.G I K ρ h w){t kt0:TypeId}{m k:AV}{c ck:Value}{e:Eff}(ty:TypeId)(hu:c7g E h t m k=some e)(hm:VRel I w ρ m c)(hk:VRel I w ρ k ck) :
 Val E I K ρ h n w (Builtin.delete_ #[t,kt0] ty #[c,ck]) (.tuple []) e:=by
 unfold c7g at hu;split at hu
 case h_2=>cases hu
 rename_i b i;split at hu
 case h_2=>cases hu
 rename_i ks hb;rw[cond_eq_ite]at hu;split at hu
 case isFalse=>cases hu
 rename_i ht;cases hu;obtain⟨kt,et,h1,h2,h3,h4⟩:=b2k ht;simp only[VRel]at hm hk;subst hk;obtain⟨pl,dz,rfl⟩:=hm;obtain⟨m',aV,_,_,es,cl,he,hs⟩:=r.live b _ hb;obtain rfl:pl=m':=z9o (dz.symm.trans aV);have bG:=a3v (w:=w) ok (d:=.int .i64) rfl h2 es.isEmpty 9999 (.int .i64 i);have jT:∀(w':World) (ρ':PMap),VRel I w' ρ' (.tuple []) (.tuple #[]):=λw' ρ'=>by simp only[VRel];exact⟨#[],rfl,by simp[VRels]⟩
 obtain⟨s1,s2,s3,s4,s5⟩:=a6a.1 hs;rcases b7g (w:=w) ok h2 hs i with ⟨j,e,g1,g2,g3,g4⟩|⟨g1,g2⟩
 ·have hj:j<es.toList.length:=by simpa using(f3d.1 g1).1
  have jE:(es.eraseIdxIfInBounds j).toList=es.toList.eraseIdx j:=by unfold Array.eraseIdxIfInBounds;rw[dif_pos (by simpa using hj)];simp
  have dK:(e::es.toList.eraseIdx j).Perm es.toList:=a9z (by simpa using g1);have mW:(i::ks.filter λy=>!decide (y=i)).Perm ks:=by
   refine(List.perm_ext_iff_of_nodup ?_ s3).2 λz=>?_
   ·rw[f5q];exact⟨by simp,s3.filter _⟩
   ·simp only[f2s,f4p,f3z,decide_eq_false_iff_not];constructor
    ·rintro(rfl|h)
     ·exact g3
     ·exact h.1
    ·intro hz;by_cases qZ:z=i
     ·exact .inl qZ
     ·exact .inr ⟨hz,qZ⟩
  refine⟨.tuple #[],_,ρ,?_,a5z (cP:=es.eraseIdxIfInBounds j) (fS:=cl) r hb dz he (a6a.2 ⟨?_,?_,?_,?_,?_⟩),jT _ _,Moves.same _ _ _⟩
  ·have aG:(getObj pl.blk).run E.P w = .ok (.map es cl) w:=by simp[getObj,Sem.run,he]
   have a7:=a3f (E:=E) (.map (es.eraseIdxIfInBounds j) cl) he;simp[Builtin.delete_,a0a ok w h1,aG,bG,g4,a7]
  ·rw[jE];have h5:=(dK.map (·.key)).trans (s1.trans (mW.map (Value.int .i64)).symm);simp only[e12,g2]at h5;exact h5.cons_inv
  ·intro v hv;rw[jE]at hv;exact s2 v ((dK.map (·.val)).subset (by simp only[e12];exact f7d _ hv))
  ·exact s3.filter _
  ·rw[jE];have:=(dK.map (·.born)).nodup_iff.2 s4;simp only[e12,f5q]at this;exact this.2
  ·intro v hv;rw[jE]at hv;exact s5 v ((dK.map (·.born)).subset (by simp only[e12];exact f7d _ hv))
 ·have hf:(ks.filter λy=>!decide (y=i))=ks:=List.filter_eq_self.2 λy hy=>by simp;rintro rfl;exact g1 hy
  rw[hf];refine⟨.tuple #[],_,ρ,?_,a5z (cP:=es) (fS:=cl) r hb dz he hs,jT _ _,Moves.same _ _ _⟩;have aG:(getObj pl.blk).run E.P w = .ok (.map es cl) w:=by simp[getObj,Sem.run,he]
  have a7:=a3f (E:=E) (.map es cl) he;simp[Builtin.delete_,a0a ok w h1,aG,bG,g2,a7]
end
end Go.Ax
/- AxSet2: ranging over a set of numbers. -/
namespace Go.Ax
section
variable {E:Env}{I K:Nat→Prop}{ρ:PMap}{h:FHeap}{n:Nat}{w:World}
def c49:Option TypeDesc→Bool
 |some (.map _ _)=>true
 |_=>false
theorem b6h{d:Option TypeDesc}(h:c49 d=true):∃kt et,d=some (.map kt et):=by
 unfold c49 at h;split at h
 ·exact⟨_,_,rfl⟩
 ·cases h
def b8s(E:Env)(n:Nat)(t:TypeId)(x:AV):Option (AV×Eff):=match x with
 |.iset ks=>bif c49 (E.und t)then some (.ptr n 0 0,.new (.miter ks [] none))else none
 |.nilmap=>bif c49 (E.und t)then some (.ptr n 0 0,.new (.miter [] [] none))else none
 |_=>none
theorem c7b(ok:EnvOk E)(r:HRel E.G I K ρ h w)(hn:h n=none)(hρ:ρ n=none){t:TypeId}{x v:AV}{c:Value}{e:Eff}(ha:b8s E n t x=some (v,e))(hx:VRel I w ρ x c) :
 Val E I K ρ h n w (Instr.range t c) v e:=by
 unfold b8s at ha;split at ha
 ·rename_i ks;rw[cond_eq_ite]at ha;split at ha
  case isFalse=>cases ha
  rename_i hu;cases ha;obtain⟨kt,et,hu⟩:=b6h hu;simp only[VRel]at hx;obtain⟨b,es,cl,rfl,hI,he,hs⟩:=hx;have ag:b<w.heap.size:=(f3d.1 he).1;refine⟨.pointer (some ⟨w.heap.size,0,none⟩),{ w with heap:=w.heap.push (.mapIter (some b) cl #[] cl) },ρ.set n ⟨w.heap.size,0,0,0⟩,?_,?_,?_,Moves.set _ _ _ rfl⟩
  ·simp[Instr.range,a0a ok w hu,getObj,Sem.run,he,newObj]
  ·refine a2a (ob:=.mapIter (some b) cl #[] cl) r hn hρ rfl rfl rfl rfl rfl ?_;refine⟨rfl,.inr ⟨b,es,cl,#[],hI,?_,hs,by simp,[],by simp,by simp,by simp⟩⟩;show(w.heap.push _)[b]?=_;rw[f6x,f0j (by omega)];exact he
  ·simp only[VRel];exact⟨_,by simp[PMap.set];rfl,by simp⟩
 ·rw[cond_eq_ite]at ha;split at ha
  case isFalse=>cases ha
  rename_i hu;cases ha;obtain⟨kt,et,hu⟩:=b6h hu;simp only[VRel]at hx;subst hx;refine⟨.pointer (some ⟨w.heap.size,0,none⟩),{ w with heap:=w.heap.push (.mapIter none 0 #[] 0) },ρ.set n ⟨w.heap.size,0,0,0⟩,?_,?_,?_,Moves.set _ _ _ rfl⟩
  ·simp[Instr.range,a0a ok w hu,newObj,Sem.run]
  ·exact a2a (ob:=.mapIter none 0 #[] 0) r hn hρ rfl rfl rfl rfl rfl ⟨rfl,.inl ⟨rfl,rfl,by simp⟩⟩
  ·simp only[VRel];exact⟨_,by simp[PMap.set];rfl,by simp⟩
 ·cases ha
def b1b(h:FHeap)(it:AV):Option AV:=match it with
 |.ptr b 0 0=>match h b with
  |some (.miter _ cG _)=>match cG.getLast? with
   |some i=>some (.tuple [.int .i64 i,.bool true])
   |none=>none
  |_=>none
 |_=>none
theorem c7f(r:HRel E.G I K ρ h w){it v:AV}{c:Value}(ha:b1b h it=some v)(hx:VRel I w ρ it c):Val E I K ρ h n w (Instr.entry c) v .none:=by
 unfold b1b at ha;split at ha
 case h_2=>cases ha
 rename_i b;split at ha
 case h_2=>cases ha
 rename_i ks cG cT hb;split at ha
 case h_2=>cases ha
 rename_i i hi;cases ha;simp only[VRel]at hx;obtain⟨m,hm,rfl⟩:=hx;obtain⟨m',aV,_,_,h0,ho⟩:=r.live b _ hb;obtain rfl:m=m':=z9o (hm.symm.trans aV);rcases ho with ⟨_,h2,_⟩|⟨c,es,cl,seen,hI,he,hs,me,cP,g1,g2,g3⟩
 ·rw[h2]at hi;cases hi
 ·have hl:(cP.map (·.key)).getLast?=some (.int .i64 i):=by rw[g3,List.getLast?_map,hi];rfl
  rw[List.getLast?_map]at hl;cases bd:cP.getLast? with
  |none=>rw[bd]at hl;cases hl
  |some e=>
   rw[bd]at hl;simp only[f0e,Option.some.injEq]at hl;have nF:=g1 e (List.mem_of_getLast? bd);have bW:seen.back?=some e.born:=by rw[←Array.getLast?_toList,←g2,List.getLast?_map,bd];rfl
   have nA:es.find? (λx=>x.born==e.born)=some e:=by
    rw[←Array.find?_toList];have aY:=hs.2.2.2.1;have:∀l:List MapEntry,(l.map (·.born)).Nodup→e∈l→l.find? (λx=>x.born==e.born)=some e:=by
     intro l
     induction l with
     |nil=>intro _ h;cases h
     |cons a l ih=>
      intro hn hm;simp only[e12,f5q]at hn;rcases f2s.1 hm with rfl|hm
      ·simp
      ·have au:(a.born==e.born)=false:=by
        rw[f3k];intro h;exact hn.1 (h▸f4f (f:=(·.born)) hm)
       rw[List.find?_cons,au];exact ih hn.2 hm
    exact this _ aY nF
   refine Val.here (c:=.tuple #[.int .i64 i,.bool true]) r ?_ ?_
   ·simp[Instr.entry,h0,getObj,Sem.run,me,he,bW,nA,hl,hs.2.1 e nF]
   ·simp only[VRel];exact⟨_,rfl,by simp only[VRels];exact⟨_,_,rfl,by simp[VRel],_,_,rfl,by simp[VRel],rfl⟩⟩
theorem c36(k:Nat)(hk:0<k):∃i d,i<k∧(choose (.mapNext k)).run E.P w = .ok i { w with drawn:=d }:=by
 simp only[choose,Sem.run];by_cases h:(Question.mapNext k).forced=true
 ·rw[f1r h];exact⟨0,w.drawn,hk,rfl⟩
 ·rw[f0j h];exact⟨_,w.drawn+1,f7h _ hk,rfl⟩
theorem c54{es:List MapEntry}{α:Type}(f:MapEntry→α)(hn:(es.map f).Nodup){a b:MapEntry}(ha:a∈es)(hb:b∈es)(h:f a=f b):a=b:=by
 induction es with
 |nil=>cases ha
 |cons x l ih=>
  simp only[e12,f5q]at hn;rcases f2s.1 ha with rfl|ha
  ·rcases f2s.1 hb with rfl|hb
   ·rfl
   ·exact absurd (h▸f4f (f:=f) hb) hn.1
  ·rcases f2s.1 hb with rfl|hb
   ·exact absurd (show f b∈l.map f from h▸f4f (f:=f) (by assumption)) hn.1
   ·exact ih hn.2 ha hb
theorem d44(r:HRel E.G I K ρ h w){b:Nat}{m:Pl}{ks cG:List Int}{cT:Option (Option Int)}(hb:h b=some (.miter ks cG cT))(hm:ρ b=some m)(ty:TypeId) :
 (∃i,i∈ks∧i∉cG∧∃w',(Instr.next (.pointer (some ⟨m.blk,0,none⟩)) false ty).run E.P w = .ok (.tuple #[.bool true,.int .i64 i,.bool true]) w'∧Stepped E.G I K ρ w I ρ (h.eff n (.set b (.miter ks (cG++[i]) none))) w')∨
  ((∀i∈ks,i∈cG)∧∃w',(Instr.next (.pointer (some ⟨m.blk,0,none⟩)) false ty).run E.P w = .ok (.tuple #[.bool false]) w'∧Stepped E.G I K ρ w I ρ (h.eff n (.set b (.miter ks cG none))) w'):=by
 obtain⟨m',aV,dg,_,h0,ho⟩:=r.live b _ hb;obtain rfl:m=m':=z9o (hm.symm.trans aV);rcases ho with ⟨h1,h2,h3⟩|⟨c,es,cl,seen,hI,he,hs,me,cP,g1,g2,g3⟩
 ·subst h1 h2;exact .inr ⟨by simp,w,by simp[Instr.next,getObj,Sem.run,h3],a22 r hb hm rfl (λ_ _=>rfl) rfl rfl rfl ⟨h0,.inl ⟨rfl,rfl,h3⟩⟩⟩
 ·have kb:(getObj m.blk).run E.P w = .ok (.mapIter (some c) cl seen cl) w:=by simp[getObj,Sem.run,me]
  have ka:(getObj c).run E.P w = .ok (.map es cl) w:=by simp[getObj,Sem.run,he]
  have iX:∀e∈es,e.born<cl:=λe he=>hs.2.2.2.2 e (by simpa using he);have fF:(!seen.isEmpty && !es.isEmpty&&es.all (λe=>decide (e.born≥cl)))=false:=by
   rw[Bool.and_eq_false_iff];by_cases nF:es.isEmpty=true
   ·left;simp[nF]
   ·right;have au:es≠ #[]:=by simpa using nF
    rw[←Bool.not_eq_true,Array.all_eq_true_iff_forall_mem];intro aR;obtain⟨e,hU⟩:=Array.exists_mem_of_ne_empty es au;have:=aR e hU;have:=iX e hU;simp only[f0l]at *;omega
  obtain⟨left,iI⟩:∃left,left=es.filter (λe=>!seen.contains e.born):=⟨_,rfl⟩
  have cF:∀e,e∈left↔e∈es∧e.born∉seen:=by intro e;rw[iI,Array.mem_filter];simp
  have aF:left.filter (λe=>decide (e.born<cl))=left:=by rw[Array.filter_eq_self];intro e hm;simpa using iX e ((cF e).1 hm).1
  have aQ:left.filter (λe=>decide (e.born≥cl)) = #[]:=by rw[Array.filter_eq_empty_iff];intro e hm;have:=iX e ((cF e).1 hm).1;simp;omega
  have jW:∀e∈es,∀i,e.key = .int .i64 i→(e.born∈seen↔i∈cG):=by
   intro e hU i hi;have pQ:=hs.2.2.2.1;have jv:=hs.keys_nodup;have jE:e∈es.toList:=by simpa using hU
   constructor
   ·intro h;have h1:e.born∈cP.map (·.born):=by rw[g2];simpa using h
    obtain⟨e',eD,h2⟩:=f4l.1 h1;have:=c54 (·.born) pQ (g1 e' eD) jE h2;subst this;have h3:=f4f (f:=(·.key)) eD;rw[g3,hi]at h3;obtain⟨j,hj,h4⟩:=f4l.1 h3;rw[b86 h4]at hj;exact hj
   ·intro h;have h1:Value.int .i64 i∈cP.map (·.key):=by rw[g3];exact f4f h
    obtain⟨e',eD,h2⟩:=f4l.1 h1;have:=c54 (·.key) jv (g1 e' eD) jE (h2.trans hi.symm);subst this;have h3:=f4f (f:=(·.born)) eD;rw[g2]at h3;simpa using h3
  by_cases hl:left.isEmpty=true
  ·refine .inr ⟨λi hi=>?_,w,?_,a22 r hb hm rfl (λ_ _=>rfl) rfl rfl rfl ⟨h0,.inr ⟨c,es,cl,seen,hI,he,hs,me,cP,g1,g2,g3⟩⟩⟩
   ·obtain⟨e,hU,hk⟩:=hs.has hi;have hU:e∈es:=by simpa using hU
    refine(jW e hU i hk).1 (Decidable.byContradiction λhn=>?_);have:=(cF e).2 ⟨hU,hn⟩;have h0:left = #[]:=by simpa using hl
    rw[h0]at this;simp at this
   ·have h0:left = #[]:=by simpa using hl
    simp only[Instr.next,Sem.run_bind,kb,Result.andThen_ok,ka,fF,←iI,aF,aQ];simp[h0,choose,Sem.run,Question.forced]
  ·have fm:0<left.size:=by
    rcases Nat.eq_zero_or_pos left.size with h|h
    ·exact absurd (by simpa using Array.eq_empty_of_size_eq_zero h) hl
    ·exact h
   obtain⟨ix,d,iL,tU⟩:=c36 (E:=E) (w:=w) left.size fm;obtain⟨e,hU⟩:∃e,left[ix]?=some e:=⟨_,Array.getElem?_eq_getElem iL⟩
   obtain⟨jF,oQ⟩:=(cF e).1 (Array.mem_of_getElem? hU);obtain⟨i,hi,hk⟩:=hs.key (e:=e) (by simpa using jF);have cq:=hs.2.1 e (by simpa using jF);have ej:m.blk<w.heap.size:=(f3d.1 me).1;have bV:c≠m.blk:=λe=>dg (e▸hI);refine .inl ⟨i,hi,λhv=>oQ ((jW e jF i hk).2 hv),{ w with heap:=w.heap.setIfInBounds m.blk (.mapIter (some c) cl (seen.push e.born) cl),drawn:=d },?_,?_⟩
   ·have a7:(setObj m.blk (.mapIter (some c) cl (seen.push e.born) cl)).run E.P { w with drawn:=d } = .ok () { w with heap:=w.heap.setIfInBounds m.blk (.mapIter (some c) cl (seen.push e.born) cl),drawn:=d }:=by
     simp[setObj,Sem.run,me]
    have oS:left.isEmpty=false:=by simpa using hl
    simp only[Instr.next,Sem.run_bind,kb,Result.andThen_ok,ka,fF,←iI,aF,aQ,oS,f3l,f7c,Array.empty_append,Array.append_empty,Array.size_map,tU,Array.getElem?_map,hU,f0e,a7,Sem.run_pure,hk,cq]
   ·refine a22 r hb hm (by simp) ?_ rfl rfl rfl ⟨h0,.inr ⟨c,es,cl,seen.push e.born,hI,?_,hs,?_,cP++[e],?_,?_,?_⟩⟩
    ·intro x hx;show(w.heap.setIfInBounds _ _)[x]?=_;rw[f3c,f0j (λh=>hx h.symm)]
    ·show(w.heap.setIfInBounds _ _)[c]?=_;rw[f3c,f0j (λh=>bV h.symm)];exact he
    ·show(w.heap.setIfInBounds _ _)[_]?=_;rw[f3c,f1r rfl,f1r ej]
    ·intro x hx;rcases f2w.1 hx with h|h
     ·exact g1 x h
     ·simp only[f1s]at h;subst h;simpa using jF
    ·rw[f2o,g2,f6p];rfl
    ·rw[f2o,g3,f2o];simp[hk]
end
end Go.Ax
/- AxStr: ranging over a string. -/
namespace Go.Ax
section
variable {E:Env}{I K:Nat→Prop}{ρ:PMap}{h:FHeap}{n:Nat}{w:World}
def c5a(E:Env)(n:Nat)(t:TypeId)(x:AV):Option (AV×Eff):=
 match E.und t,x with
 |some .string,.str s=>some (.ptr n 0 0,.new (.siter s 0))
 |_,_=>none
theorem d2a(ok:EnvOk E)(r:HRel E.G I K ρ h w)(hn:h n=none)(hρ:ρ n=none){t:TypeId}{x v:AV}{c:Value}{e:Eff}(ha:c5a E n t x=some (v,e))(hx:VRel I w ρ x c) :
 Val E I K ρ h n w (Instr.range t c) v e:=by
 unfold c5a at ha;split at ha
 case h_2=>cases ha
 rename_i s hu;cases ha;simp only[VRel]at hx;obtain⟨tb,rfl,ht⟩:=hx;refine⟨.pointer (some ⟨w.heap.size,0,none⟩),{ w with heap:=w.heap.push (.stringIter tb 0) },ρ.set n ⟨w.heap.size,0,0,0⟩,?_,?_,?_,Moves.set _ _ _ rfl⟩
 ·simp[Instr.range,a0a ok w hu]
 ·refine a2a (ob:=.stringIter tb 0) r hn hρ rfl rfl rfl rfl rfl ?_;exact⟨rfl,tb,by simp,ht⟩
 ·simp only[VRel];exact⟨_,by simp[PMap.set];rfl,by simp⟩
def c1h(h:FHeap)(it:AV)(ii:Bool):Option (AV×Eff):=
 match it with
 |.ptr b 0 0=>bif ii then match h b with
  |some (.siter s pos)=>bif Nat.blt pos s.length then
   some (.tuple [.bool true,.int .i64 pos,.int .i32 (Utf8.decode ⟨s.toArray⟩ pos).1],.set b (.siter s (pos+(Utf8.decode ⟨s.toArray⟩ pos).2)))
   else some (.tuple [.bool false],.none)
  |_=>none
  else none
 |_=>none
theorem d6s(r:HRel E.G I K ρ h w){it v:AV}{b:Bool}{c:Value}{e:Eff}(ty:TypeId)(ha:c1h h it b=some (v,e))(hx:VRel I w ρ it c) :
 Val E I K ρ h n w (Instr.next c b ty) v e:=by
 unfold c1h at ha;split at ha
 case h_2=>cases ha
 rename_i bb;rw[cond_eq_ite]at ha;split at ha
 case isFalse=>cases ha
 rename_i hs;subst hs;split at ha
 case h_2=>cases ha
 rename_i s pos hb;simp only[VRel]at hx;obtain⟨m,hm,rfl⟩:=hx;obtain⟨m',aV,dg,_,h0,tb,he,ht⟩:=r.live bb _ hb;obtain rfl:m=m':=z9o (hm.symm.trans aV);have jU:tb=⟨s.toArray⟩:=by cases tb;simp only[ByteArray.mk.injEq]at ht⊢;apply f6r;simpa using ht
 have bJ:tb.size=s.length:=by rw[jU];simp[ByteArray.size]
 have aG:(getObj m.blk).run E.P w = .ok (.stringIter tb pos) w:=by simp[getObj,Sem.run,he]
 rw[cond_eq_ite]at ha;split at ha
 ·rename_i ag;simp only[f2p]at ag;cases ha;have ej:m.blk<w.heap.size:=(f3d.1 he).1;refine⟨.tuple #[.bool true,goInt pos,.int .i32 (Utf8.decode tb pos).1],{ w with heap:=w.heap.setIfInBounds m.blk (.stringIter tb (pos+(Utf8.decode tb pos).2)) },ρ,?_,?_,?_,Moves.same _ _ _⟩
  ·have a7:(setObj m.blk (.stringIter tb (pos+(Utf8.decode tb pos).2))).run E.P w = .ok () { w with heap:=w.heap.setIfInBounds m.blk (.stringIter tb (pos+(Utf8.decode tb pos).2)) }:=by
    simp[setObj,Sem.run,he]
   simp only[Instr.next,h0,Nat.zero_mul,f6s,Sem.run_bind,aG,Result.andThen_ok];simp[bJ,ag,a7]
  ·refine a22 r hb hm (by simp) ?_ rfl rfl rfl ?_
   ·intro c hc;show(w.heap.setIfInBounds _ _)[c]?=_;rw[f3c,f0j (λh=>hc h.symm)]
   ·refine⟨h0,tb,?_,ht⟩;show(w.heap.setIfInBounds _ _)[_]?=_;rw[f3c,f1r rfl,f1r ej,jU]
  ·simp only[VRel];exact⟨_,rfl,by simp only[VRels];exact⟨_,_,rfl,by simp[VRel],_,_,rfl,by simp[VRel,goInt],_,_,rfl,by simp[VRel,jU],rfl⟩⟩
 ·rename_i ag;cases ha;have ag:¬pos<s.length:=by simpa[f2p]using ag
  refine Val.here (c:=.tuple #[.bool false]) r ?_ ?_
  ·simp only[Instr.next,h0,Nat.zero_mul,f6s,Sem.run_bind,aG,Result.andThen_ok];simp[bJ,ag]
  ·simp only[VRel];exact⟨_,rfl,by simp only[VRels];exact⟨_,_,rfl,by simp[VRel],rfl⟩⟩
end
end Go.Ax
/- AxAppZ: append of so many zero elements to nil (slices.Grow). -/
namespace Go.Ax
section
variable {E:Env}{I K:Nat→Prop}{ρ:PMap}{h:FHeap}{n:Nat}{w:World}
def a2t(E:Env)(n:Nat)(st xt:TypeId)(s x:AV):Option (AV×Eff):=match s,x with
 |.nilslice,.int _ l=>match E.und st,E.und xt with
  |some (.slice aa),some dx=>bif a2m dx&&decide (0≤l)then match E.zero aa with
   |some z=>bif Nat.blt 0 (E.sz aa)then(match l.toNat with
    |0=>some (.nilslice,.none)
    |m+1=>bif a2f E aa (m+1)then some (.slice n 0 (m+1) none,.new (.row (E.sz aa) (List.replicate (m+1) z)))else none)else none
   |none=>none
   else none
  |_,_=>none
 |_,_=>none
theorem c3h{st xt:TypeId}{s x:AV}{r:AV×Eff}(h:a2t E n st xt s x=some r)(n':Nat)(hp:FHeap):a4k E hp n' st xt s x=none:=by
 unfold a2t at h;split at h
 case h_2=>cases h
 split at h
 case h_2=>cases h
 rename_i aa dx hu em;rw[cond_eq_ite]at h;split at h
 case isFalse=>cases h
 rename_i hc;simp only[e9l]at hc;unfold a4k;simp only[hu,em,hc.1,Bool.true_or,f2m]
theorem c3g(ok:EnvOk E)(r:HRel E.G I K ρ h w)(hn:h n=none)(hρ:ρ n=none){st xt:TypeId}{s x v:AV}{e:Eff}{cs cx:Value}(ty:TypeId)
 (ha:a2t E n st xt s x=some (v,e))(hs:VRel I w ρ s cs)(hx:VRel I w ρ x cx):Val E I K ρ h n w (Builtin.append_ #[st,xt] ty #[cs,cx]) v e:=by
 unfold a2t at ha;split at ha
 case h_2=>cases ha
 rename_i k l;split at ha
 case h_2=>cases ha
 rename_i aa dx hu em;rw[cond_eq_ite]at ha;split at ha
 case isFalse=>cases ha
 rename_i hc;simp only[e9l,f0l]at hc;obtain⟨jB,fO⟩:=hc;split at ha
 case h_2=>cases ha
 rename_i z hz;rw[cond_eq_ite]at ha;split at ha
 case isFalse=>cases ha
 rename_i bJ;have bJ:0<E.sz aa:=by simpa[f2p]using bJ
 obtain⟨⟨de,bp⟩,i',z',gQ,ey,jj,ji⟩:=ok.zero aa z hz;have ff:∀w',(zeroValue aa).run E.P w' = .ok z' w':=by intro w';simp[zeroValue,typeInfo,gQ,ey]
 have dJ:z'.cells.toList.length=E.sz aa:=by rw[←jj,VRels.length (ji (λ_=>False) w)]
 obtain⟨i,hi,_,je⟩:=b24 ok w bp;have fA:∀w',(typeInfo aa).run E.P w' = .ok i w':=by intro w';have:=hi;simp[typeInfo,gQ]at this⊢;exact this
 obtain⟨ki,rfl⟩:∃ki,dx = .int ki:=by cases dx<;>simp[a2m]at jB;exact⟨_,rfl⟩
 simp only[VRel]at hs hx;subst hs;subst hx;have kF:∀w',(underlying xt).run E.P w' = .ok (.int ki) w':=λw'=>a0a ok w' em;have rq:∀w',(underlying st).run E.P w' = .ok (.slice aa) w':=λw'=>a0a ok w' hu;have aN:∀w',(sizeOf aa).run E.P w' = .ok (E.sz aa) w':=λw'=>a36 ok w' bp;obtain⟨m0,rfl⟩:∃m0:Nat,l=m0:=⟨l.toNat,by omega⟩
 rw[Int.toNat_natCast]at ha;have jB:∀(q:Nat) w',(asInt (.int k (q:Int))).run E.P w' = .ok (q:Int) w':=λq w'=>rfl;cases m0 with
 |zero=>
  cases ha;refine Val.here (c:=.slice none 0 0) r ?_ (by simp[VRel]);have cA:IntKind.i64.wrap ((0:Nat):Int)=0:=by rfl
  unfold Builtin.append_;simp only[f4h,f1p,f1q,Sem.run_bind,rq,Result.andThen_ok,aN,kF,Sem.run_pure,f4b,jB,cA];simp[fA]
 |succ m=>
  dsimp only at ha;rw[cond_eq_ite]at ha;split at ha
  case isFalse=>cases ha
  rename_i a8;cases ha;have pC:=a8;simp only[a2f,e9l,f0l]at a8;have s9:IntKind.i64.wrap ((m+1:Nat):Int)=((m+1:Nat):Int):=b0f (by omega) (by omega);have aU:=a7z (a9n:=m+1) (old:=0) (by omega);have qR:¬(Builtin.nextslicecap (m+1) 0*i.bytes>2^48):=by rw[je];have:Builtin.nextslicecap (m+1) 0*E.bytes aa≤(2*(m+1)+192)*E.bytes aa:=f4m _ aU;rw[Nat.mul_comm (2*(m+1)+192)]at this;omega
  have tv:(m+1)*E.bytes aa≤281474976710656:=by have:E.bytes aa*(m+1)≤E.bytes aa*(2*(m+1)+192):=Nat.mul_le_mul_left _ (by omega);rw[Nat.mul_comm];omega
  have qQ:¬(((m+1:Nat):Int)*(i.bytes:Int)>2^48):=by
   rw[je];have:((m+1:Nat):Int)*(E.bytes aa:Int)=(((m+1)*E.bytes aa:Nat):Int):=by simp
   rw[this];omega
  have pP:¬(((m+1:Nat):Int)<0):=by omega
  have jw:¬(((m+1:Nat):Int)>IntKind.i64.max):=by simp only[IntKind.max,IntKind.signed,IntKind.bits];simp;omega
  have bd:¬(m+1≤0):=by omega
  have nh:¬((m+1)*E.sz aa=0):=Nat.mul_ne_zero (by omega) (by omega);generalize hcap2:m+1+(w.tape w.drawn (.appendCap (m+1) 0 aa))%(2^63-(m+1))=bc;have aF:∀w',(Builtin.firstCells (E.sz aa) 0 (.slice none 0 0)).run E.P w' = .ok #[] w':=λw'=>rfl;have ac:(Builtin.append_ #[st,xt] ty #[.slice none 0 0,.int k ((m+1:Nat):Int)]).run E.P w =
   .ok (.slice (some ⟨w.heap.size,0,none⟩) (m+1) bc) { w with drawn:=w.drawn+1,heap:=w.heap.push (.cells (Builtin.zeroCells z'.cells (m+1)++Builtin.zeroCells z'.cells (bc-(m+1))) aa) }:=by
   unfold Builtin.append_;simp only[f4h,f1p,f1q,Sem.run_bind,rq,Result.andThen_ok,aN,kF,Sem.run_pure,f4b,jB,s9,pP,f7c,fA,qQ];have mO:((m+1:Nat):Int).toNat=m+1:=rfl;simp only[mO,f3e,bd,f7c,Sem.run_bind,fA,Result.andThen_ok,jw,false_and,qR,run_choose,run_askRoom,Question.forced,Question.cut,aF,f6m,f3l,nh,ff,a43,Sem.run_pure];rw[hcap2];simp
  have kj:m+1≤bc:=by omega
  have oC:∀q:Nat,(Builtin.zeroCells z'.cells q).size=q*E.sz aa:=by
   intro q;rw[←f2t,a4x]
   induction q with
   |zero=>simp
   |succ q ih=>rw[f6o,f4a,f1o,ih,dJ,f7i,Nat.add_comm]
  generalize bC:Builtin.zeroCells z'.cells (m+1)++Builtin.zeroCells z'.cells (bc-(m+1))=cells at ac;have iU:cells.size=bc*E.sz aa:=by
   subst bC;rw[Array.size_append,oC,oC,←f5o]
   congr 1;omega
  have re:∀c,I c→({ w with drawn:=w.drawn+1,heap:=w.heap.push (.cells cells aa) }:World).heap[c]?=w.heap[c]?:=by intro c hc;have:=r.imm c hc;show(w.heap.push _)[c]?=_;rw[f6x,f0j (by omega)]
  have fv:({ w with drawn:=w.drawn+1,heap:=w.heap.push (.cells cells aa) }:World).heap[w.heap.size]?=some (.cells cells aa (0,0)):=by show(w.heap.push _)[_]?=_;simp
  have a7:=PMap.set_old (m:=⟨w.heap.size,0,E.sz aa,cells.size⟩) hρ;have eb:∀x∈List.replicate (m+1) z,x.length=E.sz aa:=λx hx=>by rw[f4n hx];exact jj
  have ho:ORel E.G I { w with drawn:=w.drawn+1,heap:=w.heap.push (.cells cells aa) } (ρ.set n ⟨w.heap.size,0,E.sz aa,cells.size⟩) ⟨w.heap.size,0,E.sz aa,cells.size⟩ (.row (E.sz aa) (List.replicate (m+1) z)):=by
   refine⟨rfl,bJ,⟨cells,aa,fv,rfl,?_⟩,?_⟩
   ·show 0+(List.replicate (m+1) z).length*E.sz aa≤cells.size;rw[List.length_replicate,iU,f3e];exact f4m _ kj
   ·rw[VRows.iff];refine⟨eb,?_⟩;refine VAt.of_cells (cs:=(Builtin.zeroCells z'.cells (m+1)).toList) (CellsAt.of_heap fv (λj v hj=>?_)) ?_
    ·subst bC;have j6:=(e9k.1 hj).1;simp only[f2t]at j6;rw[f3e,Array.getElem?_append_left j6,←f5p];exact hj
    ·rw[a4x];exact VRels.flatten_replicate (VRels.noRef_any (ji I _)) _
  refine⟨_,_,ρ.set n ⟨w.heap.size,0,E.sz aa,cells.size⟩,ac,?_,?_,Moves.set _ _ _ rfl⟩
  ·exact a2a (ob:=.cells cells aa) r hn hρ rfl rfl rfl rfl rfl ho
  ·simp only[VRel];refine⟨_,bc,rfl,kj,(λq hq=>by cases hq),.inr ⟨_,by simp[PMap.set];rfl,by simp,?_⟩⟩;show 0+(0+bc)*E.sz aa≤cells.size;rw[iU,f3e,f3e];exact f1u _
end
end Go.Ax
/- AxAop: one operation that calls no function of the program, on abstract values; that the model does just that. -/
namespace Go.Ax
set_option maxHeartbeats 200000000
section
variable {E:Env}{I K:Nat→Prop}{ρ:PMap}{h:FHeap}{n:Nat}{w:World}
def b5d(t:Bool)(a b:AV):AV:=
 match a,b with
 |.bool x,.bool y=>.bool (bif t then x else y)
 |a,b=>bif t then a else b
theorem d6q{t:Bool}{a b:AV}{ca cb:Value}(ha:VRel I w ρ a ca)(hb:VRel I w ρ b cb):VRel I w ρ (b5d t a b) (if t then ca else cb):=by
 unfold b5d;split
 ·simp only[VRel]at ha hb;subst ha hb;cases t<;>simp[VRel]
 ·cases t<;>simpa
def a64:List (List AV)→Option (List UInt8)
 | []=>some []
 | [.int .u8 n]::r=>match a64 r with|some l=>some (UInt8.ofNat n.toNat::l)|none=>none
 |_::_=>none
def a6v(E:Env)(h:FHeap)(i7 dst:TypeId)(x:AV):Option AV:=
 match E.und i7,E.und dst,x with
 |some (.slice _),some .string,.str _=>none
 |some (.slice e),some .string,x=>match E.und e with
  |some (.int .u8)=>match a1z h 1 x with
   |some rows=>match a64 rows with
    |some l=>some (.str l)
    |none=>none
   |none=>none
  |_=>none
 |_,_,x=>d70 E i7 dst x
theorem b76:∀{rows:List (List AV)} {l:List UInt8} {cv:List Value} (aK:ByteArray),a64 rows=some l→VRels I w ρ rows.flatten cv→
 ∃s:ByteArray,(∀pg:String,(forIn cv aK (λc s=>match c with
  |.int .u8 n=>pure (ForInStep.yield (s.push (UInt8.ofNat n.toNat)))
  |_=>do
   stuck pg
   pure (ForInStep.yield s):Value→ByteArray→Sem (ForInStep ByteArray))).run E.P w = .ok s w)∧s.data.toList=aK.data.toList++l
 | [],l,cv,aK,ha,hv=>by simp only[a64,Option.some.injEq]at ha;subst ha;simp only[List.flatten_nil,VRels]at hv;subst hv;exact⟨aK,λ_=>by simp,by simp⟩
 |r::rows,l,cv,aK,ha,hv=>by
  unfold a64 at ha;split at ha
  ·rename_i h;cases h
  ·rename_i n r' he;cases he;split at ha
   case h_2=>cases ha
   rename_i l' hl;cases ha;simp only[f4a,f0k,e9q,VRels]at hv;obtain⟨c,cs,rfl,hc,dY⟩:=hv;simp only[VRel]at hc;subst hc;obtain⟨s,h1,h2⟩:=b76 (aK.push (UInt8.ofNat n.toNat)) hl dY;refine⟨s,λpg=>?_,?_⟩
   ·rw[List.forIn_cons];simp only[Sem.run_bind,Sem.run_pure,Result.andThen_ok];exact h1 pg
   ·rw[h2];simp
  ·cases ha
theorem d2r(ok:EnvOk E)(r:HRel E.G I K ρ h w){i7 dst:TypeId}{x v:AV}{c:Value}(hv:a6v E h i7 dst x=some v)(hx:VRel I w ρ x c) :
 ∃d,(convert i7 dst c).run E.P w = .ok d w∧VRel I w ρ v d:=by
 unfold a6v at hv;split at hv
 ·cases hv
 ·rename_i y e hs hd j1;split at hv
  case h_2=>cases hv
  rename_i he;split at hv
  case h_2=>cases hv
  rename_i rows hr;split at hv
  case h_2=>cases hv
  rename_i l hl;cases hv;obtain⟨ai,⟨cv,ac,bA⟩,hk⟩:=a4u r hr hx;obtain⟨s,h1,h2⟩:=b76 (E:=E) (w:=w) .empty hl bA;have fi:=ac w ⟨rfl,rfl,rfl,rfl⟩;refine⟨.string s,?_,by simp only[VRel];exact⟨s,rfl,by simpa using h2⟩⟩;unfold a1z at hr;split at hr
  ·simp only[VRel]at hx;subst hx;cases hr;simp only[a64,Option.some.injEq]at hl;subst hl;have:s = .empty:=by
    cases s;simp only[e9n]at h2;have:=Array.toList_inj.1 h2;subst this;rfl
   subst this;simp[convert,a0a ok w hs,a0a ok w hd,a0a ok w he,Conv.bytesToString]
  ·simp only[VRel]at hx;obtain⟨a,cc,k,rfl,_⟩:=hx;rw[cond_eq_ite]at hr;split at hr
   case isFalse=>cases hr
   cases hr;simp only[Builtin.firstCells,Nat.mul_one]at fi;simp only[convert,Sem.run_bind,a0a ok w hs,a0a ok w hd,a0a ok w he,Result.andThen_ok,Conv.bytesToString,fi];rw[←Array.forIn_toList];exact(congrArg (λr=>r.andThen (λa w'=>(pure (Value.string a):Sem Value).run E.P w')) (h1 _)).trans rfl
  ·simp only[VRel]at hx;obtain⟨a,cc,rfl,_⟩:=hx;simp only[Builtin.lenOf,Sem.run_pure,Result.ok.injEq,and_true]at ai;rw[←ai]at fi;simp only[Builtin.firstCells,Nat.mul_one]at fi;simp only[convert,Sem.run_bind,a0a ok w hs,a0a ok w hd,a0a ok w he,Result.andThen_ok,Conv.bytesToString,fi];rw[←Array.forIn_toList];exact(congrArg (λr=>r.andThen (λa w'=>(pure (Value.string a):Sem Value).run E.P w')) (h1 _)).trans rfl
  ·exact absurd rfl (j1 _)
  ·cases hr
 ·exact d6z ok hv hx
def b66(E:Env)(t:TypeId):AObj:=bif b7b E t then .uset []else .map [] [] [] 0
theorem c01(r:HRel E.G I K ρ h w)(hn:h n=none)(hρ:ρ n=none){t:TypeId}{s:Sem Value}
 (hs:s.run E.P w = .ok (.map (some w.heap.size)) { w with heap:=w.heap.push (.map #[] 0) }):Val E I K ρ h n w s (.map n) (.new (b66 E t)):=by
 unfold b66;cases b7b E t with
 |false=>exact e1w r hn hρ hs
 |true=>refine⟨_,_,ρ.set n ⟨w.heap.size,0,0,0⟩,hs,?_,by simp only[VRel];exact⟨_,by simp[PMap.set];rfl,rfl⟩,Moves.set _ _ _ rfl⟩;refine a2a (ob:=.map #[] 0) r hn hρ rfl rfl rfl rfl rfl ?_;exact⟨#[],0,by simp,by simp,by simp,by simp,by simp,by simp⟩
def d73(E:Env)(n:Nat)(h:FHeap)(b:Builtin)(ts:List TypeId)(args:List AV):Option (AV×Eff):=
 match b,ts,args with
 |.len,[t],[x]=>(b8v E h t x).map (·,.none)
 |.cap,[t],[x]=>(d32 E t x).map (·,.none)
 |.append,[st,xt],[s,x]=>oor (a4k E h n st xt s x) (a2t E n st xt s x)
 |.copy,[dt,_],[d,x]=>c7h E h dt d x
 |.clear,[t],[x]=>b75 E h t x
 |.delete,[t,_],[m,k]=>(c7g E h t m k).map (.tuple [],·)
 |.min,_,x::xs=>(d2g x xs).map (·,.none)
 |.max,_,x::xs=>(d6u x xs).map (·,.none)
 |_,_,_=>none
def aop(E:Env)(n:Nat)(h:FHeap)(op:Op)(v:Operand→AV):Option (AV×Eff):=
 match op with
 |.move x=>some (v x,.none)
 |.assign x=>some (v x,.none)
 |.pick c a b=>match v c with
  |.bool t=>some (b5d t (v a) (v b),.none)
  |_=>none
 |.alloc t=>e1v E n t
 |.box _ x=>e27 n (v x)
 |.build t ps=>(b77 E t (ps.toList.map λp=>(p.1,v p.2))).map (·,.none)
 |.buildSlice t len ps=>a3d E n t len (ps.toList.map λp=>(p.1,v p.2))
 |.load t a=>(a5e E h t (v a)).map (·,.none)
 |.store t a x=>(a7n E h t (v a) (v x)).map (.tuple [],·)
 |.nilCheck x=>match v x with
  |.ptr b i o=>some (.ptr b i o,.none)
  |.iptr cs=>some (.iptr cs,.none)
  |.func (.func f) fs cs=>some (.func (.func f) fs cs,.none)
  |_=>none
 |.binOp op t x y _=>(b1u E op t (v x) (v y) (a4h x||a4h y)).map (·,.none)
 |.unOp op _ x=>(aun op (v x)).map (·,.none)
 |.convert s d x=>(a6v E h s d (v x)).map (·,.none)
 |.makeInterface t x=>match E.und t with
  |some (.interface _)=>none
  |some _=>some (.iface t (v x),.none)
  |none=>none
 |.makeFunc fn first cap=>some (.func fn (first.toList.map v) (cap.toList.map v),.none)
 |.makeMap t r=>match r with
  |none=>some (.map n,.new (b66 E t))
  |some x=>match E.und t,v x with
   |some (.map _ _),.int _ _=>some (.map n,.new (b66 E t))
   |_,_=>none
 |.makeSlice t l c=>a47 E n t (v l) (v c)
 |.slice t x lo hi mx=>(a5b E h t (v x) (lo.map v) (hi.map v) (mx.map v)).map (·,.none)
 |.fieldAddr s x f=>(a5l E s (v x) f).map (·,.none)
 |.field t x f=>(d2o E t (v x) f).map (·,.none)
 |.indexAddr t x ix=>(a0s E h t (v x) (v ix)).map (·,.none)
 |.index t x ix=>(d2m E t (v x) (v ix)).map (·,.none)
 |.lookup t x k ok=>(oor (a7j E h t (v x) (v k) ok) (b4u E h t (v x) (v k) ok)).map (·,.none)
 |.mapUpdate t m k x=>(oor (a2o E h t (v m) (v k) (v x)) (b5c E h t (v m) (v k) (v x))).map (.tuple [],·)
 |.insert t m k x=>(oor (a2o E h t (v m) (v k) (v x)) (b5c E h t (v m) (v k) (v x))).map (.tuple [],·)
 |.mapEntry t m k=>b08 E h t (v m) (v k)
 |.entryStore _ m s x=>(a4v h (v m) (v s) (v x)).map (.tuple [],·)
 |.extract t i=>match v t with
  |.tuple vs=>match vs[i]? with
   |some x=>some (x,.none)
   |none=>none
  |_=>none
 |.range t x=>oor (c5a E n t (v x)) (b8s E n t (v x))
 |.next it b=>c1h h (v it) b
 |.entry it=>(b1b h (v it)).map (·,.none)
 |.call { callee:=.builtin b,args,argTypes }=>d73 E n h b argTypes.toList (args.toList.map v)
 |_=>none
def OpOk(E:Env)(I K:Nat→Prop)(ρ:PMap)(h:FHeap)(n:Nat)(a:Act)(w:World)(o:Oper)(v:AV)(e:Eff):Prop:=∃x w' c ρ',(execOp a.eval o).run E.P w = .ok x w'∧(x = .value c∨(x = .skip∧c=undef))∧Stepped E.G I K ρ w I ρ' (h.eff n e) w'∧VRel I w' ρ' v c∧Moves ρ ρ' n e
theorem OpOk.val{a:Act}{o:Oper}{v:AV}{e:Eff}{s:Sem Value}(hs:execOp a.eval o=(do pure (.value (←s))))(hv:Val E I K ρ h n w s v e):OpOk E I K ρ h n a w o v e:=by obtain⟨c,w',ρ',h1,h2,h3,h4⟩:=hv;exact⟨.value c,w',c,ρ',by rw[hs];simp[h1],.inl rfl,h2,h3,h4⟩
theorem OpOk.done{a:Act}{o:Oper}{e:Eff}{s:Sem Unit}(hs:execOp a.eval o=(do s;pure .skip))(hv:e6l E I K ρ h n w s e):OpOk E I K ρ h n a w o (.tuple []) e:=by obtain⟨w',ρ',h1,h2,h4⟩:=hv;exact⟨.skip,w',undef,ρ',by rw[hs];simp[h1],.inr ⟨rfl,rfl⟩,h2,by simp only[VRel,undef];exact⟨#[],rfl,by simp[VRels]⟩,h4⟩
theorem a05{α β:Type}{x:Option α}{f:α→β}{y:β}(h:x.map f=some y):∃a,x=some a∧f a=y:=by
 cases x with
 |none=>cases h
 |some a=>simp only[f0e,Option.some.injEq]at h;exact⟨a,rfl,h⟩
theorem a51{a:Act}{v:Operand→AV}(hv:∀x,VRel I w ρ (v x) (a.eval x)):∀l:List Operand,VRels I w ρ (l.map v) (l.map a.eval)
 | []=>by simp[VRels]
 |x::l=>by simp only[e12,VRels];exact⟨_,_,rfl,hv x,a51 hv l⟩
theorem b32{a:Act}{v:Operand→AV}(hv:∀x,VRel I w ρ (v x) (a.eval x)):∀l:List (Nat×Operand),a5f I w ρ (l.map λp=>(p.1,v p.2)) (l.map λp=>(p.1,a.eval p.2))
 | []=>by simp[a5f]
 |x::l=>by simp only[e12,a5f];exact⟨_,_,rfl,hv x.2,b32 hv l⟩
theorem b0q{a:Act}{v:Operand→AV}(hv:∀x,VRel I w ρ (v x) (a.eval x))(x:Option Operand):a3e I w ρ (x.map v) (x.map a.eval):=by
 cases x with
 |none=>simp[a3e]
 |some x=>simp only[f0e,a3e];exact⟨_,rfl,hv x⟩
theorem e28(ok:EnvOk E)(r:HRel E.G I K ρ h w)(hn:h n=none)(hρ:ρ n=none){b:Builtin}{ts:List TypeId}{args:List AV}{ak:List Value}{v:AV}{e:Eff}(ty:TypeId)(pb:Array Bool)
 (ha:d73 E n h b ts args=some (v,e))(hv:VRels I w ρ args ak):∃s:Sem Value,builtin b ts.toArray ty pb ak.toArray=(do pure (.value (←s)))∧Val E I K ρ h n w s v e:=by
 unfold d73 at ha;split at ha
 ·simp only[VRels]at hv;obtain⟨c,_,rfl,hx,rfl⟩:=hv;obtain⟨a,h1,h2⟩:=a05 ha;cases h2;exact⟨_,rfl,e1x ok r ty h1 hx⟩
 ·simp only[VRels]at hv;obtain⟨c,_,rfl,hx,rfl⟩:=hv;obtain⟨a,h1,h2⟩:=a05 ha;cases h2;exact⟨_,rfl,e23 ok r ty h1 hx⟩
 ·simp only[VRels]at hv;obtain⟨c,_,rfl,hx,c2,_,rfl,hy,rfl⟩:=hv;refine⟨_,rfl,?_⟩;rcases a91 ha with ha|ha
  ·exact c7k ok r hn hρ ty ha hx hy
  ·exact c3g ok r hn hρ ty ha hx hy
 ·simp only[VRels]at hv;obtain⟨c,_,rfl,hx,c2,_,rfl,hy,rfl⟩:=hv;exact⟨_,rfl,d6y ok r ty ha hx hy⟩
 ·simp only[VRels]at hv;obtain⟨c,_,rfl,hx,rfl⟩:=hv;exact⟨_,rfl,d2s ok r ty ha hx⟩
 ·simp only[VRels]at hv;obtain⟨c,_,rfl,hx,c2,_,rfl,hy,rfl⟩:=hv;obtain⟨a,h1,h2⟩:=a05 ha;cases h2;exact⟨_,rfl,d6x ok r ty h1 hx hy⟩
 ·simp only[VRels]at hv;obtain⟨c,cs,rfl,hx,bI⟩:=hv;obtain⟨a,h1,h2⟩:=a05 ha;cases h2;obtain⟨d,h3,h4⟩:=d2f (E:=E) (w:=w) h1 hx bI;exact⟨_,rfl,Val.here r (by simpa[Builtin.min_]using h3) h4⟩
 ·simp only[VRels]at hv;obtain⟨c,cs,rfl,hx,bI⟩:=hv;obtain⟨a,h1,h2⟩:=a05 ha;cases h2;obtain⟨d,h3,h4⟩:=d2h (E:=E) (w:=w) h1 hx bI;exact⟨_,rfl,Val.here r (by simpa[Builtin.max_]using h3) h4⟩
 ·cases ha
theorem d8f(ok:EnvOk E)(r:HRel E.G I K ρ h w)(hn:h n=none)(hρ:ρ n=none){a:Act}{o:Oper}{v:Operand→AV}{x:AV}{e:Eff}(ha:aop E n h o.op v=some (x,e))
 (hv:∀x,VRel I w ρ (v x) (a.eval x)):OpOk E I K ρ h n a w o x e:=by
 obtain⟨dst,op,type,pos,after,guard⟩:=o;simp only at ha;unfold aop at ha;split at ha
 ·cases ha;exact⟨_,w,_,ρ,rfl,.inl rfl,Stepped.refl r,hv _,Moves.same _ _ _⟩
 ·cases ha;exact⟨_,w,_,ρ,rfl,.inl rfl,Stepped.refl r,hv _,Moves.same _ _ _⟩
 ·rename_i c p q;split at ha
  case h_2=>cases ha
  rename_i t hc;cases ha;have aS:=hv c;rw[hc]at aS;simp only[VRel]at aS;refine⟨.value (if t then a.eval p else a.eval q),w,_,ρ,?_,.inl rfl,Stepped.refl r,d6q (hv p) (hv q),Moves.same _ _ _⟩;simp[execOp,aS,asBool]
 ·exact OpOk.val rfl (e1u ok r hn hρ ha _)
 ·exact OpOk.val rfl (e26 r hn hρ ha (hv _))
 ·obtain⟨y,h1,h2⟩:=a05 ha;cases h2;rename_i t ps;have:=d2t (n:=n) ok r h1 (b32 hv ps.toList);refine OpOk.val (s:=Instr.build t (ps.toList.map λp=>(p.1,a.eval p.2)).toArray) ?_ this;show(do pure (Next.value (←Instr.build t (ps.map λ(i,x)=>(i,a.eval x)))))=_
  congr 2
  apply f6r;simp
 ·rename_i t len ps;have:=b5f (n:=n) ok r hn hρ ha (b32 hv ps.toList);refine OpOk.val (s:=Instr.buildSlice t len (ps.toList.map λp=>(p.1,a.eval p.2)).toArray) ?_ this;show(do pure (Next.value (←Instr.buildSlice t len (ps.map λ(i,x)=>(i,a.eval x)))))=_
  congr 2
  apply f6r;simp
 ·obtain⟨y,h1,h2⟩:=a05 ha;cases h2;exact OpOk.val rfl (d6v ok r h1 (hv _))
 ·obtain⟨y,h1,h2⟩:=a05 ha;cases h2;exact OpOk.done rfl (d27 ok r h1 (hv _) (hv _))
 ·rename_i y;have hy:=hv y;split at ha
  ·rename_i b i o hq;cases ha;rw[hq]at hy;have ij:=hy;simp only[VRel]at ij;obtain⟨m,hm,hc⟩:=ij;exact⟨.value (a.eval y),w,_,ρ,by simp[execOp,hc],.inl rfl,Stepped.refl r,hy,Moves.same _ _ _⟩
  ·rename_i cs hq;cases ha;rw[hq]at hy;have ij:=hy;simp only[VRel]at ij;obtain⟨b,off,hc,_⟩:=ij;exact⟨.value (a.eval y),w,_,ρ,by simp[execOp,hc],.inl rfl,Stepped.refl r,hy,Moves.same _ _ _⟩
  ·rename_i f fs cs hq;cases ha;rw[hq]at hy;have ij:=hy;simp only[VRel]at ij;obtain⟨cz,aJ,hc,_⟩:=ij;exact⟨.value (a.eval y),w,_,ρ,by simp[execOp,hc],.inl rfl,Stepped.refl r,hy,Moves.same _ _ _⟩
  ·cases ha
 ·obtain⟨y,h1,h2⟩:=a05 ha;cases h2;obtain⟨c,h3,h4⟩:=e29 (E:=E) (w:=w) ok h1 (hv _) (hv _);exact OpOk.val rfl (Val.here r h3 h4)
 ·obtain⟨y,h1,h2⟩:=a05 ha;cases h2;obtain⟨c,h3,h4⟩:=e66 (E:=E) (w:=w) h1 (hv _);exact OpOk.val rfl (Val.here r h3 h4)
 ·obtain⟨y,h1,h2⟩:=a05 ha;cases h2;obtain⟨c,h3,h4⟩:=d2r ok r h1 (hv _);exact OpOk.val rfl (Val.here r h3 h4)
 ·rename_i t y;split at ha
  ·cases ha
  ·rename_i d au hd;cases ha;refine OpOk.val (s:=Instr.makeInterface t (a.eval y)) rfl (Val.here (c:=.iface t (a.eval y)) r ?_ (by simp only[VRel];exact⟨_,rfl,hv y⟩));simp only[Instr.makeInterface,Sem.run_bind,a0a ok w hd,Result.andThen_ok];cases d<;>first|rfl|(exact absurd rfl (au _))
  ·cases ha
 ·rename_i fn first cap
  cases ha;refine OpOk.val (s:=Instr.makeFunc fn (first.map a.eval) (cap.map a.eval)) rfl (Val.here r rfl ?_);simp only[VRel];exact⟨_,_,rfl,by rw[f5r];exact a51 hv _,by rw[f5r];exact a51 hv _⟩
 ·rename_i t rr;split at ha
  ·cases ha;exact OpOk.val (s:=Instr.makeMap t none) rfl (c01 r hn hρ (by simp[Instr.makeMap]))
  ·rename_i y;split at ha
   case h_2=>cases ha
   rename_i hd hy;cases ha;have ph:=hv y;rw[hy]at ph;simp only[VRel]at ph;refine OpOk.val (s:=Instr.makeMap t (some (a.eval y))) rfl (c01 r hn hρ ?_);simp[Instr.makeMap,a0a ok w hd,ph,asInt,asIntOf]
 ·exact OpOk.val rfl (b8t ok r hn hρ ha (hv _) (hv _))
 ·obtain⟨y,h1,h2⟩:=a05 ha;cases h2;exact OpOk.val rfl (d28 ok r h1 (hv _) (b0q hv _) (b0q hv _) (b0q hv _))
 ·obtain⟨y,h1,h2⟩:=a05 ha;cases h2;exact OpOk.val rfl (b8y ok r h1 (hv _))
 ·obtain⟨y,h1,h2⟩:=a05 ha;cases h2;exact OpOk.val rfl (d2n ok r h1 (hv _))
 ·obtain⟨y,h1,h2⟩:=a05 ha;cases h2;exact OpOk.val rfl (b8w ok r h1 (hv _) (hv _))
 ·obtain⟨y,h1,h2⟩:=a05 ha;cases h2;exact OpOk.val rfl (d2l ok r h1 (hv _) (hv _))
 ·obtain⟨y,h1,h2⟩:=a05 ha;cases h2;rcases a91 h1 with h1|h1
  ·exact OpOk.val rfl (c7c ok r h1 (hv _) (hv _))
  ·exact OpOk.val rfl (d2j ok r h1 (hv _) (hv _))
 ·obtain⟨y,h1,h2⟩:=a05 ha;cases h2;rcases a91 h1 with h1|h1
  ·exact OpOk.done rfl (b07 ok r h1 (hv _) (hv _) (hv _))
  ·exact OpOk.done rfl (c57 ok r h1 (hv _) (hv _) (hv _))
 ·obtain⟨y,h1,h2⟩:=a05 ha;cases h2;rcases a91 h1 with h1|h1
  ·exact OpOk.done rfl (b07 ok r h1 (hv _) (hv _) (hv _))
  ·exact OpOk.done rfl (c57 ok r h1 (hv _) (hv _) (hv _))
 ·exact OpOk.val rfl (c1j ok r ha (hv _) (hv _))
 ·obtain⟨y,h1,h2⟩:=a05 ha;cases h2;exact OpOk.done rfl (b5e r h1 (hv _) (hv _) (hv _))
 ·rename_i t i;split at ha
  case h_2=>cases ha
  rename_i vs ht;split at ha
  case h_2=>cases ha
  rename_i y hy;cases ha;have pv:=hv t;rw[ht]at pv;simp only[VRel]at pv;obtain⟨cs,hc,dY⟩:=pv;obtain⟨c,cR,hr⟩:=VRels.get i dY hy;refine OpOk.val (s:=Instr.extract (a.eval t) i) rfl (Val.here (c:=c) r ?_ hr);have:cs[i]?=some c:=by simpa using cR
  simp[Instr.extract,hc,this]
 ·rcases a91 ha with ha|ha
  ·exact OpOk.val rfl (d2a ok r hn hρ ha (hv _))
  ·exact OpOk.val rfl (c7b ok r hn hρ ha (hv _))
 ·exact OpOk.val rfl (d6s r type ha (hv _))
 ·obtain⟨y,h1,h2⟩:=a05 ha;cases h2;exact OpOk.val rfl (c7f r h1 (hv _))
 ·rename_i b args ts;obtain⟨s,hs,cq⟩:=e28 (E:=E) ok r hn hρ type (args.map λ|.const _=>true|_=>false) ha (a51 hv args.toList);refine OpOk.val ?_ cq;have ht:ts.toList.toArray=ts:=by apply f6r;simp
  rw[ht]at hs;rw[←hs];have hm:(args.toList.map a.eval).toArray=args.map a.eval:=by apply f6r;simp
  rw[hm];rfl
 ·cases ha
end
end Go.Ax
/- AxRen: block numbers that are renamed; what is frozen. -/
namespace Go.Ax
section
variable {G:GTab (List AV)}{I K:Nat→Prop}{ρ ρ':PMap}{h h':FHeap}{w:World}
theorem HRel.rename(r:HRel G I K ρ h w){π:Nat→Option Nat}(hπ:∀b b' m,π b=some b'→ρ b=some m→ρ' b'=some m)
 (hh:∀b' o',h' b'=some o'→∃b o,h b=some o∧π b=some b'∧o'=a0g π o)(lx:∀b' m,ρ' b'=some m→m.blk<w.heap.size):HRel G I K ρ' h' w:={
 live b' o' aL:=by obtain⟨b,o,hb,hp,rfl⟩:=hh b' o' aL;obtain⟨m,h1,h2,h3,h4⟩:=r.live b o hb;exact⟨m,hπ b b' m hp h1,h2,h3,ORel.ren hπ o h4⟩
 inj b1 b2 m1 m2 h1 h2 eg eL he:=by obtain⟨o1,d7⟩:=f0c.1 h1;obtain⟨o2,tp⟩:=f0c.1 h2;obtain⟨c1,q1,dZ,cI,_⟩:=hh b1 o1 d7;obtain⟨c2,q2,eP,cH,_⟩:=hh b2 o2 tp;obtain⟨n1,a9,_⟩:=r.live c1 q1 dZ;obtain⟨n2,dV,_⟩:=r.live c2 q2 eP;have e1:=hπ c1 b1 n1 cI a9;have e2:=hπ c2 b2 n2 cH dV;rw[eg]at e1;rw[eL]at e2;cases e1;cases e2;have:=r.inj c1 c2 _ _ (by simp[dZ]) (by simp[eP]) a9 dV he;subst this;rw[cI]at cH;exact z9o cH
 dom:=lx
 imm:=r.imm
 kept:=r.kept
 apart:=r.apart
 glob:=r.glob}
theorem Ext.keepLess{K':Nat→Prop}{w w':World}(e:Ext I K w w')(hK:∀c,K' c→K c):Ext I K' w w':=⟨e.os,e.tape,e.output,e.size,λc hc=>e.keep c (hc.imp id (hK c))⟩
/-! ### freezing -/
def d85(m:Nat)(top:Bool)(d:AV→Option AV)(b:Nat)(v:AV):Option AV:=bif Nat.blt b m then(bif top then some v else none)else d v
mutual
def a3i(m:Nat)(top:Bool)(d:AV→Option AV):AV→Option AV
 |.ptr b i o=>d85 m top d b (.ptr b i o)
 |.slice b off len cap=>d85 m top d b (.slice b off len cap)
 |.map b=>d85 m top d b (.map b)
 |.yfn b=>bif top&&Nat.blt b m then some (.yfn b)else none
 |.func fn fs cs=>match a5i m top d fs,a5i m top d cs with
  |some fs,some cs=>some (.func fn fs cs)
  |_,_=>none
 |.iface t x=>match a3i m top d x with
  |some x=>some (.iface t x)
  |none=>none
 |.agg cs=>match a5i m top d cs with
  |some cs=>some (.agg cs)
  |none=>none
 |.tuple cs=>match a5i m top d cs with
  |some cs=>some (.tuple cs)
  |none=>none
 |.iptr cs=>some (.iptr cs)
 |.islice rows cap=>some (.islice rows cap)
 |.imap ks vs bs bh=>some (.imap ks vs bs bh)
 |.iset ks=>some (.iset ks)
 |.junk=>some .junk
 |.bool b=>some (.bool b)
 |.int k n=>some (.int k n)
 |.str s=>some (.str s)
 |.nilptr=>some .nilptr
 |.nilslice=>some .nilslice
 |.nilmap=>some .nilmap
 |.nilfunc=>some .nilfunc
 |.nilifc=>some .nilifc
def a5i(m:Nat)(top:Bool)(d:AV→Option AV):List AV→Option (List AV)
 | []=>some []
 |v::vs=>match a3i m top d v,a5i m top d vs with
  |some v,some vs=>some (v::vs)
  |_,_=>none
end
def a8m(m:Nat)(d:AV→Option AV):List (List AV)→Option (List (List AV))
 | []=>some []
 |r::rs=>match a5i m false d r,a8m m d rs with
  |some r,some rs=>some (r::rs)
  |_,_=>none
def a58(h:FHeap)(m:Nat):Nat→AV→Option AV
 |0,_=>none
 |n+1,.ptr b i o=>match h b with
  |some (.row _ rows)=>match rows[i]? with
   |some r=>match a5i m false (a58 h m n) (r.drop o)with
    |some cs=>some (.iptr cs)
    |none=>none
   |none=>none
  |_=>none
 |n+1,.slice b off len cap=>match h b with
  |some (.row _ rows)=>bif Nat.ble (off+len) rows.length then
   match a8m m (a58 h m n) ((rows.drop off).take len)with
   |some rs=>some (.islice rs cap)
   |none=>none
   else none
  |_=>none
 |n+1,.map b=>match h b with
  |some (.map ks vs bs cl)=>match a5i m false (a58 h m n) ks,a5i m false (a58 h m n) vs with
   |some ks,some vs=>some (.imap ks vs bs cl)
   |_,_=>none
  |some (.uset ks)=>some (.iset ks)
  |_=>none
 |_+1,_=>none
def a3n(I:Nat→Prop)(ρ:PMap)(h:FHeap)(m:Nat):Nat→Prop:=λc=>I c∨∃b o p,m≤b∧h b=some o∧ρ b=some p∧p.blk=c
def c3i(I':Nat→Prop)(I:Nat→Prop)(w:World)(ρ:PMap)(m:Nat)(d:AV→Option AV):Prop:=∀b v v' c,(v = .map b∨(∃i o,v = .ptr b i o)∨∃off len cap,v = .slice b off len cap)→m≤b→d v=some v'→VRel I w ρ v c→VRel I' w noP v' c
def PMap.below(ρ:PMap)(m:Nat)(top:Bool):PMap:=λb=>if top=true∧b<m then ρ b else none
theorem a74{I I':Nat→Prop}{w:World}{ρ:PMap}(_:∀c,I c→I' c){v:AV}{c:Value}(h:VRel I' w noP v c):VRel I' w ρ v c:=VRel.mono (λ_ h=>h) (λ_ _=>rfl) v (λ_ _ h=>by simp[noP]at h) h
variable {I':Nat→Prop}{m:Nat}{top:Bool}{d:AV→Option AV}
mutual
theorem b0x(hI:∀c,I c→I' c)(hd:c3i I' I w ρ m d):∀(v:AV) {v':AV} {c:Value},a3i m top d v=some v'→VRel I w ρ v c→VRel I' w (ρ.below m top) v' c
 |.ptr b i o,v',c,hf,hv=>by
  simp only[a3i,d85]at hf;rw[cond_eq_ite]at hf;split at hf
  ·rename_i hb;rw[cond_eq_ite]at hf;split at hf
   case isFalse=>cases hf
   rename_i ht;cases hf;simp only[VRel]at hv⊢;obtain⟨p,hp,rfl⟩:=hv;exact⟨p,by simp only[PMap.below];rw[f1r ⟨ht,by simpa[f2p]using hb⟩];exact hp,rfl⟩
  ·rename_i hb;exact a74 (I:=I) hI (hd b _ _ _ (.inr (.inl ⟨i,o,rfl⟩)) (by simpa[f2p]using hb) hf hv)
 |.slice b off len cap,v',c,hf,hv=>by
  simp only[a3i,d85]at hf;rw[cond_eq_ite]at hf;split at hf
  ·rename_i hb;rw[cond_eq_ite]at hf;split at hf
   case isFalse=>cases hf
   rename_i ht;cases hf;simp only[VRel]at hv⊢;obtain⟨a,cc,rfl,h1,h2,h3⟩:=hv;refine⟨a,cc,rfl,h1,h2,h3.imp id ?_⟩
   rintro⟨p,hp,rfl,hr⟩
   exact⟨p,by simp only[PMap.below];rw[f1r ⟨ht,by simpa[f2p]using hb⟩];exact hp,rfl,hr⟩
  ·rename_i hb;exact a74 (I:=I) hI (hd b _ _ _ (.inr (.inr ⟨off,len,cap,rfl⟩)) (by simpa[f2p]using hb) hf hv)
 |.map b,v',c,hf,hv=>by
  simp only[a3i,d85]at hf;rw[cond_eq_ite]at hf;split at hf
  ·rename_i hb;rw[cond_eq_ite]at hf;split at hf
   case isFalse=>cases hf
   rename_i ht;cases hf;simp only[VRel]at hv⊢;obtain⟨p,hp,rfl⟩:=hv;exact⟨p,by simp only[PMap.below];rw[f1r ⟨ht,by simpa[f2p]using hb⟩];exact hp,rfl⟩
  ·rename_i hb;exact a74 (I:=I) hI (hd b _ _ _ (.inl rfl) (by simpa[f2p]using hb) hf hv)
 |.yfn b,v',c,hf,hv=>by
  simp only[a3i]at hf;rw[cond_eq_ite]at hf;split at hf
  case isFalse=>cases hf
  rename_i hb;cases hf;simp only[e9l,f2p]at hb;simp only[VRel]at hv⊢;obtain⟨p,hp,rfl⟩:=hv;exact⟨p,by simp only[PMap.below];rw[f1r hb];exact hp,rfl⟩
 |.func fn fs cs,v',c,hf,hv=>by
  simp only[a3i]at hf;split at hf
  case h_2=>cases hf
  rename_i cz aJ h1 h2;cases hf;simp only[VRel]at hv⊢;obtain⟨a,b,rfl,h3,h4⟩:=hv;exact⟨a,b,rfl,a83 hI hd fs h1 h3,a83 hI hd cs h2 h4⟩
 |.iface t x,v',c,hf,hv=>by
  simp only[a3i]at hf;split at hf
  case h_2=>cases hf
  rename_i x' h1;cases hf;simp only[VRel]at hv⊢;obtain⟨a,rfl,h3⟩:=hv;exact⟨a,rfl,b0x hI hd x h1 h3⟩
 |.agg cs,v',c,hf,hv=>by
  simp only[a3i]at hf;split at hf
  case h_2=>cases hf
  rename_i aJ h1;cases hf;simp only[VRel]at hv⊢;obtain⟨a,rfl,h3⟩:=hv;exact⟨a,rfl,a83 hI hd cs h1 h3⟩
 |.tuple cs,v',c,hf,hv=>by
  simp only[a3i]at hf;split at hf
  case h_2=>cases hf
  rename_i aJ h1;cases hf;simp only[VRel]at hv⊢;obtain⟨a,rfl,h3⟩:=hv;exact⟨a,rfl,a83 hI hd cs h1 h3⟩
 |.iptr cs,v',c,hf,hv=>by simp only[a3i,Option.some.injEq]at hf;subst hf;exact a74 (I:=I) hI (VRel.mono (ρ:=noP) (ρ':=noP) hI (λ_ _=>rfl) _ (λ_ _ h=>h) (by simpa only[VRel]using hv))
 |.islice rows cap,v',c,hf,hv=>by simp only[a3i,Option.some.injEq]at hf;subst hf;exact a74 (I:=I) hI (VRel.mono (ρ:=noP) (ρ':=noP) hI (λ_ _=>rfl) _ (λ_ _ h=>h) (by simpa only[VRel]using hv))
 |.imap ks vs bs bh,v',c,hf,hv=>by simp only[a3i,Option.some.injEq]at hf;subst hf;exact a74 (I:=I) hI (VRel.mono (ρ:=noP) (ρ':=noP) hI (λ_ _=>rfl) _ (λ_ _ h=>h) (by simpa only[VRel]using hv))
 |.iset ks,v',c,hf,hv=>by simp only[a3i,Option.some.injEq]at hf;subst hf;exact a74 (I:=I) hI (VRel.mono (ρ:=noP) (ρ':=noP) hI (λ_ _=>rfl) _ (λ_ _ h=>h) (by simpa only[VRel]using hv))
 |.junk,v',c,hf,hv=>by simp only[a3i,Option.some.injEq]at hf;subst hf;simp[VRel]
 |.bool b,v',c,hf,hv=>by simp only[a3i,Option.some.injEq]at hf;subst hf;simpa[VRel]using hv
 |.int k n,v',c,hf,hv=>by simp only[a3i,Option.some.injEq]at hf;subst hf;simpa[VRel]using hv
 |.str s,v',c,hf,hv=>by simp only[a3i,Option.some.injEq]at hf;subst hf;simpa[VRel]using hv
 |.nilptr,v',c,hf,hv=>by simp only[a3i,Option.some.injEq]at hf;subst hf;simpa[VRel]using hv
 |.nilslice,v',c,hf,hv=>by simp only[a3i,Option.some.injEq]at hf;subst hf;simpa[VRel]using hv
 |.nilmap,v',c,hf,hv=>by simp only[a3i,Option.some.injEq]at hf;subst hf;simpa[VRel]using hv
 |.nilfunc,v',c,hf,hv=>by simp only[a3i,Option.some.injEq]at hf;subst hf;simpa[VRel]using hv
 |.nilifc,v',c,hf,hv=>by simp only[a3i,Option.some.injEq]at hf;subst hf;simpa[VRel]using hv
theorem a83(hI:∀c,I c→I' c)(hd:c3i I' I w ρ m d):∀(vs:List AV) {d5:List AV} {cs:List Value},a5i m top d vs=some d5→VRels I w ρ vs cs→VRels I' w (ρ.below m top) d5 cs
 | [],d5,cs,hf,hv=>by simp only[a5i,Option.some.injEq]at hf;subst hf;simpa[VRels]using hv
 |v::vs,d5,cs,hf,hv=>by
  simp only[a5i]at hf;split at hf
  case h_2=>cases hf
  rename_i v1 kv h1 h2;cases hf;simp only[VRels]at hv⊢;obtain⟨c,aJ,rfl,h3,h4⟩:=hv;exact⟨c,aJ,rfl,b0x hI hd v h1 h3,a83 hI hd vs h2 h4⟩
end
theorem a7h(ρ:PMap)(m:Nat):ρ.below m false=noP:=by funext b;simp[PMap.below,noP]
theorem c2u(hI:∀c,I c→I' c)(hd:c3i I' I w ρ m d):∀(vs:List AV) {d5:List AV} {b off:Nat},a5i m false d vs=some d5→VAt I w ρ vs b off→VAt I' w noP d5 b off
 | [],d5,b,off,hf,_=>by simp only[a5i,Option.some.injEq]at hf;subst hf;simp[VAt]
 |v::vs,d5,b,off,hf,hv=>by
  simp only[a5i]at hf;split at hf
  case h_2=>cases hf
  rename_i v1 kv h1 h2;cases hf;simp only[VAt]at hv⊢;obtain⟨⟨c,hc,h3⟩,h4⟩:=hv;have:=b0x hI hd v h1 h3;rw[a7h]at this;exact⟨⟨c,hc,this⟩,c2u hI hd vs h2 h4⟩
theorem a97{m:Nat}{top:Bool}{d:AV→Option AV}:∀{vs d5:List AV},a5i m top d vs=some d5→d5.length=vs.length
 | [],d5,hf=>by simp only[a5i,Option.some.injEq]at hf;subst hf;rfl
 |v::vs,d5,hf=>by
  simp only[a5i]at hf;split at hf
  case h_2=>cases hf
  rename_i v1 kv h1 h2;cases hf;simp[a97 h2]
theorem d12{k:Nat}(hI:∀c,I c→I' c)(hd:c3i I' I w ρ m d):∀(rs:List (List AV)) {d8:List (List AV)} {b off:Nat},a8m m d rs=some d8→VRows I w k ρ rs b off→VRows I' w k noP d8 b off
 | [],d8,b,off,hf,_=>by simp only[a8m,Option.some.injEq]at hf;subst hf;simp[VRows]
 |r::rs,d8,b,off,hf,hv=>by
  simp only[a8m]at hf;split at hf
  case h_2=>cases hf
  rename_i v1 kv h1 h2;cases hf;simp only[VRows]at hv⊢;obtain⟨h3,h4,h5⟩:=hv;exact⟨by rw[a97 h1];exact h3,c2u hI hd r h1 h4,d12 hI hd rs h2 h5⟩
def b97(m:Nat)(d:AV→Option AV):List (List AV)→Option (List (List AV))
 | []=>some []
 |r::rs=>match a5i m true d r,b97 m d rs with
  |some r',some d8=>some (r'::d8)
  |_,_=>none
theorem c4m(hI:∀c,I c→I' c)(hd:c3i I' I w ρ m d):∀(vs:List AV) {d5:List AV} {b off:Nat},a5i m true d vs=some d5→VAt I w ρ vs b off→VAt I' w (ρ.below m true) d5 b off
 | [],d5,b,off,hf,_=>by simp only[a5i,Option.some.injEq]at hf;subst hf;simp[VAt]
 |v::vs,d5,b,off,hf,hv=>by
  simp only[a5i]at hf;split at hf
  case h_2=>cases hf
  rename_i v1 kv h1 h2;cases hf;simp only[VAt]at hv⊢;obtain⟨⟨c,hc,h3⟩,h4⟩:=hv;exact⟨⟨c,hc,b0x hI hd v h1 h3⟩,c4m hI hd vs h2 h4⟩
theorem c2t{k:Nat}(hI:∀c,I c→I' c)(hd:c3i I' I w ρ m d):∀(rs:List (List AV)) {d8:List (List AV)} {b off:Nat},b97 m d rs=some d8→VRows I w k ρ rs b off→VRows I' w k (ρ.below m true) d8 b off
 | [],d8,b,off,hf,_=>by simp only[b97,Option.some.injEq]at hf;subst hf;simp[VRows]
 |r::rs,d8,b,off,hf,hv=>by
  simp only[b97]at hf;split at hf
  case h_2=>cases hf
  rename_i v1 kv h1 h2;cases hf;simp only[VRows]at hv⊢;obtain⟨h3,h4,h5⟩:=hv;exact⟨by rw[a97 h1];exact h3,c4m hI hd r h1 h4,c2t hI hd rs h2 h5⟩
theorem a96{m:Nat}{d:AV→Option AV}:∀{rs d8:List (List AV)},b97 m d rs=some d8→d8.length=rs.length
 | [],d8,hf=>by simp only[b97,Option.some.injEq]at hf;subst hf;rfl
 |r::rs,d8,hf=>by
  simp only[b97]at hf;split at hf
  case h_2=>cases hf
  rename_i v1 kv h1 h2;cases hf;simp[a96 h2]
theorem b40{m:Nat}{d:AV→Option AV}:∀{rs d8:List (List AV)},a8m m d rs=some d8→d8.length=rs.length
 | [],d8,hf=>by simp only[a8m,Option.some.injEq]at hf;subst hf;rfl
 |r::rs,d8,hf=>by
  simp only[a8m]at hf;split at hf
  case h_2=>cases hf
  rename_i v1 kv h1 h2;cases hf;simp[b40 h2]
end
end Go.Ax
/- AxFrz: a result that is frozen, with the heap that is left. -/
namespace Go.Ax
section
variable {G:GTab (List AV)}{I K:Nat→Prop}{ρ:PMap}{h:FHeap}{w:World}{m:Nat}
theorem a5j(r:HRel G I K ρ h w):∀n,c3i (a3n I ρ h m) I w ρ m (a58 h m n)
 |0=>by intro b v v' c _ _ hd _;simp[a58]at hd
 |n+1=>by
  have ih:=a5j r n;have hI:∀c,I c→a3n I ρ h m c:=λc hc=>.inl hc;intro b v v' c hv hb hd hr;rcases hv with rfl|⟨i,o,rfl⟩|⟨off,len,cap,rfl⟩
  ·simp only[a58]at hd;split at hd
   case h_3=>cases hd
   case h_2=>rename_i ks cX;cases hd;simp only[VRel]at hr⊢;obtain⟨p,hp,rfl⟩:=hr;obtain⟨p',fM,_,_,es,cl,he,hs⟩:=r.live b _ cX;obtain rfl:p=p':=z9o (hp.symm.trans fM);exact⟨p.blk,es,cl,rfl,.inr ⟨b,_,p,hb,cX,hp,rfl⟩,he,hs⟩
   rename_i ks vs bs cl cX;split at hd
   case h_2=>cases hd
   rename_i jh d5 h1 h2;cases hd;simp only[VRel]at hr⊢;obtain⟨p,hp,rfl⟩:=hr;obtain⟨p',fM,_,_,es,he,hk,pq,qC⟩:=r.live b _ cX;obtain rfl:p=p':=z9o (hp.symm.trans fM);have e1:=a83 hI ih ks h1 hk;have e2:=a83 hI ih vs h2 pq;rw[a7h]at e1 e2;exact⟨p.blk,es,rfl,.inr ⟨b,_,p,hb,cX,hp,rfl⟩,he,e1,e2,qC⟩
  ·simp only[a58]at hd;split at hd
   case h_2=>cases hd
   rename_i k rows cX;split at hd
   case h_2=>cases hd
   rename_i rr jo;split at hd
   case h_2=>cases hd
   rename_i cs h1;cases hd;simp only[VRel]at hr⊢;obtain⟨p,hp,rfl⟩:=hr;obtain⟨p',fM,_,_,hk,_,_,az⟩:=r.live b _ cX;obtain rfl:p=p':=z9o (hp.symm.trans fM);obtain⟨ai,aW⟩:=VRows.get i az jo;have iZ:VAt I w ρ (rr.drop o) p.blk (p.off+i*k+o):=by
    by_cases ho:o≤rr.length
    ·exact VAt.drop o ho aW
    ·rw[f6j (by omega)];simp[VAt]
   rw[hk];exact⟨p.blk,_,rfl,.inr ⟨b,_,p,hb,cX,hp,rfl⟩,c2u hI ih _ h1 iZ⟩
  ·simp only[a58]at hd;split at hd
   case h_2=>cases hd
   rename_i k rows cX;rw[cond_eq_ite]at hd;split at hd
   case isFalse=>cases hd
   rename_i bP;rw[f4k]at bP;split at hd
   case h_2=>cases hd
   rename_i rs h1;cases hd;have ai:rs.length=len:=by rw[b40 h1];simp;omega
   simp only[VRel]at hr⊢;obtain⟨a,cc,rfl,bd,aU,bT⟩:=hr;obtain⟨p',fM,_,_,hk,_,_,az⟩:=r.live b _ cX;refine⟨a,cc,k,by rw[ai],by rw[ai];exact bd,aU,?_⟩;rcases bT with rfl|⟨p,hp,rfl,_⟩
   ·left;exact List.length_eq_zero_iff.1 (by omega)
   ·right;obtain rfl:p=p':=z9o (hp.symm.trans fM);refine⟨rfl,.inr ⟨b,_,p,hb,cX,hp,rfl⟩,?_⟩;have:=d12 hI ih _ h1 (VRows.take len (VRows.drop off (by omega) az));rw[hk];exact this
theorem HRel.grow{I':Nat→Prop}(r:HRel G I K ρ h w)(hI:∀c,I c→I' c)(nj:∀b o m,h b=some o→ρ b=some m→¬I' m.blk)(hK:∀c,I' c→¬K c)(bJ:∀c,I' c→c<w.heap.size) :
 HRel G I' K ρ h w:={
 live b o hb:=by obtain⟨m,h1,h2,h3,h4⟩:=r.live b o hb;exact⟨m,h1,nj b o m hb h1,h3,ORel.mono o hI (λ_ _=>rfl) (λ_ _ h=>h) rfl h4⟩
 inj:=r.inj
 dom:=r.dom
 imm:=bJ
 kept:=r.kept
 apart:=hK
 glob g cs hg:=⟨hI _ (r.glob g cs hg).1,VAt.mono hI (λ_ _=>rfl) cs (λ_ _ h=>h) rfl (r.glob g cs hg).2⟩}
def a1b(m:Nat):Nat→Option Nat:=λb=>bif Nat.blt b m then some b else none
theorem a9u(r:HRel G I K ρ h w){n:Nat}{v v':AV}{c:Value}(hf:a3i m true (a58 h m n) v=some v')(hv:VRel I w ρ v c){h':FHeap}
 (hh:∀b o',h' b=some o'→∃o,b<m∧h b=some o∧o'=a0g (a1b m) o) :
 HRel G (a3n I ρ h m) K (ρ.below m true) h' w∧VRel (a3n I ρ h m) w (ρ.below m true) v' c:=by
 have hI:∀c,I c→a3n I ρ h m c:=λc hc=>.inl hc;refine⟨?_,b0x hI (a5j r n) v hf hv⟩;have r0:HRel G I K ρ (λb=>if b<m then h b else none) w:=r.fewer (λb o hb=>by
  split at hb
  ·exact hb
  ·cases hb)
 have r1:HRel G (a3n I ρ h m) K ρ (λb=>if b<m then h b else none) w:=by
  refine r0.grow hI ?_ ?_ ?_
  ·intro b o p hb hp;split at hb
   case isFalse=>cases hb
   rename_i ag;obtain⟨p',fM,dg,_,_⟩:=r.live b o hb;obtain rfl:p=p':=z9o (hp.symm.trans fM)
   rintro(hc|⟨b',o',q,aL,dT,hq,he⟩)
   ·exact dg hc
   ·have:=r.inj b b' p q (by simp[hb]) (by simp[dT]) hp hq he.symm;omega
  ·rintro c (hc|⟨b',o',q,aL,dT,hq,rfl⟩)
   ·exact r.apart c hc
   ·obtain⟨q',fk,_,e9,_⟩:=r.live b' o' dT;obtain rfl:q=q':=z9o (hq.symm.trans fk);exact e9
  ·rintro c (hc|⟨b',o',q,aL,dT,hq,rfl⟩)
   ·exact r.imm c hc
   ·exact r.dom b' q hq
 refine r1.rename (π:=a1b m) ?_ ?_ ?_
 ·intro b b' p hp hb;simp only[a1b]at hp;rw[cond_eq_ite]at hp;split at hp
  case isFalse=>cases hp
  rename_i ag;cases hp;simp only[PMap.below];rw[f1r ⟨trivial,by simpa[f2p]using ag⟩];exact hb
 ·intro b o' hb;obtain⟨o,ag,ho,rfl⟩:=hh b o' hb;refine⟨b,o,by rw[f1r ag];exact ho,?_,rfl⟩;simp only[a1b];rw[cond_eq_ite,f1r (by simpa[f2p]using ag)]
 ·intro b p hb;simp only[PMap.below]at hb;split at hb
  ·exact r.dom b p hb
  ·cases hb
def c0w(m:Nat)(d:AV→Option AV):AObj→AObj
 |.row k rows=>match b97 m d rows with
  |some be=>.row k be
  |none=>a0g (a1b m) (.row k rows)
 |o=>a0g (a1b m) o
theorem d5q(m:Nat)(d:AV→Option AV)(o:AObj):c0w m d o=a0g (a1b m) o∨∃k rows be,o = .row k rows∧b97 m d rows=some be∧c0w m d o = .row k be:=by
 cases o with
 |row k rows=>
  cases hf:b97 m d rows with
  |none=>left;simp[c0w,hf]
  |some be=>right;exact⟨k,rows,be,rfl,hf,by simp[c0w,hf]⟩
 |_=>left;rfl
theorem c2x(r:HRel G I K ρ h w){n:Nat}{h':FHeap}(hh:∀b o',h' b=some o'→∃o,b<m∧h b=some o∧o'=c0w m (a58 h m n) o) :
 HRel G (a3n I ρ h m) K (ρ.below m true) h' w:=by
 have hI:∀c,I c→a3n I ρ h m c:=λc hc=>.inl hc;have h1:=(a9u (h':=λb=>if b<m then(h b).map (a0g (a1b m))else none) r (v:=.junk) (v':=.junk) (c:=.nilFunc) (n:=n) (m:=m) rfl (by simp[VRel]) (λb o' hb=>by
  split at hb
  case isFalse=>cases hb
  rename_i ag;cases hx:h b with
  |none=>rw[hx]at hb;cases hb
  |some o=>rw[hx]at hb;cases hb;exact⟨o,ag,rfl,rfl⟩)).1
 have low:∀b,(h' b).isSome→(if b<m then(h b).map (a0g (a1b m))else none).isSome:=by intro b hb;obtain⟨o',ho⟩:=f0c.1 hb;obtain⟨o,ag,hx,_⟩:=hh b o' ho;rw[f1r ag,hx];rfl
 refine⟨?_,λb b' p p' hb aL=>h1.inj b b' p p' (low b hb) (low b' aL),h1.dom,h1.imm,h1.kept,h1.apart,h1.glob⟩;intro b o' hb;obtain⟨o,ag,hx,rfl⟩:=hh b o' hb;obtain⟨p,hp,pS,e9,hO⟩:=h1.live b (a0g (a1b m) o) (by simp only[f1r ag,hx,f0e]);refine⟨p,hp,pS,e9,?_⟩;rcases d5q m (a58 h m n) o with e|⟨k,rows,be,rfl,hf,e⟩
 ·rw[e];exact hO
 ·rw[e];obtain⟨p',fM,_,_,hk,hk0,⟨bR,el,mo,nY,qI⟩,az⟩:=r.live b _ hx;have gb:ρ b=some p:=by
   simp only[PMap.below]at hp;rw[f1r ⟨trivial,ag⟩]at hp;exact hp
  obtain rfl:p=p':=z9o (gb.symm.trans fM);exact⟨hk,hk0,⟨bR,el,mo,nY,by rw[a96 hf];exact qI⟩,c2t hI (a5j r n) rows hf az⟩
end
end Go.Ax
