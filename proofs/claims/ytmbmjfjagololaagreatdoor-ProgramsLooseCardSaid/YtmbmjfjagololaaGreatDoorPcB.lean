/- Programs as plain data: names, signals, timing sets, vectors, and what Read makes of a line. -/
import GoSem.Core.Utf8
import Derived.Lib.Bytealg
set_option linter.unusedSimpArgs false
set_option linter.unusedVariables false
namespace Go.Pc
/-! ### names -/
def b1t(b:UInt8):Bool:=decide (33≤b.toNat)&&decide (b.toNat≤126)
def a43(s:List UInt8):Bool:=match s with
 | []=>false
 |a::r=>decide (s.length≤32)&&(!(Nat.beq a.toNat 35)&&s.all b1t)
/-! ### programs -/
structure Sg where
 name:List UInt8
 dir:Nat
structure Tm where
 name:List UInt8
 per:Int
 dr:Int
 ri:Int
 fa:Int
 st:Int
structure Vc where
 t:Int
 cells:List UInt8
 rep:Int
def b1r(s:Sg):Bool:=a43 s.name&&decide (s.dir≤1)
def a5j(t:Tm):Bool:=a43 t.name&&(decide (1≤t.per)&&(decide (t.per≤1000000)&&(decide (0≤t.dr)&&(decide (t.dr<t.ri)&&(decide (t.ri<t.fa)&&(decide (t.fa<t.per)&&(decide (0≤t.st)&&decide (t.st<t.per))))))))
def a23(d:Nat):List UInt8:=if d=1 then[76,72,88]else[48,49,88,80]
def a29:List Sg→List UInt8→Bool
 | [],[]=>true
 |s::S,c::cs=>(a23 s.dir).contains c&&a29 S cs
 |_,_=>false
def a55(v:Vc)(S:List Sg)(nt:Nat):Bool:=decide (0≤v.t)&&(decide (v.t<nt)&&(decide (1≤v.rep)&&(decide (v.rep≤1000000)&&a29 S v.cells)))
theorem c9k(s:List UInt8)(i:Nat)(h:i<s.length):((⟨s.toArray⟩:ByteArray).get! i)=s[i]:=by show(s.toArray)[i]! = s[i];simp[h]
theorem b8r{s:List UInt8}{i:Nat}{b:UInt8}(h:s[i]?=some b)(hb:b.toNat<128):Utf8.decode ⟨s.toArray⟩ i=(b.toNat,1):=by obtain⟨hi,he⟩:=List.getElem?_eq_some_iff.1 h;unfold Utf8.decode;simp only[Nat.add_zero,c9k s i hi,he];rw[if_pos hb]
theorem c5u{s:List UInt8}{i:Nat}{b:UInt8}(h:s[i]?=some b)(hb:128≤b.toNat):128≤(Utf8.decode ⟨s.toArray⟩ i).1:=by
 obtain⟨hi,he⟩:=List.getElem?_eq_some_iff.1 h;unfold Utf8.decode;simp only[Nat.add_zero,c9k s i hi,he];rw[if_neg (by omega)];have hr:Utf8.runeError=65533:=rfl;split
 ·split
  ·assumption
  ·rw[hr];decide
 ·split
  ·split
   ·rename_i hc;simp only[Bool.and_eq_true,decide_eq_true_eq]at hc;have:=hc.1;show 128≤_;omega
   ·rw[hr];decide
  ·split
   ·split
    ·rename_i hc;simp only[Bool.and_eq_true,decide_eq_true_eq]at hc;have:=hc.1;show 128≤_;omega
    ·rw[hr];decide
   ·rw[hr];decide
theorem b15:∀(S:List Sg) (cs:List UInt8),S.length=cs.length→(∀(i:Nat) (s:Sg) (c:UInt8),S[i]?=some s→cs[i]?=some c→(a23 s.dir).contains c=true)→a29 S cs=true
 | [],[],_,_=>rfl
 | [],_::_,h,_=>by simp at h
 |_::_,[],h,_=>by simp at h
 |s::S,c::cs,h,hh=>by simp only[a29,Bool.and_eq_true];exact⟨hh 0 s c rfl rfl,b15 S cs (by simpa using h) λi s c h1 h2=>hh (i+1) s c h1 h2⟩
theorem a8x:∀(S:List Sg) (cs:List UInt8) (i:Nat) (s:Sg) (c:UInt8),S[i]?=some s→cs[i]?=some c→(a23 s.dir).contains c=false→a29 S cs=false
 | [],cs,i,s,c,h1,_,_=>by simp at h1
 |_::_,[],i,s,c,_,h2,_=>by simp at h2
 |s0::S,c0::cs,0,s,c,h1,h2,h3=>by cases h1;cases h2;simp only[a29,h3,Bool.false_and]
 |s0::S,c0::cs,i+1,s,c,h1,h2,h3=>by simp only[a29,a8x S cs i s c h1 h2 h3,Bool.and_false]
theorem a4t:∀(S:List Sg) (cs:List UInt8),a29 S cs=true→S.length=cs.length
 | [],[],_=>rfl
 | [],_::_,h=>by simp[a29]at h
 |_::_,[],h=>by simp[a29]at h
 |_::S,_::cs,h=>by simp only[a29,Bool.and_eq_true]at h;simp[a4t S cs h.2]
theorem d6b(s:List UInt8)(c:UInt8)(h:s.contains c=false):Go.Lib.indexByte s c = -1:=by
 induction s with
 |nil=>rfl
 |cons b l ih=>rw[List.contains_cons,Bool.or_eq_false_iff]at h;have hb:(b==c)=false:=beq_eq_false_iff_ne.2 λe=>beq_eq_false_iff_ne.1 h.1 e.symm;unfold Go.Lib.indexByte;rw[hb,ih h.2];rfl
theorem b5i(s:List UInt8)(c:UInt8)(h:s.contains c=true):0≤Go.Lib.indexByte s c:=by
 induction s with
 |nil=>cases h
 |cons b l ih=>
  unfold Go.Lib.indexByte;split
  ·omega
  ·rename_i hb;have hl:l.contains c=true:=by
    rw[List.contains_cons,Bool.or_eq_true]at h;rcases h with h|h
    ·exact absurd (beq_iff_eq.2 (beq_iff_eq.1 h).symm) hb
    ·exact h
   have h0:=ih hl;have h1:(Go.Lib.indexByte l c == -1)=false:=beq_eq_false_iff_ne.2 (by omega);rw[if_neg (by rw[h1];decide)];omega
end Go.Pc
namespace Go.Pc
structure TIn(t:Tm):Prop where
 dr0:0≤t.dr
 ri:t.dr<t.ri
 fa:t.ri<t.fa
 per:t.fa<t.per
 top:t.per≤1000000
 st0:0≤t.st
 st1:t.st<t.per
theorem c0k{t:Tm}(h:a5j t=true):TIn t:=by simp only[a5j,Bool.and_eq_true,decide_eq_true_eq]at h;obtain⟨_,h1,h2,h3,h4,h5,h6,h7,h8⟩:=h;exact⟨h3,h4,h5,h6,h2,h7,h8⟩
end Go.Pc
/- What a program drives, as plain data. -/
namespace Go.Pc
end Go.Pc
namespace Go.Pc
end Go.Pc
/- The events of a wave tell what the program drives. -/
namespace Go.Pc
end Go.Pc
