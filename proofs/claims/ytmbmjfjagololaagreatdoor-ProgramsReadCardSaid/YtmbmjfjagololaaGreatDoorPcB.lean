/- Programs as plain data: names, signals, timing sets, vectors, and what Read makes of a line. -/
import GoSem.Core.Utf8
import Derived.Lib.Bytealg
set_option linter.unusedSimpArgs false
set_option linter.unusedVariables false
namespace Go.Pc
/-! ### names -/
def b1y(b:UInt8):Bool:=decide (33≤b.toNat)&&decide (b.toNat≤126)
def a3s(s:List UInt8):Bool:=match s with
 | []=>false
 |a::r=>decide (s.length≤32)&&(!(Nat.beq a.toNat 35)&&s.all b1y)
/-! ### programs -/
structure Sg where
 name:List UInt8
 dir:Nat
structure Tm where
 name:List UInt8
 per:Int
 dr:Int
 ri:Int
 fa:Int
 st:Int
structure Vc where
 t:Int
 cells:List UInt8
 rep:Int
def a9n(s:Sg):Bool:=a3s s.name&&decide (s.dir≤1)
def a5l(t:Tm):Bool:=a3s t.name&&(decide (1≤t.per)&&(decide (t.per≤1000000)&&(decide (0≤t.dr)&&(decide (t.dr<t.ri)&&(decide (t.ri<t.fa)&&(decide (t.fa<t.per)&&(decide (0≤t.st)&&decide (t.st<t.per))))))))
def a1d(d:Nat):List UInt8:=if d=1 then[76,72,88]else[48,49,88,80]
def a1w:List Sg→List UInt8→Bool
 | [],[]=>true
 |s::S,c::cs=>(a1d s.dir).contains c&&a1w S cs
 |_,_=>false
def a22(v:Vc)(S:List Sg)(nt:Nat):Bool:=decide (0≤v.t)&&(decide (v.t<nt)&&(decide (1≤v.rep)&&(decide (v.rep≤1000000)&&a1w S v.cells)))
theorem d09(s:List UInt8)(i:Nat)(h:i<s.length):((⟨s.toArray⟩:ByteArray).get! i)=s[i]:=by show(s.toArray)[i]! = s[i];simp[h]
theorem b9d{s:List UInt8}{i:Nat}{b:UInt8}(h:s[i]?=some b)(hb:b.toNat<128):Utf8.decode ⟨s.toArray⟩ i=(b.toNat,1):=by obtain⟨hi,he⟩:=List.getElem?_eq_some_iff.1 h;unfold Utf8.decode;simp only[Nat.add_zero,d09 s i hi,he];rw[if_pos hb]
theorem c65{s:List UInt8}{i:Nat}{b:UInt8}(h:s[i]?=some b)(hb:128≤b.toNat):128≤(Utf8.decode ⟨s.toArray⟩ i).1:=by
 obtain⟨hi,he⟩:=List.getElem?_eq_some_iff.1 h;unfold Utf8.decode;simp only[Nat.add_zero,d09 s i hi,he];rw[if_neg (by omega)];have hr:Utf8.runeError=65533:=rfl;split
 ·split
  ·assumption
  ·rw[hr];decide
 ·split
  ·split
   ·rename_i hc;simp only[Bool.and_eq_true,decide_eq_true_eq]at hc;have:=hc.1;show 128≤_;omega
   ·rw[hr];decide
  ·split
   ·split
    ·rename_i hc;simp only[Bool.and_eq_true,decide_eq_true_eq]at hc;have:=hc.1;show 128≤_;omega
    ·rw[hr];decide
   ·rw[hr];decide
theorem a8p:∀(S:List Sg) (cs:List UInt8),S.length=cs.length→(∀(i:Nat) (s:Sg) (c:UInt8),S[i]?=some s→cs[i]?=some c→(a1d s.dir).contains c=true)→a1w S cs=true
 | [],[],_,_=>rfl
 | [],_::_,h,_=>by simp at h
 |_::_,[],h,_=>by simp at h
 |s::S,c::cs,h,hh=>by simp only[a1w,Bool.and_eq_true];exact⟨hh 0 s c rfl rfl,a8p S cs (by simpa using h) λi s c h1 h2=>hh (i+1) s c h1 h2⟩
theorem a9b:∀(S:List Sg) (cs:List UInt8) (i:Nat) (s:Sg) (c:UInt8),S[i]?=some s→cs[i]?=some c→(a1d s.dir).contains c=false→a1w S cs=false
 | [],cs,i,s,c,h1,_,_=>by simp at h1
 |_::_,[],i,s,c,_,h2,_=>by simp at h2
 |s0::S,c0::cs,0,s,c,h1,h2,h3=>by cases h1;cases h2;simp only[a1w,h3,Bool.false_and]
 |s0::S,c0::cs,i+1,s,c,h1,h2,h3=>by simp only[a1w,a9b S cs i s c h1 h2 h3,Bool.and_false]
theorem a4s:∀(S:List Sg) (cs:List UInt8),a1w S cs=true→S.length=cs.length
 | [],[],_=>rfl
 | [],_::_,h=>by simp[a1w]at h
 |_::_,[],h=>by simp[a1w]at h
 |_::S,_::cs,h=>by simp only[a1w,Bool.and_eq_true]at h;simp[a4s S cs h.2]
theorem c2x(s:List UInt8)(c:UInt8)(h:s.contains c=false):Go.Lib.indexByte s c = -1:=by
 induction s with
 |nil=>rfl
 |cons b l ih=>rw[List.contains_cons,Bool.or_eq_false_iff]at h;have hb:(b==c)=false:=beq_eq_false_iff_ne.2 λe=>beq_eq_false_iff_ne.1 h.1 e.symm;unfold Go.Lib.indexByte;rw[hb,ih h.2];rfl
theorem a8v(s:List UInt8)(c:UInt8)(h:s.contains c=true):0≤Go.Lib.indexByte s c:=by
 induction s with
 |nil=>cases h
 |cons b l ih=>
  unfold Go.Lib.indexByte;split
  ·omega
  ·rename_i hb;have hl:l.contains c=true:=by
    rw[List.contains_cons,Bool.or_eq_true]at h;rcases h with h|h
    ·exact absurd (beq_iff_eq.2 (beq_iff_eq.1 h).symm) hb
    ·exact h
   have h0:=ih hl;have h1:(Go.Lib.indexByte l c == -1)=false:=beq_eq_false_iff_ne.2 (by omega);rw[if_neg (by rw[h1];decide)];omega
end Go.Pc
namespace Go.Pc
structure TIn(t:Tm):Prop where
 dr0:0≤t.dr
 ri:t.dr<t.ri
 fa:t.ri<t.fa
 per:t.fa<t.per
 top:t.per≤1000000
 st0:0≤t.st
 st1:t.st<t.per
theorem c46{t:Tm}(h:a5l t=true):TIn t:=by simp only[a5l,Bool.and_eq_true,decide_eq_true_eq]at h;obtain⟨_,h1,h2,h3,h4,h5,h6,h7,h8⟩:=h;exact⟨h3,h4,h5,h6,h2,h7,h8⟩
end Go.Pc
/- What a program drives, as plain data. -/
namespace Go.Pc
end Go.Pc
namespace Go.Pc
end Go.Pc
