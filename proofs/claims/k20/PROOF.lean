import PyProof.Rows.All
import Wide.All
import OpenK.AllK
import Wide.FinOn
import HandS.ForMost
import HandS.Deep
import HandS.ForExc
import HandS.IsInst
import HandS.Conv
import HandS.More
import KE.SortData
import KE.SortLaws
import KE.KDictSum
import KE.KDictItemsList
import HandS.CallSlots
import HandS.Style
import HandS.Walk
import HandS.SetKeys
import KE.DataFind
import HandS.DictComp
import HandS.SortKw
import HandS.Keys
import KE.SortKeyHeap
import KE.KEqDict
import PyProof.EqAt
import PyProof.EqKinds
import PyProof.TupleCall
import HandS.Set
import HandS.Strs
import PySem.Challenge.RW_mastcalls_k20_whole_more
set_option Elab.async false
set_option linter.all false
set_option maxRecDepth 100000
/-! D1: deep frozen data, mutable cells, the typed readings. -/
namespace Dp
open PySem L2

/-- a value with all that hangs on it; adr: a thing that may change (its content stands in the memory), a def, a class -/
inductive D where
  | non | bl (b : Bool) | int (i : Int) | str (s : Str) | ty (n : String) | adr (a : Addr)
  | tup (xs : List D) | lst (xs : List D) | kls (xs : List D) | dK (kvs : List (Key × D)) | dT (kvs : List (List Key × D))
  | ins (C : Addr) (fs : List (Str × D))

/-- a field of a class of the text that is an instance's own -/
def FOk (K : PySem.W.Frag) (C : Addr) (f : Str) : Prop := Cls K C ∧ NoAttr K C f
/-- in the (frozen) heap F the value v is the datum d -/
inductive Rep (K : PySem.W.Frag) (F : Hp) : V → D → Prop
  | non : Rep K F .non .non
  | bl (b : Bool) : Rep K F (.bl b) (.bl b)
  | int (i : Int) : Rep K F (.int i) (.int i)
  | str (s : Str) : Rep K F (.str s) (.str s)
  | ty (n : String) : Rep K F (.ty n) (.ty n)
  | adr (a : Addr) : Rep K F (.ref a) (.adr a)
  | tup {a : Addr} {vs : List V} {ds : List D} (h : F a = some (.tup vs)) (l : vs.length = ds.length) (r : ∀ (i : Nat) v d, vs[i]? = some v → ds[i]? = some d → Rep K F v d) : Rep K F (.ref a) (.tup ds)
  | lst {a : Addr} {vs : List V} {ds : List D} (h : F a = some (.lst vs)) (l : vs.length = ds.length) (r : ∀ (i : Nat) v d, vs[i]? = some v → ds[i]? = some d → Rep K F v d) : Rep K F (.ref a) (.lst ds)
  | kls {a : Addr} {vs : List V} {ds : List D} (h : SqL K F a vs) (l : vs.length = ds.length) (r : ∀ (i : Nat) v d, vs[i]? = some v → ds[i]? = some d → Rep K F v d) : Rep K F (.ref a) (.kls ds)
  | dK {a : Addr} {o : Obj} {kvs : List (Key × V)} {ds : List (Key × D)} (h : F a = some (.frz o (.dK kvs))) (l : kvs.map (·.1) = ds.map (·.1)) (r : ∀ (i : Nat) p q, kvs[i]? = some p → ds[i]? = some q → Rep K F p.2 q.2) : Rep K F (.ref a) (.dK ds)
  | dT {a : Addr} {o : Obj} {kvs : List (List Key × V)} {ds : List (List Key × D)} (h : F a = some (.frz o (.dT kvs))) (l : kvs.map (·.1) = ds.map (·.1)) (r : ∀ (i : Nat) p q, kvs[i]? = some p → ds[i]? = some q → Rep K F p.2 q.2) : Rep K F (.ref a) (.dT ds)
  | ins {a C dx : Addr} {fs : List (Str × V)} {ds : List (Str × D)} (h : F a = some (.ins C dx fs)) (k : ∀ p ∈ ds, FOk K C p.1) (l : fs.map (·.1) = ds.map (·.1)) (r : ∀ (i : Nat) p q, fs[i]? = some p → ds[i]? = some q → Rep K F p.2 q.2) : Rep K F (.ref a) (.ins C ds)

/-- what can be read in F can be read in F' -/
structure Le (F F' : Hp) : Prop where
  lst : ∀ a xs, Rd F a (.lst xs) → Rd F' a (.lst xs)
  tup : ∀ a xs, F a = some (.tup xs) → F' a = some (.tup xs)
  lst' : ∀ a xs, F a = some (.lst xs) → F' a = some (.lst xs)
  dK : ∀ a o xs, F a = some (.frz o (.dK xs)) → F' a = some (.frz o (.dK xs))
  dT : ∀ a o xs, F a = some (.frz o (.dT xs)) → F' a = some (.frz o (.dT xs))
  ins : ∀ a C dx fs, F a = some (.ins C dx fs) → F' a = some (.ins C dx fs)
theorem rd_same {F F' : Hp} (h : Same F F') {a : Addr} {u : HO} (r : Rd F a u) : Rd F' a u := by
  rcases r with r | ⟨o, r⟩
  · exact .inl (h _ _ r)
  · exact .inr ⟨o, h _ _ r⟩
theorem Le.of {F F' : Hp} (h : Same F F') : Le F F' := ⟨fun _ _ => rd_same h, fun _ _ r => h _ _ r, fun _ _ r => h _ _ r, fun _ _ _ r => h _ _ r, fun _ _ _ r => h _ _ r, fun _ _ _ _ r => h _ _ r⟩
theorem Le.refl (F : Hp) : Le F F := .of (.refl F)
theorem Le.trans {F G H : Hp} (a : Le F G) (b : Le G H) : Le F H :=
  ⟨fun _ _ r => b.lst _ _ (a.lst _ _ r), fun _ _ r => b.tup _ _ (a.tup _ _ r), fun _ _ r => b.lst' _ _ (a.lst' _ _ r), fun _ _ _ r => b.dK _ _ _ (a.dK _ _ _ r), fun _ _ _ r => b.dT _ _ _ (a.dT _ _ _ r), fun _ _ _ _ r => b.ins _ _ _ _ (a.ins _ _ _ _ r)⟩
theorem Le.sqL {K : PySem.W.Frag} {F F' : Hp} (e : Le F F') {a : Addr} {xs : List V} (h : SqL K F a xs) : SqL K F' a xs := by
  rcases h with h | h
  · exact .inl (e.lst _ _ h)
  · exact .inr h
section
variable {K : PySem.W.Frag} {F F' : Hp}
theorem Rep.mono (e : Le F F') {v : V} {d : D} (h : Rep K F v d) : Rep K F' v d := by
  induction h with
  | non => exact .non
  | bl b => exact .bl b
  | int i => exact .int i
  | str s => exact .str s
  | ty n => exact .ty n
  | adr a => exact .adr a
  | tup h l _ ih => exact .tup (e.tup _ _ h) l ih
  | lst h l _ ih => exact .lst (e.lst' _ _ h) l ih
  | kls h l _ ih => exact .kls (e.sqL h) l ih
  | dK h l _ ih => exact .dK (e.dK _ _ _ h) l ih
  | dT h l _ ih => exact .dT (e.dT _ _ _ h) l ih
  | ins h k l _ ih => exact .ins (e.ins _ _ _ _ h) k l ih
theorem Rep.up (e : Same F F') {v : V} {d : D} (h : Rep K F v d) : Rep K F' v d := h.mono (.of e)

abbrev Reps (K : PySem.W.Frag) (F : Hp) : List V → List D → Prop := Paired (Rep K F)
theorem Reps.mono (e : Le F F') : ∀ {vs : List V} {ds : List D}, Reps K F vs ds → Reps K F' vs ds
  | _, _, .nil => .nil
  | _, _, .cons r t => .cons (r.mono e) (Reps.mono e t)
theorem Reps.up (e : Same F F') {vs : List V} {ds : List D} (h : Reps K F vs ds) : Reps K F' vs ds := h.mono (.of e)
theorem Reps.len {vs : List V} {ds : List D} (h : Reps K F vs ds) : vs.length = ds.length := Paired.length h
theorem Reps.at_ : ∀ {vs : List V} {ds : List D}, Reps K F vs ds → ∀ (i : Nat) v d, vs[i]? = some v → ds[i]? = some d → Rep K F v d
  | _, _, .nil, _, _, _, h, _ => by simp at h
  | _, _, .cons r t, 0, _, _, h, h' => by simp at h h'; subst h h'; exact r
  | _, _, .cons r t, i + 1, _, _, h, h' => Reps.at_ t i _ _ (by simpa using h) (by simpa using h')
theorem Reps.of : ∀ {vs : List V} {ds : List D}, vs.length = ds.length → (∀ (i : Nat) v d, vs[i]? = some v → ds[i]? = some d → Rep K F v d) → Reps K F vs ds
  | [], [], _, _ => .nil
  | v :: vs, d :: ds, l, h => .cons (h 0 v d rfl rfl) (Reps.of (by simpa using l) fun i v d a b => h (i + 1) v d (by simpa using a) (by simpa using b))
  | [], _ :: _, l, _ => by simp at l
  | _ :: _, [], l, _ => by simp at l
theorem Rep.tupR {a : Addr} {vs : List V} {ds : List D} (h : F a = some (.tup vs)) (r : Reps K F vs ds) : Rep K F (.ref a) (.tup ds) := .tup h r.len r.at_
theorem Rep.lstR {a : Addr} {vs : List V} {ds : List D} (h : F a = some (.lst vs)) (r : Reps K F vs ds) : Rep K F (.ref a) (.lst ds) := .lst h r.len r.at_
/-- rows -/
def RepsK {κ : Type} (K : PySem.W.Frag) (F : Hp) : List (κ × V) → List (κ × D) → Prop := Paired fun p q => p.1 = q.1 ∧ Rep K F p.2 q.2
theorem RepsK.mono {κ : Type} (e : Le F F') : ∀ {vs : List (κ × V)} {ds : List (κ × D)}, RepsK K F vs ds → RepsK K F' vs ds
  | _, _, .nil => .nil
  | _, _, .cons r t => .cons ⟨r.1, r.2.mono e⟩ (RepsK.mono e t)
theorem RepsK.up {κ : Type} (e : Same F F') {vs : List (κ × V)} {ds : List (κ × D)} (h : RepsK K F vs ds) : RepsK K F' vs ds := h.mono (.of e)
theorem RepsK.keys {κ : Type} : ∀ {vs : List (κ × V)} {ds : List (κ × D)}, RepsK K F vs ds → vs.map (·.1) = ds.map (·.1)
  | _, _, .nil => rfl
  | _, _, .cons r t => by rw [List.map_cons, List.map_cons, r.1, RepsK.keys t]
theorem RepsK.len {κ : Type} {vs : List (κ × V)} {ds : List (κ × D)} (h : RepsK K F vs ds) : vs.length = ds.length := Paired.length h
theorem RepsK.at_ {κ : Type} : ∀ {vs : List (κ × V)} {ds : List (κ × D)}, RepsK K F vs ds → ∀ (i : Nat) p q, vs[i]? = some p → ds[i]? = some q → Rep K F p.2 q.2
  | _, _, .nil, _, _, _, h, _ => by simp at h
  | _, _, .cons r t, 0, _, _, h, h' => by simp at h h'; subst h h'; exact r.2
  | _, _, .cons r t, i + 1, _, _, h, h' => RepsK.at_ t i _ _ (by simpa using h) (by simpa using h')
theorem RepsK.of {κ : Type} : ∀ {vs : List (κ × V)} {ds : List (κ × D)}, vs.map (·.1) = ds.map (·.1) → (∀ (i : Nat) p q, vs[i]? = some p → ds[i]? = some q → Rep K F p.2 q.2) → RepsK K F vs ds
  | [], [], _, _ => .nil
  | v :: vs, d :: ds, l, h => by
    simp only [List.map_cons, List.cons.injEq] at l
    exact .cons ⟨l.1, h 0 v d rfl rfl⟩ (RepsK.of l.2 fun i v d a b => h (i + 1) v d (by simpa using a) (by simpa using b))
  | [], _ :: _, l, _ => by simp at l
  | _ :: _, [], l, _ => by simp at l
theorem Rep.insR {a C dx : Addr} {vs : List (Str × V)} {ds : List (Str × D)} (h : F a = some (.ins C dx vs)) (k : ∀ p ∈ ds, FOk K C p.1) (r : RepsK K F vs ds) : Rep K F (.ref a) (.ins C ds) := .ins h k r.keys r.at_
theorem Rep.dKR {a : Addr} {o : Obj} {vs : List (Key × V)} {ds : List (Key × D)} (h : F a = some (.frz o (.dK vs))) (r : RepsK K F vs ds) : Rep K F (.ref a) (.dK ds) := .dK h r.keys r.at_
theorem Rep.dTR {a : Addr} {o : Obj} {vs : List (List Key × V)} {ds : List (List Key × D)} (h : F a = some (.frz o (.dT vs))) (r : RepsK K F vs ds) : Rep K F (.ref a) (.dT ds) := .dT h r.keys r.at_

theorem Rep.int_of {v : V} {i : Int} (h : Rep K F v (.int i)) : v = .int i := by cases h; rfl
theorem Rep.bl_of {v : V} {i : Bool} (h : Rep K F v (.bl i)) : v = .bl i := by cases h; rfl
theorem Rep.str_of {v : V} {i : Str} (h : Rep K F v (.str i)) : v = .str i := by cases h; rfl
theorem Rep.non_of {v : V} (h : Rep K F v .non) : v = .non := by cases h; rfl
theorem Rep.adr_of {v : V} {a : Addr} (h : Rep K F v (.adr a)) : v = .ref a := by cases h; rfl
theorem Rep.tup_of {v : V} {ds : List D} (h : Rep K F v (.tup ds)) : ∃ a vs, v = .ref a ∧ F a = some (.tup vs) ∧ Reps K F vs ds := by
  cases h with | tup h l r => exact ⟨_, _, rfl, h, .of l r⟩
theorem Rep.kls_of {v : V} {ds : List D} (h : Rep K F v (.kls ds)) : ∃ a vs, v = .ref a ∧ SqL K F a vs ∧ Reps K F vs ds := by
  cases h with | kls h l r => exact ⟨_, _, rfl, h, .of l r⟩
theorem Rep.lst_of {v : V} {ds : List D} (h : Rep K F v (.lst ds)) : ∃ a vs, v = .ref a ∧ F a = some (.lst vs) ∧ Reps K F vs ds := by
  cases h with | lst h l r => exact ⟨_, _, rfl, h, .of l r⟩
theorem Rep.dK_of {v : V} {ds : List (Key × D)} (h : Rep K F v (.dK ds)) : ∃ a o vs, v = .ref a ∧ F a = some (.frz o (.dK vs)) ∧ RepsK K F vs ds := by
  cases h with | dK h l r => exact ⟨_, _, _, rfl, h, .of l r⟩
theorem Rep.dT_of {v : V} {ds : List (List Key × D)} (h : Rep K F v (.dT ds)) : ∃ a o vs, v = .ref a ∧ F a = some (.frz o (.dT vs)) ∧ RepsK K F vs ds := by
  cases h with | dT h l r => exact ⟨_, _, _, rfl, h, .of l r⟩
theorem Rep.ins_of {v : V} {C : Addr} {ds : List (Str × D)} (h : Rep K F v (.ins C ds)) : ∃ a dx vs, v = .ref a ∧ F a = some (.ins C dx vs) ∧ (∀ p ∈ ds, FOk K C p.1) ∧ RepsK K F vs ds := by
  cases h with | ins h k l r => exact ⟨_, _, _, rfl, h, k, .of l r⟩
end

/-! ### the memory of cells -/
inductive MO where
  | lst (xs : List D) | dK (kvs : List (Key × D)) | dT (kvs : List (List Key × D)) | ins (C : Addr) (fs : List (Str × D))
  | lkK (o : Obj) (vs : List (Key × V)) (kvs : List (Key × D)) | lkT (o : Obj) (vs : List (List Key × V)) (kvs : List (List Key × D)) | raw (o : HO)
abbrev Mem := Addr → Option MO
def mup (M : Mem) (a : Addr) (m : MO) : Mem := fun b => if b = a then some m else M b
theorem mup_same {M : Mem} {a : Addr} {m : MO} : mup M a m a = some m := if_pos rfl
theorem mup_ne {M : Mem} {a b : Addr} {m : MO} (h : b ≠ a) : mup M a m b = M b := if_neg h
theorem mup_mup {M : Mem} {a : Addr} {m n : MO} : mup (mup M a m) a n = mup M a n := by
  funext b; unfold mup; split <;> rfl
theorem mup_swap {M : Mem} {a b : Addr} {m n : MO} (h : a ≠ b) : mup (mup M a m) b n = mup (mup M b n) a m := by
  funext c; unfold mup
  by_cases h1 : c = b
  · subst h1; rw [if_pos rfl, if_neg (Ne.symm h), if_pos rfl]
  · rw [if_neg h1, if_neg h1]
def mdel (M : Mem) (a : Addr) : Mem := fun b => if b = a then none else M b
inductive RepO (K : PySem.W.Frag) (F : Hp) : HO → MO → Prop
  | lst {vs ds} (r : Reps K F vs ds) : RepO K F (.lst vs) (.lst ds)
  | dK {vs ds} (r : RepsK K F vs ds) : RepO K F (.dK vs) (.dK ds)
  | dT {vs ds} (r : RepsK K F vs ds) : RepO K F (.dT vs) (.dT ds)
  | ins {C dx vs ds} (k : ∀ p ∈ ds, FOk K C p.1) (r : RepsK K F vs ds) : RepO K F (.ins C dx vs) (.ins C ds)
  | lkK {o vs ds} (r : RepsK K F vs ds) : RepO K F (.frz o (.dK vs)) (.lkK o vs ds)
  | lkT {o vs ds} (r : RepsK K F vs ds) : RepO K F (.frz o (.dT vs)) (.lkT o vs ds)
  | raw (o : HO) (h : ∀ xs, o ≠ .tup xs) : RepO K F o (.raw o)
theorem RepO.mono {K : PySem.W.Frag} {F F' : Hp} (e : Le F F') {o : HO} {m : MO} (h : RepO K F o m) : RepO K F' o m := by
  cases h with
  | lst r => exact .lst (r.mono e)
  | dK r => exact .dK (r.mono e)
  | dT r => exact .dT (r.mono e)
  | ins k r => exact .ins k (r.mono e)
  | lkK r => exact .lkK (r.mono e)
  | lkT r => exact .lkT (r.mono e)
  | raw o h => exact .raw o h
/-- sizes: what every heap keeps -/
structure Sz (K : PySem.W.Frag) (H : Hp) : Prop where
  lst : ∀ a xs, SqL K H a xs → xs.length ≤ sizeLine
  tup : ∀ a xs, SqT K H a xs → xs.length ≤ sizeLine
  dK : ∀ a xs, Rd H a (.dK xs) → xs.length ≤ sizeLine
  dT : ∀ a xs, Rd H a (.dT xs) → xs.length ≤ sizeLine
theorem Inv.sz_ {X : Cx} {pins : List (Addr × Obj)} {σ : St} {H : Hp} {s : Shared} (I : Inv X pins σ H s) : Sz X.K H where
  lst := fun a xs h => let ⟨_, _, _, z⟩ := I.list h; z
  tup := fun a xs h => let ⟨_, _, _, z⟩ := I.tuple h; z
  dK := fun a xs h => (dk_rd I.hok h).1
  dT := fun a xs h => (dt_rd I.hok h).1
structure MOk (K : PySem.W.Frag) (M : Mem) (F H : Hp) : Prop where
  sub : Same F H
  mem : ∀ a m, M a = some m → F a = none ∧ ∃ o, H a = some o ∧ RepO K F o m
  sz : Sz K H
abbrev DSt := List (Option D)
structure SOk (K : PySem.W.Frag) (B : Hp) (Γ : DSt) (M : Mem) (F : Hp) (σ : St) (H : Hp) : Prop extends MOk K M F H where
  base : Same B F
  len : Γ.length = σ.length
  slot : ∀ (i : Nat) d, Γ[i]? = some (some d) → ∃ v, σ[i]? = some (some v) ∧ Rep K F v d
theorem SOk.step {K : PySem.W.Frag} {B : Hp} {Γ : DSt} {M M' : Mem} {F F' : Hp} {σ : St} {H H' : Hp} (h : SOk K B Γ M F σ H) (e : Same F F') (m : MOk K M' F' H') : SOk K B Γ M' F' σ H' :=
  ⟨m, h.base.trans e, h.len, fun i d g => let ⟨v, a, b⟩ := h.slot i d g; ⟨v, a, b.up e⟩⟩
theorem SOk.set {K : PySem.W.Frag} {B : Hp} {Γ : DSt} {M : Mem} {F : Hp} {σ : St} {H : Hp} (h : SOk K B Γ M F σ H) (i : Nat) {v : V} {d : D} (r : Rep K F v d) : SOk K B (Γ.set i (some d)) M F (σ.set i (some v)) H := by
  refine ⟨h.toMOk, h.base, by simp [h.len], fun j e g => ?_⟩
  by_cases q : i = j
  · subst q
    have hl : i < Γ.length := by
      have := (List.getElem?_eq_some_iff.mp g).1
      simpa using this
    rw [List.getElem?_set_self hl] at g
    cases g
    exact ⟨v, List.getElem?_set_self (by rw [← h.len]; exact hl), r⟩
  · rw [List.getElem?_set_ne q] at g
    rw [List.getElem?_set_ne q]
    exact h.slot j e g
/-- forgetting a slot -/
theorem SOk.drop {K : PySem.W.Frag} {B : Hp} {Γ : DSt} {M : Mem} {F : Hp} {σ : St} {H : Hp} (h : SOk K B Γ M F σ H) (i : Nat) (o : Option V) : SOk K B (Γ.set i none) M F (σ.set i o) H := by
  refine ⟨h.toMOk, h.base, by simp [h.len], fun j e g => ?_⟩
  by_cases q : i = j
  · subst q
    have hl : i < Γ.length := by
      have := (List.getElem?_eq_some_iff.mp g).1
      simpa using this
    rw [List.getElem?_set_self hl] at g
    cases g
  · rw [List.getElem?_set_ne q] at g
    rw [List.getElem?_set_ne q]
    exact h.slot j e g
/-- less memory -/
def MLe (M M' : Mem) : Prop := ∀ a m, M a = some m → M' a = some m
theorem MLe.refl (M : Mem) : MLe M M := fun _ _ h => h
theorem MOk.less {K : PySem.W.Frag} {M M' : Mem} {F H : Hp} (h : MOk K M' F H) (l : MLe M M') : MOk K M F H := ⟨h.sub, fun a m e => h.mem a m (l a m e), h.sz⟩

/-! ### the readings -/
abbrev DTE := DSt → Mem → (D → Mem → Prop) → Prop
abbrev DTT := DSt → Mem → (Bool → Mem → Prop) → Prop
abbrev DTA := DSt → Mem → (List D → Mem → Prop) → Prop
/-- what follows a value -/
def Fol (K : PySem.W.Frag) (F : Hp) (R : D → Mem → Prop) (Q : VK) : Prop := ∀ d M' F' v H', MOk K M' F' H' → Same F F' → Rep K F' v d → R d M' → Q v H'
def LE (K : PySem.W.Frag) (B : Hp) (t : DTE) : TE := fun σ H Q => ∃ Γ M F R, SOk K B Γ M F σ H ∧ t Γ M R ∧ Fol K F R Q
def LT (K : PySem.W.Frag) (B : Hp) (t : DTT) : TT := fun σ H Q => ∃ Γ M F R, SOk K B Γ M F σ H ∧ t Γ M R ∧ ∀ b M' F' H', MOk K M' F' H' → Same F F' → R b M' → Q b H'
def LA (K : PySem.W.Frag) (B : Hp) (t : DTA) : TA := fun σ H Q => ∃ Γ M F R, SOk K B Γ M F σ H ∧ t Γ M R ∧ ∀ ds M' F' vs H', MOk K M' F' H' → Same F F' → Reps K F' vs ds → R ds M' → Q vs H'
abbrev DE (X : Cx) (B : Hp) (e : Expr) (t : DTE) : Prop := PE X e (LE X.K B t)
abbrev DT (X : Cx) (B : Hp) (e : Expr) (t : DTT) : Prop := PT X e (LT X.K B t)
abbrev DA (X : Cx) (B : Hp) (es : List Expr) (t : DTA) : Prop := PA X es (LA X.K B t)
structure DEnds where
  nx : DSt → Mem → Prop
  rt : D → Mem → Prop
  bk : DSt → Mem → Prop := fun _ _ => False
  ct : DSt → Mem → Prop := fun _ _ => False
abbrev DTS := DEnds → DSt → Mem → Prop
def FolS (K : PySem.W.Frag) (B F : Hp) (R : DSt → Mem → Prop) (Q : St → Hp → Prop) : Prop := ∀ Γ M F' σ H', SOk K B Γ M F' σ H' → Same F F' → R Γ M → Q σ H'
structure FolD (K : PySem.W.Frag) (B F : Hp) (R : DEnds) (E : Ends) : Prop where
  nx : FolS K B F R.nx E.nx
  rt : Fol K F R.rt E.rt
  bk : FolS K B F R.bk E.bk
  ct : FolS K B F R.ct E.ct
def LS (K : PySem.W.Frag) (B : Hp) (t : DTS) : TS := fun E σ H => ∃ Γ M F R, SOk K B Γ M F σ H ∧ t R Γ M ∧ FolD K B F R E
abbrev DS (X : Cx) (B : Hp) (st : Stmt) (t : DTS) : Prop := PS X st (LS X.K B t)
abbrev DSs (X : Cx) (B : Hp) (sts : List Stmt) (t : DTS) : Prop := PSs X sts (LS X.K B t)
theorem Fol.up {K : PySem.W.Frag} {F F' : Hp} {R : D → Mem → Prop} {Q : VK} (h : Fol K F R Q) (e : Same F F') : Fol K F' R Q := fun d M' F2 v H' m e2 => h d M' F2 v H' m (e.trans e2)
theorem FolS.up {K : PySem.W.Frag} {B F F' : Hp} {R : DSt → Mem → Prop} {Q : St → Hp → Prop} (h : FolS K B F R Q) (e : Same F F') : FolS K B F' R Q := fun Γ M F2 σ H' m e2 => h Γ M F2 σ H' m (e.trans e2)
theorem FolD.up {K : PySem.W.Frag} {B F F' : Hp} {R : DEnds} {E : Ends} (h : FolD K B F R E) (e : Same F F') : FolD K B F' R E := ⟨h.nx.up e, h.rt.up e, h.bk.up e, h.ct.up e⟩

/-! ### a thing may be locked for good (a frozen dict is) -/
inductive Lk (P : Hp → Prop) : Hp → Prop
  | now {H : Hp} (h : P H) : Lk P H
  | lock {H : Hp} {a : Addr} {u : HO} (h : H a = some u) (m : Mut (some u)) (k : ∀ od, Lk P (upd H a (.frz od u))) : Lk P H
theorem Lk.run {X : Cx} {pins : List (Addr × Obj)} {σ : St} {s : Shared} {P : Hp → Prop} {H : Hp} (l : Lk P H) : Inv X pins σ H s → ∃ H', Inv X pins σ H' s ∧ P H' := by
  induction l with
  | now h => exact fun I => ⟨_, I, h⟩
  | lock h m _ ih => exact fun I => let ⟨od, I'⟩ := I.lock h m; ih od I'
theorem Lk.imp {P P' : Hp → Prop} {H : Hp} (l : Lk P H) (h : ∀ H, P H → P' H) : Lk P' H := by
  induction l with
  | now q => exact .now (h _ q)
  | lock q m _ ih => exact .lock q m ih
abbrev SzQ (K : PySem.W.Frag) (Q : VK) : VK := fun v H' => Sz K H' → Lk (Q v) H'
abbrev SzS (K : PySem.W.Frag) (Q : St → Hp → Prop) : St → Hp → Prop := fun σ H' => Sz K H' → Lk (Q σ) H'
/-! ### from HandS's rules: sizes are known on both sides -/
section
variable {X : Cx} {B : Hp}
theorem de_of {e : Expr} {te : TE} {t : DTE} (h : PE X e te) (w : ∀ Γ M F σ H R Q, SOk X.K B Γ M F σ H → t Γ M R → Fol X.K F R Q → te σ H (SzQ X.K Q)) : DE X B e t :=
  ⟨fun pins s σ H Q I ⟨Γ, M, F, R, so, ht, fol⟩ => thn (h.run pins s σ H _ I (w Γ M F σ H R Q so ht fol)) fun u s' ⟨v, H', I', r, q⟩ => let ⟨H2, I2, q2⟩ := (q (Inv.sz_ I')).run I'; ⟨v, H2, I2, r, q2⟩⟩
theorem dt_of {e : Expr} {te : TT} {t : DTT} (h : PT X e te) (w : ∀ Γ M F σ H R (Q : Bool → Hp → Prop), SOk X.K B Γ M F σ H → t Γ M R → (∀ b M' F' H', MOk X.K M' F' H' → Same F F' → R b M' → Q b H') → te σ H (fun b H' => Sz X.K H' → Q b H')) : DT X B e t :=
  ⟨fun pins s σ H Q I ⟨Γ, M, F, R, so, ht, fol⟩ => thn (h.run pins s σ H _ I (w Γ M F σ H R Q so ht fol)) fun u s' ⟨H', I', q⟩ => ⟨H', I', q (Inv.sz_ I')⟩⟩
theorem ds_of {st : Stmt} {ts : TS} {t : DTS} (h : PS X st ts) (w : ∀ Γ M F σ H R (E : Ends), SOk X.K B Γ M F σ H → t R Γ M → FolD X.K B F R E → ts ⟨SzS X.K E.nx, SzQ X.K E.rt, SzS X.K E.bk, SzS X.K E.ct⟩ σ H) : DS X B st t := by
  refine ⟨fun pins s σ H E I ⟨Γ, M, F, R, so, ht, fol⟩ => thn (h.run pins s σ H _ I (w Γ M F σ H R E so ht fol)) fun f s' q => ?_⟩
  cases f with
  | next => obtain ⟨σ', H', I', q⟩ := q; obtain ⟨H2, I2, q2⟩ := (q (Inv.sz_ I')).run I'; exact ⟨σ', H2, I2, q2⟩
  | brk => obtain ⟨σ', H', I', q⟩ := q; obtain ⟨H2, I2, q2⟩ := (q (Inv.sz_ I')).run I'; exact ⟨σ', H2, I2, q2⟩
  | cont => obtain ⟨σ', H', I', q⟩ := q; obtain ⟨H2, I2, q2⟩ := (q (Inv.sz_ I')).run I'; exact ⟨σ', H2, I2, q2⟩
  | ret u => obtain ⟨v, σ', H', I', r, q⟩ := q; obtain ⟨H2, I2, q2⟩ := (q (Inv.sz_ I')).run I'; exact ⟨v, σ', H2, I2, r, q2⟩
end

/-! ### a new object, a new cell, a cell written -/
section
variable {K : PySem.W.Frag} {M : Mem} {F H : Hp} {p a : Addr} {o : HO} {m m' : MO}
theorem MOk.free (h : MOk K M F H) (hp : H p = none) : F p = none := h.sub.free hp
theorem MOk.mfree (h : MOk K M F H) (hp : H p = none) : M p = none := by
  cases q : M p with
  | none => rfl
  | some m =>
    obtain ⟨_, o, e, _⟩ := h.mem p m q
    rw [hp] at e; cases e
theorem same_upd (hp : H p = none) : Same H (upd H p o) := fun b u e => by rw [upd_ne (ne_of_none e hp)]; exact e
theorem MOk.sameF (h : MOk K M F H) (hp : H p = none) : Same F (upd F p o) := same_upd (h.free hp)
theorem MOk.new (h : MOk K M F H) (hp : H p = none) (sz : Sz K (upd H p o)) : MOk K M (upd F p o) (upd H p o) := by
  refine ⟨fun b u e => ?_, fun b m e => ?_, sz⟩
  · by_cases q : b = p
    · subst q; rw [upd_same] at e ⊢; exact e
    · rw [upd_ne q] at e ⊢; exact h.sub b u e
  · obtain ⟨f, u, e1, r⟩ := h.mem b m e
    have q : b ≠ p := ne_of_none e1 hp
    exact ⟨by rw [upd_ne q]; exact f, u, by rw [upd_ne q]; exact e1, r.mono (.of (h.sameF hp))⟩
theorem MOk.cell (h : MOk K M F H) (hp : H p = none) (r : RepO K F o m) (sz : Sz K (upd H p o)) : MOk K (mup M p m) F (upd H p o) := by
  refine ⟨fun b u e => same_upd hp b u (h.sub b u e), fun b m e => ?_, sz⟩
  by_cases q : b = p
  · subst q; rw [mup_same] at e; cases e
    exact ⟨h.free hp, o, upd_same, r⟩
  · rw [mup_ne q] at e
    obtain ⟨f, u, e1, r⟩ := h.mem b m e
    exact ⟨f, u, by rw [upd_ne q]; exact e1, r⟩
theorem MOk.write (h : MOk K M F H) (ha : M a = some m) (r : RepO K F o m') (sz : Sz K (upd H a o)) : MOk K (mup M a m') F (upd H a o) := by
  have hf := (h.mem a m ha).1
  refine ⟨fun b u e => ?_, fun b m e => ?_, sz⟩
  · rw [upd_ne (ne_of_none e hf)]; exact h.sub b u e
  · by_cases q : b = a
    · subst q; rw [mup_same] at e; cases e
      exact ⟨hf, o, upd_same, r⟩
    · rw [mup_ne q] at e
      obtain ⟨f, u, e1, r⟩ := h.mem b m e
      exact ⟨f, u, by rw [upd_ne q]; exact e1, r⟩
/-- a cell becomes frozen -/
theorem MOk.freeze (h : MOk K M F H) (ha : M a = some m) (hH : H a = some o) : MOk K (mdel M a) (upd F a o) H ∧ Same F (upd F a o) := by
  have hf := (h.mem a m ha).1
  refine ⟨⟨fun b u e => ?_, fun b n e => ?_, h.sz⟩, same_upd hf⟩
  · by_cases q : b = a
    · subst q; rw [upd_same] at e; cases e; exact hH
    · rw [upd_ne q] at e; exact h.sub b u e
  · unfold mdel at e
    by_cases q : b = a
    · rw [if_pos q] at e; cases e
    · rw [if_neg q] at e
      obtain ⟨f, u, e1, r⟩ := h.mem b n e
      exact ⟨by rw [upd_ne q]; exact f, u, e1, r.mono (.of (same_upd hf))⟩
end

/-- a tuple that stands in the heap is frozen -/
theorem MOk.tup {K : PySem.W.Frag} {M : Mem} {F H : Hp} {q : Addr} {xs : List V} (h : MOk K M F H) (hq : H q = some (.tup xs)) : ∃ F', MOk K M F' H ∧ Same F F' ∧ F' q = some (.tup xs) := by
  cases e : F q with
  | some o =>
    have := h.sub _ _ e
    rw [hq] at this; cases this
    exact ⟨F, h, .refl F, e⟩
  | none =>
    refine ⟨upd F q (.tup xs), ⟨fun b u eb => ?_, fun b m eb => ?_, h.sz⟩, same_upd e, upd_same⟩
    · by_cases c : b = q
      · subst c; rw [upd_same] at eb; cases eb; exact hq
      · rw [upd_ne c] at eb; exact h.sub b u eb
    · obtain ⟨f, u, e1, r⟩ := h.mem b m eb
      have c : b ≠ q := by
        rintro rfl
        rw [hq] at e1; cases e1
        cases r with | raw _ h => exact h _ rfl
      exact ⟨by rw [upd_ne c]; exact f, u, e1, r.mono (.of (same_upd e))⟩
/-! ### a value seen: a cell by its content -/
def vw (M : Mem) : D → D
  | .adr a => match M a with
    | some (.lst xs) => .lst xs
    | some (.dK k) => .dK k
    | some (.lkK _ _ k) => .dK k
    | some (.dT k) => .dT k
    | some (.lkT _ _ k) => .dT k
    | some (.ins C fs) => .ins C fs
    | _ => .adr a
  | d => d
section
variable {K : PySem.W.Frag} {M : Mem} {F H : Hp} {v : V} {d : D}
theorem vw_lst {xs : List D} (h : MOk K M F H) (r : Rep K F v d) (e : vw M d = .lst xs) : ∃ a vs, v = .ref a ∧ H a = some (.lst vs) ∧ Reps K F vs xs := by
  cases d <;> simp only [vw] at e <;> try (cases e; done)
  · rename_i a
    cases r.adr_of
    split at e <;> cases e
    rename_i q
    obtain ⟨_, o, e1, r1⟩ := h.mem _ _ q
    cases r1 with | lst r1 => exact ⟨_, _, rfl, e1, r1⟩
  · cases e
    obtain ⟨a, vs, rfl, h1, r1⟩ := r.lst_of
    exact ⟨a, vs, rfl, h.sub _ _ h1, r1⟩
theorem vw_tup {xs : List D} (h : MOk K M F H) (r : Rep K F v d) (e : vw M d = .tup xs) : ∃ a vs, v = .ref a ∧ F a = some (.tup vs) ∧ H a = some (.tup vs) ∧ Reps K F vs xs := by
  cases d <;> simp only [vw] at e <;> try (cases e; done)
  · split at e <;> cases e
  · cases e
    obtain ⟨a, vs, rfl, h1, r1⟩ := r.tup_of
    exact ⟨a, vs, rfl, h1, h.sub _ _ h1, r1⟩
theorem rd_sub {F H : Hp} (h : Same F H) {a : Addr} {u : HO} (r : Rd F a u) : Rd H a u := rd_same h r
theorem vw_dK {xs : List (Key × D)} (h : MOk K M F H) (r : Rep K F v d) (e : vw M d = .dK xs) : ∃ a vs, v = .ref a ∧ Rd H a (.dK vs) ∧ RepsK K F vs xs := by
  cases d <;> simp only [vw] at e <;> try (cases e; done)
  · rename_i a
    cases r.adr_of
    split at e <;> cases e
    · rename_i q
      obtain ⟨_, o, e1, r1⟩ := h.mem _ _ q
      cases r1 with | dK r1 => exact ⟨_, _, rfl, .inl e1, r1⟩
    · rename_i q
      obtain ⟨_, o, e1, r1⟩ := h.mem _ _ q
      cases r1 with | lkK r1 => exact ⟨_, _, rfl, .inr ⟨_, e1⟩, r1⟩
  · cases e
    obtain ⟨a, o, vs, rfl, h1, r1⟩ := r.dK_of
    exact ⟨a, vs, rfl, .inr ⟨o, h.sub _ _ h1⟩, r1⟩
theorem vw_dT {xs : List (List Key × D)} (h : MOk K M F H) (r : Rep K F v d) (e : vw M d = .dT xs) : ∃ a vs, v = .ref a ∧ Rd H a (.dT vs) ∧ RepsK K F vs xs := by
  cases d <;> simp only [vw] at e <;> try (cases e; done)
  · rename_i a
    cases r.adr_of
    split at e <;> cases e
    · rename_i q
      obtain ⟨_, o, e1, r1⟩ := h.mem _ _ q
      cases r1 with | dT r1 => exact ⟨_, _, rfl, .inl e1, r1⟩
    · rename_i q
      obtain ⟨_, o, e1, r1⟩ := h.mem _ _ q
      cases r1 with | lkT r1 => exact ⟨_, _, rfl, .inr ⟨_, e1⟩, r1⟩
  · cases e
    obtain ⟨a, o, vs, rfl, h1, r1⟩ := r.dT_of
    exact ⟨a, vs, rfl, .inr ⟨o, h.sub _ _ h1⟩, r1⟩
theorem vw_ins {C : Addr} {xs : List (Str × D)} (h : MOk K M F H) (r : Rep K F v d) (e : vw M d = .ins C xs) : ∃ a dx vs, v = .ref a ∧ H a = some (.ins C dx vs) ∧ (∀ p ∈ xs, FOk K C p.1) ∧ RepsK K F vs xs := by
  cases d <;> simp only [vw] at e <;> try (cases e; done)
  · rename_i a
    cases r.adr_of
    split at e <;> cases e
    rename_i q
    obtain ⟨_, o, e1, r1⟩ := h.mem _ _ q
    cases r1 with | ins k r1 => exact ⟨_, _, _, rfl, e1, k, r1⟩
  · cases e
    obtain ⟨a, dx, vs, rfl, h1, k, r1⟩ := r.ins_of
    exact ⟨a, dx, vs, rfl, h.sub _ _ h1, k, r1⟩
theorem vw_int {i : Int} (r : Rep K F v d) (e : vw M d = .int i) : v = .int i := by
  cases d with
  | int j => cases e; exact r.int_of
  | adr a => simp only [vw] at e; split at e <;> cases e
  | _ => cases e
theorem vw_str {i : Str} (r : Rep K F v d) (e : vw M d = .str i) : v = .str i := by
  cases d with
  | str j => cases e; exact r.str_of
  | adr a => simp only [vw] at e; split at e <;> cases e
  | _ => cases e
theorem vw_bl {i : Bool} (r : Rep K F v d) (e : vw M d = .bl i) : v = .bl i := by
  cases d with
  | bl j => cases e; exact r.bl_of
  | adr a => simp only [vw] at e; split at e <;> cases e
  | _ => cases e
theorem vw_non (r : Rep K F v d) (e : vw M d = .non) : v = .non := by
  cases d with
  | non => exact r.non_of
  | adr a => simp only [vw] at e; split at e <;> cases e
  | _ => cases e
theorem vw_kls {xs : List D} (h : MOk K M F H) (r : Rep K F v d) (e : vw M d = .kls xs) : ∃ a vs, v = .ref a ∧ SqL K H a vs ∧ Reps K F vs xs := by
  cases d <;> simp only [vw] at e <;> try (cases e; done)
  · split at e <;> cases e
  · cases e
    obtain ⟨a, vs, rfl, h1, r1⟩ := r.kls_of
    exact ⟨a, vs, rfl, (Le.of h.sub).sqL h1, r1⟩
end
end Dp
/-! D2: rules of expressions by values. -/
namespace Dp
open PySem L2
abbrev DR1 := D → Mem → (D → Mem → Prop) → Prop
abbrev DR2 := D → D → Mem → (D → Mem → Prop) → Prop
abbrev DRL := List D → Mem → (D → Mem → Prop) → Prop
def Lift1 (K : PySem.W.Frag) (r : V → Hp → VK → Prop) (r' : DR1) : Prop := ∀ M F H x dx R Q, MOk K M F H → Rep K F x dx → r' dx M R → Fol K F R Q → r x H (SzQ K Q)
def Lift2 (K : PySem.W.Frag) (r : R2) (r' : DR2) : Prop := ∀ M F H x y dx dy R Q, MOk K M F H → Rep K F x dx → Rep K F y dy → r' dx dy M R → Fol K F R Q → r x y H (SzQ K Q)
def LiftL (K : PySem.W.Frag) (r : List V → Hp → VK → Prop) (r' : DRL) : Prop := ∀ M F H xs ds R Q, MOk K M F H → Reps K F xs ds → r' ds M R → Fol K F R Q → r xs H (SzQ K Q)
theorem Lift2.or {K : PySem.W.Frag} {r s : R2} {r' s' : DR2} (h : Lift2 K r r') (g : Lift2 K s s') : Lift2 K (fun x y H Q => r x y H Q ∨ s x y H Q) (fun a b M R => r' a b M R ∨ s' a b M R) := by
  intro M F H x y dx dy R Q mo rx ry q fol
  rcases q with q | q
  · exact .inl (h M F H x y dx dy R Q mo rx ry q fol)
  · exact .inr (g M F H x y dx dy R Q mo rx ry q fol)
theorem LiftL.or {K : PySem.W.Frag} {r s : List V → Hp → VK → Prop} {r' s' : DRL} (h : LiftL K r r') (g : LiftL K s s') : LiftL K (fun x H Q => r x H Q ∨ s x H Q) (fun a M R => r' a M R ∨ s' a M R) := by
  intro M F H x dx R Q mo rx q fol
  rcases q with q | q
  · exact .inl (h M F H x dx R Q mo rx q fol)
  · exact .inr (g M F H x dx R Q mo rx q fol)
theorem pe_or_ {X : Cx} {e : Expr} {t u : TE} (h : PE X e t) (g : PE X e u) : PE X e (fun σ H Q => t σ H Q ∨ u σ H Q) :=
  ⟨fun pins s σ H Q I q => q.elim (h.run pins s σ H Q I) (g.run pins s σ H Q I)⟩
section
variable {K : PySem.W.Frag} {M : Mem} {F H : Hp} {R : D → Mem → Prop} {Q : VK}
/-- the same memory, a value -/
theorem fol_at (fol : Fol K F R Q) (mo : MOk K M F H) {v : V} {d : D} (r : Rep K F v d) (q : R d M) : SzQ K Q v H := fun _ => .now (fol d M F v H mo (.refl F) r q)
/-- a new frozen thing -/
theorem fol_new (fol : Fol K F R Q) (mo : MOk K M F H) {p : Addr} {o : HO} {d : D} (hp : H p = none) (r : Rep K (upd F p o) (.ref p) d) (q : R d M) : SzQ K Q (.ref p) (upd H p o) :=
  fun z => .now (fol d M (upd F p o) (.ref p) (upd H p o) (mo.new hp z) (mo.sameF hp) r q)
/-- a new cell -/
theorem fol_cell (fol : Fol K F R Q) (mo : MOk K M F H) {p : Addr} {o : HO} {m : MO} (hp : H p = none) (r : RepO K F o m) (q : R (.adr p) (mup M p m)) : SzQ K Q (.ref p) (upd H p o) :=
  fun z => .now (fol (.adr p) (mup M p m) F (.ref p) (upd H p o) (mo.cell hp r z) (.refl F) (.adr p) q)
/-- a cell written -/
theorem fol_write (fol : Fol K F R Q) (mo : MOk K M F H) {a : Addr} {o : HO} {m m' : MO} {v : V} {d : D} (ha : M a = some m) (r : RepO K F o m') (rv : Rep K F v d) (q : R d (mup M a m')) : SzQ K Q v (upd H a o) :=
  fun z => .now (fol d (mup M a m') F v (upd H a o) (mo.write ha r z) (.refl F) rv q)
theorem rd_frz {H : Hp} {p a : Addr} {u v : HO} {od : Obj} (hv : ∀ ob w, v ≠ .frz ob w) (r : Rd (upd H p (.frz od u)) a v) : Rd (upd H p u) a v := by
  by_cases q : a = p
  · subst q
    rcases r with r | ⟨ob, r⟩
    · rw [upd_same] at r; cases r; exact (hv _ _ rfl).elim
    · rw [upd_same] at r; cases r; exact .inl upd_same
  · rcases r with r | ⟨ob, r⟩
    · rw [upd_ne q] at r; exact .inl (by rw [upd_ne q]; exact r)
    · rw [upd_ne q] at r; exact .inr ⟨ob, by rw [upd_ne q]; exact r⟩
theorem sz_frz {K : PySem.W.Frag} {H : Hp} {p : Addr} {u : HO} {od : Obj} (z : Sz K (upd H p u)) : Sz K (upd H p (.frz od u)) :=
  ⟨fun a xs h => h.elim (fun h => z.lst a xs (.inl (rd_frz (fun _ _ e => nomatch e) h))) fun h => z.lst a xs (.inr h),
    fun a xs h => h.elim (fun h => z.tup a xs (.inl (rd_frz (fun _ _ e => nomatch e) h))) fun h => z.tup a xs (.inr h),
    fun a xs h => z.dK a xs (rd_frz (fun _ _ e => nomatch e) h), fun a xs h => z.dT a xs (rd_frz (fun _ _ e => nomatch e) h)⟩
/-- a new frozen dict: locked for good -/
theorem fol_newK (fol : Fol K F R Q) (mo : MOk K M F H) {p : Addr} {u : HO} {d : D} (hp : H p = none) (mu : Mut (some u)) (r : ∀ od, Rep K (upd F p (.frz od u)) (.ref p) d) (q : R d M) : SzQ K Q (.ref p) (upd H p u) :=
  fun z => .lock upd_same mu fun od => .now (by
    rw [upd_upd]
    exact fol d M (upd F p (.frz od u)) (.ref p) (upd H p (.frz od u)) (mo.new hp (sz_frz z)) (mo.sameF hp) (r od) q)
theorem new_dK (hp : H p = none) (mo : MOk K M F H) {vs : List (Key × V)} {ds : List (Key × D)} (r : RepsK K F vs ds) (od : Obj) : Rep K (upd F p (.frz od (.dK vs))) (.ref p) (.dK ds) :=
  .dKR upd_same (r.up (mo.sameF hp))
theorem new_dT (hp : H p = none) (mo : MOk K M F H) {vs : List (List Key × V)} {ds : List (List Key × D)} (r : RepsK K F vs ds) (od : Obj) : Rep K (upd F p (.frz od (.dT vs))) (.ref p) (.dT ds) :=
  .dTR upd_same (r.up (mo.sameF hp))
theorem new_lst (hp : H p = none) (mo : MOk K M F H) {vs : List V} {ds : List D} (r : Reps K F vs ds) : Rep K (upd F p (.lst vs)) (.ref p) (.lst ds) :=
  .lstR upd_same (r.up (mo.sameF hp))
theorem new_tup (hp : H p = none) (mo : MOk K M F H) {vs : List V} {ds : List D} (r : Reps K F vs ds) : Rep K (upd F p (.tup vs)) (.ref p) (.tup ds) :=
  .tupR upd_same (r.up (mo.sameF hp))
end

/-! ### names and constants -/
def dVar (i : Nat) (Γ : DSt) (M : Mem) (R : D → Mem → Prop) : Prop := match Γ[i]? with
  | some (some d) => R d M
  | _ => False
def dC (d : D) (_z0 : DSt) (M : Mem) (R : D → Mem → Prop) : Prop := R d M
section
variable {X : Cx} {B : Hp} {pos : Pos}
theorem de_var {x : Str} (i : Nat) (h : PE X (.Name x pos) (tVar i)) : DE X B (.Name x pos) (dVar i) := de_of h fun Γ M F σ H R Q so ht fol => by
  unfold dVar at ht
  split at ht
  · rename_i d e
    obtain ⟨v, e1, r⟩ := so.slot i d e
    exact ⟨v, e1, fol_at fol so.toMOk r ht⟩
  · exact ht.elim
/-- the name in slot i -/
theorem nv (i : Nat) {x : Str} {pos : Pos} (hN : X.N[i]? = some x := by rfl) (hv : Vis X.env.scope x := by first | exact Or.inl rfl | exact Or.inr (Or.inl rfl) | exact Or.inr (Or.inr rfl)) (hd : (x == ("__debug__" : Str)) = false := by decide)
    (hcd : (x == ("__classdict__" : Str)) = false := by decide) : DE X B (.Name x pos) (dVar i) := de_var i (pe_var hN hv hd hcd)
theorem de_int {i j} : DE X B (.Constant (.int i) j pos) (dC (.int i)) := de_of pe_int fun Γ M F σ H R Q so ht fol => fol_at fol so.toMOk (.int i) ht
theorem de_bl {b j} : DE X B (.Constant (.bool b) j pos) (dC (.bl b)) := de_of pe_bl fun Γ M F σ H R Q so ht fol => fol_at fol so.toMOk (.bl b) ht
theorem de_non {j} : DE X B (.Constant .none j pos) (dC .non) := de_of pe_non fun Γ M F σ H R Q so ht fol => fol_at fol so.toMOk .non ht
theorem de_str {x j} : DE X B (.Constant (.str x) j pos) (dC (.str x)) := de_of pe_str fun Γ M F σ H R Q so ht fol => fol_at fol so.toMOk (.str x) ht
/-- a module's constant -/
theorem de_globI {x : Str} {i : Int} {t : Tok} (hg : Gl X x) (hm : X.mg x = some (.int i t)) (hd : (x == ("__debug__" : Str)) = false := by decide) : DE X B (.Name x pos) (dC (.int i)) :=
  de_of (pe_glob (v := .int i) hg hm ⟨t, rfl⟩ hd) fun Γ M F σ H R Q so ht fol => fol_at fol so.toMOk (.int i) ht
theorem de_globS {x y : Str} {t : Tok} (hg : Gl X x) (hm : X.mg x = some (.str y t)) (hd : (x == ("__debug__" : Str)) = false := by decide) : DE X B (.Name x pos) (dC (.str y)) :=
  de_of (pe_glob (v := .str y) hg hm ⟨t, rfl⟩ hd) fun Γ M F σ H R Q so ht fol => fol_at fol so.toMOk (.str y) ht
end

/-! ### two in a row -/
def dOp (r : DR2) (ta tb : DTE) (Γ : DSt) (M : Mem) (R : D → Mem → Prop) : Prop := ta Γ M fun a M1 => tb Γ M1 fun b M2 => r a b M2 R
def dUn (r : DR1) (ta : DTE) (Γ : DSt) (M : Mem) (R : D → Mem → Prop) : Prop := ta Γ M fun a M1 => r a M1 R
section
variable {X : Cx} {B : Hp} {pos : Pos} {a b c : Expr} {ta tb tc : DTE}
/-- the reading of two in a row, brought down -/
theorem two_of {K : PySem.W.Frag} {B : Hp} {Γ : DSt} {M : Mem} {F H : Hp} {σ : St} {R : D → Mem → Prop} {Q : VK} {r : R2} {r' : DR2} (l : Lift2 K r r') (so : SOk K B Γ M F σ H) (ht : dOp r' ta tb Γ M R) (fol : Fol K F R Q) : tOp r (LE K B ta) (LE K B tb) σ H (SzQ K Q) :=
  ⟨Γ, M, F, _, so, ht, fun d1 M1 F1 v1 H1 m1 e1 r1 q1 => ⟨Γ, M1, F1, _, so.step e1 m1, q1, fun d2 M2 F2 v2 H2 m2 e2 r2 q2 => l M2 F2 H2 v1 v2 d1 d2 R Q m2 (r1.up e2) r2 q2 (fol.up (e1.trans e2))⟩⟩
theorem de_op {op : Operator} {r : R2} {r' : DR2} (ho : OpR X (binaryOp op) r) (l : Lift2 X.K r r') (ha : DE X B a ta) (hb : DE X B b tb) : DE X B (.BinOp a op b pos) (dOp r' ta tb) :=
  de_of (pe_op ho ha hb) fun Γ M F σ H R Q so ht fol => two_of l so ht fol
theorem de_cmp {op : CmpOp} {r : R2} {r' : DR2} (ho : OpR X (compareOp op) r) (l : Lift2 X.K r r') (ha : DE X B a ta) (hb : DE X B b tb) (hm : behindInMarks op b = false) : DE X B (.Compare a [op] [b] pos) (dOp r' ta tb) :=
  de_of (pe_cmpR ho ha hb hm) fun Γ M F σ H R Q so ht fol => two_of l so ht fol
/-- a value as a test -/
def dTst (t : DTE) (Γ : DSt) (M : Mem) (R : Bool → Mem → Prop) : Prop := t Γ M fun d M' => match d with
  | .bl b => R b M'
  | _ => False
theorem dtst_of {K : PySem.W.Frag} {R : Bool → Mem → Prop} {Q : Bool → Hp → Prop} {F : Hp} (fol : ∀ b M' F' H', MOk K M' F' H' → Same F F' → R b M' → Q b H') :
    Fol K F (fun d M' => match d with | .bl b => R b M' | _ => False) (fun x H' => ∃ k, x = .bl k ∧ Q k H') := by
  intro d M' F' v H' mo e r q
  cases d with
  | bl b => exact ⟨b, r.bl_of, fol b M' F' H' mo e q⟩
  | _ => exact q.elim
theorem tOp_mono {r : R2} {te te' : TE} {σ : St} {H : Hp} {Q Q' : VK} (hr : ∀ x y H (P P' : VK), (∀ v H, P v H → P' v H) → r x y H P → r x y H P') : True := trivial
theorem dt_cmp {op : CmpOp} {r : R2} {r' : DR2} (ho : OpR X (compareOp op) r) (l : Lift2 X.K r r') (ha : DE X B a ta) (hb : DE X B b tb) (hm : behindInMarks op b = false) : DT X B (.Compare a [op] [b] pos) (dTst (dOp r' ta tb)) :=
  ⟨fun pins s σ H Q I ⟨Γ, M, F, R, so, ht, fol⟩ => by
    have z : tTest (tOp (fun x y H (Q : VK) => r x y H (SzQ X.K Q)) (LE X.K B ta) (LE X.K B tb)) σ H Q :=
      ⟨Γ, M, F, _, so, ht, fun d1 M1 F1 v1 H1 m1 e1 r1 q1 => ⟨Γ, M1, F1, _, so.step e1 m1, q1, fun d2 M2 F2 v2 H2 m2 e2 r2 q2 => l M2 F2 H2 v1 v2 d1 d2 _ _ m2 (r1.up e2) r2 q2 (dtst_of fun b M' F' H' m e => fol b M' F' H' m ((e1.trans e2).trans e))⟩⟩
    refine (pt_cmpR (pos := pos) (r := fun x y H (Q : VK) => r x y H (SzQ X.K Q)) (fun pins s σ H x y v u Q I rx ry q => ?_) ha hb hm).run pins s σ H Q I z
    exact thn (ho pins s σ H x y v u _ I rx ry q) fun w s' ⟨x', H', I', r', q'⟩ => let ⟨H2, I2, q2⟩ := (q' (Inv.sz_ I')).run I'; ⟨x', H2, I2, r', q2⟩⟩
theorem dt_val {t : DTE} (h : DE X B a t) (he : ∀ whole, isTrue a X.env whole = (do let v ← whole; standAt a.pos; holding [v] (truthy v)) := by intro _; rfl) : DT X B a (dTst t) :=
  dt_of (pt_val h he) fun Γ M F σ H R Q so ht fol => ⟨Γ, M, F, _, so, ht, fun d M' F' v H' mo e r q => by
    obtain ⟨k, e1, q1⟩ := dtst_of (K := X.K) (F := F) (Q := fun b H' => Sz X.K H' → Q b H') (fun b M' F' H' m e q _ => fol b M' F' H' m e q) d M' F' v H' mo e r q
    exact ⟨k, e1, q1⟩⟩
/-! and, or, not -/
def dAnd (t u : DTT) (Γ : DSt) (M : Mem) (R : Bool → Mem → Prop) : Prop := t Γ M fun c M1 => if c = true then u Γ M1 R else R false M1
def dOr (t u : DTT) (Γ : DSt) (M : Mem) (R : Bool → Mem → Prop) : Prop := t Γ M fun c M1 => if c = true then R true M1 else u Γ M1 R
def dNot (t : DTT) (Γ : DSt) (M : Mem) (R : Bool → Mem → Prop) : Prop := t Γ M fun c M1 => R (!c) M1
abbrev DW (X : Cx) (B : Hp) (e : Expr) (t : DTT) : Prop := PW X e (LT X.K B t)
theorem pw_imp {e : Expr} {t t' : TT} (h : PW X e t) (i : ∀ σ H Q, t' σ H Q → t σ H Q) : PW X e t' := ⟨fun w p s σ H Q I q => h.run w p s σ H Q I (i σ H Q q)⟩
theorem pt_imp {e : Expr} {t t' : TT} (h : PT X e t) (i : ∀ σ H Q, t' σ H Q → t σ H Q) : PT X e t' := ⟨fun p s σ H Q I q => h.run p s σ H Q I (i σ H Q q)⟩
theorem pe_imp {e : Expr} {t t' : TE} (h : PE X e t) (i : ∀ σ H Q, t' σ H Q → t σ H Q) : PE X e t' := ⟨fun p s σ H Q I q => h.run p s σ H Q I (i σ H Q q)⟩
theorem dw_and1 {t : DTT} (ha : DT X B a t) : DW X B (.BoolOp .And [a] pos) t := pw_and1 ha
theorem dw_or1 {t : DTT} (ha : DT X B a t) : DW X B (.BoolOp .Or [a] pos) t := pw_or1 ha
theorem dw_and {rest : List Expr} {t u : DTT} (ha : DT X B a t) (hb : DW X B (.BoolOp .And (b :: rest) pos) u) : DW X B (.BoolOp .And (a :: b :: rest) pos) (dAnd t u) :=
  pw_imp (pw_and ha hb) fun σ H Q ⟨Γ, M, F, R, so, ht, fol⟩ => ⟨Γ, M, F, _, so, ht, fun c M1 F1 H1 m1 e1 q1 => by
    cases c with
    | true => exact (if_pos rfl).mpr ⟨Γ, M1, F1, R, so.step e1 m1, (by simpa using q1), fun b M' F' H' m e => fol b M' F' H' m (e1.trans e)⟩
    | false => exact (if_neg Bool.false_ne_true).mpr (fol false M1 F1 H1 m1 e1 (by simpa using q1))⟩
theorem dw_or {rest : List Expr} {t u : DTT} (ha : DT X B a t) (hb : DW X B (.BoolOp .Or (b :: rest) pos) u) : DW X B (.BoolOp .Or (a :: b :: rest) pos) (dOr t u) :=
  pw_imp (pw_or ha hb) fun σ H Q ⟨Γ, M, F, R, so, ht, fol⟩ => ⟨Γ, M, F, _, so, ht, fun c M1 F1 H1 m1 e1 q1 => by
    cases c with
    | false => exact (if_neg Bool.false_ne_true).mpr ⟨Γ, M1, F1, R, so.step e1 m1, (by simpa using q1), fun b M' F' H' m e => fol b M' F' H' m (e1.trans e)⟩
    | true => exact (if_pos rfl).mpr (fol true M1 F1 H1 m1 e1 (by simpa using q1))⟩
theorem dt_w {t : DTT} (h : DW X B a t) : DT X B a t := h.pt
theorem dt_not {t : DTT} (ha : DT X B a t) : DT X B (.UnaryOp .Not a pos) (dNot t) :=
  pt_imp (pt_not ha) fun σ H Q ⟨Γ, M, F, R, so, ht, fol⟩ => ⟨Γ, M, F, _, so, ht, fun c M1 F1 H1 m1 e1 q1 => fol (!c) M1 F1 H1 m1 e1 q1⟩
/-- as values -/
def dAndV (ta tb : DTE) (Γ : DSt) (M : Mem) (R : D → Mem → Prop) : Prop := ta Γ M fun x M1 => match x with
  | .bl true => tb Γ M1 R
  | .bl false => R (.bl false) M1
  | _ => False
def dOrV (ta tb : DTE) (Γ : DSt) (M : Mem) (R : D → Mem → Prop) : Prop := ta Γ M fun x M1 => match x with
  | .bl false => tb Γ M1 R
  | .bl true => R (.bl true) M1
  | _ => False
def dNotV (ta : DTE) (Γ : DSt) (M : Mem) (R : D → Mem → Prop) : Prop := ta Γ M fun x M1 => match x with
  | .bl b => R (.bl (!b)) M1
  | _ => False
theorem de_one {op} {t : DTE} (h : DE X B a t) : DE X B (.BoolOp op [a] pos) t := pe_one h
theorem de_and {rest : List Expr} (ha : DE X B a ta) (hb : DE X B (.BoolOp .And (b :: rest) pos) tb) : DE X B (.BoolOp .And (a :: b :: rest) pos) (dAndV ta tb) :=
  pe_imp (pe_and ha hb) fun σ H Q ⟨Γ, M, F, R, so, ht, fol⟩ => ⟨Γ, M, F, _, so, ht, fun d M1 F1 v H1 m1 e1 r1 q1 => by
    cases d with
    | bl c => cases c with
      | true => exact ⟨true, r1.bl_of, (if_pos rfl).mpr ⟨Γ, M1, F1, R, so.step e1 m1, q1, fol.up e1⟩⟩
      | false => exact ⟨false, r1.bl_of, (if_neg Bool.false_ne_true).mpr (fol _ M1 F1 _ H1 m1 e1 (.bl false) q1)⟩
    | _ => exact q1.elim⟩
theorem de_or {rest : List Expr} (ha : DE X B a ta) (hb : DE X B (.BoolOp .Or (b :: rest) pos) tb) : DE X B (.BoolOp .Or (a :: b :: rest) pos) (dOrV ta tb) :=
  pe_imp (pe_or ha hb) fun σ H Q ⟨Γ, M, F, R, so, ht, fol⟩ => ⟨Γ, M, F, _, so, ht, fun d M1 F1 v H1 m1 e1 r1 q1 => by
    cases d with
    | bl c => cases c with
      | false => exact ⟨false, r1.bl_of, (if_neg Bool.false_ne_true).mpr ⟨Γ, M1, F1, R, so.step e1 m1, q1, fol.up e1⟩⟩
      | true => exact ⟨true, r1.bl_of, (if_pos rfl).mpr (fol _ M1 F1 _ H1 m1 e1 (.bl true) q1)⟩
    | _ => exact q1.elim⟩
theorem de_not (ha : DE X B a ta) : DE X B (.UnaryOp .Not a pos) (dNotV ta) :=
  pe_imp (pe_not ha) fun σ H Q ⟨Γ, M, F, R, so, ht, fol⟩ => ⟨Γ, M, F, _, so, ht, fun d M1 F1 v H1 m1 e1 r1 q1 => by
    cases d with
    | bl c => exact ⟨c, r1.bl_of, fol _ M1 F1 _ H1 m1 e1 (.bl _) q1⟩
    | _ => exact q1.elim⟩
def dIf (t : DTT) (ta tb : DTE) (Γ : DSt) (M : Mem) (R : D → Mem → Prop) : Prop := t Γ M fun c M1 => if c = true then ta Γ M1 R else tb Γ M1 R
theorem de_ifExp {c : Expr} {t : DTT} (hc : DT X B c t) (ha : DE X B a ta) (hb : DE X B b tb) : DE X B (.IfExp c a b pos) (dIf t ta tb) :=
  pe_imp (pe_ifExp hc ha hb) fun σ H Q ⟨Γ, M, F, R, so, ht, fol⟩ => ⟨Γ, M, F, _, so, ht, fun c M1 F1 H1 m1 e1 q1 => by
    cases c with
    | true => exact (if_pos rfl).mpr ⟨Γ, M1, F1, R, so.step e1 m1, by simpa using q1, fol.up e1⟩
    | false => exact (if_neg Bool.false_ne_true).mpr ⟨Γ, M1, F1, R, so.step e1 m1, by simpa using q1, fol.up e1⟩⟩
theorem de_un {op : UnaryOp} {r : V → Hp → VK → Prop} {r' : DR1} (ho : UnR X (unaryOp op) r) (l : Lift1 X.K r r') (ha : DE X B a ta) : DE X B (.UnaryOp op a pos) (dUn r' ta) :=
  de_of (pe_un ho ha) fun Γ M F σ H R Q so ht fol => ⟨Γ, M, F, _, so, ht, fun d1 M1 F1 v1 H1 m1 e1 r1 q1 => l M1 F1 H1 v1 d1 R Q m1 r1 q1 (fol.up e1)⟩
end

/-! ### operators -/
def dAdd (a : D) (b : D) (M : Mem) (R : D → Mem → Prop) : Prop := match vw M a, vw M b with
  | .int i, .int j => R (.int (i + j)) M
  | .str s, .str t => s.length + t.length ≤ sizeLine ∧ R (.str (s ++ t)) M
  | .lst xs, .lst ys => xs.length + ys.length ≤ sizeLine ∧ R (.lst (xs ++ ys)) M
  | .tup xs, .tup ys => xs ≠ [] ∧ xs.length + ys.length ≤ sizeLine ∧ R (.tup (xs ++ ys)) M
  | _, _ => False
def dSub (a : D) (b : D) (M : Mem) (R : D → Mem → Prop) : Prop := match a, b with
  | .int i, .int j => R (.int (i - j)) M
  | _, _ => False
def dMul (a : D) (b : D) (M : Mem) (R : D → Mem → Prop) : Prop := match a, b with
  | .int i, .int j => CMul i j ∧ R (.int (i * j)) M
  | _, _ => False
def dMod (a : D) (b : D) (M : Mem) (R : D → Mem → Prop) : Prop := match a, b with
  | .int i, .int j => 0 < j ∧ R (.int (i % j)) M
  | _, _ => False
def dFdiv (a : D) (b : D) (M : Mem) (R : D → Mem → Prop) : Prop := match a, b with
  | .int i, .int j => CDiv i j ∧ R (.int (i / j)) M
  | _, _ => False
def dPow (a : D) (b : D) (M : Mem) (R : D → Mem → Prop) : Prop := match a, b with
  | .int i, .int j => CPow i j ∧ R (.int (i ^ j.toNat)) M
  | _, _ => False
def dNeg (a : D) (M : Mem) (R : D → Mem → Prop) : Prop := match a with
  | .int i => R (.int (-i)) M
  | _ => False
theorem Reps.app {K : PySem.W.Frag} {F : Hp} : ∀ {vs : List V} {ds : List D} {ws : List V} {es : List D}, Reps K F vs ds → Reps K F ws es → Reps K F (vs ++ ws) (ds ++ es)
  | _, _, _, _, .nil, s => s
  | _, _, _, _, .cons r t, s => .cons r (Reps.app t s)
section
variable {X : Cx} {B : Hp} {pos : Pos} {a b : Expr} {ta tb : DTE}
theorem l_add {K : PySem.W.Frag} : Lift2 K (fun x y H Q => (((rI0 fun i j => .int (i + j)) x y H Q ∨ (∃ i j, x = .str i ∧ y = .str j ∧ i.length + j.length ≤ sizeLine ∧ Q (.str (i ++ j)) H)) ∨ rCat x y H Q) ∨ rCatT K x y H Q) dAdd := by
  intro M F H x y dx dy R Q mo rx ry q fol
  unfold dAdd at q
  split at q
  · rename_i i j e1 e2
    cases vw_int rx e1; cases vw_int ry e2
    exact .inl (.inl (.inl ⟨i, j, rfl, rfl, fol_at fol mo (.int _) q⟩))
  · rename_i i j e1 e2
    cases vw_str rx e1; cases vw_str ry e2
    exact .inl (.inl (.inr ⟨i, j, rfl, rfl, q.1, fol_at fol mo (.str _) q.2⟩))
  · rename_i xs ys e1 e2
    obtain ⟨p, vs, rfl, h1, r1⟩ := vw_lst mo rx e1
    obtain ⟨p2, ws, rfl, h2, r2⟩ := vw_lst mo ry e2
    exact .inl (.inr ⟨p, p2, vs, ws, rfl, rfl, h1, h2, by rw [r1.len, r2.len]; exact q.1, fun l hl => fol_new fol mo hl (new_lst hl mo (r1.app r2)) q.2⟩)
  · rename_i xs ys e1 e2
    obtain ⟨p, vs, rfl, f1, h1, r1⟩ := vw_tup mo rx e1
    obtain ⟨p2, ws, rfl, f2, h2, r2⟩ := vw_tup mo ry e2
    refine .inr ⟨p, p2, vs, ws, rfl, rfl, .of h1, .of h2, ?_, by rw [r1.len, r2.len]; exact q.2.1, fun e => ?_, fun _ l hl => fol_new fol mo hl (new_tup hl mo (r1.app r2)) q.2.2⟩
    · intro e; subst e
      cases r1 with | nil => exact q.1 rfl
    · subst e
      cases r2 with | nil => exact fol_at fol mo (.tupR f1 r1) (by simpa using q.2.2)
  · exact q.elim
theorem de_add (ha : DE X B a ta) (hb : DE X B b tb) : DE X B (.BinOp a .Add b pos) (dOp dAdd ta tb) := de_op (((op_add.or op_add_str).or op_cat).or op_catT) l_add ha hb
theorem de_sub (ha : DE X B a ta) (hb : DE X B b tb) : DE X B (.BinOp a .Sub b pos) (dOp dSub ta tb) := de_op op_sub (by
  intro M F H x y dx dy R Q mo rx ry q fol
  unfold dSub at q
  split at q
  · cases rx.int_of; cases ry.int_of; exact ⟨_, _, rfl, rfl, fol_at fol mo (.int _) q⟩
  · exact q.elim) ha hb
theorem de_mul (ha : DE X B a ta) (hb : DE X B b tb) : DE X B (.BinOp a .Mult b pos) (dOp dMul ta tb) := de_op op_mul (by
  intro M F H x y dx dy R Q mo rx ry q fol
  unfold dMul at q
  split at q
  · cases rx.int_of; cases ry.int_of; exact ⟨_, _, rfl, rfl, q.1, fol_at fol mo (.int _) q.2⟩
  · exact q.elim) ha hb
theorem de_mod (ha : DE X B a ta) (hb : DE X B b tb) : DE X B (.BinOp a .Mod b pos) (dOp dMod ta tb) := de_op op_mod (by
  intro M F H x y dx dy R Q mo rx ry q fol
  unfold dMod at q
  split at q
  · cases rx.int_of; cases ry.int_of; exact ⟨_, _, rfl, rfl, q.1, fol_at fol mo (.int _) q.2⟩
  · exact q.elim) ha hb
theorem de_fdiv (ha : DE X B a ta) (hb : DE X B b tb) : DE X B (.BinOp a .FloorDiv b pos) (dOp dFdiv ta tb) := de_op op_fdiv (by
  intro M F H x y dx dy R Q mo rx ry q fol
  unfold dFdiv at q
  split at q
  · cases rx.int_of; cases ry.int_of; exact ⟨_, _, rfl, rfl, q.1, fol_at fol mo (.int _) q.2⟩
  · exact q.elim) ha hb
theorem de_pow (ha : DE X B a ta) (hb : DE X B b tb) : DE X B (.BinOp a .Pow b pos) (dOp dPow ta tb) := de_op op_pow (by
  intro M F H x y dx dy R Q mo rx ry q fol
  unfold dPow at q
  split at q
  · cases rx.int_of; cases ry.int_of; exact ⟨_, _, rfl, rfl, q.1, fol_at fol mo (.int _) q.2⟩
  · exact q.elim) ha hb
theorem de_neg (ha : DE X B a ta) : DE X B (.UnaryOp .USub a pos) (dUn dNeg ta) := de_un un_neg (by
  intro M F H x dx R Q mo rx q fol
  unfold dNeg at q
  split at q
  · cases rx.int_of; exact ⟨_, rfl, fol_at fol mo (.int _) q⟩
  · exact q.elim) ha
end
end Dp
/-! D3: comparisons, membership. -/
namespace Dp
open PySem PySem.Spec L2
/-! ### plain data -/
mutual
def toP : D → PyData
  | .bl b => .bool b
  | .int i => .int i
  | .str s => .str s
  | .lst xs => .list (toPs xs)
  | .kls xs => .list (toPs xs)
  | .tup xs => .tuple (toPs xs)
  | _ => .none
def toPs : List D → List PyData
  | [] => []
  | x :: xs => toP x :: toPs xs
end
/-- None, bools, ints, texts, lists and tuples of such, n deep at most -/
def flatN : Nat → D → Bool
  | _, .non => true
  | _, .bl _ => true
  | _, .int _ => true
  | _, .str s => PyData.strOk s
  | n + 1, .lst xs => xs.all (flatN n)
  | n + 1, .tup xs => xs.all (flatN n)
  | n + 1, .kls xs => xs.all (flatN n)
  | _, _ => false
/-- == of plain data -/
def deq (a b : D) : Bool := PyData.eqv (toP a) (toP b)
theorem toPs_map : ∀ xs : List D, toPs xs = xs.map toP
  | [] => by simp [toPs]
  | x :: xs => by simp [toPs, toPs_map xs]
theorem canLay_map : ∀ {xs : List D}, (∀ x ∈ xs, (toP x).canLay0 = true) → PyData.canLayAll0 (xs.map toP) = true
  | [], _ => by simp [PyData.canLayAll0]
  | x :: xs, h => by
    simp only [List.map_cons, PyData.canLayAll0, Bool.and_eq_true]
    exact ⟨h x List.mem_cons_self, canLay_map fun y hy => h y (List.mem_cons_of_mem _ hy)⟩
theorem depth_map {n : Nat} : ∀ {xs : List D}, (∀ x ∈ xs, (toP x).depth ≤ n) → PyData.depthAll (xs.map toP) ≤ n
  | [], _ => by simp [PyData.depthAll]
  | x :: xs, h => by
    simp only [List.map_cons, PyData.depthAll]
    have h1 := h x List.mem_cons_self
    have h2 := depth_map (xs := xs) fun y hy => h y (List.mem_cons_of_mem _ hy)
    omega
theorem flat_ok : ∀ (n : Nat) (d : D), flatN n d = true → (toP d).canLay0 = true ∧ (toP d).depth ≤ n
  | n, .non, _ => by simp [toP, PyData.canLay0, PyData.depth]
  | n, .bl _, _ => by simp [toP, PyData.canLay0, PyData.depth]
  | n, .int _, _ => by simp [toP, PyData.canLay0, PyData.depth]
  | n, .str s, h => by
    have h' : PyData.strOk s = true := by cases n <;> simpa [flatN] using h
    simp [toP, PyData.canLay0, PyData.depth, h']
  | n + 1, .lst xs, h => by
    have h' : ∀ x ∈ xs, flatN n x = true := by simpa [flatN] using h
    simp only [toP, toPs_map, PyData.canLay0, PyData.depth]
    exact ⟨canLay_map fun x hx => (flat_ok n x (h' x hx)).1, Nat.succ_le_succ (depth_map fun x hx => (flat_ok n x (h' x hx)).2)⟩
  | n + 1, .tup xs, h => by
    have h' : ∀ x ∈ xs, flatN n x = true := by simpa [flatN] using h
    simp only [toP, toPs_map, PyData.canLay0, PyData.depth]
    exact ⟨canLay_map fun x hx => (flat_ok n x (h' x hx)).1, Nat.succ_le_succ (depth_map fun x hx => (flat_ok n x (h' x hx)).2)⟩
  | n + 1, .kls xs, h => by
    have h' : ∀ x ∈ xs, flatN n x = true := by simpa [flatN] using h
    simp only [toP, toPs_map, PyData.canLay0, PyData.depth]
    exact ⟨canLay_map fun x hx => (flat_ok n x (h' x hx)).1, Nat.succ_le_succ (depth_map fun x hx => (flat_ok n x (h' x hx)).2)⟩
  | 0, .lst _, h => by simp [flatN] at h
  | 0, .tup _, h => by simp [flatN] at h
  | 0, .kls _, h => by simp [flatN] at h
  | 0, .adr _, h => by simp [flatN] at h
  | n + 1, .adr _, h => by simp [flatN] at h
  | 0, .ty _, h => by simp [flatN] at h
  | n + 1, .ty _, h => by simp [flatN] at h
  | 0, .dK _, h => by simp [flatN] at h
  | n + 1, .dK _, h => by simp [flatN] at h
  | 0, .dT _, h => by simp [flatN] at h
  | n + 1, .dT _, h => by simp [flatN] at h
  | 0, .ins _ _, h => by simp [flatN] at h
  | n + 1, .ins _ _, h => by simp [flatN] at h
theorem flat_shaped {n : Nat} (hn : n ≤ 60) {d : D} (h : flatN n d = true) : SeqAt.shaped (toP d) = true := by
  obtain ⟨a, b⟩ := flat_ok n d h
  unfold SeqAt.shaped
  rw [a, decide_eq_true (by omega : (toP d).depth ≤ 64)]
  rfl
theorem dpAll_of {K : PySem.W.Frag} {F H : Hp} : ∀ {vs : List V} {ds : List D}, Reps K F vs ds → (∀ v d, d ∈ ds → Rep K F v d → L2.Dp K H v (toP d)) → DpAll K H vs (ds.map toP)
  | _, _, .nil, _ => .nil
  | _, _, .cons r t, f => .cons (f _ _ List.mem_cons_self r) (dpAll_of t fun v d hd => f v d (List.mem_cons_of_mem _ hd))
theorem dp_of {K : PySem.W.Frag} {F H : Hp} (s : Same F H) : ∀ (n : Nat) (d : D) (v : V), flatN n d = true → Rep K F v d → L2.Dp K H v (toP d)
  | n, .non, _, _, r => by rw [r.non_of]; simp only [toP]; exact .non
  | n, .bl _, _, _, r => by rw [r.bl_of]; simp only [toP]; exact .bl _
  | n, .int _, _, _, r => by rw [r.int_of]; simp only [toP]; exact .int _
  | n, .str _, _, _, r => by rw [r.str_of]; simp only [toP]; exact .str _
  | n + 1, .lst xs, v, h, r => by
    have h' : ∀ x ∈ xs, flatN n x = true := by simpa [flatN] using h
    obtain ⟨a, vs, rfl, e, r⟩ := r.lst_of
    simp only [toP, toPs_map]
    exact .lst (.of (s _ _ e)) (dpAll_of r fun v d hd r => dp_of s n d v (h' d hd) r)
  | n + 1, .kls xs, v, h, r => by
    have h' : ∀ x ∈ xs, flatN n x = true := by simpa [flatN] using h
    obtain ⟨a, vs, rfl, e, r⟩ := r.kls_of
    simp only [toP, toPs_map]
    exact .lst ((Le.of s).sqL e) (dpAll_of r fun v d hd r => dp_of s n d v (h' d hd) r)
  | n + 1, .tup xs, v, h, r => by
    have h' : ∀ x ∈ xs, flatN n x = true := by simpa [flatN] using h
    obtain ⟨a, vs, rfl, e, r⟩ := r.tup_of
    simp only [toP, toPs_map]
    exact .tup (.of (s _ _ e)) (dpAll_of r fun v d hd r => dp_of s n d v (h' d hd) r)
  | 0, .lst _, _, h, _ => by simp [flatN] at h
  | 0, .tup _, _, h, _ => by simp [flatN] at h
  | 0, .kls _, _, h, _ => by simp [flatN] at h
  | 0, .adr _, _, h, _ => by simp [flatN] at h
  | n + 1, .adr _, _, h, _ => by simp [flatN] at h
  | 0, .ty _, _, h, _ => by simp [flatN] at h
  | n + 1, .ty _, _, h, _ => by simp [flatN] at h
  | 0, .dK _, _, h, _ => by simp [flatN] at h
  | n + 1, .dK _, _, h, _ => by simp [flatN] at h
  | 0, .dT _, _, h, _ => by simp [flatN] at h
  | n + 1, .dT _, _, h, _ => by simp [flatN] at h
  | 0, .ins _ _, _, h, _ => by simp [flatN] at h
  | n + 1, .ins _ _, _, h, _ => by simp [flatN] at h
/-- the same through a cell: a list in the memory -/
theorem dp_vw {K : PySem.W.Frag} {M : Mem} {F H : Hp} (mo : MOk K M F H) {d : D} {v : V} {n : Nat} (h : flatN n (vw M d) = true) (r : Rep K F v d) : L2.Dp K H v (toP (vw M d)) := by
  by_cases q : vw M d = d
  · rw [q] at h ⊢; exact dp_of mo.sub n d v h r
  · generalize e : vw M d = d' at h q ⊢
    cases d' with
    | lst xs =>
      obtain ⟨a, vs, rfl, e1, r1⟩ := vw_lst mo r e
      cases n with
      | zero => simp [flatN] at h
      | succ n =>
        have h' : ∀ x ∈ xs, flatN n x = true := by simpa [flatN] using h
        simp only [toP, toPs_map]
        exact .lst (.of e1) (dpAll_of r1 fun v d hd r => dp_of mo.sub n d v (h' d hd) r)
    | tup xs =>
      obtain ⟨a, vs, rfl, _, e1, r1⟩ := vw_tup mo r e
      cases n with
      | zero => simp [flatN] at h
      | succ n =>
        have h' : ∀ x ∈ xs, flatN n x = true := by simpa [flatN] using h
        simp only [toP, toPs_map]
        exact .tup (.of e1) (dpAll_of r1 fun v d hd r => dp_of mo.sub n d v (h' d hd) r)
    | kls xs =>
      obtain ⟨a, vs, rfl, e1, r1⟩ := vw_kls mo r e
      cases n with
      | zero => simp [flatN] at h
      | succ n =>
        have h' : ∀ x ∈ xs, flatN n x = true := by simpa [flatN] using h
        simp only [toP, toPs_map]
        exact .lst e1 (dpAll_of r1 fun v d hd r => dp_of mo.sub n d v (h' d hd) r)
    | int i => rw [vw_int r e]; simp only [toP]; exact .int _
    | bl i => rw [vw_bl r e]; simp only [toP]; exact .bl _
    | str i => rw [vw_str r e]; simp only [toP]; exact .str _
    | non => rw [vw_non r e]; simp only [toP]; exact .non
    | adr _ => cases n <;> simp [flatN] at h
    | ty _ => cases n <;> simp [flatN] at h
    | dK _ => cases n <;> simp [flatN] at h
    | dT _ => cases n <;> simp [flatN] at h
    | ins _ _ => cases n <;> simp [flatN] at h

/-- == : a text, a number, None at once; else plain data -/
def eqB : D → D → Option Bool
  | .int i, .int j => some (decide (i = j))
  | .str i, .str j => some (decide (i = j))
  | .bl i, .bl j => some (decide (i = j))
  | .non, .non => some true
  | .non, .int _ => some false
  | .non, .str _ => some false
  | .non, .bl _ => some false
  | .int _, .non => some false
  | .str _, .non => some false
  | .bl _, .non => some false
  | .int _, .str _ => some false
  | .str _, .int _ => some false
  | .bl _, .str _ => some false
  | .str _, .bl _ => some false
  | a, b => if flatN 9 a && flatN 9 b then some (deq a b) else none
def dEq (neg : Bool) (a : D) (b : D) (M : Mem) (R : D → Mem → Prop) : Prop := match eqB (vw M a) (vw M b) with
  | some c => R (.bl (if neg then !c else c)) M
  | none => False
section
variable {X : Cx} {B : Hp} {pos : Pos} {a b c : Expr} {ta tb tc : DTE}
theorem eqB_ok {K : PySem.W.Frag} {M : Mem} {F H : Hp} (mo : MOk K M F H) {dx dy : D} {x y : V} (rx : Rep K F x dx) (ry : Rep K F y dy) {c : Bool} (e : eqB (vw M dx) (vw M dy) = some c) :
    (scal x y = true ∧ c = decide (x = y)) ∨ ∃ d e', L2.Dp K H x d ∧ L2.Dp K H y e' ∧ SeqAt.shaped d = true ∧ SeqAt.shaped e' = true ∧ c = PyData.eqv d e' := by
  unfold eqB at e
  split at e
  · rename_i e1 e2; cases vw_int rx e1; cases vw_int ry e2; cases e; exact .inl ⟨rfl, by simp⟩
  · rename_i e1 e2; cases vw_str rx e1; cases vw_str ry e2; cases e; exact .inl ⟨rfl, by simp⟩
  · rename_i e1 e2; cases vw_bl rx e1; cases vw_bl ry e2; cases e; exact .inl ⟨rfl, by simp⟩
  · rename_i e1 e2; cases vw_non rx e1; cases vw_non ry e2; cases e; exact .inl ⟨rfl, by simp⟩
  · rename_i e1 e2; cases vw_non rx e1; cases vw_int ry e2; cases e; exact .inl ⟨rfl, by simp⟩
  · rename_i e1 e2; cases vw_non rx e1; cases vw_str ry e2; cases e; exact .inl ⟨rfl, by simp⟩
  · rename_i e1 e2; cases vw_non rx e1; cases vw_bl ry e2; cases e; exact .inl ⟨rfl, by simp⟩
  · rename_i e1 e2; cases vw_int rx e1; cases vw_non ry e2; cases e; exact .inl ⟨rfl, by simp⟩
  · rename_i e1 e2; cases vw_str rx e1; cases vw_non ry e2; cases e; exact .inl ⟨rfl, by simp⟩
  · rename_i e1 e2; cases vw_bl rx e1; cases vw_non ry e2; cases e; exact .inl ⟨rfl, by simp⟩
  · rename_i e1 e2; cases vw_int rx e1; cases vw_str ry e2; cases e; exact .inl ⟨rfl, by simp⟩
  · rename_i e1 e2; cases vw_str rx e1; cases vw_int ry e2; cases e; exact .inl ⟨rfl, by simp⟩
  · rename_i e1 e2; cases vw_bl rx e1; cases vw_str ry e2; cases e; exact .inl ⟨rfl, by simp⟩
  · rename_i e1 e2; cases vw_str rx e1; cases vw_bl ry e2; cases e; exact .inl ⟨rfl, by simp⟩
  · split at e
    · rename_i h
      simp only [Bool.and_eq_true] at h
      cases e
      exact .inr ⟨_, _, dp_vw mo h.1 rx, dp_vw mo h.2 ry, flat_shaped (by decide) h.1, flat_shaped (by decide) h.2, rfl⟩
    · cases e
theorem l_eq {K : PySem.W.Frag} : Lift2 K (fun x y H Q => rEq x y H Q ∨ rEqD K x y H Q) (dEq false) := by
  intro M F H x y dx dy R Q mo rx ry q fol
  unfold dEq at q
  split at q
  · rename_i c e
    rcases eqB_ok mo rx ry e with ⟨h1, h2⟩ | ⟨d, e', h1, h2, h3, h4, h5⟩
    · subst h2; exact .inl ⟨h1, fol_at fol mo (.bl _) q⟩
    · subst h5; exact .inr ⟨d, e', h1, h2, h3, h4, fol_at fol mo (.bl _) q⟩
  · exact q.elim
theorem l_ne {K : PySem.W.Frag} : Lift2 K (fun x y H Q => rNe x y H Q ∨ rNeD K x y H Q) (dEq true) := by
  intro M F H x y dx dy R Q mo rx ry q fol
  unfold dEq at q
  split at q
  · rename_i c e
    rcases eqB_ok mo rx ry e with ⟨h1, h2⟩ | ⟨d, e', h1, h2, h3, h4, h5⟩
    · subst h2; exact .inl ⟨h1, fol_at fol mo (.bl _) q⟩
    · subst h5; exact .inr ⟨d, e', h1, h2, h3, h4, fol_at fol mo (.bl _) q⟩
  · exact q.elim
theorem de_eq (hu : X.A.units + 64 < cLine) (ha : DE X B a ta) (hb : DE X B b tb) (hm : behindInMarks .Eq b = false := by exact nomark _) : DE X B (.Compare a [.Eq] [b] pos) (dOp (dEq false) ta tb) := de_cmp (op_eq.or (op_eqD hu)) l_eq ha hb hm
theorem de_ne (hu : X.A.units + 64 < cLine) (ha : DE X B a ta) (hb : DE X B b tb) (hm : behindInMarks .NotEq b = false := by exact nomark _) : DE X B (.Compare a [.NotEq] [b] pos) (dOp (dEq true) ta tb) := de_cmp (op_ne.or (op_neD hu)) l_ne ha hb hm
theorem dt_eq (hu : X.A.units + 64 < cLine) (ha : DE X B a ta) (hb : DE X B b tb) (hm : behindInMarks .Eq b = false := by exact nomark _) : DT X B (.Compare a [.Eq] [b] pos) (dTst (dOp (dEq false) ta tb)) := dt_cmp (op_eq.or (op_eqD hu)) l_eq ha hb hm
theorem dt_ne (hu : X.A.units + 64 < cLine) (ha : DE X B a ta) (hb : DE X B b tb) (hm : behindInMarks .NotEq b = false := by exact nomark _) : DT X B (.Compare a [.NotEq] [b] pos) (dTst (dOp (dEq true) ta tb)) := dt_cmp (op_ne.or (op_neD hu)) l_ne ha hb hm

/-- the order of numbers and of texts -/
def dOrd (p : Int → Int → Bool) (q : List Nat → List Nat → Bool) (a : D) (b : D) (M : Mem) (R : D → Mem → Prop) : Prop := match a, b with
  | .int i, .int j => R (.bl (p i j)) M
  | .str s, .str t => R (.bl (q s.cps.toList t.cps.toList)) M
  | _, _ => False
theorem l_ord {K : PySem.W.Frag} {p : Int → Int → Bool} {q : List Nat → List Nat → Bool} : Lift2 K (fun x y H Q => (rI0 fun i j => .bl (p i j)) x y H Q ∨ (∃ i j, x = .str i ∧ y = .str j ∧ Q (.bl (q i.cps.toList j.cps.toList)) H)) (dOrd p q) := by
  intro M F H x y dx dy R Q mo rx ry q fol
  unfold dOrd at q
  split at q
  · cases rx.int_of; cases ry.int_of; exact .inl ⟨_, _, rfl, rfl, fol_at fol mo (.bl _) q⟩
  · cases rx.str_of; cases ry.str_of; exact .inr ⟨_, _, rfl, rfl, fol_at fol mo (.bl _) q⟩
  · exact q.elim
end
def dLtS : DR2 := dOrd (fun i j => decide (i < j)) (fun s t => decide (s < t))
def dLe : DR2 := dOrd (fun i j => decide (i ≤ j)) (fun s t => !decide (t < s))
def dGt : DR2 := dOrd (fun i j => decide (j < i)) (fun s t => decide (t < s))
def dGe : DR2 := dOrd (fun i j => decide (j ≤ i)) (fun s t => !decide (s < t))
section
variable {X : Cx} {B : Hp} {pos : Pos} {a b c : Expr} {ta tb tc : DTE}
theorem de_lt (ha : DE X B a ta) (hb : DE X B b tb) : DE X B (.Compare a [.Lt] [b] pos) (dOp dLtS ta tb) := de_cmp (op_lt.or op_lt_str) l_ord ha hb (nomark _)
theorem de_le (ha : DE X B a ta) (hb : DE X B b tb) : DE X B (.Compare a [.LtE] [b] pos) (dOp dLe ta tb) := de_cmp (op_le.or op_le_str) l_ord ha hb (nomark _)
theorem de_gt (ha : DE X B a ta) (hb : DE X B b tb) : DE X B (.Compare a [.Gt] [b] pos) (dOp dGt ta tb) := de_cmp (op_gt.or op_gt_str) l_ord ha hb (nomark _)
theorem de_ge (ha : DE X B a ta) (hb : DE X B b tb) : DE X B (.Compare a [.GtE] [b] pos) (dOp dGe ta tb) := de_cmp (op_ge.or op_ge_str) l_ord ha hb (nomark _)
theorem dt_lt (ha : DE X B a ta) (hb : DE X B b tb) : DT X B (.Compare a [.Lt] [b] pos) (dTst (dOp dLtS ta tb)) := dt_cmp (op_lt.or op_lt_str) l_ord ha hb (nomark _)
theorem dt_le (ha : DE X B a ta) (hb : DE X B b tb) : DT X B (.Compare a [.LtE] [b] pos) (dTst (dOp dLe ta tb)) := dt_cmp (op_le.or op_le_str) l_ord ha hb (nomark _)
theorem dt_gt (ha : DE X B a ta) (hb : DE X B b tb) : DT X B (.Compare a [.Gt] [b] pos) (dTst (dOp dGt ta tb)) := dt_cmp (op_gt.or op_gt_str) l_ord ha hb (nomark _)
theorem dt_ge (ha : DE X B a ta) (hb : DE X B b tb) : DT X B (.Compare a [.GtE] [b] pos) (dTst (dOp dGe ta tb)) := dt_cmp (op_ge.or op_ge_str) l_ord ha hb (nomark _)
/-- a op b op' c, numbers -/
def dChain (r r' : DR2) (ta tb tc : DTE) (Γ : DSt) (M : Mem) (R : D → Mem → Prop) : Prop := ta Γ M fun x M1 => tb Γ M1 fun y M2 => r x y M2 fun z M3 => match z with
  | .bl true => tc Γ M3 fun w M4 => r' x w M4 fun _ _ => r' y w M4 R
  | .bl false => R (.bl false) M3
  | _ => False
/-- low <= e <= high -/
def dBetween (ta tb tc : DTE) (Γ : DSt) (M : Mem) (R : D → Mem → Prop) : Prop := ta Γ M fun x M1 => tb Γ M1 fun y M2 => match x, y with
  | .int i, .int j => if i ≤ j then tc Γ M2 fun w M3 => (match w with | .int k => R (.bl (decide (j ≤ k))) M3 | _ => False) else R (.bl false) M2
  | _, _ => False
theorem chain_of {K : PySem.W.Frag} {B : Hp} {Γ : DSt} {M : Mem} {F H : Hp} {σ : St} {R : D → Mem → Prop} {Q : VK} (so : SOk K B Γ M F σ H) (ht : dBetween ta tb tc Γ M R) (fol : Fol K F R Q) :
    tChain (rI0 fun i j => .bl (decide (i ≤ j))) (rI0 fun i j => .bl (decide (i ≤ j))) (LE K B ta) (LE K B tb) (LE K B tc) σ H (SzQ K Q) :=
  ⟨Γ, M, F, _, so, ht, fun d1 M1 F1 v1 H1 m1 e1 r1 q1 => ⟨Γ, M1, F1, _, so.step e1 m1, q1, fun d2 M2 F2 v2 H2 m2 e2 r2 q2 => by
    have so2 := (so.step e1 m1).step e2 m2
    split at q2
    · rename_i i j
      cases r1.int_of
      cases r2.int_of
      refine ⟨i, j, rfl, rfl, _, rfl, ?_⟩
      by_cases h : i ≤ j
      · rw [if_pos h] at q2
        rw [decide_eq_true h, if_pos rfl]
        refine ⟨Γ, M2, F2, _, so2, q2, fun d3 M3 F3 v3 H3 m3 e3 r3 q3 => ?_⟩
        split at q3
        · rename_i k
          cases r3.int_of
          exact ⟨j, k, rfl, rfl, fol_at (fol.up ((e1.trans e2).trans e3)) m3 (.bl _) q3⟩
        · exact q3.elim
      · rw [if_neg h] at q2
        rw [decide_eq_false h, if_neg Bool.false_ne_true]
        exact fol_at (fol.up (e1.trans e2)) m2 (.bl _) q2
    · exact q2.elim⟩⟩
theorem de_between (ha : DE X B a ta) (hb : DE X B b tb) (hc : DE X B c tc) (hm : lastMarks [.LtE, .LtE] [b, c] = false := by with_unfolding_all rfl) : DE X B (.Compare a [.LtE, .LtE] [b, c] pos) (dBetween ta tb tc) :=
  de_of (pe_chain op_le op_le ha hb hc hm) fun Γ M F σ H R Q so ht fol => chain_of so ht fol
theorem dt_between (ha : DE X B a ta) (hb : DE X B b tb) (hc : DE X B c tc) (hm : lastMarks [.LtE, .LtE] [b, c] = false := by with_unfolding_all rfl) : DT X B (.Compare a [.LtE, .LtE] [b, c] pos) (dTst (dBetween ta tb tc)) :=
  pt_imp (pt_chain op_le op_le ha hb hc hm) fun σ H Q ⟨Γ, M, F, R, so, ht, fol⟩ => by
    refine ⟨Γ, M, F, _, so, ht, fun d1 M1 F1 v1 H1 m1 e1 r1 q1 => ⟨Γ, M1, F1, _, so.step e1 m1, q1, fun d2 M2 F2 v2 H2 m2 e2 r2 q2 => ?_⟩⟩
    have so2 := (so.step e1 m1).step e2 m2
    split at q2
    · rename_i i j
      cases r1.int_of
      cases r2.int_of
      refine ⟨i, j, rfl, rfl, _, rfl, ?_⟩
      by_cases h : i ≤ j
      · rw [if_pos h] at q2
        rw [decide_eq_true h, if_pos rfl]
        refine ⟨Γ, M2, F2, _, so2, q2, fun d3 M3 F3 v3 H3 m3 e3 r3 q3 => ?_⟩
        split at q3
        · rename_i k
          cases r3.int_of
          exact ⟨j, k, rfl, rfl, _, rfl, fol _ M3 F3 H3 m3 ((e1.trans e2).trans e3) q3⟩
        · exact q3.elim
      · rw [if_neg h] at q2
        rw [decide_eq_false h, if_neg Bool.false_ne_true]
        exact ⟨_, rfl, fol _ M2 F2 H2 m2 (e1.trans e2) q2⟩
    · exact q2.elim
/-- is None -/
def dIsN (neg : Bool) (a : D) (b : D) (M : Mem) (R : D → Mem → Prop) : Prop := match b with
  | .non => (match a with
    | .non => R (.bl (!neg)) M
    | _ => R (.bl neg) M)
  | _ => False
theorem rep_non {K : PySem.W.Frag} {F : Hp} {v : V} {d : D} (r : Rep K F v d) : decide (v = V.non) = (match d with | .non => true | _ => false) := by
  cases r <;> simp
theorem l_isN {K : PySem.W.Frag} : Lift2 K (fun x y H Q => y = .non ∧ Q (.bl (decide (x = .non))) H) (dIsN false) := by
  intro M F H x y dx dy R Q mo rx ry q fol
  unfold dIsN at q
  split at q
  · refine ⟨ry.non_of, ?_⟩
    rw [rep_non rx]
    split at q
    · exact fol_at fol mo (.bl _) q
    · cases dx <;> first | exact fol_at fol mo (.bl _) q | (rename_i h; exact (h rfl).elim)
  · exact q.elim
theorem l_notN {K : PySem.W.Frag} : Lift2 K (fun x y H Q => y = .non ∧ Q (.bl (!decide (x = .non))) H) (dIsN true) := by
  intro M F H x y dx dy R Q mo rx ry q fol
  unfold dIsN at q
  split at q
  · refine ⟨ry.non_of, ?_⟩
    rw [rep_non rx]
    split at q
    · exact fol_at fol mo (.bl _) q
    · cases dx <;> first | exact fol_at fol mo (.bl _) q | (rename_i h; exact (h rfl).elim)
  · exact q.elim
theorem de_is (ha : DE X B a ta) (hb : DE X B b tb) : DE X B (.Compare a [.Is] [b] pos) (dOp (dIsN false) ta tb) := de_cmp op_isN l_isN ha hb (nomark _)
theorem de_isnot (ha : DE X B a ta) (hb : DE X B b tb) : DE X B (.Compare a [.IsNot] [b] pos) (dOp (dIsN true) ta tb) := de_cmp op_notN l_notN ha hb (nomark _)
theorem dt_is (ha : DE X B a ta) (hb : DE X B b tb) : DT X B (.Compare a [.Is] [b] pos) (dTst (dOp (dIsN false) ta tb)) := dt_cmp op_isN l_isN ha hb (nomark _)
theorem dt_isnot (ha : DE X B a ta) (hb : DE X B b tb) : DT X B (.Compare a [.IsNot] [b] pos) (dTst (dOp (dIsN true) ta tb)) := dt_cmp op_notN l_notN ha hb (nomark _)
end

/-! ### rows of a dict -/
section
variable {κ β : Type} [DecidableEq κ]
def look : List (κ × β) → κ → Option β
  | [], _ => none
  | (k', v) :: r, k => if k' = k then some v else look r k
def put (kvs : List (κ × β)) (k : κ) (v : β) : List (κ × β) :=
  if (kvs.any fun kv => decide (kv.1 = k)) = true then kvs.map (fun kv => if kv.1 = k then (kv.1, v) else kv) else kvs ++ [(k, v)]
def drop (kvs : List (κ × β)) (k : κ) : List (κ × β) := kvs.filter fun kv => decide (kv.1 ≠ k)
theorem look_rep {K : PySem.W.Frag} {F : Hp} : ∀ {vs : List (κ × V)} {ds : List (κ × D)} (k : κ), RepsK K F vs ds → (look ds k = none ∧ valV vs k = none) ∨ ∃ v d, look ds k = some d ∧ valV vs k = some v ∧ Rep K F v d
  | _, _, k, .nil => .inl ⟨rfl, rfl⟩
  | _, _, k, .cons (a := p) (b := q) r t => by
    obtain ⟨k1, v1⟩ := p
    obtain ⟨k2, d1⟩ := q
    obtain ⟨e, r⟩ := r
    cases e
    by_cases h : k1 = k
    · exact .inr ⟨v1, d1, if_pos h, valV_pos h, r⟩
    · rcases look_rep k t with ⟨a, b⟩ | ⟨v, d, a, b, c⟩
      · exact .inl ⟨(if_neg h).trans a, (valV_neg h).trans b⟩
      · exact .inr ⟨v, d, (if_neg h).trans a, (valV_neg h).trans b, c⟩
theorem any_rep {K : PySem.W.Frag} {F : Hp} : ∀ {vs : List (κ × V)} {ds : List (κ × D)} (k : κ), RepsK K F vs ds → (vs.any fun kv => decide (kv.1 = k)) = ds.any fun kv => decide (kv.1 = k)
  | _, _, k, .nil => rfl
  | _, _, k, .cons (a := p) (b := q) r t => by rw [List.any_cons, List.any_cons, r.1, any_rep k t]
theorem map_rep {K : PySem.W.Frag} {F : Hp} {v : V} {d : D} (rv : Rep K F v d) : ∀ {vs : List (κ × V)} {ds : List (κ × D)} (k : κ), RepsK K F vs ds → RepsK K F (vs.map fun kv => if kv.1 = k then (kv.1, v) else kv) (ds.map fun kv => if kv.1 = k then (kv.1, d) else kv)
  | _, _, k, .nil => .nil
  | _, _, k, .cons (a := p) (b := q) r t => by
    refine .cons ?_ (map_rep rv k t)
    obtain ⟨e, r⟩ := r
    dsimp only
    rw [e]
    by_cases h : q.1 = k
    · rw [if_pos h, if_pos h]; exact ⟨rfl, rv⟩
    · rw [if_neg h, if_neg h]; exact ⟨e, r⟩
theorem RepsK.app {K : PySem.W.Frag} {F : Hp} : ∀ {vs : List (κ × V)} {ds : List (κ × D)} {ws : List (κ × V)} {es : List (κ × D)}, RepsK K F vs ds → RepsK K F ws es → RepsK K F (vs ++ ws) (ds ++ es)
  | _, _, _, _, .nil, s => s
  | _, _, _, _, .cons r t, s => .cons r (RepsK.app t s)
theorem put_rep {K : PySem.W.Frag} {F : Hp} {v : V} {d : D} (rv : Rep K F v d) {vs : List (κ × V)} {ds : List (κ × D)} (k : κ) (r : RepsK K F vs ds) : RepsK K F (putK vs k v) (put ds k d) := by
  unfold putK put
  rw [any_rep k r]
  split
  · exact map_rep rv k r
  · exact r.app (.cons ⟨rfl, rv⟩ .nil)
theorem drop_rep {K : PySem.W.Frag} {F : Hp} : ∀ {vs : List (κ × V)} {ds : List (κ × D)} (k : κ), RepsK K F vs ds → RepsK K F (dropK vs k) (drop ds k)
  | _, _, k, .nil => .nil
  | _, _, k, .cons (a := p) (b := q) r t => by
    unfold dropK drop
    rw [List.filter_cons, List.filter_cons, r.1]
    split
    · exact .cons r (drop_rep k t)
    · exact drop_rep k t
end
def keyOf : D → Option Key
  | .int i => some (.inl i)
  | .str s => some (.inr s)
  | _ => none
def keysOf : List D → Option (List Key)
  | [] => some []
  | x :: xs => match keyOf x, keysOf xs with
    | some k, some ks => some (k :: ks)
    | _, _ => none
theorem keyOf_rep {K : PySem.W.Frag} {F : Hp} {v : V} {d : D} {k : Key} (r : Rep K F v d) (e : keyOf d = some k) : v = kV k := by
  cases d <;> simp only [keyOf] at e <;> cases e
  · exact r.int_of
  · exact r.str_of
theorem keysOf_rep {K : PySem.W.Frag} {F : Hp} : ∀ {vs : List V} {ds : List D} {ks : List Key}, Reps K F vs ds → keysOf ds = some ks → vs = ks.map kV
  | _, _, _, .nil, e => by simp only [keysOf] at e; cases e; rfl
  | _, _, _, .cons r t, e => by
    simp only [keysOf] at e
    split at e
    · rename_i k ks e1 e2
      cases e
      rw [keyOf_rep r e1, keysOf_rep t e2]
      rfl
    · cases e
/-- what stands in a dict at a key; none: it isn't a dict, or no key -/
def dictAt (M : Mem) (c k : D) : Option (Option D) := match vw M c with
  | .dK kvs => (keyOf k).map fun x => look kvs x
  | .dT kvs => (match k with | .tup xs => (keysOf xs).map fun x => look kvs x | _ => none)
  | _ => none
theorem dictAt_rep {K : PySem.W.Frag} {M : Mem} {F H : Hp} (mo : MOk K M F H) {c k : D} {x y : V} (rx : Rep K F x c) (ry : Rep K F y k) {o : Option D} (e : dictAt M c k = some o) :
    ∃ a u, x = .ref a ∧ DGet H a y u ∧ ((o = none ∧ u = none) ∨ ∃ v d, o = some d ∧ u = some v ∧ Rep K F v d) := by
  unfold dictAt at e
  split at e
  · rename_i kvs ev
    obtain ⟨a, vs, rfl, h, r⟩ := vw_dK mo rx ev
    cases q : keyOf k with
    | none => rw [q] at e; cases e
    | some k' =>
      rw [q] at e; cases e
      cases keyOf_rep ry q
      refine ⟨a, _, rfl, .inl ⟨vs, k', h, rfl, rfl⟩, ?_⟩
      rcases look_rep k' r with ⟨a, b⟩ | ⟨v, d, a, b, c⟩
      · exact .inl ⟨a, b⟩
      · exact .inr ⟨v, d, a, b, c⟩
  · rename_i kvs ev
    obtain ⟨a, vs, rfl, h, r⟩ := vw_dT mo rx ev
    split at e
    · rename_i xs
      cases q : keysOf xs with
      | none => rw [q] at e; cases e
      | some k' =>
        rw [q] at e; cases e
        obtain ⟨b, ws, rfl, hb, rb⟩ := ry.tup_of
        rw [keysOf_rep rb q] at hb
        refine ⟨a, _, rfl, .inr ⟨vs, k', b, h, rfl, mo.sub _ _ hb, rfl⟩, ?_⟩
        rcases look_rep k' r with ⟨a, b⟩ | ⟨v, d, a, b, c⟩
        · exact .inl ⟨a, b⟩
        · exact .inr ⟨v, d, a, b, c⟩
    · cases e
  · cases e

/-! ### in -/
def sc : D → Bool
  | .non => true
  | .int _ => true
  | .str _ => true
  | _ => false
def eqS : D → D → Bool
  | .non, .non => true
  | .int i, .int j => decide (i = j)
  | .str s, .str t => decide (s = t)
  | _, _ => false
def seqIn (a : D) (xs : List D) : Option Bool :=
  if sc a && xs.all sc then some (xs.any fun z => eqS z a) else if flatN 8 a && xs.all (flatN 8) then some (xs.any fun z => deq z a) else none
def inB (M : Mem) (a c : D) : Option Bool := match vw M c with
  | .lst xs => seqIn a xs
  | .tup xs => seqIn a xs
  | .kls xs => seqIn a xs
  | .str z => (match a with
    | .str s => (match s.cps.toList with
      | [k] => some (decide (k ∈ z.cps.toList))
      | _ => none)
    | _ => none)
  | _ => (dictAt M c a).map Option.isSome
def dIn (neg : Bool) (a : D) (c : D) (M : Mem) (R : D → Mem → Prop) : Prop := match inB M a c with
  | some b => R (.bl (if neg then !b else b)) M
  | none => False
theorem sc_flat {K : PySem.W.Frag} {F : Hp} {v : V} {d : D} (r : Rep K F v d) (h : sc d = true) : flatV v = true := by
  cases d <;> simp only [sc] at h <;> try (cases h; done)
  · rw [r.non_of]; rfl
  · rw [r.int_of]; rfl
  · rw [r.str_of]; rfl
theorem sc_flats {K : PySem.W.Frag} {F : Hp} : ∀ {vs : List V} {ds : List D}, Reps K F vs ds → ds.all sc = true → vs.all flatV = true
  | _, _, .nil, _ => rfl
  | _, _, .cons r t, h => by
    simp only [List.all_cons, Bool.and_eq_true] at h ⊢
    exact ⟨sc_flat r h.1, sc_flats t h.2⟩
theorem eqS_rep {K : PySem.W.Frag} {F : Hp} {v w : V} {d e : D} (r : Rep K F v d) (q : Rep K F w e) (h : sc d = true) (g : sc e = true) : eqV v w = eqS d e := by
  cases d <;> simp only [sc] at h <;> try (cases h; done)
  all_goals (cases e <;> simp only [sc] at g <;> try (cases g; done))
  all_goals (first | rw [r.non_of] | rw [r.int_of] | rw [r.str_of])
  all_goals (first | rw [q.non_of] | rw [q.int_of] | rw [q.str_of])
  all_goals (first | rfl | (simp only [eqV, eqS]; rw [Bool.eq_iff_iff]; simp))
theorem any_eqS {K : PySem.W.Frag} {F : Hp} {w : V} {e : D} (q : Rep K F w e) (g : sc e = true) : ∀ {vs : List V} {ds : List D}, Reps K F vs ds → ds.all sc = true → inV w vs = ds.any fun z => eqS z e
  | _, _, .nil, _ => rfl
  | _, _, .cons r t, h => by
    simp only [List.all_cons, Bool.and_eq_true] at h
    have := any_eqS q g t h.2
    unfold inV at this ⊢
    rw [List.any_cons, List.any_cons, this, eqS_rep r q h.1 g]
theorem any_toP (a : D) : ∀ xs : List D, ((xs.map toP).any fun z => PyData.eqv z (toP a)) = xs.any fun z => deq z a
  | [] => rfl
  | x :: xs => by rw [List.map_cons, List.any_cons, List.any_cons, any_toP a xs]; rfl
theorem shaped_list {xs : List D} (h : xs.all (flatN 8) = true) : SeqAt.shaped (.list (xs.map toP)) = true := by
  have := flat_shaped (n := 9) (d := .lst xs) (by decide) (by simpa [flatN] using h)
  simpa only [toP, toPs_map] using this
section
variable {X : Cx} {B : Hp} {pos : Pos} {a b c : Expr} {ta tb tc : DTE}
def rInT (K : PySem.W.Frag) (neg : Bool) : R2 := fun x y H Q => ∃ d ds, L2.Dp K H x d ∧ L2.Dp K H y (.tuple ds) ∧ SeqAt.shaped d = true ∧ SeqAt.shaped (.list ds) = true ∧ Q (.bl (if neg then !(ds.any fun z => PyData.eqv z d) else ds.any fun z => PyData.eqv z d)) H
theorem op_inT (hu : X.A.units + 65 < cLine) : OpR X (compareOp .In) (rInT X.K false) := by
  intro pins s σ H x y v u Q I rx ry h
  obtain ⟨d, ds, hd, he, sd, se, q⟩ := h
  obtain ⟨as, r1⟩ := Dp.reads I d x v hd rx
  obtain ⟨bs, r2⟩ := Dp.reads I (.tuple ds) y u he ry
  exact SeqAt.in_tuple_reads r2 r1 (SeqAt.canLay_of_shaped se) (SeqAt.canLay_of_shaped sd) (PyProof.Rows.room_in_shaped sd hu) ⟨.bl _, H, I, rfl, q⟩
theorem op_notInT (hu : X.A.units + 65 < cLine) : OpR X (compareOp .NotIn) (rInT X.K true) := by
  intro pins s σ H x y v u Q I rx ry h
  obtain ⟨d, ds, hd, he, sd, se, q⟩ := h
  obtain ⟨as, r1⟩ := Dp.reads I d x v hd rx
  obtain ⟨bs, r2⟩ := Dp.reads I (.tuple ds) y u he ry
  exact SeqAt.notIn_tuple_reads r2 r1 (SeqAt.canLay_of_shaped se) (SeqAt.canLay_of_shaped sd) (PyProof.Rows.room_in_shaped sd hu) ⟨.bl _, H, I, rfl, q⟩
def rInDi (neg : Bool) : R2 := fun y x H Q => ∃ a o, x = .ref a ∧ DGet H a y o ∧ Q (.bl (if neg then !o.isSome else o.isSome)) H
theorem op_inDi (hu : X.A.units + 1 < cLine) : OpR X (compareOp .In) (rInDi false) := by
  intro pins s σ H y x u v Q I ry rx h
  obtain ⟨a, o, rfl, g, q⟩ := h
  cases rx
  exact d_in hu I g ry fun s' I' => ⟨.bl _, H, I', rfl, q⟩
theorem op_notInDi (hu : X.A.units + 1 < cLine) : OpR X (compareOp .NotIn) (rInDi true) := by
  intro pins s σ H y x u v Q I ry rx h
  obtain ⟨a, o, rfl, g, q⟩ := h
  cases rx
  exact d_notIn hu I g ry fun s' I' => ⟨.bl _, H, I', rfl, q⟩
def rInAll (K : PySem.W.Frag) (neg : Bool) : R2 := fun x y H Q => rIn K neg x y H Q ∨ (if neg then rNotInD K else rInD K) x y H Q ∨ rInT K neg x y H Q ∨ rInDi neg x y H Q ∨
  ∃ (c : Nat) (z : Str), x = .str ⟨#[c]⟩ ∧ y = .str z ∧ Q (.bl (if neg then !decide (c ∈ z.cps.toList) else decide (c ∈ z.cps.toList))) H
theorem op_inAll (hu : X.A.units + 65 < cLine) : OpR X (compareOp .In) (rInAll X.K false) := by
  intro pins s σ H x y v u Q I rx ry h
  rcases h with h | h | h | h | h
  · exact op_in_seq pins s σ H x y v u Q I rx ry h
  · exact op_inD hu pins s σ H x y v u Q I rx ry h
  · exact op_inT hu pins s σ H x y v u Q I rx ry h
  · exact op_inDi (by omega) pins s σ H x y v u Q I rx ry h
  · exact op_in_sign pins s σ H x y v u Q I rx ry h
theorem op_notInAll (hu : X.A.units + 65 < cLine) : OpR X (compareOp .NotIn) (rInAll X.K true) := by
  intro pins s σ H x y v u Q I rx ry h
  rcases h with h | h | h | h | h
  · exact op_notIn_seq pins s σ H x y v u Q I rx ry h
  · exact op_notInD hu pins s σ H x y v u Q I rx ry h
  · exact op_notInT hu pins s σ H x y v u Q I rx ry h
  · exact op_notInDi (by omega) pins s σ H x y v u Q I rx ry h
  · exact op_notIn_sign pins s σ H x y v u Q I rx ry h
theorem seqIn_ok {K : PySem.W.Frag} {M : Mem} {F H : Hp} (mo : MOk K M F H) {a : D} {x : V} (rx : Rep K F x a) {vs : List V} {xs : List D} (rs : Reps K F vs xs) {c : Bool} (e : seqIn a xs = some c) :
    (flatV x = true ∧ vs.all flatV = true ∧ inV x vs = c) ∨ (L2.Dp K H x (toP a) ∧ DpAll K H vs (xs.map toP) ∧ SeqAt.shaped (toP a) = true ∧ SeqAt.shaped (.list (xs.map toP)) = true ∧ ((xs.map toP).any fun z => PyData.eqv z (toP a)) = c) := by
  unfold seqIn at e
  split at e
  · rename_i h
    simp only [Bool.and_eq_true] at h
    cases e
    exact .inl ⟨sc_flat rx h.1, sc_flats rs h.2, any_eqS rx h.1 rs h.2⟩
  · split at e
    · rename_i h
      simp only [Bool.and_eq_true] at h
      cases e
      refine .inr ⟨dp_of mo.sub 8 a x h.1 rx, dpAll_of rs fun v d hd r => dp_of mo.sub 8 d v (List.all_eq_true.mp h.2 d hd) r, flat_shaped (by decide) h.1, shaped_list h.2, any_toP a xs⟩
    · cases e
theorem str_one {s : Str} {k : Nat} (h : s.cps.toList = [k]) : s = ⟨#[k]⟩ := by
  cases s with | mk c =>
  congr
  exact Array.toList_inj.mp h
theorem l_in {K : PySem.W.Frag} (neg : Bool) : Lift2 K (rInAll K neg) (dIn neg) := by
  intro M F H x y dx dy R Q mo rx ry q fol
  unfold dIn at q
  split at q
  · rename_i c e
    unfold inB at e
    split at e
    · rename_i xs ev
      obtain ⟨p, vs, rfl, h, rs⟩ := vw_lst mo ry ev
      rcases seqIn_ok mo rx rs e with ⟨h1, h2, h3⟩ | ⟨h1, h2, h3, h4, h5⟩
      · exact .inl ⟨p, vs, rfl, .inl (.of h), h1, h2, by rw [h3]; exact fol_at fol mo (.bl _) q⟩
      · refine .inr (.inl ?_)
        cases neg with
        | true => exact ⟨_, _, h1, .lst (.of h) h2, h3, h4, by rw [h5]; exact fol_at fol mo (.bl _) q⟩
        | false => exact ⟨_, _, h1, .lst (.of h) h2, h3, h4, by rw [h5]; exact fol_at fol mo (.bl _) q⟩
    · rename_i xs ev
      obtain ⟨p, vs, rfl, _, h, rs⟩ := vw_tup mo ry ev
      rcases seqIn_ok mo rx rs e with ⟨h1, h2, h3⟩ | ⟨h1, h2, h3, h4, h5⟩
      · exact .inl ⟨p, vs, rfl, .inr (.of h), h1, h2, by rw [h3]; exact fol_at fol mo (.bl _) q⟩
      · exact .inr (.inr (.inl ⟨_, _, h1, .tup (.of h) h2, h3, h4, by rw [h5]; exact fol_at fol mo (.bl _) q⟩))
    · rename_i xs ev
      obtain ⟨p, vs, rfl, h, rs⟩ := vw_kls mo ry ev
      rcases seqIn_ok mo rx rs e with ⟨h1, h2, h3⟩ | ⟨h1, h2, h3, h4, h5⟩
      · exact .inl ⟨p, vs, rfl, .inl h, h1, h2, by rw [h3]; exact fol_at fol mo (.bl _) q⟩
      · refine .inr (.inl ?_)
        cases neg with
        | true => exact ⟨_, _, h1, .lst h h2, h3, h4, by rw [h5]; exact fol_at fol mo (.bl _) q⟩
        | false => exact ⟨_, _, h1, .lst h h2, h3, h4, by rw [h5]; exact fol_at fol mo (.bl _) q⟩
    · rename_i z ev
      cases vw_str ry ev
      split at e
      · rename_i s
        split at e
        · rename_i k ek
          cases e
          cases rx.str_of
          exact .inr (.inr (.inr (.inr ⟨k, z, by rw [str_one ek], rfl, fol_at fol mo (.bl _) q⟩)))
        · cases e
      · cases e
    · cases ed : dictAt M dy dx with
      | none => rw [ed] at e; cases e
      | some o =>
        rw [ed] at e
        simp only [Option.map_some, Option.some.injEq] at e
        subst e
        obtain ⟨p, u, rfl, g, h⟩ := dictAt_rep mo ry rx ed
        refine .inr (.inr (.inr (.inl ⟨p, u, rfl, g, ?_⟩)))
        have : u.isSome = o.isSome := by
          rcases h with ⟨rfl, rfl⟩ | ⟨v, d, rfl, rfl, _⟩ <;> rfl
        rw [this]
        exact fol_at fol mo (.bl _) q
  · exact q.elim
theorem de_in (hu : X.A.units + 65 < cLine) (ha : DE X B a ta) (hb : DE X B b tb) (hm : behindInMarks .In b = false := by with_unfolding_all rfl) : DE X B (.Compare a [.In] [b] pos) (dOp (dIn false) ta tb) := de_cmp (op_inAll hu) (l_in false) ha hb hm
theorem de_notin (hu : X.A.units + 65 < cLine) (ha : DE X B a ta) (hb : DE X B b tb) (hm : behindInMarks .NotIn b = false := by with_unfolding_all rfl) : DE X B (.Compare a [.NotIn] [b] pos) (dOp (dIn true) ta tb) := de_cmp (op_notInAll hu) (l_in true) ha hb hm
theorem dt_in (hu : X.A.units + 65 < cLine) (ha : DE X B a ta) (hb : DE X B b tb) (hm : behindInMarks .In b = false := by with_unfolding_all rfl) : DT X B (.Compare a [.In] [b] pos) (dTst (dOp (dIn false) ta tb)) := dt_cmp (op_inAll hu) (l_in false) ha hb hm
theorem dt_notin (hu : X.A.units + 65 < cLine) (ha : DE X B a ta) (hb : DE X B b tb) (hm : behindInMarks .NotIn b = false := by with_unfolding_all rfl) : DT X B (.Compare a [.NotIn] [b] pos) (dTst (dOp (dIn true) ta tb)) := dt_cmp (op_notInAll hu) (l_in true) ha hb hm

/-! ### fields, places -/
def fldOf (M : Mem) (d : D) (f : Str) : Option D := match vw M d with
  | .ins _ fs => look fs f
  | _ => none
def dFld (f : Str) (a : D) (M : Mem) (R : D → Mem → Prop) : Prop := match fldOf M a f with
  | some v => R v M
  | none => False
theorem look_lookup {fs : List (Str × V)} {f : Str} : valV fs f = fs.lookup f := by
  induction fs with
  | nil => rfl
  | cons p r ih =>
    obtain ⟨g, v⟩ := p
    by_cases h : g = f
    · rw [valV_pos h, List.lookup_cons]; simp [h]
    · rw [valV_neg h, List.lookup_cons, ih]
      have : (f == g) = false := by simp; exact fun q => h q.symm
      rw [this]
theorem look_mem {κ β : Type} [DecidableEq κ] : ∀ {l : List (κ × β)} {k : κ} {v : β}, look l k = some v → (k, v) ∈ l
  | [], _, _, h => by cases h
  | (k', w) :: r, k, v, h => by
    unfold look at h
    split at h
    · rename_i e; cases h; subst e; exact List.mem_cons_self
    · exact List.mem_cons_of_mem _ (look_mem h)
theorem de_fld {f : Str} (ha : DE X B a ta) (hb : attributeBase a f X.env (eval a X.env) = eval a X.env := by rfl) : DE X B (.Attribute a f pos) (dUn (dFld f) ta) :=
  de_of (pe_fld ha hb) fun Γ M F σ H R Q so ht fol => ⟨Γ, M, F, _, so, ht, fun d1 M1 F1 v1 H1 m1 e1 r1 q1 => by
    unfold dFld at q1
    split at q1
    · rename_i v ev
      unfold fldOf at ev
      split at ev
      · rename_i C fs e
        obtain ⟨p, dx, vs, rfl, h, k, rs⟩ := vw_ins m1 r1 e
        rcases look_rep f rs with ⟨a1, _⟩ | ⟨v', d', a1, b1, c1⟩
        · rw [a1] at ev; cases ev
        · rw [a1] at ev; cases ev
          have fk := k _ (look_mem a1)
          exact ⟨p, C, dx, vs, v', rfl, h, fk.1, fk.2, by rw [← look_lookup]; exact b1, fol_at (fol.up e1) m1 c1 q1⟩
      · cases ev
    · exact q1.elim⟩
/-- what stands at a place -/
def intOf : D → Option Int
  | .int k => some k
  | _ => none
theorem intOf_rep {K : PySem.W.Frag} {F : Hp} {v : V} {d : D} {k : Int} (r : Rep K F v d) (e : intOf d = some k) : v = .int k := by
  cases d <;> simp only [intOf] at e <;> cases e
  exact r.int_of
def ixB (M : Mem) (a i : D) : Option D := match vw M a with
  | .lst xs => (intOf i).bind fun k => atI xs k
  | .tup xs => (intOf i).bind fun k => atI xs k
  | .kls xs => (intOf i).bind fun k => atI xs k
  | .str z => (intOf i).bind fun k => (atI z.cps.toList k).map fun c => .str ⟨#[c]⟩
  | _ => (dictAt M a i).join
def dIx (a : D) (i : D) (M : Mem) (R : D → Mem → Prop) : Prop := match ixB M a i with
  | some v => (match vw M a with | .str z => z.length ≤ sizeLine | _ => True) ∧ R v M
  | none => False
theorem ix_dict (hu : X.A.units + 1 < cLine) : IxR X (fun x y H Q => ∃ a v, x = .ref a ∧ DGet H a y (some v) ∧ Q v H) := by
  intro value slice pins s σ H x y o i Q I rx ry h hs
  obtain ⟨a, v, rfl, g, q⟩ := h
  cases rx
  unfold PyProof.Rows.subscriptTail
  refine wpAny_bind ?_
  have hT := dict_typeIs I g
  rw [getitemInPython_of_ne hT.not_modules]
  refine wpAny_bind (wpAny_specialOf hT PySem.F.slot_dict_getitem.lookup ?_)
  have fin : wpAny (model X.prog X.w) X.A (subscripted slice false (.ref a) i) (fun r s₃ => wpAny (model X.prog X.w) X.A (letTemporaryGo value (.ref a) r >>= fun _ => pure r) (EP X pins σ Q) X.xe s₃) X.xe s := by
    rw [hs]
    exact wpAny_operating (d_getItem hu I g ry fun w' s3 I3 rw' => wpAny_bind (wpAny_letTemporaryGo (wpAny_pure ⟨v, H, I3, rw', q⟩)))
  first
    | exact wpAny_pure (wpAny_bind fin)
    | exact wpAny_bind fin
theorem Reps.atI {K : PySem.W.Frag} {F : Hp} {vs : List V} {ds : List D} (r : Reps K F vs ds) {k : Int} {d : D} (e : L2.atI ds k = some d) : ∃ v, L2.atI vs k = some v ∧ Rep K F v d := by
  unfold L2.atI at e ⊢
  rw [r.len]
  cases q : ixN ds.length k with
  | none => rw [q] at e; cases e
  | some j =>
    rw [q] at e
    simp only [Option.bind_some] at e ⊢
    have hj : j < vs.length := by rw [r.len]; exact (List.getElem?_eq_some_iff.mp e).1
    exact ⟨vs[j], List.getElem?_eq_getElem hj, r.at_ j _ _ (List.getElem?_eq_getElem hj) e⟩
theorem l_ix {K : PySem.W.Frag} : Lift2 K (fun x y H Q => rIx K x y H Q ∨ ∃ a v, x = .ref a ∧ DGet H a y (some v) ∧ Q v H) dIx := by
  intro M F H x y dx dy R Q mo rx ry q fol
  unfold dIx at q
  split at q
  · rename_i v ev
    unfold ixB at ev
    split at ev
    · rename_i xs e
      obtain ⟨p, vs, rfl, h, rs⟩ := vw_lst mo rx e
      obtain ⟨k, e0, ev⟩ := Option.bind_eq_some_iff.mp ev
      cases intOf_rep ry e0
      obtain ⟨w, e1, r1⟩ := rs.atI ev
      exact .inl (.inl ⟨p, vs, k, w, rfl, rfl, .of h, e1, fol_at fol mo r1 q.2⟩)
    · rename_i xs e
      obtain ⟨p, vs, rfl, _, h, rs⟩ := vw_tup mo rx e
      obtain ⟨k, e0, ev⟩ := Option.bind_eq_some_iff.mp ev
      cases intOf_rep ry e0
      obtain ⟨w, e1, r1⟩ := rs.atI ev
      exact .inl (.inr (.inl ⟨p, vs, k, w, rfl, rfl, .of h, e1, fol_at fol mo r1 q.2⟩))
    · rename_i xs e
      obtain ⟨p, vs, rfl, h, rs⟩ := vw_kls mo rx e
      obtain ⟨k, e0, ev⟩ := Option.bind_eq_some_iff.mp ev
      cases intOf_rep ry e0
      obtain ⟨w, e1, r1⟩ := rs.atI ev
      exact .inl (.inl ⟨p, vs, k, w, rfl, rfl, h, e1, fol_at fol mo r1 q.2⟩)
    · rename_i z e
      cases vw_str rx e
      obtain ⟨k, e0, ev⟩ := Option.bind_eq_some_iff.mp ev
      cases intOf_rep ry e0
      obtain ⟨c, ec, ev⟩ := Option.map_eq_some_iff.mp ev
      cases ev
      rw [e] at q
      exact .inl (.inr (.inr ⟨z, k, c, rfl, rfl, q.1, ec, fol_at fol mo (.str _) q.2⟩))
    · cases ed : dictAt M dx dy with
      | none => rw [ed] at ev; cases ev
      | some o =>
        rw [ed] at ev
        obtain ⟨p, u, rfl, g, h⟩ := dictAt_rep mo rx ry ed
        rcases h with ⟨rfl, rfl⟩ | ⟨w, d, rfl, rfl, r1⟩
        · cases ev
        · cases ev
          exact .inr ⟨p, w, rfl, g, fol_at fol mo r1 q.2⟩
  · exact q.elim
theorem de_ix (hu : X.A.units + 1 < cLine) (ha : DE X B a ta) (hb : DE X B b tb) (hs : PlainIx b := by exact fun _ _ => rfl) : DE X B (.Subscript a b pos) (dOp dIx ta tb) :=
  de_of (pe_ix (ix_seq.or (ix_dict hu)) ha hb hs) fun Γ M F σ H R Q so ht fol => two_of l_ix so ht fol
end
end Dp
/-! D4: arguments, displays, calls of what is built in. -/
namespace Dp
open PySem PySem.Spec L2
/-! ### arguments -/
def dNil (_z0 : DSt) (M : Mem) (R : List D → Mem → Prop) : Prop := R [] M
def dCons (ta : DTE) (tr : DTA) (Γ : DSt) (M : Mem) (R : List D → Mem → Prop) : Prop := ta Γ M fun x M1 => tr Γ M1 fun xs M2 => R (x :: xs) M2
/-- *e, e a list or a tuple -/
def itemsOf (M : Mem) (d : D) : Option (List D) := match vw M d with
  | .lst xs => some xs
  | .tup xs => some xs
  | .kls xs => some xs
  | _ => none
def dStar (ta : DTE) (tr : DTA) (Γ : DSt) (M : Mem) (R : List D → Mem → Prop) : Prop := ta Γ M fun x M1 => match itemsOf M1 x with
  | some ys => tr Γ M1 fun xs M2 => R (ys ++ xs) M2
  | none => False
theorem itemsOf_rep {K : PySem.W.Frag} {M : Mem} {F H : Hp} (mo : MOk K M F H) {d : D} {v : V} (r : Rep K F v d) {xs : List D} (e : itemsOf M d = some xs) : ∃ a vs, v = .ref a ∧ (SqL K H a vs ∨ SqT K H a vs) ∧ Reps K F vs xs := by
  unfold itemsOf at e
  split at e <;> cases e
  · rename_i ev; obtain ⟨a, vs, rfl, h, rs⟩ := vw_lst mo r ev; exact ⟨a, vs, rfl, .inl (.of h), rs⟩
  · rename_i ev; obtain ⟨a, vs, rfl, _, h, rs⟩ := vw_tup mo r ev; exact ⟨a, vs, rfl, .inr (.of h), rs⟩
  · rename_i ev; obtain ⟨a, vs, rfl, h, rs⟩ := vw_kls mo r ev; exact ⟨a, vs, rfl, .inl h, rs⟩
section
variable {X : Cx} {B : Hp} {pos : Pos} {e : Expr} {es : List Expr} {te : DTE} {t : DTA}
theorem pa_imp {t t' : TA} (h : PA X es t) (i : ∀ σ H Q, t' σ H Q → t σ H Q) : PA X es t' := ⟨fun p q s σ H Q I z => h.run p q s σ H Q I (i σ H Q z)⟩
theorem da_nil : DA X B [] dNil := pa_imp pa_nil fun σ H Q ⟨Γ, M, F, R, so, ht, fol⟩ => fol [] M F [] H so.toMOk (.refl F) .nil ht
theorem da_cons (ha : DE X B e te) (hr : DA X B es t) (hs : starEach (e :: es) X.env = (false, eval e X.env) :: starEach es X.env := by rfl) : DA X B (e :: es) (dCons te t) :=
  pa_imp (pa_cons ha hr hs) fun σ H Q ⟨Γ, M, F, R, so, ht, fol⟩ => ⟨Γ, M, F, _, so, ht, fun d M1 F1 v H1 m1 e1 r1 q1 => ⟨Γ, M1, F1, _, so.step e1 m1, q1, fun ds M2 F2 vs H2 m2 e2 r2 q2 =>
    fol (d :: ds) M2 F2 (v :: vs) H2 m2 (e1.trans e2) (.cons (r1.up e2) r2) q2⟩⟩
theorem spliced_star {x : Sem Value} {rest : List (Bool × Sem Value)} {Q : List Value → Shared → Prop} {M : Model} {A : Around} {E : Value → Shared → Prop} {s : Shared}
    (h : wpAny M A x (fun v s₁ => wpAny M A (notIterableAtAll v) (fun b s₂ => b = false ∧ wpAny M A (collect v) (fun us s₃ => wpAny M A (spliced rest) (fun vs s₄ => Q (us ++ vs) s₄) E s₃) E s₂) E s₁) E s) : wpAny M A (spliced ((true, x) :: rest)) Q E s := by
  rw [spliced]
  refine wpAny_bind (wpAny_mono h (fun v s₁ h₁ => ?_) fun _ _ x => x)
  simp only [if_true]
  refine wpAny_bind (wpAny_mono h₁ (fun b s₂ h₂ => ?_) fun _ _ x => x)
  obtain ⟨rfl, h₂⟩ := h₂
  simp only [Bool.false_eq_true, if_false]
  exact wpAny_bind (wpAny_mono h₂ (fun us s₃ h₃ => wpAny_bind (wpAny_holding (wpAny_mono h₃ (fun vs s₄ h₄ => wpAny_pure h₄) fun _ _ x => x))) fun _ _ x => x)
theorem iterable_of {prog : Program} {w : World} {A : Around} {E : Value → Shared → Prop} {s : Shared} {v : Value} {T : String} {id : String} {Q : Bool → Shared → Prop} (hT : s.TypeIs v T) (hl : typeLookup (.type T) "__iter__" = pure (some (.builtin id)))
    (h : Q false s) : wpAny (model prog w) A (notIterableAtAll v) Q E s := by
  unfold notIterableAtAll
  exact wpAny_bind (wpAny_specialOf hT hl (wpAny_pure h))
/-- the star of a list or a tuple, by values -/
def tStar (K : PySem.W.Frag) (te : TE) (tr : TA) : TA := fun σ H Q => te σ H fun x H1 => ∃ a ys, x = .ref a ∧ (SqL K H1 a ys ∨ SqT K H1 a ys) ∧ tr σ H1 fun xs H2 => Q (ys ++ xs) H2
theorem pa_star {te : TE} {t : TA} {spos : Pos} (ha : PE X e te) (hr : PA X es t) (hs : starEach (.Starred e spos :: es) X.env = (true, eval e X.env) :: starEach es X.env := by rfl) : PA X (.Starred e spos :: es) (tStar X.K te t) := by
  refine ⟨fun pos pins s σ H Q I h => ?_⟩
  rw [hs]
  show wpAny _ _ (spliced ((true, do let v ← eval e X.env; standAt pos; pure v) :: backTo pos (starEach es X.env))) _ _ s
  refine spliced_star (wpAny_bind (thn (ha.run pins s σ H _ I h) fun u s1 ⟨x, H1, I1, r1, a, ys, ex, hq, q1⟩ => wpAny_bind (wpAny_standAt (wpAny_pure ?_))))
  subst ex
  obtain rfl : u = Value.ref a := r1
  rcases hq with hq | hq
  · obtain ⟨its, r, pl, hz⟩ := I1.list hq
    obtain ⟨o, n, ho, hc, _, hd⟩ := pl
    refine iterable_of (T := "list") (by exact ⟨o, ho, hc⟩) PySem.F.slot_list_iter.lookup ⟨rfl, ?_⟩
    refine wpAny_collect_seq a (.inl rfl) ho hc hd (fun h' k => ?_) (by rw [List.size_toArray, ← r.length]; exact hz)
    have I2 := I1.kept (t' := s1.toks) k
    exact thn (hr.run pos pins _ σ H1 _ I2 q1) fun us s2 ⟨xs, H2, I3, r3, q3⟩ => ⟨ys ++ xs, H2, I3, (by simpa using r.append r3), q3⟩
  · obtain ⟨its, r, pl, hz⟩ := I1.tuple hq
    obtain ⟨o, ho, hc, n, hd⟩ := pl
    refine iterable_of (T := "tuple") (by exact ⟨o, ho, hc⟩) PySem.F.slot_tuple_iter.lookup ⟨rfl, ?_⟩
    refine wpAny_collect_seq a (.inr rfl) ho hc hd (fun h' k => ?_) (by rw [List.size_toArray, ← r.length]; exact hz)
    have I2 := I1.kept (t' := s1.toks) k
    exact thn (hr.run pos pins _ σ H1 _ I2 q1) fun us s2 ⟨xs, H2, I3, r3, q3⟩ => ⟨ys ++ xs, H2, I3, (by simpa using r.append r3), q3⟩
theorem da_star {spos : Pos} (ha : DE X B e te) (hr : DA X B es t) (hs : starEach (.Starred e spos :: es) X.env = (true, eval e X.env) :: starEach es X.env := by rfl) : DA X B (.Starred e spos :: es) (dStar te t) :=
  pa_imp (pa_star ha hr hs) fun σ H Q ⟨Γ, M, F, R, so, ht, fol⟩ => ⟨Γ, M, F, _, so, ht, fun d M1 F1 v H1 m1 e1 r1 q1 => by
    cases ei : itemsOf M1 d with
    | none => rw [ei] at q1; exact q1.elim
    | some xs =>
      rw [ei] at q1
      obtain ⟨a, vs, rfl, hq, rs⟩ := itemsOf_rep m1 r1 ei
      exact ⟨a, vs, rfl, hq, Γ, M1, F1, _, so.step e1 m1, q1, fun ds M2 F2 ws H2 m2 e2 r2 q2 => fol _ M2 F2 _ H2 m2 (e1.trans e2) ((rs.up e2).app r2) q2⟩⟩
/-! ### displays -/
def dTup (t : DTA) (Γ : DSt) (M : Mem) (R : D → Mem → Prop) : Prop := t Γ M fun ds M1 => ds.length ≤ sizeLine ∧ R (.tup ds) M1
def dLst (t : DTA) (Γ : DSt) (M : Mem) (R : D → Mem → Prop) : Prop := t Γ M fun ds M1 => ds.length ≤ sizeLine ∧ R (.lst ds) M1
def dLstM (t : DTA) (Γ : DSt) (M : Mem) (R : D → Mem → Prop) : Prop := t Γ M fun ds M1 => ds.length ≤ sizeLine ∧ ∀ a, M1 a = none → R (.adr a) (mup M1 a (.lst ds))
theorem de_tup {x1} (h : DA X B es t) : DE X B (.Tuple es x1 pos) (dTup t) := de_of (pe_tup h) fun Γ M F σ H R Q so ht fol =>
  ⟨Γ, M, F, _, so, ht, fun ds M1 F1 vs H1 m1 e1 r1 q1 => ⟨by rw [r1.len]; exact q1.1, fun p hp => fol_new (fol.up e1) m1 hp (new_tup hp m1 r1) q1.2⟩⟩
theorem de_lst (h : DA X B es t) : DE X B (.List es pos) (dLst t) := de_of (pe_lst h) fun Γ M F σ H R Q so ht fol =>
  ⟨Γ, M, F, _, so, ht, fun ds M1 F1 vs H1 m1 e1 r1 q1 => ⟨by rw [r1.len]; exact q1.1, fun p hp => fol_new (fol.up e1) m1 hp (new_lst hp m1 r1) q1.2⟩⟩
theorem de_lstM (h : DA X B es t) : DE X B (.List es pos) (dLstM t) := de_of (pe_lst h) fun Γ M F σ H R Q so ht fol =>
  ⟨Γ, M, F, _, so, ht, fun ds M1 F1 vs H1 m1 e1 r1 q1 => ⟨by rw [r1.len]; exact q1.1, fun p hp => fol_cell (fol.up e1) m1 hp (.lst r1) (q1.2 p (m1.mfree hp))⟩⟩
/-- {} -/
def dNewK (Γ : DSt) (M : Mem) (R : D → Mem → Prop) : Prop := ∀ a, M a = none → R (.adr a) (mup M a (.dK []))
def dNewT (Γ : DSt) (M : Mem) (R : D → Mem → Prop) : Prop := ∀ a, M a = none → R (.adr a) (mup M a (.dT []))
theorem de_newK : DE X B (.Dict [] [] pos) dNewK := de_of pe_dnewK fun Γ M F σ H R Q so ht fol => fun p hp => fol_cell fol so.toMOk hp (.dK .nil) (ht p (so.mfree hp))
theorem de_newT : DE X B (.Dict [] [] pos) dNewT := de_of pe_dnewT fun Γ M F σ H R Q so ht fol => fun p hp => fol_cell fol so.toMOk hp (.dT .nil) (ht p (so.mfree hp))
theorem de_newF : DE X B (.Dict [] [] pos) (dC (.dK [])) := de_of pe_dnewK fun Γ M F σ H R Q so ht fol => fun p hp => fol_newK fol so.toMOk hp True.intro (new_dK hp so.toMOk .nil) ht
/-- pairs of a display -/
def dPairs : List (DTE × DTE) → DSt → Mem → (List (D × D) → Mem → Prop) → Prop
  | [], _, M, R => R [] M
  | (tk, tv) :: r, Γ, M, R => tk Γ M fun x M1 => tv Γ M1 fun y M2 => dPairs r Γ M2 fun ps M3 => R ((x, y) :: ps) M3
def pairsOf : List (D × D) → Option (List (Key × D))
  | [] => some []
  | (k, d) :: r => match keyOf k, pairsOf r with
    | some x, some xs => some ((x, d) :: xs)
    | _, _ => none
def merge (kvs more : List (Key × D)) : List (Key × D) := more.foldl (fun acc kv => put acc kv.1 kv.2) kvs
def dDisp (ts : List (DTE × DTE)) (Γ : DSt) (M : Mem) (R : D → Mem → Prop) : Prop := dPairs ts Γ M fun ps M1 => match pairsOf ps with
  | some kvs => kvs.length ≤ 15 ∧ R (.dK (merge [] kvs)) M1
  | none => False
def dDispM (ts : List (DTE × DTE)) (Γ : DSt) (M : Mem) (R : D → Mem → Prop) : Prop := dPairs ts Γ M fun ps M1 => match pairsOf ps with
  | some kvs => kvs.length ≤ 15 ∧ ∀ a, M1 a = none → R (.adr a) (mup M1 a (.dK (merge [] kvs)))
  | none => False
theorem merge_rep {K : PySem.W.Frag} {F : Hp} : ∀ {ws : List (Key × V)} {es : List (Key × D)} {vs : List (Key × V)} {ds : List (Key × D)}, RepsK K F ws es → RepsK K F vs ds → RepsK K F (mergeK vs ws) (merge ds es)
  | _, _, _, _, .nil, r => r
  | _, _, _, _, .cons (a := p) (b := q) h t, r => by
    show RepsK K F (mergeK (putK _ p.1 p.2) _) (merge (put _ q.1 q.2) _)
    rw [h.1]
    exact merge_rep t (put_rep h.2 q.1 r)
theorem pairsOf_rep {K : PySem.W.Frag} {F : Hp} : ∀ {ps : List (V × V)} {ds : List (D × D)} {kvs : List (Key × D)}, Paired (fun p q => Rep K F p.1 q.1 ∧ Rep K F p.2 q.2) ps ds → pairsOf ds = some kvs → ∃ vs, ps = vs.map (fun kv => (kV kv.1, kv.2)) ∧ RepsK K F vs kvs
  | _, _, _, .nil, e => by simp only [pairsOf] at e; cases e; exact ⟨[], rfl, .nil⟩
  | _, _, _, .cons (a := p) (b := q) h t, e => by
    obtain ⟨k, d⟩ := q
    simp only [pairsOf] at e
    split at e
    · rename_i x xs e1 e2
      cases e
      obtain ⟨vs, rfl, r⟩ := pairsOf_rep t e2
      refine ⟨(x, p.2) :: vs, ?_, .cons ⟨rfl, h.2⟩ r⟩
      rw [List.map_cons, ← keyOf_rep h.1 e1]
    · cases e
theorem pairs_of {K : PySem.W.Frag} : ∀ (ts : List (DTE × DTE)) {Γ : DSt} {M : Mem} {F H : Hp} {σ : St} {R : List (D × D) → Mem → Prop} {Q : List (V × V) → Hp → Prop}, SOk K B Γ M F σ H → dPairs ts Γ M R →
    (∀ ds M' F' ps H', MOk K M' F' H' → Same F F' → Paired (fun p q => Rep K F' p.1 q.1 ∧ Rep K F' p.2 q.2) ps ds → R ds M' → Q ps H') → tPairs (ts.map fun t => (LE K B t.1, LE K B t.2)) σ H Q
  | [], _, _, _, _, _, _, _, so, ht, fol => fol _ _ _ _ _ so.toMOk (.refl _) .nil ht
  | (tk, tv) :: r, Γ, M, F, H, σ, R, Q, so, ht, fol => ⟨Γ, M, F, _, so, ht, fun d M1 F1 v H1 m1 e1 r1 q1 => ⟨Γ, M1, F1, _, so.step e1 m1, q1, fun d2 M2 F2 v2 H2 m2 e2 r2 q2 =>
      pairs_of r ((so.step e1 m1).step e2 m2) q2 fun ds M3 F3 ps H3 m3 e3 r3 q3 => fol _ M3 F3 _ H3 m3 ((e1.trans e2).trans e3) (.cons ⟨(r1.up e2).up e3, r2.up e3⟩ r3) q3⟩⟩
/-- the keys and values of a display -/
abbrev DPs (X : Cx) (B : Hp) (pos : Pos) (keys : List (Option Expr)) (values : List Expr) (ts : List (DTE × DTE)) : Prop := PPs X pos keys values (ts.map fun t => (LE X.K B t.1, LE X.K B t.2))
theorem dps_nil : DPs X B pos [] [] [] := pps_nil
theorem dps_cons {k v : Expr} {ks : List (Option Expr)} {vs : List Expr} {tk tv : DTE} {ts : List (DTE × DTE)} (hk : DE X B k tk) (hv : DE X B v tv) (hr : DPs X B pos ks vs ts) : DPs X B pos (some k :: ks) (v :: vs) ((tk, tv) :: ts) := pps_cons hk hv hr
theorem kvs_inj : ∀ {a b : List (Key × V)}, a.map (fun kv => (kV kv.1, kv.2)) = b.map (fun kv => (kV kv.1, kv.2)) → a = b
  | [], [], _ => rfl
  | [], _ :: _, h => by cases h
  | _ :: _, [], h => by cases h
  | (k, v) :: a, (k', v') :: b, h => by
    simp only [List.map_cons, List.cons.injEq, Prod.mk.injEq] at h
    rw [kV_inj h.1.1, h.1.2, kvs_inj h.2]
theorem sz_upd {K : PySem.W.Frag} {H : Hp} {p : Addr} {o : HO} (z : Sz K H) (hl : ∀ xs, o = .lst xs → xs.length ≤ sizeLine) (ht : ∀ xs, o = .tup xs → xs.length ≤ sizeLine) (hk : ∀ xs, o = .dK xs → xs.length ≤ sizeLine) (hT : ∀ xs, o = .dT xs → xs.length ≤ sizeLine)
    (hf : ∀ ob u, o ≠ .frz ob u) : Sz K (upd H p o) := by
  have key : ∀ a u, Rd (upd H p o) a u → (a = p ∧ o = u) ∨ Rd H a u := by
    intro a u r
    by_cases q : a = p
    · subst q
      rcases r with r | ⟨ob, r⟩
      · rw [upd_same] at r; cases r; exact .inl ⟨rfl, rfl⟩
      · rw [upd_same] at r; cases r; exact (hf _ _ rfl).elim
    · rcases r with r | ⟨ob, r⟩
      · rw [upd_ne q] at r; exact .inr (.inl r)
      · rw [upd_ne q] at r; exact .inr (.inr ⟨ob, r⟩)
  refine ⟨fun a xs h => ?_, fun a xs h => ?_, fun a xs h => ?_, fun a xs h => ?_⟩
  · rcases h with h | h
    · rcases key a _ h with ⟨_, e⟩ | h
      · exact hl _ e
      · exact z.lst a xs (.inl h)
    · exact z.lst a xs (.inr h)
  · rcases h with h | h
    · rcases key a _ h with ⟨_, e⟩ | h
      · exact ht _ e
      · exact z.tup a xs (.inl h)
    · exact z.tup a xs (.inr h)
  · rcases key a _ h with ⟨_, e⟩ | h
    · exact hk _ e
    · exact z.dK a xs h
  · rcases key a _ h with ⟨_, e⟩ | h
    · exact hT _ e
    · exact z.dT a xs h
end
end Dp
/-! D5: calls. -/
namespace Dp
open PySem PySem.Spec L2
theorem mdel_mup {M : Mem} {a : Addr} {m : MO} (h : M a = none) : mdel (mup M a m) a = M := by
  funext b; unfold mdel mup
  by_cases q : b = a
  · rw [if_pos q, q, h]
  · rw [if_neg q, if_neg q]
def dCall (r : DRL) (t : DTA) (Γ : DSt) (M : Mem) (R : D → Mem → Prop) : Prop := t Γ M fun ds M1 => r ds M1 R
section
variable {X : Cx} {B : Hp} {pos p : Pos} {e : Expr} {es : List Expr} {t : DTA} {x : Str} {bid : String} {T : String} {r : List V → Hp → VK → Prop} {r' : DRL}
theorem call_of {K : PySem.W.Frag} {Γ : DSt} {M : Mem} {F H : Hp} {σ : St} {R : D → Mem → Prop} {Q : VK} (l : LiftL K r r') (so : SOk K B Γ M F σ H) (ht : dCall r' t Γ M R) (fol : Fol K F R Q) : tCB r (LA K B t) σ H (SzQ K Q) :=
  ⟨Γ, M, F, _, so, ht, fun ds M1 F1 vs H1 m1 e1 r1 q1 => l M1 F1 H1 vs ds R Q m1 r1 q1 (fol.up e1)⟩
theorem de_callB (hc : CallR X (.builtin bid) r) (l : LiftL X.K r r') (hg : Gl X x) (hm : X.mg x = none) (hv : bootBuiltins x = some (.builtin bid)) (ha : DA X B (e :: es) t) (hn : x ≠ "__name__" := by decide) (hdb : (x == ("__debug__" : Str)) = false := by decide)
    (he : starEach (e :: es) X.env = (false, eval e X.env) :: starEach es X.env := by rfl) (hpl : (backTo pos (starEach es X.env)).any (·.1) = false := by rfl) : DE X B (.Call (.Name x p) (e :: es) [] pos) (dCall r' t) :=
  de_of (pe_callB hc hg hm hv ha hn hdb he hpl) fun Γ M F σ H R Q so ht fol => call_of l so ht fol
theorem de_callTy (hc : CallR X (.type T) r) (l : LiftL X.K r r') (hg : Gl X x) (hm : X.mg x = none) (hv : bootBuiltins x = some (.type T)) (ha : DA X B (e :: es) t) (hn : x ≠ "__name__" := by decide) (hdb : (x == ("__debug__" : Str)) = false := by decide)
    (he : starEach (e :: es) X.env = (false, eval e X.env) :: starEach es X.env := by rfl) (hpl : (backTo pos (starEach es X.env)).any (·.1) = false := by rfl) : DE X B (.Call (.Name x p) (e :: es) [] pos) (dCall r' t) :=
  de_of (pe_callTy hc hg hm hv ha hn hdb he hpl) fun Γ M F σ H R Q so ht fol => call_of l so ht fol
/-- a built-in's type as a value -/
theorem de_ty {n : String} (hg : Gl X x) (hm : X.mg x = none) (hv : bootBuiltins x = some (.type n)) (hn : x ≠ "__name__" := by decide) (hd : (x == ("__debug__" : Str)) = false := by decide) : DE X B (.Name x pos) (dC (.ty n)) :=
  de_of (pe_bltn (v := .ty n) hg hm hv rfl hn hd) fun Γ M F σ H R Q so ht fol => fol_at fol so.toMOk (.ty n) ht
/-- a class, a def as a value -/
theorem de_cls {a : Addr} (hg : Gl X x) (hm : X.mg x = some (.ref a)) (hd : (x == ("__debug__" : Str)) = false := by decide) : DE X B (.Name x pos) (dC (.adr a)) :=
  de_of (pe_glob (v := .ref a) hg hm rfl hd) fun Γ M F σ H R Q so ht fol => fol_at fol so.toMOk (.adr a) ht

theorem reps1 {K : PySem.W.Frag} {F : Hp} {vs : List V} {d : D} (r : Reps K F vs [d]) : ∃ v, vs = [v] ∧ Rep K F v d := by
  cases r with | cons r t => cases t; exact ⟨_, rfl, r⟩
theorem reps2 {K : PySem.W.Frag} {F : Hp} {vs : List V} {d d2 : D} (r : Reps K F vs [d, d2]) : ∃ v v2, vs = [v, v2] ∧ Rep K F v d ∧ Rep K F v2 d2 := by
  cases r with | cons r t => obtain ⟨v2, rfl, r2⟩ := reps1 t; exact ⟨_, _, rfl, r, r2⟩
/-- rows of one kind -/
theorem reps_map {α : Type} {K : PySem.W.Frag} {F : Hp} {f : α → D} {g : α → V} (h : ∀ a v, Rep K F v (f a) → v = g a) : ∀ {l : List α} {vs : List V}, Reps K F vs (l.map f) → vs = l.map g
  | [], _, r => by cases r; rfl
  | a :: l, _, r => by
    cases r with | cons r t => rw [h a _ r, reps_map h t]; rfl
theorem reps_ints {K : PySem.W.Frag} {F : Hp} {l : List Int} {vs : List V} (r : Reps K F vs (l.map .int)) : vs = l.map .int := reps_map (fun _ _ r => r.int_of) r
theorem reps_strs {K : PySem.W.Frag} {F : Hp} {l : List Str} {vs : List V} (r : Reps K F vs (l.map .str)) : vs = l.map .str := reps_map (fun _ _ r => r.str_of) r
theorem reps_bls {K : PySem.W.Frag} {F : Hp} {l : List Bool} {vs : List V} (r : Reps K F vs (l.map .bl)) : vs = l.map .bl := reps_map (fun _ _ r => r.bl_of) r
theorem reps_of_map {α : Type} {K : PySem.W.Frag} {F : Hp} {f : α → D} {g : α → V} (h : ∀ a, Rep K F (g a) (f a)) : ∀ l : List α, Reps K F (l.map g) (l.map f)
  | [] => .nil
  | a :: l => .cons (h a) (reps_of_map h l)
def intsOf : List D → Option (List Int)
  | [] => some []
  | .int i :: r => (intsOf r).map (i :: ·)
  | _ :: _ => none
def strsOf : List D → Option (List Str)
  | [] => some []
  | .str i :: r => (strsOf r).map (i :: ·)
  | _ :: _ => none
def blsOf : List D → Option (List Bool)
  | [] => some []
  | .bl i :: r => (blsOf r).map (i :: ·)
  | _ :: _ => none
theorem intsOf_eq : ∀ {xs : List D} {l : List Int}, intsOf xs = some l → xs = l.map .int
  | [], l, h => by cases h; rfl
  | d :: r, l, h => by
    cases d <;> simp only [intsOf] at h <;> try (cases h; done)
    obtain ⟨m, e, rfl⟩ := Option.map_eq_some_iff.mp h
    rw [intsOf_eq e]; rfl
theorem strsOf_eq : ∀ {xs : List D} {l : List Str}, strsOf xs = some l → xs = l.map .str
  | [], l, h => by cases h; rfl
  | d :: r, l, h => by
    cases d <;> simp only [strsOf] at h <;> try (cases h; done)
    obtain ⟨m, e, rfl⟩ := Option.map_eq_some_iff.mp h
    rw [strsOf_eq e]; rfl
theorem blsOf_eq : ∀ {xs : List D} {l : List Bool}, blsOf xs = some l → xs = l.map .bl
  | [], l, h => by cases h; rfl
  | d :: r, l, h => by
    cases d <;> simp only [blsOf] at h <;> try (cases h; done)
    obtain ⟨m, e, rfl⟩ := Option.map_eq_some_iff.mp h
    rw [blsOf_eq e]; rfl
theorem intsOf_map (l : List Int) : intsOf (l.map .int) = some l := by
  induction l with
  | nil => rfl
  | cons a l ih => simp only [List.map_cons, intsOf, ih, Option.map_some]
theorem strsOf_map (l : List Str) : strsOf (l.map .str) = some l := by
  induction l with
  | nil => rfl
  | cons a l ih => simp only [List.map_cons, strsOf, ih, Option.map_some]
theorem blsOf_map (l : List Bool) : blsOf (l.map .bl) = some l := by
  induction l with
  | nil => rfl
  | cons a l ih => simp only [List.map_cons, blsOf, ih, Option.map_some]
theorem intsOf_mapf {α : Type} (f : α → Int) (l : List α) : intsOf (l.map fun a => .int (f a)) = some (l.map f) := by
  have := intsOf_map (l.map f); rwa [List.map_map] at this
theorem strsOf_mapf {α : Type} (f : α → Str) (l : List α) : strsOf (l.map fun a => .str (f a)) = some (l.map f) := by
  have := strsOf_map (l.map f); rwa [List.map_map] at this
theorem blsOf_mapf {α : Type} (f : α → Bool) (l : List α) : blsOf (l.map fun a => .bl (f a)) = some (l.map f) := by
  have := blsOf_map (l.map f); rwa [List.map_map] at this

/-! len -/
def lenOf (M : Mem) (d : D) : Option Nat := match vw M d with
  | .lst xs => some xs.length
  | .tup xs => some xs.length
  | .kls xs => some xs.length
  | .dK kvs => some kvs.length
  | _ => none
def dLen (ds : List D) (M : Mem) (R : D → Mem → Prop) : Prop := match ds with
  | [.str z] => z.length ≤ sizeLine ∧ R (.int z.length) M
  | [d] => (match lenOf M d with
    | some n => R (.int n) M
    | none => False)
  | _ => False
theorem cr_lenAll : CallR X (.builtin "len") (fun xs H Q => (∃ x n, xs = [x] ∧ LenV X.K x H n ∧ Q (.int n) H) ∨ ∃ a kvs, xs = [V.ref a] ∧ Rd H a (.dK kvs) ∧ Q (.int kvs.length) H) := by
  intro pins s σ H xs us Q I r h
  rcases h with h | ⟨a, kvs, rfl, h, q⟩
  · exact call_len pins s σ H xs us Q I r h
  · obtain ⟨u, rfl, ru⟩ := vals1 r
    cases ru
    exact d_len I h fun t s' I' => ⟨.int _, H, I', ⟨t, rfl⟩, q⟩
theorem l_len {K : PySem.W.Frag} : LiftL K (fun xs H Q => (∃ x n, xs = [x] ∧ LenV K x H n ∧ Q (.int n) H) ∨ ∃ a kvs, xs = [V.ref a] ∧ Rd H a (.dK kvs) ∧ Q (.int kvs.length) H) dLen := by
  intro M F H xs ds R Q mo rs q fol
  unfold dLen at q
  split at q
  · obtain ⟨v, rfl, r⟩ := reps1 rs
    cases r.str_of
    exact .inl ⟨_, _, rfl, ⟨q.1, rfl⟩, fol_at fol mo (.int _) q.2⟩
  · obtain ⟨v, rfl, r⟩ := reps1 rs
    split at q
    · rename_i n en
      unfold lenOf at en
      split at en <;> cases en
      · rename_i ev; obtain ⟨a, vs, rfl, h, r1⟩ := vw_lst mo r ev
        exact .inl ⟨_, _, rfl, .inl ⟨_, SqL.of h, rfl⟩, by rw [r1.len]; exact fol_at fol mo (.int _) q⟩
      · rename_i ev; obtain ⟨a, vs, rfl, _, h, r1⟩ := vw_tup mo r ev
        exact .inl ⟨_, _, rfl, .inr ⟨_, SqT.of h, rfl⟩, by rw [r1.len]; exact fol_at fol mo (.int _) q⟩
      · rename_i ev; obtain ⟨a, vs, rfl, h, r1⟩ := vw_kls mo r ev
        exact .inl ⟨_, _, rfl, .inl ⟨_, h, rfl⟩, by rw [r1.len]; exact fol_at fol mo (.int _) q⟩
      · rename_i ev; obtain ⟨a, vs, rfl, h, r1⟩ := vw_dK mo r ev
        exact .inr ⟨_, _, rfl, h, by rw [r1.len]; exact fol_at fol mo (.int _) q⟩
    · exact q.elim
  · exact q.elim
/-! numbers -/
def dAbs (ds : List D) (M : Mem) (R : D → Mem → Prop) : Prop := match ds with
  | [.int i] => R (.int (if i < 0 then -i else i)) M
  | _ => False
theorem l_abs {K : PySem.W.Frag} : LiftL K (fun xs H Q => ∃ i, xs = [.int i] ∧ Q (.int (if i < 0 then -i else i)) H) dAbs := by
  intro M F H xs ds R Q mo rs q fol
  unfold dAbs at q
  split at q
  · obtain ⟨v, rfl, r⟩ := reps1 rs; cases r.int_of; exact ⟨_, rfl, fol_at fol mo (.int _) q⟩
  · exact q.elim
def dInt1 (ds : List D) (M : Mem) (R : D → Mem → Prop) : Prop := match ds with
  | [.int i] => R (.int i) M
  | [.bl b] => R (.int (if b then 1 else 0)) M
  | [.str a] => ∃ n, PySem.intText? a = some n ∧ a.length ≤ 640 ∧ R (.int n) M
  | _ => False
theorem l_int1 {K : PySem.W.Frag} : LiftL K (fun xs H Q => ((∃ i, xs = [.int i] ∧ Q (.int i) H) ∨ ∃ k, xs = [.bl k] ∧ Q (.int (if k then 1 else 0)) H) ∨ ∃ a n, xs = [.str a] ∧ PySem.intText? a = some n ∧ a.length ≤ 640 ∧ Q (.int n) H) dInt1 := by
  intro M F H xs ds R Q mo rs q fol
  unfold dInt1 at q
  split at q
  · obtain ⟨v, rfl, r⟩ := reps1 rs; cases r.int_of; exact .inl (.inl ⟨_, rfl, fol_at fol mo (.int _) q⟩)
  · obtain ⟨v, rfl, r⟩ := reps1 rs; cases r.bl_of; exact .inl (.inr ⟨_, rfl, fol_at fol mo (.int _) q⟩)
  · obtain ⟨v, rfl, r⟩ := reps1 rs; cases r.str_of; obtain ⟨n, e1, e2, q⟩ := q; exact .inr ⟨_, _, rfl, e1, e2, fol_at fol mo (.int _) q⟩
  · exact q.elim
def dStr1 (ds : List D) (M : Mem) (R : D → Mem → Prop) : Prop := match ds with
  | [.int i] => i.natAbs.log2 < 1920 ∧ R (.str (toString i)) M
  | _ => False
theorem l_str1 {K : PySem.W.Frag} : LiftL K (fun xs H Q => ∃ i, xs = [.int i] ∧ i.natAbs.log2 < 1920 ∧ Q (.str (toString i)) H) dStr1 := by
  intro M F H xs ds R Q mo rs q fol
  unfold dStr1 at q
  split at q
  · obtain ⟨v, rfl, r⟩ := reps1 rs; cases r.int_of; exact ⟨_, rfl, q.1, fol_at fol mo (.str _) q.2⟩
  · exact q.elim
/-! list(x), tuple(x) -/
/-- what a walk of the value gives, once: a list, a tuple, a dict's keys -/
def walkOf (M : Mem) (d : D) : Option (List D) := match vw M d with
  | .lst xs => some xs
  | .tup xs => some xs
  | .kls xs => some xs
  | .dK kvs => some (kvs.map fun kv => match kv.1 with | .inl i => .int i | .inr s => .str s)
  | _ => none
def kD : Key → D
  | .inl i => .int i
  | .inr s => .str s
theorem kD_rep {K : PySem.W.Frag} {F : Hp} (k : Key) : Rep K F (kV k) (kD k) := by
  cases k
  · exact .int _
  · exact .str _
def dList1 (fz : Bool) (ds : List D) (M : Mem) (R : D → Mem → Prop) : Prop := match ds with
  | [d] => (match (match vw M d with | .dK kvs => some (kvs.map fun kv => kD kv.1) | _ => itemsOf M d) with
    | some xs => if fz then R (.lst xs) M else ∀ a, M a = none → R (.adr a) (mup M a (.lst xs))
    | none => False)
  | _ => False
theorem keysD_rep {K : PySem.W.Frag} {F : Hp} : ∀ {vs : List (Key × V)} {ds : List (Key × D)}, RepsK K F vs ds → Reps K F (vs.map fun kv => kV kv.1) (ds.map fun kv => kD kv.1)
  | _, _, .nil => .nil
  | _, _, .cons (a := p) (b := q) r t => by
    refine .cons ?_ (keysD_rep t)
    show Rep K F (kV p.1) (kD q.1)
    rw [r.1]; exact kD_rep _

end
/-! ### what a walk gives -/
def ItemsV (K : PySem.W.Frag) (H : Hp) (x : V) (vs : List V) : Prop :=
  ∃ a, x = .ref a ∧ (SqL K H a vs ∨ SqT K H a vs ∨ ∃ kvs : List (Key × V), Rd H a (.dK kvs) ∧ vs = kvs.map fun kv => kV kv.1)
theorem keys_vals {P : Program} {w : World} {kvs : List (Key × V)} {ws : List (Key × Value)} (rk : KV kvs ws) {us : List Value} (hl : us.length = ws.length) (h : ∀ (j : Nat) (u : Value), us[j]? = some u → ∃ k x, ws[j]? = some (k, x) ∧ (mixKind P w).is k u = true) : Vals (kvs.map fun kv => kV kv.1) us := by
  have hk : kvs.length = ws.length := rk.length
  refine vals_of_at (by rw [List.length_map, hk, hl]) fun j x u h1 h2 => ?_
  obtain ⟨k, y, e1, e2⟩ := h j u h2
  have e3 : (kvs.map (·.1))[j]? = some k := by rw [rk.keys, List.getElem?_map, e1]; all_goals rfl
  rw [List.getElem?_map] at h1 e3
  cases q : kvs[j]? with
  | none => rw [q] at h1; cases h1
  | some kv =>
    rw [q] at h1 e3
    cases h1; cases e3
    exact keyIs_rel e2
theorem items_sz {X : Cx} {pins : List (Addr × Obj)} {σ : St} {H : Hp} {s : Shared} (I : Inv X pins σ H s) {x : V} {vs : List V} (h : ItemsV X.K H x vs) : vs.length ≤ sizeLine := by
  obtain ⟨a, rfl, h | h | ⟨kvs, h, rfl⟩⟩ := h
  · exact (Inv.sz_ I).lst _ _ h
  · exact (Inv.sz_ I).tup _ _ h
  · rw [List.length_map]; exact (Inv.sz_ I).dK _ _ h
theorem collect_any {X : Cx} {pins : List (Addr × Obj)} {σ : St} {H : Hp} {s : Shared} {A : Around} {E : Value → Shared → Prop} (I : Inv X pins σ H s) (hA : A.handled = none) {x : V} {v : Value} {vs : List V} (h : ItemsV X.K H x vs) (rx : RelV x v)
    {Q : List Value → Shared → Prop} (hQ : ∀ us s', Inv X pins σ H s' → Vals vs us → Q us s') : wpAny (model X.prog X.w) A (collect v) Q E s := by
  have hz := items_sz I h
  obtain ⟨a, rfl, h | h | ⟨kvs, h, rfl⟩⟩ := h
  · obtain rfl : v = Value.ref a := rx
    obtain ⟨its, r, ⟨o, n, ho, hc, _, hd⟩, _⟩ := I.list h
    refine wpAny_collect_seq a (.inl rfl) ho hc hd (fun h' k => ?_) (by rw [List.size_toArray, ← r.length]; exact hz)
    exact hQ _ _ (I.kept (t' := s.toks) k) (by simpa using r)
  · obtain rfl : v = Value.ref a := rx
    obtain ⟨its, r, ⟨o, ho, hc, n, hd⟩, _⟩ := I.tuple h
    refine wpAny_collect_seq a (.inr rfl) ho hc hd (fun h' k => ?_) (by rw [List.size_toArray, ← r.length]; exact hz)
    exact hQ _ _ (I.kept (t' := s.toks) k) (by simpa using r)
  · obtain rfl : v = Value.ref a := rx
    obtain ⟨_, lo, ws, rk, hd⟩ := dk_rd I.hok h
    obtain ⟨ep, hat⟩ := hd.dictAt
    have hl : ws.length ≤ sizeLine := by rw [← rk.length]; simpa using hz
    refine PySem.W.kdu_collect (PySem.W.kdl_dict (knd := mixKind X.prog X.w) (kvs := ws) (ep := ep) lo) hA hat hl fun h' tk acc hk hacc => ?_
    exact hQ _ _ (I.kept hk) (keys_vals rk (by rw [Array.length_toList, hacc.1]) fun j u e => hacc.2 j u (by rw [← Array.getElem?_toList]; exact e))
/-- list(x) of a dict -/
theorem call_list_dR {X : Cx} (hc : X.calm = true) : CallR X (.type "list") (fun xs H Q => ∃ p kvs, xs = [.ref p] ∧ Rd H p (.dK kvs) ∧ ∀ q, H q = none → Q (.ref q) (upd H q (.lst (kvs.map fun kv => kV kv.1)))) := by
  intro pins s σ H xs us Q I r h
  obtain ⟨p, kvs, rfl, h, q⟩ := h
  obtain ⟨u, rfl, rx⟩ := vals1 r
  obtain rfl : u = Value.ref p := rx
  obtain ⟨z, lo, ws, rk, hd⟩ := dk_rd I.hok h
  obtain ⟨ep, hat⟩ := hd.dictAt
  refine PySem.W.kdl_call (PySem.W.kdl_dict (knd := mixKind X.prog X.w) (kvs := ws) (ep := ep) lo) (I.ok.hd hc) hat (by rw [← rk.length]; exact z) fun h' tk acc n hk hS hacc => ?_
  have hv := keys_vals (us := acc.toList) rk (by rw [Array.length_toList, hacc.1]) fun j u e => hacc.2 j u (by rw [← Array.getElem?_toList]; exact e)
  exact ⟨.ref s.heap.objs.size, upd H s.heap.objs.size (.lst (kvs.map fun kv => kV kv.1)), I.laid hk (Nat.le_refl _) (show ObjOk X.prog X.w _ _ _ (.lst (kvs.map fun kv => kV kv.1)) from ⟨by simpa using z, acc.toList, n, hv, by rw [Array.toArray_toList]; exact hS⟩), rfl, q _ (I.hok.fresh (Nat.le_refl _))⟩
def keysOrItems (M : Mem) (d : D) : Option (List D) := match vw M d with
  | .lst xs => some xs
  | .tup xs => some xs
  | .kls xs => some xs
  | .dK kvs => some (kvs.map fun kv => kD kv.1)
  | _ => none
theorem koi_rep {K : PySem.W.Frag} {M : Mem} {F H : Hp} (mo : MOk K M F H) {d : D} {v : V} (r : Rep K F v d) {xs : List D} (e : keysOrItems M d = some xs) : ∃ vs, ItemsV K H v vs ∧ Reps K F vs xs := by
  unfold keysOrItems at e
  split at e <;> cases e
  · rename_i ev; obtain ⟨a, vs, rfl, h, rs⟩ := vw_lst mo r ev; exact ⟨vs, ⟨a, rfl, .inl (.of h)⟩, rs⟩
  · rename_i ev; obtain ⟨a, vs, rfl, _, h, rs⟩ := vw_tup mo r ev; exact ⟨vs, ⟨a, rfl, .inr (.inl (.of h))⟩, rs⟩
  · rename_i ev; obtain ⟨a, vs, rfl, h, rs⟩ := vw_kls mo r ev; exact ⟨vs, ⟨a, rfl, .inl h⟩, rs⟩
  · rename_i ev; obtain ⟨a, vs, rfl, h, rs⟩ := vw_dK mo r ev; exact ⟨_, ⟨a, rfl, .inr (.inr ⟨vs, h, rfl⟩)⟩, keysD_rep rs⟩
section
variable {X : Cx} {B : Hp} {pos p : Pos} {e : Expr} {es : List Expr} {t : DTA} {x : Str} {bid : String} {T : String} {r : List V → Hp → VK → Prop} {r' : DRL}
def dListOf (fz : Bool) (ds : List D) (M : Mem) (R : D → Mem → Prop) : Prop := match ds with
  | [d] => (match keysOrItems M d with
    | some xs => if fz then R (.lst xs) M else ∀ a, M a = none → R (.adr a) (mup M a (.lst xs))
    | none => False)
  | _ => False
def rListAll (K : PySem.W.Frag) : List V → Hp → VK → Prop := fun xs H Q => ∃ x vs, xs = [x] ∧ ItemsV K H x vs ∧ ∀ l, H l = none → Q (.ref l) (upd H l (.lst vs))
theorem cr_listAll (hc : X.calm = true) : CallR X (.type "list") (rListAll X.K) := by
  intro pins s σ H xs us Q I r h
  obtain ⟨x, vs, rfl, ⟨a, rfl, h | h | ⟨kvs, h, rfl⟩⟩, q⟩ := h
  · exact call_list_of pins s σ H [.ref a] us Q I r ⟨a, vs, rfl, .inl h, q⟩
  · exact call_list_of pins s σ H [.ref a] us Q I r ⟨a, vs, rfl, .inr h, q⟩
  · exact call_list_dR hc pins s σ H [.ref a] us Q I r ⟨a, kvs, rfl, h, q⟩
theorem l_list {K : PySem.W.Frag} (fz : Bool) : LiftL K (rListAll K) (dListOf fz) := by
  intro M F H xs ds R Q mo rs q fol
  unfold dListOf at q
  split at q
  · obtain ⟨v, rfl, r⟩ := reps1 rs
    split at q
    · rename_i ys ey
      obtain ⟨vs, hi, r1⟩ := koi_rep mo r ey
      refine ⟨v, vs, rfl, hi, fun l hl => ?_⟩
      cases fz with
      | true => exact fol_new fol mo hl (new_lst hl mo r1) (by simpa using q)
      | false => exact fol_cell fol mo hl (.lst r1) ((by simpa using q : ∀ a, M a = none → R (.adr a) (mup M a (.lst ys))) l (mo.mfree hl))
    · exact q.elim
  · exact q.elim
/-! tuple(x) -/
def dTupOf (ds : List D) (M : Mem) (R : D → Mem → Prop) : Prop := match ds with
  | [d] => (match itemsOf M d with
    | some xs => R (.tup xs) M
    | none => False)
  | _ => False
theorem l_tuple {K : PySem.W.Frag} : LiftL K (fun xs H Q => ∃ p ys, xs = [.ref p] ∧ ((SqL K H p ys ∧ ∀ l, H l = none → Q (.ref l) (upd H l (.tup ys))) ∨ (SqT K H p ys ∧ Q (.ref p) H))) dTupOf := by
  intro M F H xs ds R Q mo rs q fol
  unfold dTupOf at q
  split at q
  · obtain ⟨v, rfl, r⟩ := reps1 rs
    split at q
    · rename_i ys ey
      unfold itemsOf at ey
      split at ey <;> cases ey
      · rename_i ev; obtain ⟨a, vs, rfl, h, r1⟩ := vw_lst mo r ev
        exact ⟨a, vs, rfl, .inl ⟨.of h, fun l hl => fol_new fol mo hl (new_tup hl mo r1) q⟩⟩
      · rename_i ev; obtain ⟨a, vs, rfl, h0, h, r1⟩ := vw_tup mo r ev
        exact ⟨a, vs, rfl, .inr ⟨.of h, fol_at fol mo (.tupR h0 r1) q⟩⟩
      · rename_i ev; obtain ⟨a, vs, rfl, h, r1⟩ := vw_kls mo r ev
        exact ⟨a, vs, rfl, .inl ⟨h, fun l hl => fol_new fol mo hl (new_tup hl mo r1) q⟩⟩
    · exact q.elim
  · exact q.elim
/-! sum, any, all -/
def lstOf (M : Mem) (d : D) : Option (List D) := match vw M d with
  | .lst xs => some xs
  | .kls xs => some xs
  | _ => none
theorem lstOf_rep {K : PySem.W.Frag} {M : Mem} {F H : Hp} (mo : MOk K M F H) {d : D} {v : V} (r : Rep K F v d) {xs : List D} (e : lstOf M d = some xs) : ∃ a vs, v = .ref a ∧ SqL K H a vs ∧ Reps K F vs xs := by
  unfold lstOf at e
  split at e <;> cases e
  · rename_i ev; obtain ⟨a, vs, rfl, h, rs⟩ := vw_lst mo r ev; exact ⟨a, vs, rfl, .of h, rs⟩
  · rename_i ev; obtain ⟨a, vs, rfl, h, rs⟩ := vw_kls mo r ev; exact ⟨a, vs, rfl, h, rs⟩
def dSum (ds : List D) (M : Mem) (R : D → Mem → Prop) : Prop := match ds with
  | [d] => (match (lstOf M d).bind intsOf with
    | some ns => R (.int ns.sum) M
    | none => False)
  | _ => False
def dAny (ds : List D) (M : Mem) (R : D → Mem → Prop) : Prop := match ds with
  | [d] => (match (lstOf M d).bind blsOf with
    | some bs => R (.bl (bs.any id)) M
    | none => False)
  | _ => False
def dAll (ds : List D) (M : Mem) (R : D → Mem → Prop) : Prop := match ds with
  | [d] => (match (lstOf M d).bind blsOf with
    | some bs => R (.bl (bs.all id)) M
    | none => False)
  | _ => False
theorem l_sum {K : PySem.W.Frag} : LiftL K (rSum K) dSum := by
  intro M F H xs ds R Q mo rs q fol
  unfold dSum at q
  split at q
  · obtain ⟨v, rfl, r⟩ := reps1 rs
    split at q
    · rename_i ns en
      obtain ⟨ys, e1, e2⟩ := Option.bind_eq_some_iff.mp en
      obtain ⟨a, vs, rfl, h, r1⟩ := lstOf_rep mo r e1
      rw [intsOf_eq e2] at r1
      rw [reps_ints r1] at h
      exact ⟨a, ns, rfl, h, fol_at fol mo (.int _) q⟩
    · exact q.elim
  · exact q.elim
theorem l_any {K : PySem.W.Frag} : LiftL K (rAny K) dAny := by
  intro M F H xs ds R Q mo rs q fol
  unfold dAny at q
  split at q
  · obtain ⟨v, rfl, r⟩ := reps1 rs
    split at q
    · rename_i ns en
      obtain ⟨ys, e1, e2⟩ := Option.bind_eq_some_iff.mp en
      obtain ⟨a, vs, rfl, h, r1⟩ := lstOf_rep mo r e1
      rw [blsOf_eq e2] at r1
      rw [reps_bls r1] at h
      exact ⟨a, ns, rfl, h, fol_at fol mo (.bl _) q⟩
    · exact q.elim
  · exact q.elim
theorem l_all {K : PySem.W.Frag} : LiftL K (rAll K) dAll := by
  intro M F H xs ds R Q mo rs q fol
  unfold dAll at q
  split at q
  · obtain ⟨v, rfl, r⟩ := reps1 rs
    split at q
    · rename_i ns en
      obtain ⟨ys, e1, e2⟩ := Option.bind_eq_some_iff.mp en
      obtain ⟨a, vs, rfl, h, r1⟩ := lstOf_rep mo r e1
      rw [blsOf_eq e2] at r1
      rw [reps_bls r1] at h
      exact ⟨a, ns, rfl, h, fol_at fol mo (.bl _) q⟩
    · exact q.elim
  · exact q.elim
/-! ### sorted -/
theorem DpAll.len {K : PySem.W.Frag} {H : Hp} : ∀ {vs : List V} {ds : List PyData}, DpAll K H vs ds → vs.length = ds.length
  | _, _, .nil => rfl
  | _, _, .cons _ t => by rw [List.length_cons, List.length_cons, DpAll.len t]
theorem each_pairs {X : Cx} {pins : List (Addr × Obj)} {σ : St} {H : Hp} {s : Shared} (I : Inv X pins σ H s) : ∀ {vs : List V} {ds : List PyData} {us : List Value}, DpAll X.K H vs ds → Vals vs us →
    PySem.W.EachIs (fun u (b : V × PyData) => RelV b.1 u) us (vs.zip ds) ∧ PySem.W.EachIs (fun u (b : V × PyData) => ∃ as, Reads s.heap u b.2 as) us (vs.zip ds)
  | _, _, _, .nil, .nil => ⟨.nil, .nil⟩
  | _, _, _, .cons h t, .cons r q => by
    obtain ⟨a, b⟩ := each_pairs I t q
    exact ⟨.cons r a, .cons (Dp.reads I _ _ _ h r) b⟩
theorem vals_each : ∀ {us : List Value} {bs : List (V × PyData)}, PySem.W.EachIs (fun u (b : V × PyData) => RelV b.1 u) us bs → Vals (bs.map (·.1)) us
  | _, _, .nil => .nil
  | _, _, .cons r t => .cons r (vals_each t)
theorem zip_snd : ∀ {vs : List V} {ds : List PyData}, vs.length = ds.length → (vs.zip ds).map (·.2) = ds
  | [], [], _ => rfl
  | _ :: _, _ :: _, h => by simp only [List.zip_cons_cons, List.map_cons]; rw [zip_snd (by simpa using h)]
  | [], _ :: _, h => by simp at h
  | _ :: _, [], h => by simp at h
def rSortedD (K : PySem.W.Frag) : List V → Hp → VK → Prop := fun xs H Q => ∃ x vs ds, xs = [x] ∧ ItemsV K H x vs ∧ DpAll K H vs ds ∧ PySem.W.AllAlike ds ∧ PySem.W.Sortable ds ∧ (∀ d ∈ ds, d.depth ≤ 60) ∧
  ∀ p, H p = none → Q (.ref p) (upd H p (.lst (((vs.zip ds).mergeSort (PySem.W.dataLe false fun b : V × PyData => b.2)).map (·.1))))
theorem cr_sortedD (hu : X.A.units + 64 < cLine) (hc : X.calm = true) : CallR X (.builtin "sorted") (rSortedD X.K) := by
  intro pins s σ H xs us Q I r h
  obtain ⟨x, vs, ds, rfl, hi, hd, hal, hso, hdp, q⟩ := h
  obtain ⟨u, rfl, rx⟩ := vals1 r
  have hz := items_sz I hi
  refine Calls.call_function_entry PyProof.Rows.kind_sorted PyProof.Rows.plain_sorted PyProof.Rows.entry_sorted (PyProof.Rows.args_sorted1 _) ?_
  unfold Builtin.«sorted»
  refine wpAny_bind (m := checkCount "sorted" 1 1 _) (wpAny_pure ?_)
  refine wpAny_bind (collect_any (A := X.A.in1) I (I.ok.hd hc) hi rx fun us s1 I1 r1 => ?_)
  obtain ⟨e1, e2⟩ := each_pairs I1 hd r1
  have hlen : us.length ≤ sizeLine := by rw [← r1.length]; exact hz
  refine wpAny_bind (wpAny_newList ?_ hlen)
  have hoL : (s1.heap.push (PyProof.Rows.seqObj "list" us.toArray 0)).get? s1.heap.objs.size = some (PyProof.Rows.seqObj "list" us.toArray 0) := Heap.get?_push_size _ rfl
  have keep : ∀ b o, s1.heap.get? b = some o → (s1.heap.push (PyProof.Rows.seqObj "list" us.toArray 0)).get? b = some o := fun b o e => Heap.get?_push_of_some _ e
  show wpAny _ _ _ _ _ { s1 with heap := s1.heap.push (PyProof.Rows.seqObj "list" us.toArray 0) }
  have hz2 : (vs.zip ds).length ≤ sizeLine := by rw [List.length_zip]; have := DpAll.len hd; omega
  have hmap : (vs.zip ds).map (fun b : V × PyData => b.2) = ds := zip_snd (DpAll.len hd)
  have e2' : PySem.W.EachIs (fun u (b : V × PyData) => ∃ as, Reads (s1.heap.push (PyProof.Rows.seqObj "list" us.toArray 0)) u b.2 as ∧ s1.heap.objs.size ∉ as) us (vs.zip ds) :=
    e2.mono fun u b ⟨as, hr⟩ => ⟨as, PyProof.Rows.Reads.keeps keep hr, fun hm => by
      obtain ⟨o, ho⟩ := PyProof.On.reads_mem_get hr _ hm
      exact Nat.lt_irrefl _ (Heap.lt_size ho)⟩
  refine wpAny_bind (wpAny_holding (PySem.W.list_sort_data (enc := fun b : V × PyData => b.2) hoL e1 e2' (by rw [hmap]; exact hal) (by rw [hmap]; exact hso) hz2 (fun b hb => ?_) fun out hol hout => ?_))
  · have : b.2 ∈ ds := by rw [← hmap]; exact List.mem_map_of_mem hb
    have := hdp _ this
    have e : X.A.in1.units = X.A.units + 1 := rfl
    omega
  · obtain ⟨c, hc2⟩ := PyProof.Rows.sortedHeap_at (vs := us) (out := out.toArray) hoL
    have hv := vals_each hout
    refine wpAny_pure ⟨_, rfl, .ref s1.heap.objs.size, upd H s1.heap.objs.size (.lst _), I1.laid (t' := s1.toks) (fun b o e => ?_) (Nat.le_refl _) (show ObjOk X.prog X.w _ _ _ (.lst _) from ⟨?_, out, c, hv, hc2⟩), rfl, q _ (I1.hok.fresh (Nat.le_refl _))⟩
    · have hb : b < s1.heap.objs.size := Heap.lt_size e
      rw [PyProof.Rows.sortedHeap_old (Nat.ne_of_lt hb) (by rw [PyProof.Rows.size_push']; exact Nat.lt_succ_of_lt hb)]
      exact keep b o e
    · rw [hv.length, hol]; exact hz2
end
end Dp
/-! D6: defs, methods, classes; statements. -/
namespace Dp
open PySem PySem.Spec L2
/-! ### promises -/
abbrev DX := Addr → List (Str × D) → Mem → Prop
abbrev DSp := List D → Mem → (D → Mem → Prop) → DX → Prop
abbrev noX : DX := fun _ _ _ => False
def FolX (K : PySem.W.Frag) (F : Hp) (RX : DX) (E : XK) : Prop := ∀ C fs M' F' d vfs H', MOk K M' F' H' → Same F F' → H' d = some (.xd vfs) → RepsK K F' vfs fs → RX C fs M' → E (.ref C) (some d) H'
def LSp (K : PySem.W.Frag) (dsp : DSp) : Sp := fun vs H Q E => ∃ ds M F R RX, MOk K M F H ∧ Reps K F vs ds ∧ dsp ds M R RX ∧ Fol K F R Q ∧ FolX K F RX E
theorem folx0 {K : PySem.W.Frag} {F : Hp} {E : XK} : FolX K F noX E := fun _ _ _ _ _ _ _ _ _ _ _ h => h.elim
theorem FolX.up {K : PySem.W.Frag} {F F' : Hp} {RX : DX} {E : XK} (h : FolX K F RX E) (e : Same F F') : FolX K F' RX E := fun C fs M' F2 d vfs H' m e2 => h C fs M' F2 d vfs H' m (e.trans e2)
theorem Fol.sz {K : PySem.W.Frag} {F : Hp} {R : D → Mem → Prop} {Q : VK} (h : Fol K F R Q) : Fol K F R (SzQ K Q) := fun d M' F' v H' m e r q _ => .now (h d M' F' v H' m e r q)
/-- the start of a def's slots -/
def dstart (N : List Str) (ds : List D) : DSt := ds.map some ++ List.replicate (N.length - ds.length) none
theorem start_ok {K : PySem.W.Frag} {M : Mem} {F H : Hp} {N : List Str} {vs : List V} {ds : List D} (mo : MOk K M F H) (r : Reps K F vs ds) (hl : ds.length ≤ N.length) : SOk K F (dstart N ds) M F (L2.start N vs) H := by
  have e := r.len
  refine ⟨mo, .refl F, ?_, fun i d g => ?_⟩
  · unfold dstart L2.start; simp [e]
  · unfold dstart at g
    unfold L2.start
    by_cases hi : i < ds.length
    · rw [List.getElem?_append_left (by simpa using hi)] at g
      rw [List.getElem?_append_left (by simp; omega)]
      rw [List.getElem?_map] at g ⊢
      have hv : i < vs.length := by omega
      rw [List.getElem?_eq_getElem hi] at g
      simp only [Option.map_some, Option.some.injEq] at g
      subst g
      exact ⟨vs[i], by rw [List.getElem?_eq_getElem hv]; rfl, r.at_ i _ _ (List.getElem?_eq_getElem hv) (List.getElem?_eq_getElem hi)⟩
    · rw [List.getElem?_append_right (by simp; omega)] at g
      rw [List.getElem?_replicate] at g
      split at g <;> cases g
section
variable {P : Program} {w : World} {K : PySem.W.Frag} {mg : Str → Option Value} {base : Heap}
/-- THE RULE: a def of the text keeps its promise -/
theorem dfn_ok {x qual : Str} {st : Stmt} {f : Addr} {fd : FuncData} {N ps : List Str} {k : Nat} {dsp : DSp} (Fn : Fun K x qual st f fd) (S : FnScope N ps (defScope st)) (len : ∀ ds M R RX, dsp ds M R RX → ds.length = ps.length) (hN : ps.length ≤ N.length)
    (hb2 :
      ∀ (cdv : Value) (A : Around) (outer : List Env) (s : Shared) (H : Hp) (E : XK) (B : Hp) (ds : List D) (M : Mem) (R : D → Mem → Prop) (RX : DX), Room k (A.deeper (PyProof.Rows.envOfC qual (defScope st) s.heap.objs.size f cdv)) → FolX K B RX E → dsp ds M R RX →
      ∃ t, DSs (cxOf (L2.CX P w) P w K mg base N qual (defScope st) f cdv A outer s H E) B (defBody st) t ∧ t { nx := fun _ M' => ∃ M'', MLe M'' M' ∧ R .non M'', rt := R } (dstart N ds) M) : FnOk P w K mg base (L2.CX P w) (k + 1) f fd ps (LSp K dsp) := by
  refine Fn.okX S (fun vs H Q E h => ?_) fun cdv A outer s H vs Q E hr h => ?_
  · obtain ⟨ds, M, F, R, RX, mo, r, d, _⟩ := h
    rw [r.len]; exact len _ _ _ _ d
  · obtain ⟨ds, M, F, R, RX, mo, r, d, fol, fx⟩ := h
    obtain ⟨t, h1, h2⟩ := hb2 cdv A outer s H E F ds M R RX hr fx d
    refine ⟨_, h1, dstart N ds, M, F, _, start_ok mo r (by rw [len _ _ _ _ d]; exact hN), h2, ⟨?_, fol, ?_, ?_⟩⟩
    · intro Γ' M' F' σ' H' so e q
      obtain ⟨M'', l, q⟩ := q
      exact fol .non M'' F' .non H' (so.toMOk.less l) e .non q
    · intro Γ' M' F' σ' H' so e q; exact q
    · intro Γ' M' F' σ' H' so e q; exact q
end
/-! ### calls -/
def dCallF (dsp : DSp) (t : DTA) (Γ : DSt) (M : Mem) (R : D → Mem → Prop) : Prop := t Γ M fun ds M1 => dsp ds M1 R noX
def dMethF (C : Addr) (dsp : DSp) (ta : DTE) (t : DTA) (Γ : DSt) (M : Mem) (R : D → Mem → Prop) : Prop := ta Γ M fun d M1 => match vw M1 d with
  | .ins C' _ => C' = C ∧ t Γ M1 fun ds M2 => dsp (d :: ds) M2 R noX
  | _ => False
def dMake (C : Addr) (dsp : DSp) (t : DTA) (Γ : DSt) (M : Mem) (R : D → Mem → Prop) : Prop := t Γ M fun ds M1 => ∀ a, M1 a = none → dsp (.adr a :: ds) (mup M1 a (.ins C [])) (fun d M2 => d = .non ∧ R (.adr a) M2) noX
def dMakeF (C : Addr) (dsp : DSp) (t : DTA) (Γ : DSt) (M : Mem) (R : D → Mem → Prop) : Prop := t Γ M fun ds M1 => ∀ a, M1 a = none → dsp (.adr a :: ds) (mup M1 a (.ins C [])) (fun d M2 => d = .non ∧ ∃ fs, M2 a = some (.ins C fs) ∧ R (.ins C fs) (mdel M2 a)) noX
theorem lookup_none {fs : List (Str × V)} {f : Str} (h : ∀ p ∈ fs, p.1 ≠ f) : fs.lookup f = none := by
  rw [← look_lookup]
  induction fs with
  | nil => rfl
  | cons p r ih => rw [valV_neg (h p List.mem_cons_self)]; exact ih fun q hq => h q (List.mem_cons_of_mem _ hq)
theorem meth_free {K : PySem.W.Frag} {C f : Addr} {m : Str} (h : Meth K C m f) {F : Hp} {vs : List (Str × V)} {ds : List (Str × D)} (k : ∀ p ∈ ds, FOk K C p.1) (r : RepsK K F vs ds) : vs.lookup m = none := by
  refine lookup_none fun p hp e => ?_
  have : p.1 ∈ ds.map (·.1) := by rw [← r.keys]; exact List.mem_map_of_mem hp
  obtain ⟨q, hq, eq⟩ := List.mem_map.mp this
  have q1 := (k q hq).2
  rw [eq, e] at q1
  have q2 := h.at_
  unfold NoAttr at q1
  rw [q1] at q2
  cases q2
section
variable {X : Cx} {B : Hp} {pos p apos : Pos} {e o : Expr} {es : List Expr} {ta : DTE} {t : DTA} {x m : Str} {k : Nat} {f C : Addr} {fd : FuncData} {ps : List Str} {dsp : DSp}
theorem call_in {K : PySem.W.Frag} {dsp : DSp} {ds : List D} {M : Mem} {F H : Hp} {vs : List V} {R : D → Mem → Prop} {Q : VK} (mo : MOk K M F H) (r : Reps K F vs ds) (h : dsp ds M R noX) (fol : Fol K F R Q) : LSp K dsp vs H (SzQ K Q) E0 :=
  ⟨ds, M, F, R, noX, mo, r, h, fol.sz, folx0⟩
theorem de_call (G : FnOk X.prog X.w X.K X.mg X.base (L2.CX X.prog X.w) k f fd ps (LSp X.K dsp)) (hr : Room k X.A) (hg : Gl X x) (hm : X.mg x = some (.ref f)) (hk : PySem.W.keepIn X.K (.ref f) = true) (hb : Binds X.K fd ps []) (ha : DA X B (e :: es) t)
    (hdb : (x == ("__debug__" : Str)) = false := by decide) (he : starEach (e :: es) X.env = (false, eval e X.env) :: starEach es X.env := by rfl) (hpl : (backTo pos (starEach es X.env)).any (·.1) = false := by rfl) :
    DE X B (.Call (.Name x p) (e :: es) [] pos) (dCallF dsp t) :=
  de_of (pe_call (dvs := []) (E := E0) G hr hg hm hk hb .nil passL ha hdb he hpl) fun Γ M F σ H R Q so ht fol =>
    ⟨Γ, M, F, _, so, ht, fun ds M1 F1 vs H1 m1 e1 r1 q1 => by dsimp only; rw [List.append_nil]; exact call_in m1 r1 q1 (fol.up e1)⟩
theorem de_call0 (G : FnOk X.prog X.w X.K X.mg X.base (L2.CX X.prog X.w) k f fd ps (LSp X.K dsp)) (hr : Room k X.A) (hg : Gl X x) (hm : X.mg x = some (.ref f)) (hk : PySem.W.keepIn X.K (.ref f) = true) (hb : Binds X.K fd ps [])
    (hdb : (x == ("__debug__" : Str)) = false := by decide) : DE X B (.Call (.Name x p) [] [] pos) (dCallF dsp dNil) :=
  de_of (pe_call0 (dvs := []) (E := E0) G hr hg hm hk hb .nil passL hdb) fun Γ M F σ H R Q so ht fol => call_in so.toMOk .nil ht fol
theorem de_meth {pl : Sem Bool} (ho : DE X B o ta) (c : Cls X.K C) (hm : Meth X.K C m f) (G : FnOk X.prog X.w X.K X.mg X.base (L2.CX X.prog X.w) k f fd ps (LSp X.K dsp)) (hr : Room k X.A) (hb : Binds X.K fd ps []) (ha : DA X B (e :: es) t)
    (hst : starEach (e :: es) X.env = (false, eval e X.env) :: starEach es X.env := by rfl) (hpl : (backTo pos (starEach es X.env)).any (·.1) = false := by rfl)
    (ht : eval (.Call (.Attribute o m apos) (e :: es) [] pos) X.env = (do
      let ov ← eval o X.env
      standAt apos.atName
      let (f, first) ← holding [ov] (getMethod ov m pl)
      callWith pos f first (backTo pos (starEach (e :: es) X.env)) (backToKw pos (keywordEach [] X.env))) := by rfl) : DE X B (.Call (.Attribute o m apos) (e :: es) [] pos) (dMethF C dsp ta t) :=
  de_of (pe_meth (dvs := []) (E := E0) ho c hm G hr hb .nil passL ha hst hpl ht) fun Γ M F σ H R Q so hq fol =>
    ⟨Γ, M, F, _, so, hq, fun d M1 F1 v H1 m1 e1 r1 q1 => by
      split at q1
      · rename_i C' fs ev
        obtain ⟨rfl, q1⟩ := q1
        obtain ⟨a, dx, vs, rfl, hh, kk, rs⟩ := vw_ins m1 r1 ev
        refine ⟨a, dx, vs, rfl, hh, meth_free hm kk rs, Γ, M1, F1, _, so.step e1 m1, q1, fun ds M2 F2 ws H2 m2 e2 r2 q2 => ?_⟩
        dsimp only
        rw [List.append_nil]
        exact call_in m2 (.cons (r1.up e2) r2) q2 (fol.up (e1.trans e2))
      · exact q1.elim⟩
theorem de_meth0 {pl : Sem Bool} (ho : DE X B o ta) (c : Cls X.K C) (hm : Meth X.K C m f) (G : FnOk X.prog X.w X.K X.mg X.base (L2.CX X.prog X.w) k f fd ps (LSp X.K dsp)) (hr : Room k X.A) (hb : Binds X.K fd ps [])
    (ht : eval (.Call (.Attribute o m apos) [] [] pos) X.env = (do
      let ov ← eval o X.env
      standAt apos.atName
      let (f, first) ← holding [ov] (getMethod ov m pl)
      callWith pos f first (backTo pos (starEach [] X.env)) (backToKw pos (keywordEach [] X.env))) := by rfl) : DE X B (.Call (.Attribute o m apos) [] [] pos) (dMethF C dsp ta dNil) :=
  de_of (pe_meth0 (dvs := []) (E := E0) ho c hm G hr hb .nil passL ht) fun Γ M F σ H R Q so hq fol =>
    ⟨Γ, M, F, _, so, hq, fun d M1 F1 v H1 m1 e1 r1 q1 => by
      split at q1
      · rename_i C' fs ev
        obtain ⟨rfl, q1⟩ := q1
        obtain ⟨a, dx, vs, rfl, hh, kk, rs⟩ := vw_ins m1 r1 ev
        exact ⟨a, dx, vs, rfl, hh, meth_free hm kk rs, call_in m1 (.cons r1 .nil) q1 (fol.up e1)⟩
      · exact q1.elim⟩
theorem made_ok {K : PySem.W.Frag} {M : Mem} {F H : Hp} {x dx C : Addr} (mo : MOk K M F H) (hx : H x = none) (hd : H dx = none) (ne : dx ≠ x) : MOk K (mup M x (.ins C [])) F (upd (upd H dx (.own x)) x (.ins C dx [])) := by
  have z1 : Sz K (upd H dx (.own x)) := sz_upd mo.sz (fun _ e => nomatch e) (fun _ e => nomatch e) (fun _ e => nomatch e) (fun _ e => nomatch e) fun _ _ e => nomatch e
  have z2 : Sz K (upd (upd H dx (.own x)) x (.ins C dx [])) := sz_upd z1 (fun _ e => nomatch e) (fun _ e => nomatch e) (fun _ e => nomatch e) (fun _ e => nomatch e) fun _ _ e => nomatch e
  have m1 : MOk K M F (upd H dx (.own x)) := (mo.cell (m := .raw (.own x)) hd (.raw _ fun _ e => nomatch e) z1).less fun a m e => by
    have q : a ≠ dx := fun q => by rw [q, mo.mfree hd] at e; cases e
    rw [mup_ne q]; exact e
  exact m1.cell (by rw [upd_ne (Ne.symm ne)]; exact hx) (.ins (fun _ h => nomatch h) .nil) z2
theorem de_make (Mk' : Mk X.K C f) (G : FnOk X.prog X.w X.K X.mg X.base (L2.CX X.prog X.w) k f fd ps (LSp X.K dsp)) (hr : Room (k + 1) X.A) (hg : Gl X x) (hm : X.mg x = some (.ref C)) (hb : Binds X.K fd ps []) (ha : DA X B (e :: es) t)
    (hdb : (x == ("__debug__" : Str)) = false := by decide) (he : starEach (e :: es) X.env = (false, eval e X.env) :: starEach es X.env := by rfl) (hpl : (backTo pos (starEach es X.env)).any (·.1) = false := by rfl) :
    DE X B (.Call (.Name x p) (e :: es) [] pos) (dMake C dsp t) :=
  de_of (pe_make (dvs := []) (E := E0) Mk' G hr hg hm hb .nil passL ha hdb he hpl) fun Γ M F σ H R Q so ht fol =>
    ⟨Γ, M, F, _, so, ht, fun ds M1 F1 vs H1 m1 e1 r1 q1 => fun a dx ha hdx ne => by
      rw [List.append_nil]
      refine ⟨_, _, F1, _, noX, made_ok m1 ha hdx ne, .cons (.adr a) r1, q1 a (m1.mfree ha), fun d M' F' v H' m' e' r' q' => ?_, folx0⟩
      obtain ⟨rfl, q'⟩ := q'
      exact ⟨r'.non_of, fun _ => .now (fol (.adr a) M' F' (.ref a) H' m' (e1.trans e') (.adr a) q')⟩⟩
theorem de_make0 (Mk' : Mk X.K C f) (G : FnOk X.prog X.w X.K X.mg X.base (L2.CX X.prog X.w) k f fd ps (LSp X.K dsp)) (hr : Room (k + 1) X.A) (hg : Gl X x) (hm : X.mg x = some (.ref C)) (hb : Binds X.K fd ps [])
    (hdb : (x == ("__debug__" : Str)) = false := by decide) : DE X B (.Call (.Name x p) [] [] pos) (dMake C dsp dNil) :=
  de_of (pe_make0 (dvs := []) (E := E0) Mk' G hr hg hm hb .nil passL hdb) fun Γ M F σ H R Q so ht fol => fun a dx ha hdx ne => by
    refine ⟨_, _, F, _, noX, made_ok so.toMOk ha hdx ne, .cons (.adr a) .nil, ht a (so.mfree ha), fun d M' F' v H' m' e' r' q' => ?_, folx0⟩
    obtain ⟨rfl, q'⟩ := q'
    exact ⟨r'.non_of, fun _ => .now (fol (.adr a) M' F' (.ref a) H' m' e' (.adr a) q')⟩
theorem frozen_ins {K : PySem.W.Frag} {M : Mem} {F H : Hp} {a C : Addr} {fs : List (Str × D)} (mo : MOk K M F H) (ha : M a = some (.ins C fs)) : ∃ F', MOk K (mdel M a) F' H ∧ Same F F' ∧ Rep K F' (.ref a) (.ins C fs) := by
  obtain ⟨_, o, hH, r⟩ := mo.mem a _ ha
  cases r with
  | ins k r =>
    obtain ⟨m, s⟩ := mo.freeze ha hH
    exact ⟨_, m, s, .insR upd_same k (r.up s)⟩
theorem de_makeF (Mk' : Mk X.K C f) (G : FnOk X.prog X.w X.K X.mg X.base (L2.CX X.prog X.w) k f fd ps (LSp X.K dsp)) (hr : Room (k + 1) X.A) (hg : Gl X x) (hm : X.mg x = some (.ref C)) (hb : Binds X.K fd ps []) (ha : DA X B (e :: es) t)
    (hdb : (x == ("__debug__" : Str)) = false := by decide) (he : starEach (e :: es) X.env = (false, eval e X.env) :: starEach es X.env := by rfl) (hpl : (backTo pos (starEach es X.env)).any (·.1) = false := by rfl) :
    DE X B (.Call (.Name x p) (e :: es) [] pos) (dMakeF C dsp t) :=
  de_of (pe_make (dvs := []) (E := E0) Mk' G hr hg hm hb .nil passL ha hdb he hpl) fun Γ M F σ H R Q so ht fol =>
    ⟨Γ, M, F, _, so, ht, fun ds M1 F1 vs H1 m1 e1 r1 q1 => fun a dx ha hdx ne => by
      rw [List.append_nil]
      refine ⟨_, _, F1, _, noX, made_ok m1 ha hdx ne, .cons (.adr a) r1, q1 a (m1.mfree ha), fun d M' F' v H' m' e' r' q' => ?_, folx0⟩
      obtain ⟨rfl, fs, hfs, q'⟩ := q'
      obtain ⟨F2, m2, s2, r2⟩ := frozen_ins m' hfs
      exact ⟨r'.non_of, fun _ => .now (fol (.ins C fs) _ F2 (.ref a) H' m2 ((e1.trans e').trans s2) r2 q')⟩⟩
end
end Dp
/-! D7: statements. -/
namespace Dp
open PySem PySem.Spec L2
section
variable {X : Cx} {B : Hp} {pos : Pos}
theorem ps_imp {st : Stmt} {t t' : TS} (h : PS X st t) (i : ∀ D σ H, t' D σ H → t D σ H) : PS X st t' := ⟨fun p s σ H D I q => h.run p s σ H D I (i D σ H q)⟩
theorem pss_imp {st : List Stmt} {t t' : TS} (h : PSs X st t) (i : ∀ D σ H, t' D σ H → t D σ H) : PSs X st t' := ⟨fun p s σ H D I q => h.run p s σ H D I (i D σ H q)⟩
def dNext (R : DEnds) (Γ : DSt) (M : Mem) : Prop := R.nx Γ M
def dSeq (t u : DTS) (R : DEnds) (Γ : DSt) (M : Mem) : Prop := t { R with nx := u R } Γ M
theorem dss_nil : DSs X B [] dNext := pss_imp pss_nil fun D σ H ⟨Γ, M, F, R, so, ht, fol⟩ => fol.nx Γ M F σ H so (.refl F) ht
theorem dss_cons {st : Stmt} {rest : List Stmt} {t u : DTS} (h1 : DS X B st t) (h2 : DSs X B rest u) : DSs X B (st :: rest) (dSeq t u) :=
  pss_imp (pss_cons h1 h2) fun D σ H ⟨Γ, M, F, R, so, ht, fol⟩ => ⟨Γ, M, F, { R with nx := u R }, so, ht, ⟨fun Γ' M' F' σ' H' so' e q => ⟨Γ', M', F', R, so', q, fol.up e⟩, fol.rt, fol.bk, fol.ct⟩⟩
theorem dss_one {st : Stmt} {t : DTS} (h1 : DS X B st t) : DSs X B [st] t := pss_one h1
theorem ds_pass : DS X B (.Pass pos) dNext := ps_imp ps_pass fun D σ H ⟨Γ, M, F, R, so, ht, fol⟩ => fol.nx Γ M F σ H so (.refl F) ht
def dBrk (R : DEnds) (Γ : DSt) (M : Mem) : Prop := R.bk Γ M
def dCont (R : DEnds) (Γ : DSt) (M : Mem) : Prop := R.ct Γ M
theorem ds_break : DS X B (.Break pos) dBrk := ps_imp ps_break fun D σ H ⟨Γ, M, F, R, so, ht, fol⟩ => fol.bk Γ M F σ H so (.refl F) ht
theorem ds_continue : DS X B (.Continue pos) dCont := ps_imp ps_continue fun D σ H ⟨Γ, M, F, R, so, ht, fol⟩ => fol.ct Γ M F σ H so (.refl F) ht
theorem ds_doc {x j pos'} : DS X B (.Expr (.Constant (.str x) j pos) pos') dNext := ps_imp ps_doc fun D σ H ⟨Γ, M, F, R, so, ht, fol⟩ => fol.nx Γ M F σ H so (.refl F) ht
/-- code that the proof never comes to -/
def dNever (_z0 : DEnds) (_z1 : DSt) (_z2 : Mem) : Prop := False
theorem ds_never {st : Stmt} : DS X B st dNever := ps_imp ps_never fun D σ H ⟨Γ, M, F, R, so, ht, fol⟩ => ht
theorem dss_never {st : List Stmt} : DSs X B st dNever := pss_imp pss_never fun D σ H ⟨Γ, M, F, R, so, ht, fol⟩ => ht
/-- an expression alone -/
def dExpr (t : DTE) (R : DEnds) (Γ : DSt) (M : Mem) : Prop := t Γ M fun _ M1 => R.nx Γ M1
theorem ds_expr {e : Expr} {t : DTE} (he : DE X B e t) (hs : swapsWith e none pos.line X.env = pure false := by rfl) : DS X B (.Expr e pos) (dExpr t) :=
  ps_imp (ps_expr he hs) fun D σ H ⟨Γ, M, F, R, so, ht, fol⟩ => ⟨Γ, M, F, _, so, ht, fun d M1 F1 v H1 m1 e1 r1 q1 => fol.nx Γ M1 F1 σ H1 (so.step e1 m1) e1 q1⟩
/-! return; what a def hands back may be frozen, and its own cells are dropped -/
/-- d (at M) may be handed back as d' (at M') -/
def Fz (M : Mem) (d : D) (M' : Mem) (d' : D) : Prop := ∀ K F H v, MOk K M F H → Rep K F v d → Lk (fun H' => ∃ F', MOk K M' F' H' ∧ Same F F' ∧ Rep K F' v d') H
theorem Fz.less {M M' : Mem} {d : D} (h : MLe M' M) : Fz M d M' d := fun K F H v mo r => .now ⟨F, mo.less h, .refl F, r⟩
theorem Fz.refl (M : Mem) (d : D) : Fz M d M d := .less (.refl M)
theorem mdel_le (M : Mem) (a : Addr) : MLe (mdel M a) M := fun b m h => by
  unfold mdel at h
  split at h
  · cases h
  · exact h
theorem Fz.ins {M M' : Mem} {a C : Addr} {fs : List (Str × D)} (ha : M a = some (.ins C fs)) (h : MLe M' (mdel M a)) : Fz M (.adr a) M' (.ins C fs) := fun K F H v mo r => by
  obtain ⟨F', m, s, r'⟩ := frozen_ins mo ha
  rw [r.adr_of]
  exact .now ⟨F', m.less h, s, r'⟩
theorem Fz.lst {M M' : Mem} {a : Addr} {xs : List D} (ha : M a = some (.lst xs)) (h : MLe M' (mdel M a)) : Fz M (.adr a) M' (.lst xs) := fun K F H v mo r => by
  obtain ⟨_, o, hH, ro⟩ := mo.mem a _ ha
  cases ro with
  | lst ro =>
    obtain ⟨m, s⟩ := mo.freeze ha hH
    rw [r.adr_of]
    exact .now ⟨_, m.less h, s, .lstR upd_same (ro.up s)⟩
theorem MOk.lockK {K : PySem.W.Frag} {M : Mem} {F H : Hp} {a : Addr} {u : HO} {m : MO} (mo : MOk K M F H) (ha : M a = some m) (hH : H a = some u) (od : Obj) : MOk K (mdel M a) (upd F a (.frz od u)) (upd H a (.frz od u)) := by
  have hf := (mo.mem a m ha).1
  refine ⟨fun b w e => ?_, fun b n e => ?_, sz_frz (p := a) (u := u) (by rw [show upd H a u = H from funext fun b => by unfold upd; split <;> simp_all]; exact mo.sz)⟩
  · by_cases q : b = a
    · subst q; rw [upd_same] at e ⊢; exact e
    · rw [upd_ne q] at e ⊢; exact mo.sub b w e
  · unfold mdel at e
    by_cases q : b = a
    · rw [if_pos q] at e; cases e
    · rw [if_neg q] at e
      obtain ⟨f, w, e1, r⟩ := mo.mem b n e
      exact ⟨by rw [upd_ne q]; exact f, w, by rw [upd_ne q]; exact e1, r.mono (.of (same_upd hf))⟩
theorem Fz.dK {M M' : Mem} {a : Addr} {xs : List (Key × D)} (ha : M a = some (.dK xs)) (h : MLe M' (mdel M a)) : Fz M (.adr a) M' (.dK xs) := fun K F H v mo r => by
  obtain ⟨hf, o, hH, ro⟩ := mo.mem a _ ha
  cases ro with
  | dK ro =>
    rw [r.adr_of]
    exact .lock hH True.intro fun od => .now ⟨_, (mo.lockK ha hH od).less h, same_upd hf, .dKR upd_same (ro.up (same_upd hf))⟩
theorem Fz.dT {M M' : Mem} {a : Addr} {xs : List (List Key × D)} (ha : M a = some (.dT xs)) (h : MLe M' (mdel M a)) : Fz M (.adr a) M' (.dT xs) := fun K F H v mo r => by
  obtain ⟨hf, o, hH, ro⟩ := mo.mem a _ ha
  cases ro with
  | dT ro =>
    rw [r.adr_of]
    exact .lock hH True.intro fun od => .now ⟨_, (mo.lockK ha hH od).less h, same_upd hf, .dTR upd_same (ro.up (same_upd hf))⟩
def dRet (t : DTE) (R : DEnds) (Γ : DSt) (M : Mem) : Prop := t Γ M fun d M1 => ∃ d' M', Fz M1 d M' d' ∧ R.rt d' M'
theorem ds_ret {e : Expr} {t : DTE} (he : DE X B e t) : DS X B (.Return (some e) pos) (dRet t) :=
  ds_of (ps_ret he) fun Γ M F σ H R E so ht fol => ⟨Γ, M, F, _, so, ht, fun d M1 F1 v H1 m1 e1 r1 ⟨d', M', fz, q⟩ => fun _ =>
    (fz X.K F1 H1 v m1 r1).imp fun H' ⟨F', m', s', r'⟩ => fol.rt d' M' F' v H' m' (e1.trans s') r' q⟩
def dRetN (R : DEnds) (Γ : DSt) (M : Mem) : Prop := ∃ M', MLe M' M ∧ R.rt .non M'
theorem ds_retN : DS X B (.Return none pos) dRetN := ps_imp ps_retN fun D σ H ⟨Γ, M, F, R, so, ⟨M', l, ht⟩, fol⟩ => fol.rt .non M' F .non H (so.toMOk.less l) (.refl F) .non ht
/-! if -/
def dIfS (c : DTT) (t u : DTS) (R : DEnds) (Γ : DSt) (M : Mem) : Prop := c Γ M fun b M1 => if b = true then t R Γ M1 else u R Γ M1
theorem ds_if {c : Expr} {a b : List Stmt} {tc : DTT} {t u : DTS} (hc : DT X B c tc) (ha : DSs X B a t) (hb : DSs X B b u) : DS X B (.If c a b pos) (dIfS tc t u) :=
  ps_imp (ps_if hc ha hb) fun D σ H ⟨Γ, M, F, R, so, ht, fol⟩ => ⟨Γ, M, F, _, so, ht, fun b M1 F1 H1 m1 e1 q1 => by
    cases b with
    | true => exact (if_pos rfl).mpr ⟨Γ, M1, F1, R, so.step e1 m1, by simpa using q1, fol.up e1⟩
    | false => exact (if_neg Bool.false_ne_true).mpr ⟨Γ, M1, F1, R, so.step e1 m1, by simpa using q1, fol.up e1⟩⟩
/-! targets -/
abbrev DTG := D → DSt → Mem → (DSt → Mem → Prop) → Prop
abbrev DTGs := List D → DSt → Mem → (DSt → Mem → Prop) → Prop
def LG (K : PySem.W.Frag) (B : Hp) (t : DTG) : TG := fun v σ H Q => ∃ Γ M F d R, SOk K B Γ M F σ H ∧ Rep K F v d ∧ t d Γ M R ∧ FolS K B F R Q
def LGs (K : PySem.W.Frag) (B : Hp) (t : DTGs) : TGs := fun vs σ H Q => ∃ Γ M F ds R, SOk K B Γ M F σ H ∧ Reps K F vs ds ∧ t ds Γ M R ∧ FolS K B F R Q
abbrev DG (X : Cx) (B : Hp) (target : Expr) (t : DTG) : Prop := PG X target (LG X.K B t)
abbrev DGs (X : Cx) (B : Hp) (targets : List Expr) (t : DTGs) : Prop := PGs X targets (LGs X.K B t)
theorem pg_imp {tg : Expr} {t t' : TG} (h : PG X tg t) (i : ∀ v σ H Q, t' v σ H Q → t v σ H Q) : PG X tg t' := ⟨fun p s σ H v u Q I r q => h.run p s σ H v u Q I r (i v σ H Q q)⟩
theorem pgs_imp {tg : List Expr} {t t' : TGs} (h : PGs X tg t) (i : ∀ v σ H Q, t' v σ H Q → t v σ H Q) : PGs X tg t' := ⟨fun p s σ H v u Q I r q => h.run p s σ H v u Q I r (i v σ H Q q)⟩
def dgN (i : Nat) (d : D) (Γ : DSt) (M : Mem) (R : DSt → Mem → Prop) : Prop := R (Γ.set i (some d)) M
def dgNil (ds : List D) (Γ : DSt) (M : Mem) (R : DSt → Mem → Prop) : Prop := ds = [] ∧ R Γ M
def dgCons (t : DTG) (u : DTGs) (ds : List D) (Γ : DSt) (M : Mem) (R : DSt → Mem → Prop) : Prop := match ds with
  | d :: r => t d Γ M fun Γ' M' => u r Γ' M' R
  | [] => False
def dgTup (n : Nat) (t : DTGs) (d : D) (Γ : DSt) (M : Mem) (R : DSt → Mem → Prop) : Prop := match d with
  | .tup ds => ds.length = n ∧ t ds Γ M R
  | _ => False
theorem dg_name {i : Nat} {x : Str} (hN : X.N.Nodup) (hi : X.N[i]? = some x) (hx : Loc X.env.scope x) (hf : X.fn x = true ∨ X.env.scope.names.lookup x = some .local := by first | exact .inl rfl | exact .inr rfl | assumption) : DG X B (.Name x pos) (dgN i) :=
  pg_imp (pg_name hN hi hx hf) fun v σ H Q ⟨Γ, M, F, d, R, so, r, ht, fol⟩ => fol _ M F _ H (so.set i r) (.refl F) ht
theorem dgs_nil : DGs X B [] dgNil := pgs_imp pgs_nil fun vs σ H Q ⟨Γ, M, F, ds, R, so, r, ht, fol⟩ => by
  obtain ⟨rfl, ht⟩ := ht
  cases r
  exact ⟨rfl, fol Γ M F σ H so (.refl F) ht⟩
theorem dgs_cons {e : Expr} {es : List Expr} {t : DTG} {u : DTGs} (h1 : DG X B e t) (h2 : DGs X B es u) (hs : (assignEach (e :: es) X.env).map (·.2) = assign e X.env :: (assignEach es X.env).map (·.2) := by rfl) : DGs X B (e :: es) (dgCons t u) := by
  refine pgs_imp (pgs_cons h1 h2 hs) fun vs σ H Q ⟨Γ, M, F, ds, R, so, r, ht, fol⟩ => ?_
  cases ds with
  | nil => exact ht.elim
  | cons d ds =>
    cases r with
    | cons r t =>
      exact ⟨_, _, rfl, Γ, M, F, d, _, so, r, ht, fun Γ' M' F' σ' H' so' e' q => ⟨Γ', M', F', ds, R, so', Reps.up e' t, q, fol.up e'⟩⟩
theorem dg_tup {es : List Expr} {kk : Nat} {t : DTGs} {n : Nat} (hc : X.calm = true) (h : DGs X B es t) (hn : (assignEach es X.env).length = n := by rfl) (hst : (assignEach es X.env).findIdx? (·.1) = none := by rfl) : DG X B (.Tuple es kk pos) (dgTup n t) := by
  refine pg_imp (pg_tup (n := n) hc h hn hst) fun v σ H Q ⟨Γ, M, F, d, R, so, r, ht, fol⟩ => ?_
  cases d with
  | tup ds =>
    obtain ⟨hl, ht⟩ := ht
    obtain ⟨a, vs, rfl, hF, rs⟩ := r.tup_of
    exact ⟨a, vs, rfl, .of (so.sub _ _ hF), by rw [rs.len]; exact hl, Γ, M, F, ds, R, so, rs, ht, fol⟩
  | _ => exact ht.elim
/-- target = value -/
def dAsg (te : DTE) (g : DTG) (R : DEnds) (Γ : DSt) (M : Mem) : Prop := te Γ M fun d M1 => g d Γ M1 R.nx
theorem ds_asg {tg e : Expr} {te : DTE} {g : DTG} (he : DE X B e te) (hg : DG X B tg g) (hs : swapsWithSole [tg] e pos.line X.env = pure false := by rfl) (hw : swappedStores [tg] e X.env = pure none := by rfl) (h1 : (assignEach [tg] X.env).map (·.2) = [assign tg X.env] := by rfl) : DS X B (.Assign [tg] e pos) (dAsg te g) :=
  ps_imp (ps_asg he hg hs hw h1) fun D σ H ⟨Γ, M, F, R, so, ht, fol⟩ => ⟨Γ, M, F, _, so, ht, fun d M1 F1 v H1 m1 e1 r1 q1 => ⟨Γ, M1, F1, d, R.nx, so.step e1 m1, r1, q1, fol.nx.up e1⟩⟩
/-- name = value -/
theorem ds_set {i : Nat} {x : Str} {e : Expr} {te : DTE} {pos' : Pos} (hN : X.N.Nodup) (hi : X.N[i]? = some x) (hx : Loc X.env.scope x) (he : DE X B e te) (hs : swapsWith e (some (.Name x pos')) pos.line X.env = pure false := by rfl)
    (hf : X.fn x = true ∨ X.env.scope.names.lookup x = some .local := by first | exact .inl rfl | exact .inr rfl | assumption) : DS X B (.Assign [.Name x pos'] e pos) (dAsg te (dgN i)) :=
  ps_imp (ps_set hN hi hx he hs hf) fun D σ H ⟨Γ, M, F, R, so, ht, fol⟩ => ⟨Γ, M, F, _, so, ht, fun d M1 F1 v H1 m1 e1 r1 q1 => fol.nx _ M1 F1 _ H1 ((so.step e1 m1).set i r1) e1 q1⟩
/-- a, b = x, y: two local names -/
def dPar (i j : Nat) (ta : DTA) (R : DEnds) (Γ : DSt) (M : Mem) : Prop := ta Γ M fun ds M1 => match ds with
  | [d, e] => R.nx ((Γ.set i (some d)).set j (some e)) M1
  | _ => False
theorem ds_par {i j : Nat} {x y : Str} {a b : Expr} {ta : DTA} {px py pt : Pos} {kt k2 pt2} (hc : X.calm = true) (hN : X.N.Nodup) (hi : X.N[i]? = some x) (hj : X.N[j]? = some y) (hij : i ≠ j)
    (hx : X.env.scope.names.lookup x = some .local) (hy : X.env.scope.names.lookup y = some .local) (ha : DA X B [a, b] ta) (hw : swappedStores [.Tuple [.Name x px, .Name y py] kt pt] (.Tuple [a, b] k2 pt2) X.env = pure (some [x, y]))
    (hs : swapsWithSole [.Tuple [.Name x px, .Name y py] kt pt] (.Tuple [a, b] k2 pt2) pos.line X.env = pure false := by rfl) :
    DS X B (.Assign [.Tuple [.Name x px, .Name y py] kt pt] (.Tuple [a, b] k2 pt2) pos) (dPar i j ta) :=
  ps_imp (ps_par hc hN hi hj hij hx hy ha hw hs) fun D σ H ⟨Γ, M, F, R, so, ht, fol⟩ => ⟨Γ, M, F, _, so, ht, fun ds M1 F1 vs H1 m1 e1 r1 q1 => by
    split at q1
    · obtain ⟨v, w, rfl, rv, rw'⟩ := reps2 r1
      exact ⟨v, w, rfl, fol.nx _ M1 F1 _ H1 (((so.step e1 m1).set i rv).set j rw') e1 q1⟩
    · exact q1.elim⟩
def dPar3 (i j l : Nat) (ta : DTA) (R : DEnds) (Γ : DSt) (M : Mem) : Prop := ta Γ M fun ds M1 => match ds with
  | [d, e, f] => R.nx (((Γ.set i (some d)).set j (some e)).set l (some f)) M1
  | _ => False
theorem reps3 {K : PySem.W.Frag} {F : Hp} {vs : List V} {d d2 d3 : D} (r : Reps K F vs [d, d2, d3]) : ∃ v v2 v3, vs = [v, v2, v3] ∧ Rep K F v d ∧ Rep K F v2 d2 ∧ Rep K F v3 d3 := by
  cases r with | cons r t => obtain ⟨v2, v3, rfl, r2, r3⟩ := reps2 t; exact ⟨_, _, _, rfl, r, r2, r3⟩
theorem ds_par3 {i j l : Nat} {x y z : Str} {a b c : Expr} {ta : DTA} {px py pz pt : Pos} {kt k2 pt2} (hc : X.calm = true) (hN : X.N.Nodup) (hi : X.N[i]? = some x) (hj : X.N[j]? = some y) (hl : X.N[l]? = some z) (hij : i ≠ j) (hil : i ≠ l) (hjl : j ≠ l)
    (hx : X.env.scope.names.lookup x = some .local) (hy : X.env.scope.names.lookup y = some .local) (hz : X.env.scope.names.lookup z = some .local) (ha : DA X B [a, b, c] ta)
    (hw : swappedStores [.Tuple [.Name x px, .Name y py, .Name z pz] kt pt] (.Tuple [a, b, c] k2 pt2) X.env = pure (some [x, y, z]))
    (hs : swapsWithSole [.Tuple [.Name x px, .Name y py, .Name z pz] kt pt] (.Tuple [a, b, c] k2 pt2) pos.line X.env = pure false := by rfl) :
    DS X B (.Assign [.Tuple [.Name x px, .Name y py, .Name z pz] kt pt] (.Tuple [a, b, c] k2 pt2) pos) (dPar3 i j l ta) :=
  ps_imp (ps_par3 hc hN hi hj hl hij hil hjl hx hy hz ha hw hs) fun D σ H ⟨Γ, M, F, R, so, ht, fol⟩ => ⟨Γ, M, F, _, so, ht, fun ds M1 F1 vs H1 m1 e1 r1 q1 => by
    split at q1
    · obtain ⟨v, w, u, rfl, rv, rw', ru⟩ := reps3 r1
      exact ⟨v, w, u, rfl, fol.nx _ M1 F1 _ H1 ((((so.step e1 m1).set i rv).set j rw').set l ru) e1 q1⟩
    · exact q1.elim⟩
/-! fields stored -/
def putD (f : Str) (v : D) : List (Str × D) → List (Str × D)
  | [] => [(f, v)]
  | (g, x) :: r => if g = f then (g, v) :: r else (g, x) :: putD f v r
theorem putD_rep {K : PySem.W.Frag} {F : Hp} {v : V} {d : D} (rv : Rep K F v d) {f : Str} : ∀ {vs : List (Str × V)} {ds : List (Str × D)}, RepsK K F vs ds → RepsK K F (putF f v vs) (putD f d ds)
  | _, _, .nil => .cons ⟨rfl, rv⟩ .nil
  | _, _, .cons (a := p) (b := q) r t => by
    obtain ⟨g, x⟩ := p
    obtain ⟨g', y⟩ := q
    obtain ⟨e, r⟩ := r
    cases e
    unfold putF putD
    by_cases h : g = f
    · rw [if_pos h, if_pos h]; exact .cons ⟨rfl, rv⟩ t
    · rw [if_neg h, if_neg h]; exact .cons ⟨rfl, r⟩ (putD_rep rv t)
theorem putD_fok {K : PySem.W.Frag} {C : Addr} {f : Str} {d : D} (hf : FOk K C f) : ∀ {ds : List (Str × D)}, (∀ p ∈ ds, FOk K C p.1) → ∀ p ∈ putD f d ds, FOk K C p.1
  | [], _, p, h => by
    have h : p ∈ [(f, d)] := h
    simp only [List.mem_singleton] at h; subst h; exact hf
  | (g, x) :: r, k, p, h => by
    unfold putD at h
    split at h
    · rcases List.mem_cons.mp h with rfl | h
      · exact k (g, x) List.mem_cons_self
      · exact k p (List.mem_cons_of_mem _ h)
    · rcases List.mem_cons.mp h with rfl | h
      · exact k (g, x) List.mem_cons_self
      · exact putD_fok hf (fun q hq => k q (List.mem_cons_of_mem _ hq)) p h
/-- o.f = value: a cell's field -/
def dFldS (K : PySem.W.Frag) (to tv : DTE) (f : Str) (R : DEnds) (Γ : DSt) (M : Mem) : Prop := tv Γ M fun d M1 => to Γ M1 fun o M2 => match o with
  | .adr a => (match M2 a with
    | some (.ins C fs) => ((look fs f).isSome = true ∨ FOk K C f) ∧ fs.length < 1000 ∧ R.nx Γ (mup M2 a (.ins C (putD f d fs)))
    | _ => False)
  | _ => False
theorem ds_fld {o value : Expr} {f : Str} {pos' : Pos} {to tv : DTE} (ho : DE X B o to) (hv : DE X B value tv) (hs : swapsWith value (some (.Attribute o f pos')) pos.line X.env = pure false := by rfl) : DS X B (.Assign [.Attribute o f pos'] value pos) (dFldS X.K to tv f) :=
  ds_of (ps_fld ho hv hs) fun Γ M F σ H R E so ht fol => ⟨Γ, M, F, _, so, ht, fun d M1 F1 v H1 m1 e1 r1 q1 => ⟨Γ, M1, F1, _, so.step e1 m1, q1, fun o M2 F2 x H2 m2 e2 r2 q2 => by
    split at q2
    · rename_i a
      split at q2
      · rename_i C fs ha
        obtain ⟨hk, hl, q2⟩ := q2
        obtain ⟨_, ho, hH, ro⟩ := m2.mem a _ ha
        cases ro with
        | ins k r =>
          have fk : FOk X.K C f := by
            rcases hk with hk | hk
            · cases hh : look fs f with
              | none => rw [hh] at hk; cases hk
              | some z => exact k _ (look_mem hh)
            · exact hk
          refine ⟨a, C, _, _, r2.adr_of, hH, fk.1, fk.2, by rw [r.len]; exact hl, fun z => .now ?_⟩
          have e3 := e1.trans e2
          exact fol.nx Γ _ F2 σ _ ((so.step e3 (m2)).step (.refl _) (m2.write ha (.ins (putD_fok fk k) (putD_rep (r1.up e2) r)) z)) e3 q2
      · exact q2.elim
    · exact q2.elim⟩⟩
end
end Dp
/-! D8: stores, methods of what is built in. -/
namespace Dp
open PySem PySem.Spec L2
section
variable {X : Cx} {B : Hp} {pos : Pos}
/-! ### o[i] = v -/
abbrev DR3 := D → D → D → Mem → (Mem → Prop) → Prop
def dSet (o : D) (i : D) (v : D) (M : Mem) (R : Mem → Prop) : Prop := match o with
  | .adr a => (match M a with
    | some (.lst xs) => (match (intOf i).bind (ixN xs.length) with
      | some j => R (mup M a (.lst (xs.set j v)))
      | none => False)
    | some (.dK kvs) => (match keyOf i with
      | some k => kvs.length < sizeLine ∧ R (mup M a (.dK (put kvs k v)))
      | none => False)
    | some (.dT kvs) => (match i with
      | .tup xs => (match keysOf xs with
        | some k => kvs.length < sizeLine ∧ R (mup M a (.dT (put kvs k v)))
        | none => False)
      | _ => False)
    | _ => False)
  | _ => False
def rSetAny : V → V → V → Hp → (Hp → Prop) → Prop := fun o i v H Q => rSetL o i v H Q ∨ ∃ a H', o = .ref a ∧ DPut H a i v H' ∧ Q H'
theorem set_any (hu : X.A.units + 1 < cLine) : PSet X rSetAny := by
  intro pins s σ H o i v ov iv u Q I ro ri rv h
  rcases h with h | ⟨a, H', rfl, g, q⟩
  · exact set_list pins s σ H o i v ov iv u Q I ro ri rv h
  · cases ro
    exact d_setItem hu I g ri rv fun s' I' => ⟨H', I', q⟩
theorem Reps.set {K : PySem.W.Frag} {F : Hp} {v : V} {d : D} (r : Rep K F v d) : ∀ {vs : List V} {ds : List D} (i : Nat), Reps K F vs ds → Reps K F (vs.set i v) (ds.set i d)
  | _, _, _, .nil => .nil
  | _, _, 0, .cons _ t => .cons r t
  | _, _, i + 1, .cons q t => .cons q (Reps.set r i t)
/-- the store, brought down -/
theorem set_of {K : PySem.W.Frag} {M : Mem} {F H : Hp} {o i v : V} {od id' vd : D} {R : Mem → Prop} {Q : Hp → Prop} (mo : MOk K M F H) (ro : Rep K F o od) (ri : Rep K F i id') (rv : Rep K F v vd) (h : dSet od id' vd M R) (hq : ∀ M' H', MOk K M' F H' → R M' → Q H') : rSetAny o i v H (fun H' => Sz K H' → Q H') := by
  unfold dSet at h
  split at h
  · rename_i a
    cases ro.adr_of
    split at h
    · rename_i xs ha
      obtain ⟨_, ob, hH, rr⟩ := mo.mem a _ ha
      cases rr with
      | lst rr =>
        split at h
        · rename_i j ej
          obtain ⟨k, e1, e2⟩ := Option.bind_eq_some_iff.mp ej
          cases intOf_rep ri e1
          exact .inl ⟨a, _, k, j, rfl, rfl, hH, by rw [rr.len]; exact e2, fun z => hq _ _ (mo.write ha (.lst (rr.set rv j)) z) h⟩
        · exact h.elim
    · rename_i kvs ha
      obtain ⟨_, ob, hH, rr⟩ := mo.mem a _ ha
      cases rr with
      | dK rr =>
        split at h
        · rename_i k ek
          cases keyOf_rep ri ek
          exact .inr ⟨a, _, rfl, .inl ⟨_, k, hH, rfl, by rw [rr.len]; exact h.1, rfl⟩, fun z => hq _ _ (mo.write ha (.dK (put_rep rv k rr)) z) h.2⟩
        · exact h.elim
    · rename_i kvs ha
      obtain ⟨_, ob, hH, rr⟩ := mo.mem a _ ha
      cases rr with
      | dT rr =>
        split at h
        · rename_i xs
          split at h
          · rename_i k ek
            obtain ⟨b, ws, rfl, hb, rb⟩ := ri.tup_of
            rw [keysOf_rep rb ek] at hb
            exact .inr ⟨a, _, rfl, .inr ⟨_, k, b, hH, rfl, mo.sub _ _ hb, by rw [rr.len]; exact h.1, rfl⟩, fun z => hq _ _ (mo.write ha (.dT (put_rep rv k rr)) z) h.2⟩
          · exact h.elim
        · exact h.elim
    · exact h.elim
  · exact h.elim
theorem Reps.set_ {K : PySem.W.Frag} : True := trivial
def dPut (to ti tv : DTE) (R : DEnds) (Γ : DSt) (M : Mem) : Prop := tv Γ M fun v M1 => to Γ M1 fun o M2 => ti Γ M2 fun i M3 => dSet o i v M3 fun M4 => R.nx Γ M4
theorem ds_put (hu : X.A.units + 1 < cLine) {o i value : Expr} {spos : Pos} {to ti tv : DTE} (ho : DE X B o to) (hi : DE X B i ti) (hv : DE X B value tv) (hs : swapsWithSole [.Subscript o i spos] value pos.line X.env = pure false := by rfl) (hw : swappedStores [.Subscript o i spos] value X.env = pure none := by rfl)
    (h1 : (assignEach [.Subscript o i spos] X.env).map (·.2) = [assign (.Subscript o i spos) X.env] := by rfl)
    (ha : ∀ v, assign (.Subscript o i spos) X.env v = (do
      let ov ← holding [v] (eval o X.env)
      let iv ← holding [v, ov] (eval i X.env)
      standAt spos
      holding [v, ov, iv] (setItem ov iv v)
      release [v, ov, iv] []) := by intro _; rfl) : DS X B (.Assign [.Subscript o i spos] value pos) (dPut to ti tv) :=
  ds_of (ps_asg hv (pg_sub ho hi (set_any hu) ha) hs hw h1) fun Γ M F σ H R E so ht fol => ⟨Γ, M, F, _, so, ht, fun v M1 F1 x H1 m1 e1 r1 q1 => ⟨Γ, M1, F1, _, so.step e1 m1, q1, fun o M2 F2 y H2 m2 e2 r2 q2 =>
    ⟨Γ, M2, F2, _, (so.step e1 m1).step e2 m2, q2, fun i M3 F3 z H3 m3 e3 r3 q3 => by
      have h := set_of (Q := fun H' => Lk (E.nx σ) H') m3 (r2.up e3) r3 ((r1.up e2).up e3) q3 fun M4 H4 m4 q4 => .now (fol.nx Γ M4 F3 σ H4 ((((so.step e1 m1).step e2 m2).step e3 m3).step (.refl _) m4) ((e1.trans e2).trans e3) q4)
      exact h⟩⟩⟩
/-! ### a op= e -/
def dAugI (neg : Bool) (a : D) (b : D) (M : Mem) (R : D → Mem → Prop) : Prop := match a, b with
  | .int i, .int j => R (.int (if neg then i - j else i + j)) M
  | _, _ => False
theorem l_augA {K : PySem.W.Frag} : Lift2 K (ipI fun i j => i + j) (dAugI false) := by
  intro M F H x y dx dy R Q mo rx ry q fol
  unfold dAugI at q
  split at q
  · cases rx.int_of; cases ry.int_of; exact ⟨_, _, rfl, rfl, fol_at fol mo (.int _) q⟩
  · exact q.elim
theorem l_augS {K : PySem.W.Frag} : Lift2 K (ipI fun i j => i - j) (dAugI true) := by
  intro M F H x y dx dy R Q mo rx ry q fol
  unfold dAugI at q
  split at q
  · cases rx.int_of; cases ry.int_of; exact ⟨_, _, rfl, rfl, fol_at fol mo (.int _) q⟩
  · exact q.elim
/-- name op= e -/
def dAugN (i : Nat) (r : DR2) (te : DTE) (R : DEnds) (Γ : DSt) (M : Mem) : Prop := match Γ[i]? with
  | some (some d) => te Γ M fun e M1 => r d e M1 fun z M2 => R.nx (Γ.set i (some z)) M2
  | _ => False
theorem ds_augN {i : Nat} {x : Str} {e : Expr} {te : DTE} {op : Operator} {ti : TIp} {r : DR2} {pos' : Pos} (ho : PIp X op ti) (l : Lift2 X.K ti r) (hN : X.N.Nodup) (hi : X.N[i]? = some x) (hx : Loc X.env.scope x) (he : DE X B e te)
    (hf : X.fn x = true ∨ X.env.scope.names.lookup x = some .local := by first | exact .inl rfl | exact .inr rfl | assumption) : DS X B (.AugAssign (.Name x pos') op e pos) (dAugN i r te) :=
  ds_of (ps_aug hN hi hx he ho hf) fun Γ M F σ H R E so ht fol => by
    unfold dAugN at ht
    split at ht
    · rename_i d ed
      obtain ⟨v, ev, rv⟩ := so.slot i d ed
      refine ⟨v, ev, Γ, M, F, _, so, ht, fun d2 M1 F1 y H1 m1 e1 r1 q1 => ?_⟩
      exact l M1 F1 H1 v y d d2 _ (fun z H2 => E.nx (σ.set i (some z)) H2) m1 (rv.up e1) r1 q1 fun z M2 F2 w H2 m2 e2 r2 q2 => fol.nx _ M2 F2 _ H2 (((so.step e1 m1).step e2 m2).set i r2) (e1.trans e2) q2
    · exact ht.elim
/-- o.f op= e, numbers -/
def dAugF (to te : DTE) (f : Str) (g : Int → Int → Int) (R : DEnds) (Γ : DSt) (M : Mem) : Prop := to Γ M fun o M1 => match o with
  | .adr a => (match M1 a with
    | some (.ins C0 fs0) => (match (look fs0 f).bind intOf with
      | some i => te Γ M1 fun e M2 => (match intOf e with
        | some j => (match M2 a with
          | some (.ins C fs) => C = C0 ∧ fs.length < 1000 ∧ R.nx Γ (mup M2 a (.ins C (putD f (.int (g i j)) fs)))
          | _ => False)
        | none => False)
      | none => False)
    | _ => False)
  | _ => False
theorem ds_augF {o e : Expr} {f : Str} {to te : DTE} {op : Operator} {g : Int → Int → Int} {tpos : Pos} (hop : InOp X op fun x y H Q => ∃ i j, x = .int i ∧ y = .int j ∧ Q (.int (g i j)) H) (ho : DE X B o to) (he : DE X B e te) : DS X B (.AugAssign (.Attribute o f tpos) op e pos) (dAugF to te f g) :=
  ds_of (ps_fldaug ho he hop) fun Γ M F σ H R E so ht fol => ⟨Γ, M, F, _, so, ht, fun o M1 F1 v H1 m1 e1 r1 q1 => by
    split at q1
    · rename_i a
      split at q1
      · rename_i C0 fs0 ha
        split at q1
        · rename_i i ei
          obtain ⟨d, ed, ei⟩ := Option.bind_eq_some_iff.mp ei
          obtain ⟨_, ho, hH, ro⟩ := m1.mem a _ ha
          cases ro with
          | ins k rr =>
            rcases look_rep f rr with ⟨a1, _⟩ | ⟨w, d', a1, b1, c1⟩
            · rw [a1] at ed; cases ed
            · rw [a1] at ed; cases ed
              have fk := k _ (look_mem a1)
              refine ⟨a, C0, _, _, w, r1.adr_of, hH, fk.1, fk.2, by rw [← look_lookup]; exact b1, Γ, M1, F1, _, so.step e1 m1, q1, fun d2 M2 F2 y H2 m2 e2 r2 q2 => ?_⟩
              split at q2
              · rename_i j ej
                split at q2
                · rename_i C fs ha2
                  obtain ⟨rfl, hl, q2⟩ := q2
                  obtain ⟨_, ho2, hH2, ro2⟩ := m2.mem a _ ha2
                  cases ro2 with
                  | ins k2 rr2 =>
                    refine ⟨i, j, intOf_rep c1 ei, intOf_rep r2 ej, _, _, hH2, by rw [rr2.len]; exact hl, fun z => .now ?_⟩
                    exact fol.nx Γ _ F2 σ _ (((so.step e1 m1).step e2 m2).step (.refl _) (m2.write ha2 (.ins (putD_fok fk k2) (putD_rep (.int _) rr2)) z)) (e1.trans e2) q2
                · exact q2.elim
              · exact q2.elim
        · exact q1.elim
      · exact q1.elim
    · exact q1.elim⟩
/-- o[i] op= e, numbers -/
def dAugS (to ti te : DTE) (g : Int → Int → Int) (R : DEnds) (Γ : DSt) (M : Mem) : Prop := to Γ M fun o M1 => ti Γ M1 fun i M2 => match (match o with | .adr _ => ixB M2 o i | _ => none).bind intOf with
  | some x => te Γ M2 fun e M3 => (match intOf e with
    | some y => dSet o i (.int (g x y)) M3 fun M4 => R.nx Γ M4
    | none => False)
  | none => False
def rGetAny (K : PySem.W.Frag) : V → V → Hp → VK → Prop := fun o i H Q => (∃ p xs k v, o = .ref p ∧ i = .int k ∧ SqL K H p xs ∧ atI xs k = some v ∧ Q v H) ∨ ∃ a v, o = .ref a ∧ DGet H a i (some v) ∧ Q v H
theorem get_any (hu : X.A.units + 1 < cLine) : PGet X (rGetAny X.K) := by
  intro pins s σ H o i ov iv Q I ro ri h
  rcases h with ⟨p, xs, k, v, rfl, rfl, hq, he, q⟩ | ⟨a, v, rfl, g, q⟩
  · cases ro
    obtain ⟨t, rfl⟩ := ri
    obtain ⟨its, r, pl, hz⟩ := I.list hq
    obtain ⟨j, h1, h2, h3, h4, h5⟩ := atI_get he
    obtain ⟨w, ew, rw'⟩ := r.get h2
    have hl := r.length
    have hn := line63
    have fin : EP X pins σ Q w s := ⟨v, H, I, rw', q⟩
    by_cases h0 : 0 ≤ k
    · have hj : k.toNat = j := by
        rw [seqIndex_of h0 h5] at h1
        exact Option.some.inj h1
      exact wpAny_getItem_list pl.isList h0 (by omega) (by rw [hj]; simpa using ew) fin
    · have hj : (k + (its.toArray.size : Int)).toNat = j := by
        rw [seqIndex_neg (by omega) h4] at h1
        rw [List.size_toArray, ← hl]
        exact Option.some.inj h1
      exact wpAny_getItem_list_neg pl.isList (by omega) (by rw [List.size_toArray]; omega) (by omega) (by rw [hj]; simpa using ew) fin
  · cases ro
    exact d_getItem hu I g ri fun w' s3 I3 rw' => ⟨v, H, I3, rw', q⟩
theorem ds_augS (hu : X.A.units + 1 < cLine) {o i e : Expr} {to ti te : DTE} {op : Operator} {g : Int → Int → Int} {tpos : Pos} (hop : PIp X op (ipI g)) (ho : DE X B o to) (hi : DE X B i ti) (he : DE X B e te)
    (ha : ∀ ov iv new, augStore i ov iv new = (do holding [new, ov, iv] (setItem ov iv new); release [new, ov, iv] []; pure .next) := by intros; rfl) : DS X B (.AugAssign (.Subscript o i tpos) op e pos) (dAugS to ti te g) :=
  ds_of (ps_augS ho hi (get_any hu) he hop (set_any hu) ha) fun Γ M F σ H R E so ht fol => ⟨Γ, M, F, _, so, ht, fun o M1 F1 v H1 m1 e1 r1 q1 => ⟨Γ, M1, F1, _, so.step e1 m1, q1, fun i M2 F2 w H2 m2 e2 r2 q2 => by
    split at q2
    · rename_i x ex
      obtain ⟨d, ed, ex⟩ := Option.bind_eq_some_iff.mp ex
      have cont : ∀ u, Rep X.K F2 u d → tOp (fun (_ : V) (y : V) H4 (_ : VK) => ipI g u y H4 fun z H5 => rSetAny v w z H5 fun H6 => SzS X.K E.nx σ H6) (tC u) (LE X.K B te) σ H2 (fun _ _ => True) := fun u ru => by
        refine ⟨Γ, M2, F2, _, (so.step e1 m1).step e2 m2, q2, fun d2 M3 F3 y H3 m3 e3 r3 q3 => ?_⟩
        split at q3
        · rename_i j ej
          refine ⟨x, j, intOf_rep (ru.up e3) ex, intOf_rep r3 ej, ?_⟩
          exact set_of (Q := fun H' => Lk (E.nx σ) H') m3 ((r1.up e2).up e3) (r2.up e3) (.int _) q3 fun M4 H4 m4 q4 => .now (fol.nx Γ M4 F3 σ H4 ((((so.step e1 m1).step e2 m2).step e3 m3).step (.refl _) m4) ((e1.trans e2).trans e3) q4)
        · exact q3.elim
      cases o <;> first | (cases ed; done) | skip
      rename_i ao
      dsimp only at ed
      unfold ixB at ed
      split at ed
      · rename_i xs ev
        obtain ⟨p, vs, rfl, h, rs⟩ := vw_lst m2 (r1.up e2) ev
        obtain ⟨k, e0, ed⟩ := Option.bind_eq_some_iff.mp ed
        cases intOf_rep r2 e0
        obtain ⟨u, eu, ru⟩ := rs.atI ed
        exact .inl ⟨p, vs, k, u, rfl, rfl, .of h, eu, cont u ru⟩
      · rename_i xs ev
        simp only [vw] at ev
        split at ev <;> cases ev
      · rename_i xs ev
        obtain ⟨p, vs, rfl, h, rs⟩ := vw_kls m2 (r1.up e2) ev
        obtain ⟨k, e0, ed⟩ := Option.bind_eq_some_iff.mp ed
        cases intOf_rep r2 e0
        obtain ⟨u, eu, ru⟩ := rs.atI ed
        exact .inl ⟨p, vs, k, u, rfl, rfl, h, eu, cont u ru⟩
      · obtain ⟨k, e0, ed⟩ := Option.bind_eq_some_iff.mp ed
        obtain ⟨c, _, rfl⟩ := Option.map_eq_some_iff.mp ed
        cases ex
      · cases eg : dictAt M2 (.adr ao) i with
        | none => rw [eg] at ed; cases ed
        | some oo =>
          rw [eg] at ed
          obtain ⟨p, u, rfl, gg, h⟩ := dictAt_rep m2 (r1.up e2) r2 eg
          rcases h with ⟨rfl, rfl⟩ | ⟨u', d', rfl, rfl, ru⟩
          · cases ed
          · cases ed
            exact .inr ⟨p, u', rfl, gg, cont u' ru⟩
    · exact q2.elim⟩⟩
end
end Dp
/-! D9: walks, for, while. -/
namespace Dp
open PySem PySem.Spec L2
section
variable {X : Cx} {B : Hp} {pos : Pos}
/-- a list, a tuple, a dict's keys (locked), by what comes -/
def iAny (K : PySem.W.Frag) (tl : TE) : TI := fun σ H R => tl σ H fun x H1 => ∃ a, x = .ref a ∧
  ((∃ xs, SqL K H1 a xs ∧ R (Itl K a) H1) ∨ (∃ xs, SqT K H1 a xs ∧ R (Itt K a) H1) ∨ (∃ o kvs, H1 a = some (.frz o (.dK kvs)) ∧ R (Itk a o kvs) H1) ∨ ∃ o kvs, H1 a = some (.frz o (.dT kvs)) ∧ R (Itkt a o kvs) H1)
theorem pi_any {tg l : Expr} {tl : TE} (hl : PE X l tl) : PI X tg l (iAny X.K tl) := by
  refine ⟨fun pins s σ H R I h => thn (hl.run pins s σ H _ I h) fun v s1 ⟨x, H1, I1, r1, a, e, q⟩ => ?_⟩
  subst e
  obtain rfl : v = Value.ref a := r1
  rcases q with ⟨xs, hq, q⟩ | ⟨xs, hq, q⟩ | ⟨o, kvs, hd, q⟩ | ⟨o, kvs, hd, q⟩
  · obtain ⟨its, _, p, _⟩ := I1.list hq
    exact wpAny_pyIter_list p.isList (pi_one (tk := s1.toks) I1 _ (turn_list a _) ⟨_, Heap.get?_push_size _ rfl, rfl, rfl⟩ q)
  · obtain ⟨its, _, p, _⟩ := I1.tuple hq
    exact wpAny_pyIter_tuple (show s1.heap.IsTuple a its.toArray from p) (pi_one (tk := s1.toks) I1 _ (turn_tuple a _) ⟨_, Heap.get?_push_size _ rfl, rfl, rfl⟩ q)
  · obtain ⟨hs, hgd, hx, es, ep, ws, hdt, hsz, kv, hm⟩ := I1.frzK hd
    exact iter_keys hs hgd hx hdt (pi_one (tk := s1.toks) I1 _ (turn_keys _ hdt) ⟨_, Heap.get?_push_size _ rfl, rfl, by rw [hsz]; all_goals rfl⟩ q)
  · obtain ⟨hs, hgd, hx, es, ep, hdt, hsz, ent⟩ := I1.frzT hd
    exact iter_keys hs hgd hx hdt (pi_one (tk := s1.toks) I1 _ (turn_keysT _ hdt) ⟨_, Heap.get?_push_size _ rfl, rfl, by rw [hsz]; all_goals rfl⟩ q)
/-! ### typed walks -/
abbrev DTI := DSt → Mem → (List D → (Mem → Prop) → Mem → Prop) → Prop
/-- J walks the items xs as long as GM holds of the memory -/
def WalkD (K : PySem.W.Frag) (J : It) (xs : List D) (F1 : Hp) (GM : Mem → Prop) : Prop :=
  ∃ (G : Hp → Prop) (Y : Nat → Hp → V → Hp → Prop), Walk J xs.length G Y ∧ (∀ M F H, MOk K M F H → Same F1 F → GM M → G H) ∧
    ∀ i M F H x H', i < xs.length → MOk K M F H → Same F1 F → GM M → Y i H x H' → ∃ F' d, xs[i]? = some d ∧ MOk K M F' H' ∧ Same F F' ∧ Rep K F' x d
def LI (K : PySem.W.Frag) (B : Hp) (s : DTI) : TI := fun σ H R => ∃ Γ M F RR, SOk K B Γ M F σ H ∧ s Γ M RR ∧
  ∀ J H1 F1 M1 xs GM, MOk K M1 F1 H1 → Same F F1 → WalkD K J xs F1 GM → xs.length ≤ sizeLine → RR xs GM M1 → R J H1
abbrev DI (X : Cx) (B : Hp) (tg iter : Expr) (s : DTI) : Prop := PI X tg iter (LI X.K B s)
theorem pi_imp {tg iter : Expr} {t t' : TI} (h : PI X tg iter t) (i : ∀ σ H R, t' σ H R → t σ H R) : PI X tg iter t' := ⟨fun p s σ H R I q => h.run p s σ H R I (i σ H R q)⟩
/-- what a for over it gives -/
def srcOf (M : Mem) : D → Option (List D)
  | .adr a => match M a with
    | some (.lst xs) => some xs
    | some (.lkK _ _ kvs) => some (kvs.map fun kv => kD kv.1)
    | some (.lkT _ _ kvs) => some (kvs.map fun kv => .tup (kv.1.map kD))
    | _ => none
  | .lst xs => some xs
  | .tup xs => some xs
  | .kls xs => some xs
  | .dK kvs => some (kvs.map fun kv => kD kv.1)
  | .dT kvs => some (kvs.map fun kv => .tup (kv.1.map kD))
  | _ => none
/-- the walked thing stays -/
def stays (M : Mem) (d : D) (M' : Mem) : Prop := match d with
  | .adr a => M' a = M a
  | _ => True
theorem reps_get {K : PySem.W.Frag} {F : Hp} {vs : List V} {ds : List D} (r : Reps K F vs ds) {i : Nat} {v : V} (h : vs[i]? = some v) : ∃ d, ds[i]? = some d ∧ Rep K F v d := by
  have hi : i < ds.length := by rw [← r.len]; exact (List.getElem?_eq_some_iff.mp h).1
  exact ⟨ds[i], List.getElem?_eq_getElem hi, r.at_ i _ _ h (List.getElem?_eq_getElem hi)⟩
theorem walkD_at {K : PySem.W.Frag} {J : It} {vs : List V} {xs : List D} {F1 : Hp} {GM : Mem → Prop} {G : Hp → Prop} (w : Walk J vs.length G (YAt vs)) (r : Reps K F1 vs xs) (hG : ∀ M F H, MOk K M F H → Same F1 F → GM M → G H) : WalkD K J xs F1 GM :=
  ⟨G, YAt vs, by rw [← r.len]; exact w, hG, fun i M F H x H' hi mo e g ⟨e1, e2⟩ => by
    subst e1
    obtain ⟨d, h1, h2⟩ := reps_get r e2
    exact ⟨F, d, h1, mo, .refl F, h2.up e⟩⟩
/-- a list that is as long at each turn -/
theorem walk_cell {K : PySem.W.Frag} {a : Addr} {n : Nat} : Walk (Itl K a) n (fun H => ∃ vs, SqL K H a vs ∧ vs.length = n) (fun i H x H' => H' = H ∧ ∀ vs, SqL K H a vs → vs[i]? = some x) :=
  ⟨fun i _ hi ⟨vs, q, e⟩ => ⟨vs, vs[i]'(by omega), q, by simp [show i < vs.length by omega]⟩, fun _ ⟨vs, q, e⟩ => ⟨vs, q, by omega⟩, fun _ _ _ _ _ _ y => y⟩
theorem kTup_rep {K : PySem.W.Frag} {F : Hp} {q : Addr} {k : List Key} (h : F q = some (.tup (k.map kV))) : Rep K F (.ref q) (.tup (k.map kD)) := .tupR h (reps_of_map (fun k => kD_rep k) k)
theorem di_any {tg l : Expr} {tl : DTE} (hl : DE X B l tl) : DI X B tg l (fun Γ M RR => tl Γ M fun d M1 => match srcOf M1 d with
    | some xs => RR xs (stays M1 d) M1
    | none => False) :=
  pi_imp (pi_any hl) fun σ H R ⟨Γ, M, F, RR, so, ht, fol⟩ => ⟨Γ, M, F, _, so, ht, fun d M1 F1 v H1 m1 e1 r1 q1 => by
    split at q1
    · rename_i xs ex
      have keysW : ∀ {a : Addr} {o : Obj} {vs : List (Key × V)} {ds : List (Key × D)} {GM : Mem → Prop}, RepsK X.K F1 vs ds → (∀ M F H, MOk X.K M F H → Same F1 F → GM M → H a = some (.frz o (.dK vs))) → WalkD X.K (Itk a o vs) (ds.map fun kv => kD kv.1) F1 GM := by
        intro a o vs ds GM r hG
        refine ⟨_, _, by rw [List.length_map, ← r.len]; exact walk_keys, hG, fun i M F H x H' hi mo e g y => ?_⟩
        obtain ⟨rfl, k, w, e1, rfl⟩ := y
        have hi' : i < ds.length := by simpa using hi
        have : ds[i].1 = k := by
          have h2 := congrArg (·[i]?) r.keys
          simp only [List.getElem?_map, e1, Option.map_some, List.getElem?_eq_getElem hi', Option.some.injEq] at h2
          exact h2.symm
        exact ⟨F, kD k, by rw [List.getElem?_map, List.getElem?_eq_getElem hi', Option.map_some, this], mo, .refl F, kD_rep k⟩
      have keysT : ∀ {a : Addr} {o : Obj} {vs : List (List Key × V)} {ds : List (List Key × D)} {GM : Mem → Prop}, RepsK X.K F1 vs ds → (∀ M F H, MOk X.K M F H → Same F1 F → GM M → H a = some (.frz o (.dT vs))) → WalkD X.K (Itkt a o vs) (ds.map fun kv => .tup (kv.1.map kD)) F1 GM := by
        intro a o vs ds GM r hG
        refine ⟨_, _, by rw [List.length_map, ← r.len]; exact walk_keysT, hG, fun i M F H x H' hi mo e g y => ?_⟩
        obtain ⟨rfl, k, w, q, e1, rfl, hq⟩ := y
        have hi' : i < ds.length := by simpa using hi
        have : ds[i].1 = k := by
          have h2 := congrArg (·[i]?) r.keys
          simp only [List.getElem?_map, e1, Option.map_some, List.getElem?_eq_getElem hi', Option.some.injEq] at h2
          exact h2.symm
        obtain ⟨F2, m2, s2, h2⟩ := mo.tup hq
        exact ⟨F2, .tup (k.map kD), by rw [List.getElem?_map, List.getElem?_eq_getElem hi', Option.map_some, this], m2, s2, kTup_rep h2⟩
      cases d <;> simp only [srcOf] at ex <;> try (cases ex; done)
      · rename_i a
        cases r1.adr_of
        split at ex <;> cases ex
        · rename_i ys ha
          obtain ⟨_, ho, hH, ro⟩ := m1.mem a _ ha
          cases ro with
          | lst ro =>
            refine ⟨a, rfl, .inl ⟨_, .of hH, fol _ H1 F1 M1 _ _ m1 e1 ⟨_, _, walk_cell, fun M F H mo e g => ?_, fun i M F H x H' hi mo e g y => ?_⟩ (by rw [← ro.len]; exact m1.sz.lst _ _ (.of hH)) q1⟩⟩
            · obtain ⟨_, ho2, hH2, ro2⟩ := mo.mem a _ (show M a = some (.lst xs) from g.trans ha)
              cases ro2 with
              | lst ro2 => exact ⟨_, .of hH2, ro2.len⟩
            · obtain ⟨_, ho2, hH2, ro2⟩ := mo.mem a _ (show M a = some (.lst xs) from g.trans ha)
              cases ro2 with
              | lst ro2 =>
                obtain ⟨rfl, y⟩ := y
                obtain ⟨d, h1, h2⟩ := reps_get ro2 (y _ (.of hH2))
                exact ⟨F, d, h1, mo, .refl F, h2⟩
        · rename_i o vs ds ha
          obtain ⟨_, ho, hH, ro⟩ := m1.mem a _ ha
          cases ro with
          | lkK ro =>
            refine ⟨a, rfl, .inr (.inr (.inl ⟨_, _, hH, fol _ H1 F1 M1 _ _ m1 e1 (keysW ro fun M F H mo e g => ?_) (by rw [List.length_map, ← ro.len]; exact m1.sz.dK _ _ (.inr ⟨_, hH⟩)) q1⟩))⟩
            obtain ⟨_, ho2, hH2, ro2⟩ := mo.mem a _ (show M a = some (.lkK o vs ds) from g.trans ha)
            cases ro2 with
            | lkK ro2 => exact hH2
        · rename_i o vs ds ha
          obtain ⟨_, ho, hH, ro⟩ := m1.mem a _ ha
          cases ro with
          | lkT ro =>
            refine ⟨a, rfl, .inr (.inr (.inr ⟨_, _, hH, fol _ H1 F1 M1 _ _ m1 e1 (keysT ro fun M F H mo e g => ?_) (by rw [List.length_map, ← ro.len]; exact m1.sz.dT _ _ (.inr ⟨_, hH⟩)) q1⟩))⟩
            obtain ⟨_, ho2, hH2, ro2⟩ := mo.mem a _ (show M a = some (.lkT o vs ds) from g.trans ha)
            cases ro2 with
            | lkT ro2 => exact hH2
      · cases ex
        obtain ⟨a, vs, rfl, hF, rs⟩ := r1.tup_of
        exact ⟨a, rfl, .inr (.inl ⟨_, .of (m1.sub _ _ hF), fol _ H1 F1 M1 _ _ m1 e1 (walkD_at walk_tup rs fun M F H mo e g => .of (mo.sub _ _ (e _ _ hF))) (by rw [← rs.len]; exact m1.sz.tup _ _ (.of (m1.sub _ _ hF))) q1⟩)⟩
      · cases ex
        obtain ⟨a, vs, rfl, hF, rs⟩ := r1.lst_of
        exact ⟨a, rfl, .inl ⟨_, .of (m1.sub _ _ hF), fol _ H1 F1 M1 _ _ m1 e1 (walkD_at walk_list rs fun M F H mo e g => .of (mo.sub _ _ (e _ _ hF))) (by rw [← rs.len]; exact m1.sz.lst _ _ (.of (m1.sub _ _ hF))) q1⟩⟩
      · cases ex
        obtain ⟨a, vs, rfl, hF, rs⟩ := r1.kls_of
        exact ⟨a, rfl, .inl ⟨_, (Le.of m1.sub).sqL hF, fol _ H1 F1 M1 _ _ m1 e1 (walkD_at walk_list rs fun M F H mo e g => (Le.of (e.trans mo.sub)).sqL hF) (by rw [← rs.len]; exact m1.sz.lst _ _ ((Le.of m1.sub).sqL hF)) q1⟩⟩
      · cases ex
        obtain ⟨a, o, vs, rfl, hF, rs⟩ := r1.dK_of
        exact ⟨a, rfl, .inr (.inr (.inl ⟨_, _, m1.sub _ _ hF, fol _ H1 F1 M1 _ _ m1 e1 (keysW rs fun M F H mo e g => mo.sub _ _ (e _ _ hF)) (by rw [List.length_map, ← rs.len]; exact m1.sz.dK _ _ (.inr ⟨_, m1.sub _ _ hF⟩)) q1⟩))⟩
      · cases ex
        obtain ⟨a, o, vs, rfl, hF, rs⟩ := r1.dT_of
        exact ⟨a, rfl, .inr (.inr (.inr ⟨_, _, m1.sub _ _ hF, fol _ H1 F1 M1 _ _ m1 e1 (keysT rs fun M F H mo e g => mo.sub _ _ (e _ _ hF)) (by rw [List.length_map, ← rs.len]; exact m1.sz.dT _ _ (.inr ⟨_, m1.sub _ _ hF⟩)) q1⟩))⟩
    · exact q1.elim⟩
end
end Dp
/-! D10: more walks; for, while, locks, comprehensions. -/
namespace Dp
open PySem PySem.Spec L2
section
variable {X : Cx} {B : Hp} {pos : Pos}
/-! ### walks that make pairs -/
theorem pair_new {K : PySem.W.Frag} {M : Mem} {F H : Hp} {T : Addr} {x y : V} {d e : D} (mo : MOk K M F H) (hT : H T = none) (rx : Rep K F x d) (ry : Rep K F y e) :
    ∃ F', MOk K M F' (upd H T (.tup [x, y])) ∧ Same F F' ∧ Rep K F' (.ref T) (.tup [d, e]) := by
  have z : Sz K (upd H T (.tup [x, y])) := sz_upd mo.sz (fun _ e => nomatch e) (fun _ e => by cases e; show 2 ≤ sizeLine; decide) (fun _ e => nomatch e) (fun _ e => nomatch e) fun _ _ e => nomatch e
  exact ⟨_, mo.new hT z, mo.sameF hT, new_tup hT mo (.cons rx (.cons ry .nil))⟩
/-- the rows of a dict, as pairs -/
def rowsD (kvs : List (Key × D)) : List D := kvs.map fun kv => .tup [kD kv.1, kv.2]
def dictRows (M : Mem) : D → Option (List (Key × D))
  | .adr a => match M a with
    | some (.lkK _ _ kvs) => some kvs
    | _ => none
  | .dK kvs => some kvs
  | _ => none
theorem dictRows_rep {K : PySem.W.Frag} {M : Mem} {F H : Hp} (mo : MOk K M F H) {d : D} {v : V} (r : Rep K F v d) {kvs : List (Key × D)} (e : dictRows M d = some kvs) :
    ∃ a o vs, v = .ref a ∧ H a = some (.frz o (.dK vs)) ∧ RepsK K F vs kvs ∧ ∀ M' F' H', MOk K M' F' H' → Same F F' → stays M d M' → H' a = some (.frz o (.dK vs)) := by
  cases d <;> simp only [dictRows] at e <;> try (cases e; done)
  · rename_i a
    cases r.adr_of
    split at e <;> cases e
    rename_i o vs ha
    obtain ⟨_, ho, hH, ro⟩ := mo.mem a _ ha
    cases ro with
    | lkK ro =>
      refine ⟨a, o, vs, rfl, hH, ro, fun M' F' H' mo' e' st => ?_⟩
      obtain ⟨_, ho2, hH2, ro2⟩ := mo'.mem a _ (show M' a = some (.lkK o vs kvs) from st.trans ha)
      cases ro2 with
      | lkK ro2 => exact hH2
  · cases e
    obtain ⟨a, o, vs, rfl, hF, rs⟩ := r.dK_of
    exact ⟨a, o, vs, rfl, mo.sub _ _ hF, rs, fun M' F' H' mo' e' _ => mo'.sub _ _ (e' _ _ hF)⟩
theorem di_items {elts : List Expr} {kk : Nat} {e : Expr} {te : DTE} {tpos apos cpos : Pos} (he : DE X B e te) (hbase : attributeBase e "items" X.env (eval e X.env) = eval e X.env := by rfl) (hline : (apos.endLine == cpos.line) = true := by rfl) :
    DI X B (.Tuple elts kk tpos) (.Call (.Attribute e "items" apos) [] [] cpos) (fun Γ M RR => te Γ M fun d M1 => match dictRows M1 d with
      | some kvs => RR (rowsD kvs) (stays M1 d) M1
      | none => False) :=
  pi_imp (pi_items he hbase hline) fun σ H R ⟨Γ, M, F, RR, so, ht, fol⟩ => ⟨Γ, M, F, _, so, ht, fun d M1 F1 v H1 m1 e1 r1 q1 => by
    split at q1
    · rename_i kvs ek
      obtain ⟨a, o, vs, rfl, hH, rs, st⟩ := dictRows_rep m1 r1 ek
      refine ⟨a, o, vs, rfl, hH, fol _ H1 F1 M1 _ _ m1 e1 ⟨_, _, by unfold rowsD; rw [List.length_map, ← rs.len]; exact walk_items, st, fun i M F H x H' hi mo e g y => ?_⟩ (by unfold rowsD; rw [List.length_map, ← rs.len]; exact m1.sz.dK _ _ (.inr ⟨_, hH⟩)) q1⟩
      obtain ⟨T, k, w, rfl, hT, rfl, e2, e3⟩ := y
      unfold rowsD at hi
      rw [List.length_map] at hi
      have hv : i < vs.length := by rw [rs.len]; exact hi
      dsimp only at e2 e3
      rw [List.getElem?_eq_getElem hv] at e2 e3
      simp only [Option.map_some, Option.some.injEq] at e2 e3
      have hk : vs[i].1 = kvs[i].1 := by
        have h2 := congrArg (·[i]?) rs.keys
        simpa only [List.getElem?_map, List.getElem?_eq_getElem hv, List.getElem?_eq_getElem hi, Option.map_some, Option.some.injEq] using h2
      have rw2 := rs.at_ i _ _ (List.getElem?_eq_getElem hv) (List.getElem?_eq_getElem hi)
      subst e2 e3
      obtain ⟨F', m', s', r'⟩ := pair_new (x := kV vs[i].1) (y := vs[i].2) mo hT (d := kD kvs[i].1) (e := kvs[i].2) (by rw [← hk]; exact kD_rep _) (rw2.up e)
      exact ⟨F', _, by unfold rowsD; rw [List.getElem?_map, List.getElem?_eq_getElem hi]; rfl, m', s', r'⟩
    · exact q1.elim⟩
theorem di_values {tg e : Expr} {te : DTE} {apos cpos : Pos} (he : DE X B e te) (hbase : attributeBase e "values" X.env (eval e X.env) = eval e X.env := by rfl) (hline : (apos.endLine == cpos.line) = true := by rfl) :
    DI X B tg (.Call (.Attribute e "values" apos) [] [] cpos) (fun Γ M RR => te Γ M fun d M1 => match dictRows M1 d with
      | some kvs => RR (kvs.map (·.2)) (stays M1 d) M1
      | none => False) :=
  pi_imp (pi_values he hbase hline) fun σ H R ⟨Γ, M, F, RR, so, ht, fol⟩ => ⟨Γ, M, F, _, so, ht, fun d M1 F1 v H1 m1 e1 r1 q1 => by
    split at q1
    · rename_i kvs ek
      obtain ⟨a, o, vs, rfl, hH, rs, st⟩ := dictRows_rep m1 r1 ek
      refine ⟨a, o, vs, rfl, hH, fol _ H1 F1 M1 _ _ m1 e1 ⟨_, _, by rw [List.length_map, ← rs.len]; exact walk_values, st, fun i M F H x H' hi mo e g y => ?_⟩ (by rw [List.length_map, ← rs.len]; exact m1.sz.dK _ _ (.inr ⟨_, hH⟩)) q1⟩
      obtain ⟨rfl, k, e2⟩ := y
      rw [List.length_map] at hi
      have rw2 := rs.at_ i _ _ e2 (List.getElem?_eq_getElem hi)
      exact ⟨F, _, by rw [List.getElem?_map, List.getElem?_eq_getElem hi]; rfl, mo, .refl F, rw2.up e⟩
    · exact q1.elim⟩
/-- lo, lo + 1, .. -/
def rangeD (lo : Int) (n : Nat) : List D := (List.range n).map fun (i : Nat) => .int (lo + i)
theorem walkD_range {K : PySem.W.Frag} {lo : Int} {n : Nat} {F1 : Hp} {GM : Mem → Prop} : WalkD K (Itr lo n) (rangeD lo n) F1 GM := by
  refine ⟨fun _ => True, _, by unfold rangeD; rw [List.length_map, List.length_range]; exact walk_range, fun _ _ _ _ _ _ => trivial, fun i M F H x H' hi mo e g y => ?_⟩
  obtain ⟨e1, e2⟩ := y
  subst e1 e2
  unfold rangeD at hi ⊢
  rw [List.length_map] at hi
  exact ⟨F, _, by rw [List.getElem?_map, List.getElem?_eq_getElem hi, List.getElem_range]; rfl, mo, .refl F, .int _⟩
theorem di_range1 {tg a : Expr} {ta : DTA} {p : Pos} (hg : Gl X "range") (hm : X.mg "range" = none) (ha : DA X B [a] ta) (hs : starEach [a] X.env = [(false, eval a X.env)] := by rfl) :
    DI X B tg (.Call (.Name "range" p) [a] [] pos) (fun Γ M RR => ta Γ M fun ds M1 => match ds with
      | [.int j] => -1000000 ≤ j ∧ j ≤ 1000000 ∧ RR (rangeD 0 j.toNat) (fun _ => True) M1
      | _ => False) :=
  pi_imp (pi_range1 hg hm ha hs) fun σ H R ⟨Γ, M, F, RR, so, ht, fol⟩ => ⟨Γ, M, F, _, so, ht, fun ds M1 F1 vs H1 m1 e1 r1 q1 => by
    split at q1
    · obtain ⟨v, rfl, r⟩ := reps1 r1
      cases r.int_of
      exact ⟨_, rfl, by omega, by omega, fol _ H1 F1 M1 _ _ m1 e1 walkD_range (by unfold rangeD; rw [List.length_map, List.length_range, PySem.sizeLine_eq]; omega) q1.2.2⟩
    · exact q1.elim⟩
theorem di_range2 {tg a b : Expr} {ta : DTA} {p : Pos} (hg : Gl X "range") (hm : X.mg "range" = none) (ha : DA X B [a, b] ta) (hs : starEach [a, b] X.env = [(false, eval a X.env), (false, eval b X.env)] := by rfl) (hs2 : starEach [b] X.env = [(false, eval b X.env)] := by rfl) :
    DI X B tg (.Call (.Name "range" p) [a, b] [] pos) (fun Γ M RR => ta Γ M fun ds M1 => match ds with
      | [.int i, .int j] => (-1000000 ≤ i ∧ i ≤ 1000000 ∧ -1000000 ≤ j ∧ j ≤ 1000000) ∧ RR (rangeD i (j - i).toNat) (fun _ => True) M1
      | _ => False) :=
  pi_imp (pi_range2 hg hm ha hs hs2) fun σ H R ⟨Γ, M, F, RR, so, ht, fol⟩ => ⟨Γ, M, F, _, so, ht, fun ds M1 F1 vs H1 m1 e1 r1 q1 => by
    split at q1
    · obtain ⟨v, w, rfl, r, r2⟩ := reps2 r1
      cases r.int_of; cases r2.int_of
      exact ⟨_, _, rfl, by omega, fol _ H1 F1 M1 _ _ m1 e1 walkD_range (by unfold rangeD; rw [List.length_map, List.length_range, PySem.sizeLine_eq]; omega) q1.2⟩
    · exact q1.elim⟩
/-- a text, sign by sign -/
def signsD (z : Str) : List D := z.cps.toList.map fun c => .str ⟨#[c]⟩
theorem di_str {tg e : Expr} {te : DTE} (he : DE X B e te) : DI X B tg e (fun Γ M RR => te Γ M fun d M1 => match d with
      | .str z => z.length ≤ sizeLine ∧ RR (signsD z) (fun _ => True) M1
      | _ => False) :=
  pi_imp (pi_str he) fun σ H R ⟨Γ, M, F, RR, so, ht, fol⟩ => ⟨Γ, M, F, _, so, ht, fun d M1 F1 v H1 m1 e1 r1 q1 => by
    split at q1
    · rename_i z
      refine ⟨z, r1.str_of, fol _ H1 F1 M1 _ _ m1 e1 ⟨fun _ => True, _, by unfold signsD; rw [List.length_map, Array.length_toList]; exact walk_str, fun _ _ _ _ _ _ => trivial, fun i M F H x H' hi mo e g y => ?_⟩ (by unfold signsD; rw [List.length_map, Array.length_toList]; exact q1.1) q1.2⟩
      obtain ⟨e1, c, e2, e3⟩ := y
      subst e1 e3
      refine ⟨F, _, ?_, mo, .refl F, .str _⟩
      unfold signsD
      rw [List.getElem?_map, Array.getElem?_toList, e2]; rfl
    · exact q1.elim⟩
theorem lstOf_stays {K : PySem.W.Frag} {M : Mem} {F H : Hp} (mo : MOk K M F H) {d : D} {v : V} (r : Rep K F v d) {xs : List D} (e : lstOf M d = some xs) : ∃ a vs, v = .ref a ∧ SqL K H a vs ∧ Reps K F vs xs ∧
    ∀ M' F' H', MOk K M' F' H' → Same F F' → stays M d M' → ∃ vs', SqL K H' a vs' ∧ Reps K F' vs' xs := by
  obtain ⟨a, vs, e1, h1, r1⟩ := lstOf_rep mo r e
  refine ⟨a, vs, e1, h1, r1, fun M' F' H' mo' s' st => ?_⟩
  have e' : lstOf M' d = some xs := by
    cases d <;> try exact e
    rename_i b
    simp only [lstOf, vw] at e ⊢
    rw [show M' b = M b from st]; exact e
  obtain ⟨a2, vs2, e2, h2, r2⟩ := lstOf_rep mo' (r.up s') e'
  rw [e1] at e2; cases e2
  exact ⟨vs2, h2, r2⟩
/-- (0, x), (1, y), .. -/
def enumD (xs : List D) : List D := (List.range xs.length).zipWith (fun (i : Nat) x => .tup [.int i, x]) xs
theorem enumD_get {xs : List D} {i : Nat} (h : i < xs.length) : (enumD xs)[i]? = some (.tup [.int i, xs[i]]) := by
  unfold enumD
  rw [List.getElem?_zipWith]
  simp [h]
theorem enumD_len (xs : List D) : (enumD xs).length = xs.length := by unfold enumD; simp
theorem sqL_len {K : PySem.W.Frag} {H : Hp} {a : Addr} {xs ys : List V} : True := trivial
theorem walk_enum' {K : PySem.W.Frag} {a : Addr} {n : Nat} : Walk (Ite K a) n (fun H => ∃ vs, SqL K H a vs ∧ vs.length = n) (fun i H v H' => ∃ T x, v = .ref T ∧ H T = none ∧ H' = upd H T (.tup [.int (i : Nat), x]) ∧ ∀ vs, SqL K H a vs → vs[i]? = some x) := by
  refine ⟨fun i _ hi ⟨vs, q, e⟩ => ⟨vs, vs[i]'(by omega), q, by simp [show i < vs.length by omega]⟩, fun _ ⟨vs, q, e⟩ => ⟨vs, q, by omega⟩, fun i H v H' _ q y => ?_⟩
  obtain ⟨T, x, h1, h2, h3, h4⟩ := y
  exact ⟨T, x, h1, h2, h3, h4⟩
theorem di_enum {elts : List Expr} {kk : Nat} {e : Expr} {te : DTA} {tpos p : Pos} (hg : Gl X "enumerate") (hm : X.mg "enumerate" = none) (ha : DA X B [e] te) (hs : starEach [e] X.env = [(false, eval e X.env)] := by rfl) :
    DI X B (.Tuple elts kk tpos) (.Call (.Name "enumerate" p) [e] [] pos) (fun Γ M RR => te Γ M fun ds M1 => match ds with
      | [d] => (match lstOf M1 d with
        | some xs => RR (enumD xs) (stays M1 d) M1
        | none => False)
      | _ => False) :=
  pi_imp (pi_enum hg hm ha hs) fun σ H R ⟨Γ, M, F, RR, so, ht, fol⟩ => ⟨Γ, M, F, _, so, ht, fun ds M1 F1 vs H1 m1 e1 r1 q1 => by
    split at q1
    · rename_i d
      obtain ⟨v, rfl, r⟩ := reps1 r1
      split at q1
      · rename_i xs ex
        obtain ⟨a, us, rfl, h, rs, st⟩ := lstOf_stays m1 r ex
        refine ⟨a, us, rfl, h, fol _ H1 F1 M1 _ _ m1 e1 ⟨_, _, by rw [enumD_len]; exact walk_enum', fun M F H mo e g => ?_, fun i M F H x H' hi mo e g y => ?_⟩ (by rw [enumD_len, ← rs.len]; exact m1.sz.lst _ _ h) q1⟩
        · obtain ⟨vs', h', r'⟩ := st M F H mo e g
          exact ⟨vs', h', r'.len⟩
        · obtain ⟨vs', h', r'⟩ := st M F H mo e g
          obtain ⟨T, w, rfl, hT, rfl, hw⟩ := y
          rw [enumD_len] at hi
          obtain ⟨d', g1, g2⟩ := reps_get r' (hw _ h')
          rw [List.getElem?_eq_getElem hi] at g1
          cases g1
          obtain ⟨F', m', s', r2⟩ := pair_new mo hT (.int (i : Nat)) g2
          exact ⟨F', _, enumD_get hi, m', s', r2⟩
      · exact q1.elim
    · exact q1.elim⟩
def zipD (xs ys : List D) : List D := xs.zipWith (fun x y => .tup [x, y]) ys
theorem walk_zip' {K : PySem.W.Frag} {a b : Addr} {n : Nat} : Walk (Itz K a b) n (fun H => ∃ vs ws, SqL K H a vs ∧ SqL K H b ws ∧ n = min vs.length ws.length)
    (fun i H v H' => ∃ T x z, v = .ref T ∧ H T = none ∧ H' = upd H T (.tup [x, z]) ∧ (∀ vs, SqL K H a vs → vs[i]? = some x) ∧ ∀ vs, SqL K H b vs → vs[i]? = some z) := by
  refine ⟨fun i _ hi ⟨xs, ys, q1, q2, e⟩ => ?_, fun _ ⟨xs, ys, q1, q2, e⟩ => ⟨xs, ys, q1, q2, by omega⟩, fun i H v H' _ q y => ?_⟩
  · have h1 : i < xs.length := by omega
    have h2 : i < ys.length := by omega
    exact ⟨xs, ys, xs[i], ys[i], q1, q2, by simp [h1], by simp [h2]⟩
  · obtain ⟨T, x, z, h1, h2, h3, h4, h5⟩ := y
    exact ⟨T, x, z, h1, h2, h3, h4, h5⟩
theorem di_zip {elts : List Expr} {kk : Nat} {e e2 : Expr} {te : DTA} {tpos p : Pos} (hg : Gl X "zip") (hm : X.mg "zip" = none) (ha : DA X B [e, e2] te) (hs : starEach [e, e2] X.env = (false, eval e X.env) :: starEach [e2] X.env := by rfl) (hpl : (backTo pos (starEach [e2] X.env)).any (·.1) = false := by rfl) :
    DI X B (.Tuple elts kk tpos) (.Call (.Name "zip" p) [e, e2] [] pos) (fun Γ M RR => te Γ M fun ds M1 => match ds with
      | [d, d2] => (match lstOf M1 d, lstOf M1 d2 with
        | some xs, some ys => RR (zipD xs ys) (fun M' => stays M1 d M' ∧ stays M1 d2 M') M1
        | _, _ => False)
      | _ => False) :=
  pi_imp (pi_zip hg hm ha hs hpl) fun σ H R ⟨Γ, M, F, RR, so, ht, fol⟩ => ⟨Γ, M, F, _, so, ht, fun ds M1 F1 vs H1 m1 e1 r1 q1 => by
    split at q1
    · rename_i d d2
      obtain ⟨v, v2, rfl, r, r2⟩ := reps2 r1
      split at q1
      · rename_i xs ys ex ey
        obtain ⟨a, us, rfl, h, rs, st⟩ := lstOf_stays m1 r ex
        obtain ⟨b, ws, rfl, h2, rs2, st2⟩ := lstOf_stays m1 r2 ey
        have hlen : (zipD xs ys).length = min xs.length ys.length := by unfold zipD; simp
        refine ⟨a, b, us, ws, rfl, h, h2, fol _ H1 F1 M1 _ _ m1 e1 ⟨_, _, by rw [hlen]; exact walk_zip', fun M F H mo e g => ?_, fun i M F H x H' hi mo e g y => ?_⟩ (by rw [hlen]; have := m1.sz.lst _ _ h; have := rs.len; omega) q1⟩
        · obtain ⟨vs', h', r'⟩ := st M F H mo e g.1
          obtain ⟨ws', h2', r2'⟩ := st2 M F H mo e g.2
          exact ⟨vs', ws', h', h2', by rw [r'.len, r2'.len]⟩
        · obtain ⟨vs', h', r'⟩ := st M F H mo e g.1
          obtain ⟨ws', h2', r2'⟩ := st2 M F H mo e g.2
          obtain ⟨T, x, z, rfl, hT, rfl, hw, hw2⟩ := y
          rw [hlen] at hi
          obtain ⟨d', g1, g2⟩ := reps_get r' (hw _ h')
          obtain ⟨d2', g3, g4⟩ := reps_get r2' (hw2 _ h2')
          obtain ⟨F', m', s', r3⟩ := pair_new mo hT g2 g4
          refine ⟨F', _, ?_, m', s', r3⟩
          unfold zipD
          rw [List.getElem?_zipWith, g1, g3]
      · exact q1.elim
    · exact q1.elim⟩
end
/-! ### targets by patterns -/
inductive Pat where
  | n (i : Nat) | t (ps : List Pat)
mutual
def patG (K : PySem.W.Frag) : Pat → TG
  | .n i => gName i
  | .t ps => gTup K ps.length (patGs K ps)
def patGs (K : PySem.W.Frag) : List Pat → TGs
  | [] => gNil
  | p :: ps => gCons (patG K p) (patGs K ps)
end
mutual
def patD : Pat → D → DSt → Option DSt
  | .n i, d, Γ => some (Γ.set i (some d))
  | .t ps, .tup ds, Γ => patDs ps ds Γ
  | .t _, _, _ => none
def patDs : List Pat → List D → DSt → Option DSt
  | [], [], Γ => some Γ
  | p :: ps, d :: ds, Γ => (patD p d Γ).bind (patDs ps ds)
  | _, _, _ => none
end
mutual
def patV : Pat → List Nat
  | .n i => [i]
  | .t ps => patVs ps
def patVs : List Pat → List Nat
  | [] => []
  | p :: ps => patV p ++ patVs ps
end
theorem wipe_set {σ : St} {i : Nat} {x : Option V} : ∀ {vs : List Nat}, i ∈ vs → wipe (σ.set i x) vs = wipe σ vs
  | v :: vs, h => by
    unfold wipe
    by_cases e : i = v
    · subst e
      by_cases h2 : i ∈ vs
      · rw [wipe_set h2]
      · refine List.ext_getElem? fun j => ?_
        by_cases q : i = j
        · subst q
          rw [List.getElem?_set, List.getElem?_set]
          simp [wipe_length]
        · rw [List.getElem?_set_ne q, List.getElem?_set_ne q]
          by_cases h3 : j ∈ vs
          · have key : ∀ (τ : St) (us : List Nat), j ∈ us → (wipe τ us)[j]? = if j < τ.length then some none else none := by
              intro τ us hu
              induction us with
              | nil => cases hu
              | cons u us ih =>
                unfold wipe
                by_cases c : u = j
                · subst c; rw [List.getElem?_set]; simp [wipe_length]
                · rw [List.getElem?_set_ne c]
                  rcases List.mem_cons.mp hu with rfl | hu
                  · exact (c rfl).elim
                  · exact ih hu
            rw [key _ _ h3, key _ _ h3]; simp
          · rw [wipe_out h3, wipe_out h3, List.getElem?_set_ne q]
    · rw [wipe_set (List.mem_of_ne_of_mem e h)]
theorem patDs_len : ∀ {ps : List Pat} {ds : List D} {Γ Γ' : DSt}, patDs ps ds Γ = some Γ' → ds.length = ps.length
  | [], [], _, _, _ => rfl
  | p :: ps, d :: ds, Γ, Γ', h => by
    simp only [patDs] at h
    obtain ⟨Γ1, _, h2⟩ := Option.bind_eq_some_iff.mp h
    rw [List.length_cons, List.length_cons, patDs_len h2]
  | [], _ :: _, _, _, h => by simp [patDs] at h
  | _ :: _, [], _, _, h => by simp [patDs] at h
mutual
theorem pat_of {K : PySem.W.Frag} {B : Hp} {vs : List Nat} : ∀ (p : Pat) {Γ Γ' : DSt} {M : Mem} {F H : Hp} {σ : St} {v : V} {d : D} {Q : St → Hp → Prop}, SOk K B Γ M F σ H → Rep K F v d → patD p d Γ = some Γ' → (∀ i ∈ patV p, i ∈ vs) →
    (∀ σ', SOk K B Γ' M F σ' H → wipe σ' vs = wipe σ vs → Q σ' H) → patG K p v σ H Q
  | .n i, Γ, Γ', M, F, H, σ, v, d, Q, so, r, h, hv, q => by
    simp only [patD, Option.some.injEq] at h
    subst h
    simp only [patG]
    exact q _ (so.set i r) (wipe_set (hv i (by simp [patV])))
  | .t ps, Γ, Γ', M, F, H, σ, v, d, Q, so, r, h, hv, q => by
    cases d <;> simp only [patD] at h <;> try (cases h; done)
    obtain ⟨a, ws, rfl, hF, rs⟩ := r.tup_of
    simp only [patG]
    refine ⟨a, ws, rfl, .of (so.sub _ _ hF), by rw [rs.len]; exact patDs_len h, ?_⟩
    exact pats_of ps so rs h (fun i hi => hv i (by simpa [patV] using hi)) q
theorem pats_of {K : PySem.W.Frag} {B : Hp} {vs : List Nat} : ∀ (ps : List Pat) {Γ Γ' : DSt} {M : Mem} {F H : Hp} {σ : St} {ws : List V} {ds : List D} {Q : St → Hp → Prop}, SOk K B Γ M F σ H → Reps K F ws ds → patDs ps ds Γ = some Γ' → (∀ i ∈ patVs ps, i ∈ vs) →
    (∀ σ', SOk K B Γ' M F σ' H → wipe σ' vs = wipe σ vs → Q σ' H) → patGs K ps ws σ H Q
  | [], Γ, Γ', M, F, H, σ, ws, ds, Q, so, r, h, hv, q => by
    cases r with
    | nil =>
      simp only [patDs, Option.some.injEq] at h
      subst h
      simp only [patGs]
      exact ⟨rfl, q σ so rfl⟩
    | cons _ _ => simp [patDs] at h
  | p :: ps, Γ, Γ', M, F, H, σ, ws, ds, Q, so, r, h, hv, q => by
    cases r with
    | nil => simp [patDs] at h
    | cons r t =>
      simp only [patDs] at h
      obtain ⟨Γ1, h1, h2⟩ := Option.bind_eq_some_iff.mp h
      simp only [patGs]
      refine ⟨_, _, rfl, pat_of p so r h1 (fun i hi => hv i (by simp [patVs, hi])) fun σ1 so1 w1 => ?_⟩
      exact pats_of ps so1 t h2 (fun i hi => hv i (by simp [patVs, hi])) fun σ2 so2 w2 => q σ2 so2 (w2.trans w1)
end
section
variable {X : Cx} {B : Hp} {pos : Pos}
abbrev PP (X : Cx) (target : Expr) (p : Pat) : Prop := PG X target (patG X.K p)
abbrev PPS (X : Cx) (targets : List Expr) (ps : List Pat) : Prop := PGs X targets (patGs X.K ps)
theorem pp_name {i : Nat} {x : Str} (hN : X.N.Nodup) (hi : X.N[i]? = some x) (hx : Loc X.env.scope x) (hf : X.fn x = true ∨ X.env.scope.names.lookup x = some .local := by first | exact .inl rfl | exact .inr rfl | assumption) : PP X (.Name x pos) (.n i) := by
  have := pg_name (pos := pos) hN hi hx hf
  unfold PP; simp only [patG]; exact this
theorem pps_nil : PPS X [] [] := by unfold PPS; simp only [patGs]; exact pgs_nil
theorem pps_cons {e : Expr} {es : List Expr} {p : Pat} {ps : List Pat} (h1 : PP X e p) (h2 : PPS X es ps) (hs : (assignEach (e :: es) X.env).map (·.2) = assign e X.env :: (assignEach es X.env).map (·.2) := by rfl) : PPS X (e :: es) (p :: ps) := by
  unfold PPS; simp only [patGs]; exact pgs_cons h1 h2 hs
theorem pp_tup {es : List Expr} {kk : Nat} {ps : List Pat} (hc : X.calm = true) (h : PPS X es ps) (hn : (assignEach es X.env).length = ps.length := by rfl) (hst : (assignEach es X.env).findIdx? (·.1) = none := by rfl) : PP X (.Tuple es kk pos) (.t ps) := by
  unfold PP; simp only [patG]; exact pg_tup hc h hn hst
/-! ### for, while -/
/-- what holds between two turns is Inv, by the turn, the slots and the memory -/
def ForB (p : Pat) (tb : DTS) (R : DEnds) (Γ : DSt) (xs : List D) (GM : Mem → Prop) (M1 : Mem) : Prop := ∃ Inv : Nat → DSt → Mem → Prop, Inv 0 Γ M1 ∧ (∀ i Γ' M', i ≤ xs.length → Inv i Γ' M' → GM M') ∧
  (∀ i x Γ' M', xs[i]? = some x → Inv i Γ' M' → ∃ Γ2, patD p x Γ' = some Γ2 ∧ tb { nx := Inv (i + 1), rt := R.rt, bk := R.nx, ct := Inv (i + 1) } Γ2 M') ∧ ∀ Γ' M', Inv xs.length Γ' M' → R.nx Γ' M'
def dFor (s : DTI) (p : Pat) (tb : DTS) (R : DEnds) (Γ : DSt) (M : Mem) : Prop := s Γ M fun xs GM M1 => ForB p tb R Γ xs GM M1
theorem for_i {p : Pat} {tb : DTS} {R : DEnds} {Γ : DSt} {xs : List D} {GM : Mem → Prop} {M1 : Mem} (Iv : Nat → DSt → Mem → Prop) (h0 : Iv 0 Γ M1) (hG : ∀ i Γ' M', i ≤ xs.length → Iv i Γ' M' → GM M')
    (hs : ∀ i x Γ' M', xs[i]? = some x → Iv i Γ' M' → ∃ Γ2, patD p x Γ' = some Γ2 ∧ ∀ bk : DSt → Mem → Prop, (∀ Γ M, R.nx Γ M → bk Γ M) → tb { nx := Iv (i + 1), rt := R.rt, bk := bk, ct := Iv (i + 1) } Γ2 M') (hd : ∀ Γ' M', Iv xs.length Γ' M' → R.nx Γ' M') : ForB p tb R Γ xs GM M1 :=
  ⟨Iv, h0, hG, fun i x Γ' M' hx h => let ⟨Γ2, e, q⟩ := hs i x Γ' M' hx h; ⟨Γ2, e, q _ fun _ _ h => h⟩, hd⟩
theorem ds_for {tg iter : Expr} {body : List Stmt} {s : DTI} {p : Pat} {tb : DTS} (hp : PassesOwn (model X.prog X.w) X.A X.env X.xe) (hc : X.calm = true) (hi : DI X B tg iter s) (hg : PP X tg p) (hb : DSs X B body tb)
    (hs : ∀ x, foldedSetIterable iter X.env x = pure x := by intro _; rfl) : DS X B (.For tg iter body [] pos) (dFor s p tb) :=
  ps_imp (ps_for hp hc hi hg hb hs) fun D σ H ⟨Γ, M, F, R, so, ht, fol⟩ => ⟨Γ, M, F, _, so, ht, fun J H1 F1 M1 xs GM m1 e1 ⟨G, Y, w, wg, wy⟩ hz ⟨Iv, h0, hG, hstep, hd⟩ => by
    refine for_it w (fun i σ H => ∃ Γ' M' F', SOk X.K B Γ' M' F' σ H ∧ Same F1 F' ∧ Iv i Γ' M') ⟨Γ, M1, F1, so.step e1 m1, .refl _, h0⟩ (fun i σ H hi ⟨Γ', M', F', so', e', iv⟩ => wg M' F' H so'.toMOk e' (hG i Γ' M' hi iv)) ?_ ?_
    · rintro i x σ H H' hi ⟨Γ', M', F', so', e', iv⟩ y
      obtain ⟨F2, d, hd1, m2, e2, r2⟩ := wy i M' F' H x H' hi so'.toMOk e' (hG i Γ' M' (Nat.le_of_lt hi) iv) y
      obtain ⟨Γ2, hp2, q⟩ := hstep i d Γ' M' hd1 iv
      refine pat_of (vs := patV p) p (so'.step e2 m2) r2 hp2 (fun _ h => h) fun σ' so2 _ => ?_
      have e12 : Same F F2 := (e1.trans e').trans e2
      refine ⟨Γ2, M', F2, _, so2, q, ⟨?_, fol.rt.up e12, fol.nx.up e12, ?_⟩⟩
      · intro Γ3 M3 F3 σ3 H3 so3 e3 iv3; exact ⟨Γ3, M3, F3, so3, (e'.trans e2).trans e3, iv3⟩
      · intro Γ3 M3 F3 σ3 H3 so3 e3 iv3; exact ⟨Γ3, M3, F3, so3, (e'.trans e2).trans e3, iv3⟩
    · rintro σ H ⟨Γ', M', F', so', e', iv⟩
      exact fol.nx Γ' M' F' σ H so' (e1.trans e') (hd Γ' M' iv)⟩
def dWhile (c : DTT) (tb : DTS) (R : DEnds) (Γ : DSt) (M : Mem) : Prop := ∃ Inv : Nat → DSt → Mem → Prop, (∃ m, Inv m Γ M) ∧ ∀ m Γ' M', Inv m Γ' M' → c Γ' M' fun b M1 =>
  if b = true then tb { nx := fun Γ2 M2 => ∃ m', m' < m ∧ Inv m' Γ2 M2, rt := R.rt, bk := R.nx, ct := fun Γ2 M2 => ∃ m', m' < m ∧ Inv m' Γ2 M2 } Γ' M1 else R.nx Γ' M1
theorem ds_while {c : Expr} {body : List Stmt} {tc : DTT} {tb : DTS} (hp : PassesOwn (model X.prog X.w) X.A X.env X.xe) (hc : DT X B c tc) (hb : DSs X B body tb) : DS X B (.While c body [] pos) (dWhile tc tb) :=
  ps_imp (ps_while hp hc hb) fun D σ H ⟨Γ, M, F, R, so, ⟨Iv, ⟨m0, h0⟩, hstep⟩, fol⟩ => by
    refine ⟨fun m σ H => ∃ Γ' M' F', SOk X.K B Γ' M' F' σ H ∧ Same F F' ∧ Iv m Γ' M', ⟨m0, Γ, M, F, so, .refl F, h0⟩, ?_⟩
    rintro m σ H ⟨Γ', M', F', so', e', iv⟩
    refine ⟨Γ', M', F', _, so', hstep m Γ' M' iv, fun b M1 F1 H1 m1 e1 q => ?_⟩
    cases b with
    | false => exact (if_neg Bool.false_ne_true).mpr (fol.nx Γ' M1 F1 σ H1 (so'.step e1 m1) (e'.trans e1) (by simpa using q))
    | true =>
      refine (if_pos rfl).mpr ⟨fun σ' H' => ∃ m', m' < m ∧ ∃ Γ' M' F', SOk X.K B Γ' M' F' σ' H' ∧ Same F F' ∧ Iv m' Γ' M', fun σ' H' h => h, ?_⟩
      refine ⟨Γ', M1, F1, { nx := fun Γ2 M2 => ∃ m', m' < m ∧ Iv m' Γ2 M2, rt := R.rt, bk := R.nx, ct := fun Γ2 M2 => ∃ m', m' < m ∧ Iv m' Γ2 M2 }, so'.step e1 m1, by simpa using q, ⟨?_, fol.rt.up (e'.trans e1), fol.nx.up (e'.trans e1), ?_⟩⟩
      · rintro Γ3 M3 F3 σ3 H3 so3 e3 ⟨m', hm, iv3⟩; exact ⟨m', hm, Γ3, M3, F3, so3, (e'.trans e1).trans e3, iv3⟩
      · rintro Γ3 M3 F3 σ3 H3 so3 e3 ⟨m', hm, iv3⟩; exact ⟨m', hm, Γ3, M3, F3, so3, (e'.trans e1).trans e3, iv3⟩
end
end Dp
/-! D11: comprehensions, locks. -/
namespace Dp
open PySem PySem.Spec L2
def dwipe (Γ : DSt) : List Nat → DSt
  | [] => Γ
  | v :: vs => (dwipe Γ vs).set v none
theorem wiped {K : PySem.W.Frag} {B : Hp} {Γ : DSt} {M : Mem} {F H : Hp} {σ : St} (so : SOk K B Γ M F σ H) : ∀ vs : List Nat, SOk K B (dwipe Γ vs) M F (wipe σ vs) H
  | [] => so
  | v :: vs => (wiped so vs).drop v none
/-- a test of a clause -/
theorem wipe_comm {σ : St} {i j : Nat} : ((σ.set i none).set j none : St) = (σ.set j none).set i none := by
  by_cases e : i = j
  · subst e; rfl
  · exact List.set_comm none none e
theorem wipe_put {σ : St} {i : Nat} : ∀ vs : List Nat, wipe (σ.set i none) vs = (wipe σ vs).set i none
  | [] => rfl
  | v :: vs => by unfold wipe; rw [wipe_put vs, wipe_comm]
theorem wipe_wipe {σ : St} : ∀ vs : List Nat, wipe (wipe σ vs) vs = wipe σ vs
  | [] => rfl
  | v :: vs => by
    show (wipe ((wipe σ vs).set v none) vs).set v none = (wipe σ vs).set v none
    rw [wipe_put, wipe_wipe vs, List.set_set]
abbrev DTs (X : Cx) (B : Hp) (ifs : List Expr) (t : DTT) : Prop := PTs X ifs (LT X.K B t)
def dYes (_z0 : DSt) (M : Mem) (R : Bool → Mem → Prop) : Prop := R true M
section
variable {X : Cx} {B : Hp} {pos : Pos}
theorem pts_imp {ifs : List Expr} {t t' : TT} (h : PTs X ifs t) (i : ∀ σ H Q, t' σ H Q → t σ H Q) : PTs X ifs t' := ⟨fun p s σ H Q I q => h.run p s σ H Q I (i σ H Q q)⟩
theorem dts_nil : DTs X B [] dYes := pts_imp pts_nil fun σ H Q ⟨Γ, M, F, R, so, ht, fol⟩ => fol true M F H so.toMOk (.refl F) ht
theorem dts_one {c : Expr} {t : DTT} (h : DT X B c t) : DTs X B [c] t := pts_one h
/-! ### [elt for p in source if test] -/
/-- Iv: by the turn, what is made so far, the memory (the new list is the cell a) -/
def lcBody (xs : List D) (GM : Mem → Prop) (p : Pat) (tt : DTT) (te : DTE) (Γw : DSt) (M1 : Mem) (fin : Addr → List D → Mem → Prop) : Prop := ∀ a, M1 a = none → ∃ Iv : Nat → List D → Mem → Prop, Iv 0 [] (mup M1 a (.lst [])) ∧
  (∀ i acc M', i ≤ xs.length → Iv i acc M' → GM M' ∧ M' a = some (.lst acc)) ∧
  (∀ i x acc M', xs[i]? = some x → Iv i acc M' → ∃ Γ2, patD p x Γw = some Γ2 ∧ tt Γ2 M' fun b M2 => if b = true then te Γ2 M2 fun y M3 => M3 a = some (.lst acc) ∧ Iv (i + 1) (acc ++ [y]) (mup M3 a (.lst (acc ++ [y]))) else Iv (i + 1) acc M2) ∧
  ∀ acc M', Iv xs.length acc M' → fin a acc M'
def dLc (fz : Bool) (s : DTI) (p : Pat) (tt : DTT) (te : DTE) (vs : List Nat) (Γ : DSt) (M : Mem) (R : D → Mem → Prop) : Prop := s Γ M fun xs GM M1 => lcBody xs GM p tt te (dwipe Γ vs) M1 fun a acc M' => if fz then R (.lst acc) (mdel M' a) else R (.adr a) M'
theorem lst_frozen {K : PySem.W.Frag} {M : Mem} {F H : Hp} {a : Addr} {xs : List D} (mo : MOk K M F H) (ha : M a = some (.lst xs)) : ∃ F', MOk K (mdel M a) F' H ∧ Same F F' ∧ Rep K F' (.ref a) (.lst xs) := by
  obtain ⟨_, o, hH, ro⟩ := mo.mem a _ ha
  cases ro with
  | lst ro =>
    obtain ⟨m, s⟩ := mo.freeze ha hH
    exact ⟨_, m, s, .lstR upd_same (ro.up s)⟩
theorem reps_snoc {K : PySem.W.Frag} {F : Hp} {vs : List V} {ds : List D} {v : V} {d : D} (r : Reps K F vs ds) (q : Rep K F v d) : Reps K F (vs ++ [v]) (ds ++ [d]) := r.app (.cons q .nil)
theorem lc_down {X : Cx} {B : Hp} {s : DTI} {p : Pat} {tt : DTT} {te : DTE} {vs : List Nat} {fin : Addr → List D → Mem → Prop} {Γ : DSt} {M : Mem} {F : Hp} {σ : St} {H : Hp} {Q : VK} (hv : ∀ i ∈ patV p, i ∈ vs) (so : SOk X.K B Γ M F σ H) (ht : s Γ M fun xs GM M1 => lcBody xs GM p tt te (dwipe Γ vs) M1 fin)
    (hfin : ∀ a acc M' F' H', MOk X.K M' F' H' → Same F F' → M' a = some (.lst acc) → fin a acc M' → Q (.ref a) H') : tLc (LI X.K B s) (patG X.K p) (LT X.K B tt) (LE X.K B te) vs σ H Q :=
  ⟨Γ, M, F, _, so, ht, fun J H1 F1 M1 xs GM m1 e1 ⟨G, Y, w, wg, wy⟩ hz hb => fun D hD => by
    obtain ⟨Iv, h0, hG, hstep, hd⟩ := hb D (m1.mfree hD)
    have z0 : Sz X.K (upd H1 D (.lst [])) := sz_upd m1.sz (fun _ e => by cases e; exact Nat.zero_le _) (fun _ e => nomatch e) (fun _ e => nomatch e) (fun _ e => nomatch e) fun _ _ e => nomatch e
    have so1 := so.step e1 m1
    refine lc_it w (fun i H => ∃ acc M' F', MOk X.K M' F' H ∧ Same F1 F' ∧ acc.length ≤ i ∧ Iv i acc M') ⟨[], _, F1, m1.cell hD (.lst .nil) z0, .refl _, Nat.zero_le _, h0⟩ (fun i H hi ⟨acc, M', F', mo, e', _, iv⟩ => wg M' F' H mo e' (hG i acc M' hi iv).1) ?_ ?_
    · rintro i x H H' hi ⟨acc, M', F', mo, e', hl, iv⟩ y
      obtain ⟨gm, _⟩ := hG i acc M' (Nat.le_of_lt hi) iv
      obtain ⟨F2, d, hd1, m2, e2, r2⟩ := wy i M' F' H x H' hi mo e' gm y
      obtain ⟨Γ2, hp2, q⟩ := hstep i d acc M' hd1 iv
      have sw : SOk X.K B (dwipe Γ vs) M' F2 (wipe σ vs) H' := wiped (so1.step (e'.trans e2) m2) vs
      refine pat_of (vs := vs) p sw r2 hp2 hv fun σ2 so2 w2 => ⟨?_, ?_⟩
      · rw [w2, wipe_wipe]
      · refine ⟨Γ2, M', F2, _, so2, q, fun b M3 F3 H3 m3 e3 q3 => ?_⟩
        cases b with
        | false => exact (if_neg Bool.false_ne_true).mpr ⟨acc, M3, F3, m3, (e'.trans e2).trans e3, Nat.le_succ_of_le hl, by simpa using q3⟩
        | true =>
          refine (if_pos rfl).mpr ⟨Γ2, M3, F3, _, so2.step e3 m3, by simpa using q3, fun yd M4 F4 yv H4 m4 e4 r4 q4 => ?_⟩
          obtain ⟨_, ho, hH, ro⟩ := m4.mem D _ q4.1
          cases ro with
          | lst ro =>
            have hl4 := ro.len
            refine ⟨_, hH, by omega, acc ++ [yd], _, F4, m4.write q4.1 (.lst (reps_snoc ro r4)) (sz_upd m4.sz (fun _ e => by cases e; rw [List.length_append, List.length_singleton]; omega) (fun _ e => nomatch e) (fun _ e => nomatch e) (fun _ e => nomatch e) fun _ _ e => nomatch e), ((e'.trans e2).trans e3).trans e4, by rw [List.length_append, List.length_singleton]; omega, q4.2⟩
    · rintro H ⟨acc, M', F', mo, e', hl, iv⟩
      exact hfin D acc M' F' H mo (e1.trans e') (hG _ acc M' (Nat.le_refl _) iv).2 (hd acc M' iv)⟩
theorem de_lc {fz : Bool} {elt tg iter : Expr} {ifs : List Expr} {scope : Scope} {own : List (Str × Nat)} {s : DTI} {p : Pat} {tt : DTT} {te : DTE} (hc : X.calm = true) (hN : X.N.Nodup) (hi : DI X B tg iter s) (ok : BlkOk X.N X.env.scope scope own) (hv : ∀ i ∈ patV p, i ∈ own.map (·.2))
    (hg : ∀ (s : Shared) (H : Hp) (C : Addr) (cl : List (Str × Addr)) (fp : List Addr), PP (X.blk s H scope (compEnvC scope cl C X.env) fp) tg p) (ht : ∀ (s : Shared) (H : Hp) (C : Addr) (cl : List (Str × Addr)) (fp : List Addr), DTs (X.blk s H scope (compEnvC scope cl C X.env) fp) B ifs tt)
    (he : ∀ (s : Shared) (H : Hp) (C : Addr) (cl : List (Str × Addr)) (fp : List Addr), DE (X.blk s H scope (compEnvC scope cl C X.env) fp) B elt te) (hs : ∀ x, foldedSetIterable iter X.env x = pure x := by intro _; rfl) :
    DE X B (.ListComp elt [⟨tg, iter, ifs, 0⟩] scope pos) (dLc fz s p tt te (own.map (·.2))) :=
  de_of (pe_lc hc hN hi ok hg ht he hs) fun Γ M F σ H R Q so hq fol => lc_down hv so hq fun a acc M' F' H' mo e ha q z => .now (by
    cases fz with
    | true =>
      obtain ⟨F2, m2, s2, r2⟩ := lst_frozen mo ha
      exact fol _ _ F2 _ H' m2 (e.trans s2) r2 (by simpa using q)
    | false => exact fol _ _ F' _ H' mo e (.adr a) (by simpa using q))
/-- name = [..] -/
theorem ds_setLc {fz : Bool} {i : Nat} {y : Str} {py spos : Pos} {elt tg iter : Expr} {ifs : List Expr} {scope : Scope} {own : List (Str × Nat)} {s : DTI} {p : Pat} {tt : DTT} {te : DTE} (hc : X.calm = true) (hN : X.N.Nodup) (hy : X.N[i]? = some y) (hyl : X.env.scope.names.lookup y = some .local)
    (hsw : swapsWith (.ListComp elt [⟨tg, iter, ifs, 0⟩] scope pos) (some (.Name y py)) spos.line X.env = pure true) (hi : DI X B tg iter s) (ok : BlkOk X.N X.env.scope scope own) (hv : ∀ i ∈ patV p, i ∈ own.map (·.2))
    (hg : ∀ (s : Shared) (H : Hp) (C : Addr) (cl : List (Str × Addr)) (fp : List Addr), PP (X.blk s H scope (compEnvC scope cl C X.env) fp) tg p) (ht : ∀ (s : Shared) (H : Hp) (C : Addr) (cl : List (Str × Addr)) (fp : List Addr), DTs (X.blk s H scope (compEnvC scope cl C X.env) fp) B ifs tt)
    (he : ∀ (s : Shared) (H : Hp) (C : Addr) (cl : List (Str × Addr)) (fp : List Addr), DE (X.blk s H scope (compEnvC scope cl C X.env) fp) B elt te) (hs : ∀ x, foldedSetIterable iter X.env x = pure x := by intro _; rfl) :
    DS X B (.Assign [.Name y py] (.ListComp elt [⟨tg, iter, ifs, 0⟩] scope pos) spos) (dAsg (dLc fz s p tt te (own.map (·.2))) (dgN i)) :=
  ds_of (ps_setLc hc hN hy hyl hsw hi ok hg ht he hs) fun Γ M F σ H R E so hq fol => lc_down hv so hq fun a acc M' F' H' mo e ha q z => .now (by
    cases fz with
    | true =>
      obtain ⟨F2, m2, s2, r2⟩ := lst_frozen mo ha
      exact fol.nx _ _ F2 _ H' ((so.step (e.trans s2) m2).set i r2) (e.trans s2) (by simpa [dgN] using q)
    | false => exact fol.nx _ _ F' _ H' ((so.step e mo).set i (.adr a)) e (by simpa [dgN] using q))
end
end Dp
/-! D12: dict comprehensions, locks, what a pure comprehension gives. -/
namespace Dp
open PySem PySem.Spec L2
section
variable {X : Cx} {B : Hp} {pos : Pos}
/-! ### {k: v for p in source if test} -/
def dcBody (xs : List D) (GM : Mem → Prop) (p : Pat) (tt : DTT) (tk tv : DTE) (Γw : DSt) (M1 : Mem) (fin : Addr → List (Key × D) → Mem → Prop) : Prop := ∀ a, M1 a = none → ∃ Iv : Nat → List (Key × D) → Mem → Prop, Iv 0 [] (mup M1 a (.dK [])) ∧
  (∀ i acc M', i ≤ xs.length → Iv i acc M' → GM M' ∧ M' a = some (.dK acc)) ∧
  (∀ i x acc M', xs[i]? = some x → Iv i acc M' → ∃ Γ2, patD p x Γw = some Γ2 ∧ tt Γ2 M' fun b M2 => if b = true then tk Γ2 M2 fun y M3 => tv Γ2 M3 fun z M4 => M4 a = some (.dK acc) ∧
    (match keyOf y with
      | some k => Iv (i + 1) (put acc k z) (mup M4 a (.dK (put acc k z)))
      | none => False) else Iv (i + 1) acc M2) ∧
  ∀ acc M', Iv xs.length acc M' → fin a acc M'
def dDc (fz : Bool) (s : DTI) (p : Pat) (tt : DTT) (tk tv : DTE) (vs : List Nat) (Γ : DSt) (M : Mem) (R : D → Mem → Prop) : Prop := s Γ M fun xs GM M1 => dcBody xs GM p tt tk tv (dwipe Γ vs) M1 fun a acc M' => if fz then R (.dK acc) (mdel M' a) else R (.adr a) M'
theorem put_len {κ β : Type} [DecidableEq κ] (kvs : List (κ × β)) (k : κ) (v : β) : (put kvs k v).length ≤ kvs.length + 1 := by
  unfold put
  split
  · simp
  · simp
theorem dc_down {s : DTI} {p : Pat} {tt : DTT} {tk tv : DTE} {vs : List Nat} {fin : Addr → List (Key × D) → Mem → Prop} {Γ : DSt} {M : Mem} {F : Hp} {σ : St} {H : Hp} {Q : VK} (hv : ∀ i ∈ patV p, i ∈ vs) (so : SOk X.K B Γ M F σ H) (ht : s Γ M fun xs GM M1 => dcBody xs GM p tt tk tv (dwipe Γ vs) M1 fin)
    (hfin : ∀ a acc M' F' H', MOk X.K M' F' H' → Same F F' → M' a = some (.dK acc) → fin a acc M' → Q (.ref a) H') : tDc (LI X.K B s) (patG X.K p) (LT X.K B tt) (LE X.K B tk) (LE X.K B tv) vs σ H Q :=
  ⟨Γ, M, F, _, so, ht, fun J H1 F1 M1 xs GM m1 e1 ⟨G, Y, w, wg, wy⟩ hz hb => fun D hD => by
    obtain ⟨Iv, h0, hG, hstep, hd⟩ := hb D (m1.mfree hD)
    have z0 : Sz X.K (upd H1 D (.dK [])) := sz_upd m1.sz (fun _ e => nomatch e) (fun _ e => nomatch e) (fun _ e => by cases e; exact Nat.zero_le _) (fun _ e => nomatch e) fun _ _ e => nomatch e
    have so1 := so.step e1 m1
    refine ⟨fun i m H => m = xs.length - i ∧ i ≤ xs.length ∧ ∃ acc M' F', MOk X.K M' F' H ∧ Same F1 F' ∧ acc.length ≤ i ∧ Iv i acc M', ⟨xs.length, by simp, Nat.zero_le _, [], _, F1, m1.cell hD (.dK .nil) z0, .refl _, Nat.zero_le _, h0⟩, ?_⟩
    rintro i m H ⟨rfl, hi, acc, M', F', mo, e', hl, iv⟩
    obtain ⟨gm, ha⟩ := hG i acc M' hi iv
    have hg := wg M' F' H mo e' gm
    by_cases hlt : i < xs.length
    · refine .inr ⟨w.goes i H hlt hg, fun H => ∃ acc M' F', MOk X.K M' F' H ∧ Same F1 F' ∧ acc.length ≤ i + 1 ∧ Iv (i + 1) acc M', fun H' h => ⟨xs.length - (i + 1), by omega, rfl, hlt, h⟩, fun x H' y => ?_⟩
      obtain ⟨F2, d, hd1, m2, e2, r2⟩ := wy i M' F' H x H' hlt mo e' gm (w.yields i H x H' hlt hg y)
      obtain ⟨Γ2, hp2, q⟩ := hstep i d acc M' hd1 iv
      have sw : SOk X.K B (dwipe Γ vs) M' F2 (wipe σ vs) H' := wiped (so1.step (e'.trans e2) m2) vs
      refine pat_of (vs := vs) p sw r2 hp2 hv fun σ2 so2 w2 => ⟨by rw [w2, wipe_wipe], ?_⟩
      refine ⟨Γ2, M', F2, _, so2, q, fun b M3 F3 H3 m3 e3 q3 => ?_⟩
      cases b with
      | false => exact (if_neg Bool.false_ne_true).mpr ⟨acc, M3, F3, m3, (e'.trans e2).trans e3, Nat.le_succ_of_le hl, by simpa using q3⟩
      | true =>
        refine (if_pos rfl).mpr ⟨Γ2, M3, F3, _, so2.step e3 m3, by simpa using q3, fun yd M4 F4 yv H4 m4 e4 r4 q4 => ?_⟩
        refine ⟨Γ2, M4, F4, _, (so2.step e3 m3).step e4 m4, q4, fun zd M5 F5 zv H5 m5 e5 r5 q5 => ?_⟩
        obtain ⟨q5, q6⟩ := q5
        split at q6
        · rename_i k ek
          obtain ⟨_, ho, hH, ro⟩ := m5.mem D _ q5
          cases ro with
          | dK ro =>
            have hl5 := ro.len
            have hpl := put_len acc k zd
            have rp := put_rep r5 k ro
            refine ⟨_, k, keyOf_rep r4 ek, hH, by omega, put acc k zd, _, F5, m5.write q5 (.dK rp) (sz_upd m5.sz (fun _ e => nomatch e) (fun _ e => nomatch e) (fun _ e => by cases e; rw [rp.len]; omega) (fun _ e => nomatch e) fun _ _ e => nomatch e), (((e'.trans e2).trans e3).trans e4).trans e5, by omega, q6⟩
        · exact q6.elim
    · have e : i = xs.length := by omega
      subst e
      exact .inl ⟨w.stops H hg, hfin D acc M' F' H mo (e1.trans e') ha (hd acc M' iv)⟩⟩
theorem dK_frozen {K : PySem.W.Frag} {M : Mem} {F H : Hp} {a : Addr} {xs : List (Key × D)} (mo : MOk K M F H) (ha : M a = some (.dK xs)) {P : Hp → Prop} (h : ∀ F' H', MOk K (mdel M a) F' H' → Same F F' → Rep K F' (.ref a) (.dK xs) → P H') : Lk P H := by
  obtain ⟨hf, o, hH, ro⟩ := mo.mem a _ ha
  cases ro with
  | dK ro => exact .lock hH True.intro fun od => .now (h _ _ (mo.lockK ha hH od) (same_upd hf) (.dKR upd_same (ro.up (same_upd hf))))
theorem de_dc {fz : Bool} {kx vx tg iter : Expr} {ifs : List Expr} {scope : Scope} {own : List (Str × Nat)} {s : DTI} {p : Pat} {tt : DTT} {tk tv : DTE} (hc : X.calm = true) (hN : X.N.Nodup) (hi : DI X B tg iter s) (ok : BlkOk X.N X.env.scope scope own) (hv : ∀ i ∈ patV p, i ∈ own.map (·.2))
    (hg : ∀ (s : Shared) (H : Hp) (C : Addr) (cl : List (Str × Addr)) (fp : List Addr), PP (X.blk s H scope (compEnvC scope cl C X.env) fp) tg p) (ht : ∀ (s : Shared) (H : Hp) (C : Addr) (cl : List (Str × Addr)) (fp : List Addr), DTs (X.blk s H scope (compEnvC scope cl C X.env) fp) B ifs tt)
    (hk : ∀ (s : Shared) (H : Hp) (C : Addr) (cl : List (Str × Addr)) (fp : List Addr), DE (X.blk s H scope (compEnvC scope cl C X.env) fp) B kx tk)
    (he : ∀ (s : Shared) (H : Hp) (C : Addr) (cl : List (Str × Addr)) (fp : List Addr), DE (X.blk s H scope (compEnvC scope cl C X.env) fp) B vx tv) (hs : ∀ x, foldedSetIterable iter X.env x = pure x := by intro _; rfl) :
    DE X B (.DictComp kx vx [⟨tg, iter, ifs, 0⟩] scope pos) (dDc fz s p tt tk tv (own.map (·.2))) :=
  de_of (pe_dc hc hN hi ok hg ht hk he hs) fun Γ M F σ H R Q so hq fol => dc_down hv so hq fun a acc M' F' H' mo e ha q z => by
    cases fz with
    | true => exact dK_frozen mo ha fun F2 H2 m2 s2 r2 => fol _ _ F2 _ H2 m2 (e.trans s2) r2 (by simpa using q)
    | false => exact .now (fol _ _ F' _ H' mo e (.adr a) (by simpa using q))
theorem ps_setDc {i : Nat} {y : Str} {py spos : Pos} {kx vx tg iter : Expr} {ifs : List Expr} {scope : Scope} {own : List (Str × Nat)} {wi : TI} {g : TG} {tt : TT} {tk tv : TE} (hc : X.calm = true) (hN : X.N.Nodup) (hy : X.N[i]? = some y) (hyl : X.env.scope.names.lookup y = some .local)
    (hsw : swapsWith (.DictComp kx vx [⟨tg, iter, ifs, 0⟩] scope pos) (some (.Name y py)) spos.line X.env = pure true) (hi : PI X tg iter wi) (ok : BlkOk X.N X.env.scope scope own)
    (hg : ∀ (s : Shared) (H : Hp) (C : Addr) (cl : List (Str × Addr)) (fp : List Addr), PG (X.blk s H scope (compEnvC scope cl C X.env) fp) tg g) (ht : ∀ (s : Shared) (H : Hp) (C : Addr) (cl : List (Str × Addr)) (fp : List Addr), PTs (X.blk s H scope (compEnvC scope cl C X.env) fp) ifs tt)
    (hk : ∀ (s : Shared) (H : Hp) (C : Addr) (cl : List (Str × Addr)) (fp : List Addr), PE (X.blk s H scope (compEnvC scope cl C X.env) fp) kx tk)
    (he : ∀ (s : Shared) (H : Hp) (C : Addr) (cl : List (Str × Addr)) (fp : List Addr), PE (X.blk s H scope (compEnvC scope cl C X.env) fp) vx tv) (hs : ∀ x, foldedSetIterable iter X.env x = pure x := by intro _; rfl) :
    PS X (.Assign [.Name y py] (.DictComp kx vx [⟨tg, iter, ifs, 0⟩] scope pos) spos) (tAsg (tDc wi g tt tk tv (own.map (·.2))) (gName i)) := by
  refine ⟨fun pins s σ H D I h => ?_⟩
  rw [exec_Assign_Name_used _ _ _ _ hsw]
  refine wpAny_bind (wpAny_standAt (wpAny_bind ?_))
  show wpAny _ X.A (do let _ ← comprehension (.DictComp kx vx [⟨tg, iter, ifs, 0⟩] scope pos) scope X.env (firstIterPos [⟨tg, iter, ifs, 0⟩] pos) newDict false (eval iter X.env) (some (assign (.Name y py) X.env))) _ _ s
  have h' : tDc wi g tt tk tv (own.map (·.2)) σ H (fun x H1 => gName i x σ H1 D.nx) := h
  refine wpAny_bind (thn (dc_core (Qf := fun _ z => SP X pins D .next z) hc hN I hi ok hg ht hk he hs h' fun L C s' m H' I' q hn f => ?_) fun _ z hq => wpAny_pure (wpAny_pure hq))
  show wpAny _ _ (assign (.Name y py) X.env (.ref L)) _ _ _
  refine wpAny_assign_Name (store_ok2 (v := V.ref L) I' hN hy (.inl hyl) rfl (fun s2 I2 ⟨a, sb, ha⟩ => ?_) (.inr hyl))
  obtain ⟨f0, f1, f2, f3, f4, f5⟩ := f
  have hCa : C ≠ a := ha.elim (fun z => by rw [z]; exact f1) fun z e => f4 y a z e.symm
  exact ⟨m, hn.sameBut sb hCa, fun h3 sb3 => ⟨_, H', I2.turned (t' := s2.toks) (fun b o hb e => (sb3.2 b hb).trans e) f0 f1 f3 f4 f5, q⟩⟩
theorem sw_trueD {kx vx : Expr} {gs : List Comprehension} {scope : Scope} {py : Pos} {y : Str} {l : Nat} {env : Env} (hk : env.scope.kind = .function) (hy : env.scope.names.lookup y = some .local) (hl : (py.line == pos.line) = true)
    (ha : (scope.names.any fun (n, k) => n == y && (k == .local || k == .cell)) = false) : swapsWith (.DictComp kx vx gs scope pos) (some (.Name y py)) l env = pure true := by
  have ky : env.kindOf y = some .local := hy
  have hb : env.blockKind = .function := by unfold Env.blockKind; rw [hk]; rfl
  simp only [swapsWith, hb, ky, ha, Expr.pos, hl]
  rfl
theorem ds_setDc {fz : Bool} {i : Nat} {y : Str} {py spos : Pos} {kx vx tg iter : Expr} {ifs : List Expr} {scope : Scope} {own : List (Str × Nat)} {s : DTI} {p : Pat} {tt : DTT} {tk tv : DTE} (hc : X.calm = true) (hN : X.N.Nodup) (hy : X.N[i]? = some y) (hyl : X.env.scope.names.lookup y = some .local)
    (hsw : swapsWith (.DictComp kx vx [⟨tg, iter, ifs, 0⟩] scope pos) (some (.Name y py)) spos.line X.env = pure true) (hi : DI X B tg iter s) (ok : BlkOk X.N X.env.scope scope own) (hv : ∀ i ∈ patV p, i ∈ own.map (·.2))
    (hg : ∀ (s : Shared) (H : Hp) (C : Addr) (cl : List (Str × Addr)) (fp : List Addr), PP (X.blk s H scope (compEnvC scope cl C X.env) fp) tg p) (ht : ∀ (s : Shared) (H : Hp) (C : Addr) (cl : List (Str × Addr)) (fp : List Addr), DTs (X.blk s H scope (compEnvC scope cl C X.env) fp) B ifs tt)
    (hk : ∀ (s : Shared) (H : Hp) (C : Addr) (cl : List (Str × Addr)) (fp : List Addr), DE (X.blk s H scope (compEnvC scope cl C X.env) fp) B kx tk)
    (he : ∀ (s : Shared) (H : Hp) (C : Addr) (cl : List (Str × Addr)) (fp : List Addr), DE (X.blk s H scope (compEnvC scope cl C X.env) fp) B vx tv) (hs : ∀ x, foldedSetIterable iter X.env x = pure x := by intro _; rfl) :
    DS X B (.Assign [.Name y py] (.DictComp kx vx [⟨tg, iter, ifs, 0⟩] scope pos) spos) (dAsg (dDc fz s p tt tk tv (own.map (·.2))) (dgN i)) :=
  ds_of (ps_setDc hc hN hy hyl hsw hi ok hg ht hk he hs) fun Γ M F σ H R E so hq fol => dc_down hv so hq fun a acc M' F' H' mo e ha q z => by
    cases fz with
    | true => exact dK_frozen mo ha fun F2 H2 m2 s2 r2 => fol.nx _ _ F2 _ H2 ((so.step (e.trans s2) m2).set i r2) (e.trans s2) (by simpa [dgN] using q)
    | false => exact .now (fol.nx _ _ F' _ H' ((so.step e mo).set i (.adr a)) e (by simpa [dgN] using q))
/-! ### locks: a dict's cell while it is walked -/
def dLockS (t : DTS) (R : DEnds) (Γ : DSt) (M : Mem) : Prop := ∃ a kvs, M a = some (.dK kvs) ∧ ∀ od vs, t ⟨fun Γ' M' => M' a = some (.lkK od vs kvs) ∧ R.nx Γ' (mup M' a (.dK kvs)), fun d M' => M' a = some (.lkK od vs kvs) ∧ R.rt d (mup M' a (.dK kvs)),
  fun Γ' M' => M' a = some (.lkK od vs kvs) ∧ R.bk Γ' (mup M' a (.dK kvs)), fun Γ' M' => M' a = some (.lkK od vs kvs) ∧ R.ct Γ' (mup M' a (.dK kvs))⟩ Γ (mup M a (.lkK od vs kvs))
def dLockE (t : DTE) (Γ : DSt) (M : Mem) (R : D → Mem → Prop) : Prop := ∃ a kvs, M a = some (.dK kvs) ∧ ∀ od vs, t Γ (mup M a (.lkK od vs kvs)) fun d M' => M' a = some (.lkK od vs kvs) ∧ R d (mup M' a (.dK kvs))
theorem lock_in {K : PySem.W.Frag} {M : Mem} {F H : Hp} {a : Addr} {vs : List (Key × V)} {kvs : List (Key × D)} (mo : MOk K M F H) (ha : M a = some (.dK kvs)) (hH : H a = some (.dK vs)) (r : RepsK K F vs kvs) (od : Obj) : MOk K (mup M a (.lkK od vs kvs)) F (upd H a (.frz od (.dK vs))) :=
  mo.write ha (.lkK r) (sz_frz (u := .dK vs) (by rw [show upd H a (.dK vs) = H from funext fun b => by unfold upd; split <;> simp_all]; exact mo.sz))
theorem lock_out {K : PySem.W.Frag} {M : Mem} {F H : Hp} {a : Addr} {od : Obj} {vs : List (Key × V)} {kvs : List (Key × D)} (mo : MOk K M F H) (ha : M a = some (.lkK od vs kvs)) : H a = some (.frz od (.dK vs)) ∧ MOk K (mup M a (.dK kvs)) F (upd H a (.dK vs)) := by
  obtain ⟨hf, o, hH, ro⟩ := mo.mem a _ ha
  cases ro with
  | lkK ro =>
    refine ⟨hH, mo.write ha (.dK ro) ⟨fun b xs h => ?_, fun b xs h => ?_, fun b xs h => ?_, fun b xs h => ?_⟩⟩
    all_goals
      have key : ∀ b u, Rd (upd H a (.dK vs)) b u → Rd H b u := by
        intro b u r
        by_cases q : b = a
        · subst q
          rcases r with r | ⟨ob, r⟩
          · rw [upd_same] at r; cases r; exact .inr ⟨_, hH⟩
          · rw [upd_same] at r; cases r
        · rcases r with r | ⟨ob, r⟩
          · rw [upd_ne q] at r; exact .inl r
          · rw [upd_ne q] at r; exact .inr ⟨ob, r⟩
    · exact mo.sz.lst b xs (h.elim (fun h => .inl (key _ _ h)) .inr)
    · exact mo.sz.tup b xs (h.elim (fun h => .inl (key _ _ h)) .inr)
    · exact mo.sz.dK b xs (key _ _ h)
    · exact mo.sz.dT b xs (key _ _ h)
theorem ds_lock {st : Stmt} {t : DTS} (h : DS X B st t) : DS X B st (dLockS t) :=
  ps_imp (ps_lock h) fun D σ H ⟨Γ, M, F, R, so, ⟨a, kvs, ha, ht⟩, fol⟩ => by
    obtain ⟨hf, o, hH, ro⟩ := so.mem a _ ha
    cases ro with
    | dK ro =>
      rename_i vs
      refine ⟨a, _, hH, True.intro, fun od => ⟨Γ, _, F, _, so.step (.refl F) (lock_in so.toMOk ha hH ro od), ht od vs, ⟨?_, ?_, ?_, ?_⟩⟩⟩
      · rintro Γ' M' F' σ' H' so' e' ⟨q1, q2⟩
        obtain ⟨h1, h2⟩ := lock_out so'.toMOk q1
        exact ⟨h1, fol.nx Γ' _ F' σ' _ (so'.step (.refl F') h2) e' q2⟩
      · rintro d M' F' v H' m' e' r' ⟨q1, q2⟩
        obtain ⟨h1, h2⟩ := lock_out m' q1
        exact ⟨h1, fol.rt d _ F' v _ h2 e' r' q2⟩
      · rintro Γ' M' F' σ' H' so' e' ⟨q1, q2⟩
        obtain ⟨h1, h2⟩ := lock_out so'.toMOk q1
        exact ⟨h1, fol.bk Γ' _ F' σ' _ (so'.step (.refl F') h2) e' q2⟩
      · rintro Γ' M' F' σ' H' so' e' ⟨q1, q2⟩
        obtain ⟨h1, h2⟩ := lock_out so'.toMOk q1
        exact ⟨h1, fol.ct Γ' _ F' σ' _ (so'.step (.refl F') h2) e' q2⟩
theorem de_lock {e : Expr} {t : DTE} (h : DE X B e t) : DE X B e (dLockE t) :=
  pe_imp (pe_lock h) fun σ H Q ⟨Γ, M, F, R, so, ⟨a, kvs, ha, ht⟩, fol⟩ => by
    obtain ⟨hf, o, hH, ro⟩ := so.mem a _ ha
    cases ro with
    | dK ro =>
      rename_i vs
      refine ⟨a, _, hH, True.intro, fun od => ⟨Γ, _, F, _, so.step (.refl F) (lock_in so.toMOk ha hH ro od), ht od vs, ?_⟩⟩
      rintro d M' F' v H' m' e' r' ⟨q1, q2⟩
      obtain ⟨h1, h2⟩ := lock_out m' q1
      exact ⟨h1, fol d _ F' v _ h2 e' r' q2⟩
/-- either reading -/
theorem ds_either {st : Stmt} {t u : DTS} (h : DS X B st t) (g : DS X B st u) : DS X B st (fun R Γ M => t R Γ M ∨ u R Γ M) :=
  ⟨fun p s σ H D I ⟨Γ, M, F, R, so, ht, fol⟩ => ht.elim (fun q => h.run p s σ H D I ⟨Γ, M, F, R, so, q, fol⟩) fun q => g.run p s σ H D I ⟨Γ, M, F, R, so, q, fol⟩⟩
theorem de_either {e : Expr} {t u : DTE} (h : DE X B e t) (g : DE X B e u) : DE X B e (fun Γ M R => t Γ M R ∨ u Γ M R) :=
  ⟨fun p s σ H Q I ⟨Γ, M, F, R, so, ht, fol⟩ => ht.elim (fun q => h.run p s σ H Q I ⟨Γ, M, F, R, so, q, fol⟩) fun q => g.run p s σ H Q I ⟨Γ, M, F, R, so, q, fol⟩⟩
end
/-! ### pure comprehensions: element and test change nothing -/
theorem mup_le {M : Mem} {a : Addr} {m : MO} (h : M a = none) : MLe M (mup M a m) := fun b n e => by
  have q : b ≠ a := by rintro rfl; rw [h] at e; cases e
  rw [mup_ne q]; exact e
theorem lc_pure {α : Type} (l : List α) (enc : α → D) (q : α → Bool) (f : α → D) {GM : Mem → Prop} {p : Pat} {tt : DTT} {te : DTE} {Γw : DSt} {M : Mem} {fin : Addr → List D → Mem → Prop} (hG : ∀ M', MLe M M' → GM M')
    (hs : ∀ a ∈ l, ∀ M', MLe M M' → ∃ Γ2, patD p (enc a) Γw = some Γ2 ∧ ∀ K : Bool → Mem → Prop, ((q a = true → ∀ K' : D → Mem → Prop, K' (f a) M' → te Γ2 M' K') → K (q a) M') → tt Γ2 M' K)
    (hf : ∀ a, M a = none → fin a ((l.filter q).map f) (mup M a (.lst ((l.filter q).map f)))) : lcBody (l.map enc) GM p tt te Γw M fin := by
  intro a ha
  refine ⟨fun i acc M' => acc = ((l.take i).filter q).map f ∧ M' = mup M a (.lst acc), ⟨by simp, rfl⟩, ?_, ?_, ?_⟩
  · rintro i acc M' hi ⟨rfl, rfl⟩
    exact ⟨hG _ (mup_le ha), mup_same⟩
  · rintro i x acc M' hx ⟨rfl, rfl⟩
    rw [List.getElem?_map] at hx
    obtain ⟨y, hy, rfl⟩ := Option.map_eq_some_iff.mp hx
    obtain ⟨hi, hy'⟩ := List.getElem?_eq_some_iff.mp hy
    obtain ⟨Γ2, hp, hk⟩ := hs y (hy' ▸ List.getElem_mem hi) _ (mup_le ha)
    refine ⟨Γ2, hp, hk _ fun he => ?_⟩
    have ht : l.take (i + 1) = l.take i ++ [y] := by rw [List.take_succ, hy]; rfl
    cases hq : q y with
    | true =>
      rw [if_pos rfl]
      refine he hq _ ⟨mup_same, ?_, ?_⟩
      · rw [ht, List.filter_append, List.map_append]; simp [hq]
      · rw [mup_mup]
    | false =>
      rw [if_neg Bool.false_ne_true]
      refine ⟨?_, rfl⟩
      rw [ht, List.filter_append, List.map_append]; simp [hq]
  · rintro acc M' ⟨rfl, rfl⟩
    rw [List.length_map, List.take_length]
    exact hf a ha
theorem filter_true {α : Type} (l : List α) : l.filter (fun _ => true) = l := List.filter_eq_self.mpr fun _ _ => rfl
/-- without a test -/
theorem lc_map {α : Type} (l : List α) (enc : α → D) (f : α → D) {GM : Mem → Prop} {p : Pat} {te : DTE} {Γw : DSt} {M : Mem} {fin : Addr → List D → Mem → Prop} (hG : ∀ M', MLe M M' → GM M')
    (hs : ∀ a ∈ l, ∀ M', MLe M M' → ∃ Γ2, patD p (enc a) Γw = some Γ2 ∧ ∀ K' : D → Mem → Prop, K' (f a) M' → te Γ2 M' K')
    (hf : ∀ a, M a = none → fin a (l.map f) (mup M a (.lst (l.map f)))) : lcBody (l.map enc) GM p dYes te Γw M fin := by
  refine lc_pure l enc (fun _ => true) f hG (fun a ha M' le => ?_) (fun a ha => by rw [filter_true]; exact hf a ha)
  obtain ⟨Γ2, hp, hk⟩ := hs a ha M' le
  exact ⟨Γ2, hp, fun K h => h fun _ => hk⟩
theorem dc_pure {α : Type} (l : List α) (enc : α → D) (q : α → Bool) (kf : α → Key) (vf : α → D) {GM : Mem → Prop} {p : Pat} {tt : DTT} {tk tv : DTE} {Γw : DSt} {M : Mem} {fin : Addr → List (Key × D) → Mem → Prop} (hG : ∀ M', MLe M M' → GM M')
    (hs : ∀ a ∈ l, ∀ M', MLe M M' → ∃ Γ2, patD p (enc a) Γw = some Γ2 ∧ ∀ K : Bool → Mem → Prop, ((q a = true → (∀ K' : D → Mem → Prop, K' (kD (kf a)) M' → tk Γ2 M' K') ∧ ∀ K' : D → Mem → Prop, K' (vf a) M' → tv Γ2 M' K') → K (q a) M') → tt Γ2 M' K)
    (hf : ∀ a, M a = none → fin a (merge [] ((l.filter q).map fun x => (kf x, vf x))) (mup M a (.dK (merge [] ((l.filter q).map fun x => (kf x, vf x)))))) : dcBody (l.map enc) GM p tt tk tv Γw M fin := by
  intro a ha
  refine ⟨fun i acc M' => acc = merge [] (((l.take i).filter q).map fun x => (kf x, vf x)) ∧ M' = mup M a (.dK acc), ⟨by simp [merge], rfl⟩, ?_, ?_, ?_⟩
  · rintro i acc M' hi ⟨rfl, rfl⟩
    exact ⟨hG _ (mup_le ha), mup_same⟩
  · rintro i x acc M' hx ⟨rfl, rfl⟩
    rw [List.getElem?_map] at hx
    obtain ⟨y, hy, rfl⟩ := Option.map_eq_some_iff.mp hx
    obtain ⟨hi, hy'⟩ := List.getElem?_eq_some_iff.mp hy
    obtain ⟨Γ2, hp, hk⟩ := hs y (hy' ▸ List.getElem_mem hi) _ (mup_le ha)
    refine ⟨Γ2, hp, hk _ fun he => ?_⟩
    have ht : l.take (i + 1) = l.take i ++ [y] := by rw [List.take_succ, hy]; rfl
    have kk : keyOf (kD (kf y)) = some (kf y) := by cases kf y <;> rfl
    cases hq : q y with
    | true =>
      rw [if_pos rfl]
      refine (he hq).1 _ ((he hq).2 _ ⟨mup_same, ?_⟩)
      rw [kk]
      refine ⟨?_, by rw [mup_mup]⟩
      rw [ht, List.filter_append, List.map_append]
      simp [hq, merge]
    | false =>
      rw [if_neg Bool.false_ne_true]
      refine ⟨?_, rfl⟩
      rw [ht, List.filter_append, List.map_append]; simp [hq]
  · rintro acc M' ⟨rfl, rfl⟩
    rw [List.length_map, List.take_length]
    exact hf a ha
/-- rows with unlike keys are put one behind the other -/
theorem put_new {κ β : Type} [DecidableEq κ] {kvs : List (κ × β)} {k : κ} (v : β) (h : k ∉ kvs.map (·.1)) : put kvs k v = kvs ++ [(k, v)] := by
  unfold put
  rw [if_neg]
  intro q
  obtain ⟨p, hp, e⟩ := List.any_eq_true.mp q
  exact h (List.mem_map.mpr ⟨p, hp, of_decide_eq_true e⟩)
theorem merge_nodup : ∀ (more kvs : List (Key × D)), ((kvs ++ more).map (·.1)).Nodup → merge kvs more = kvs ++ more
  | [], kvs, _ => by simp [merge]
  | p :: r, kvs, h => by
    have hn : p.1 ∉ kvs.map (·.1) := by
      rw [List.map_append, List.nodup_append] at h
      intro q
      exact h.2.2 _ q _ (by simp) rfl
    show merge (put kvs p.1 p.2) r = _
    rw [put_new p.2 hn, merge_nodup r _ (by simpa using h)]
    simp
theorem merge_nil {more : List (Key × D)} (h : (more.map (·.1)).Nodup) : merge [] more = more := by
  rw [merge_nodup more [] (by simpa using h)]; rfl
end Dp
/-! D13: sorted by a key. -/
namespace Dp
open PySem PySem.Spec L2
section
variable {X : Cx}
/-- a key function: called from inside list.sort -/
def KFn (X : Cx) (r : V → V → Hp → VK → Prop) : Prop := ∀ (pins : List (Addr × Obj)) (s : Shared) (σ : St) (H : Hp) (x : V) (f : Addr) (u : Value) (Q : VK), Inv X pins σ H s → RelV x u → r (.ref f) x H Q →
  wpAny (model X.prog X.w) X.A.in1.in1 (call (.ref f) [u]) (EP X pins σ Q) (fun _ _ => False) s
def rSortKey (K : PySem.W.Frag) (r : V → V → Hp → VK → Prop) : List V → List V → Hp → VK → Prop := fun xs zs H Q => ∃ x vs f, xs = [x] ∧ zs = [.ref f] ∧ ItemsV K H x vs ∧ ∃ T : List V → Hp → Prop, T [] H ∧
  (∀ ks H' v, T ks H' → vs[ks.length]? = some v → r (.ref f) v H' fun k H'' => T (ks ++ [k]) H'') ∧
  ∀ ks H', T ks H' → ks.length = vs.length → ∃ kz, DpAll K H' ks kz ∧ PySem.W.AllAlike kz ∧ PySem.W.Sortable kz ∧ (∀ d ∈ kz, d.depth ≤ 60) ∧
    ∀ p, H' p = none → Q (.ref p) (upd H' p (.lst (((vs.zip kz).mergeSort (PySem.W.dataLe false fun b : V × PyData => b.2)).map (·.1))))
theorem each_of_dp {pins : List (Addr × Obj)} {σ : St} {H : Hp} {s : Shared} (I : Inv X pins σ H s) : ∀ {vs : List V} {ds : List PyData} {us : List Value}, DpAll X.K H vs ds → Vals vs us → PySem.W.EachIs (fun u d => ∃ as, Reads s.heap u d as) us ds
  | _, _, _, .nil, .nil => .nil
  | _, _, _, .cons h t, .cons r q => .cons (Dp.reads I _ _ _ h r) (each_of_dp I t q)
theorem each_zip : ∀ {vs : List V} {us : List Value} {ds : List PyData}, Vals vs us → vs.length = ds.length → PySem.W.EachIs (fun u (b : V × PyData) => RelV b.1 u) us (vs.zip ds)
  | _, _, [], .nil, _ => .nil
  | _, _, _ :: _, .cons r t, h => .cons r (each_zip t (by simpa using h))
  | _, _, _ :: _, .nil, h => by simp at h
  | _, _, [], .cons _ _, h => by simp at h
theorem cr_sortKey {r : V → V → Hp → VK → Prop} (hu : X.A.units + 64 < cLine) (hc : X.calm = true) (hk : KFn X r) : CallRK X (.builtin "sorted") [Str.ofString "key"] (rSortKey X.K r) := by
  intro pins s σ H xs zs us ws Q I rx rz h
  obtain ⟨x, vs, f, rfl, rfl, hi, T, t0, t1, t2⟩ := h
  obtain ⟨u, rfl, ru⟩ := vals1 rx
  obtain ⟨w1, rfl, ew⟩ := vals1 rz
  obtain rfl : w1 = Value.ref f := ew
  have hz := items_sz I hi
  show wpAny _ _ (call (.builtin "sorted") [u] [(Str.ofString "key", .ref f)]) _ _ _
  refine PyProof.Rows.call_function_entry_kw PyProof.Rows.kind_sorted PyProof.Rows.plain_sorted PyProof.Rows.entry_sorted (PyProof.Rows.ksk_s1 _ _) ?_
  unfold Builtin.«sorted»
  refine wpAny_bind (m := checkCount "sorted" 1 1 _) (wpAny_pure ?_)
  refine wpAny_bind (collect_any (A := X.A.in1) I (I.ok.hd hc) hi ru fun us s1 I1 r1 => ?_)
  have hlen : us.length ≤ sizeLine := by rw [← r1.length]; exact hz
  refine wpAny_bind (wpAny_newList ?_ hlen)
  have hoL : (s1.heap.push (PyProof.Rows.seqObj "list" us.toArray 0)).get? s1.heap.objs.size = some (PyProof.Rows.seqObj "list" us.toArray 0) := Heap.get?_push_size _ rfl
  generalize ha : s1.heap.objs.size = a at hoL ⊢
  show wpAny _ _ _ _ _ { s1 with heap := s1.heap.push (PyProof.Rows.seqObj "list" us.toArray 0) }
  refine wpAny_bind (wpAny_holding (PyProof.Rows.wpAny_call_entry_kw PyProof.Rows.slot_list_sort ⟨_, hoL, rfl⟩ PyProof.Rows.entry_list_sort ?_ (PyProof.Rows.ksk_l1 _ _)))
  rw [PyProof.Rows.ksk_t1]
  unfold PyProof.Rows.ksk_tree
  obtain ⟨e1, ho1⟩ : ∃ e1, ((s1.heap.push (PyProof.Rows.seqObj "list" us.toArray 0)).update a (Obj.mapSeq fun _ => (#[] : Array Value))).get? a = some (PyProof.Rows.seqObj "list" #[] e1) := ⟨_, PyProof.Rows.get?_update_seq hoL fun _ => #[]⟩
  refine wpAny_bind (PyProof.Rows.listItems_at hoL rfl ?_)
  refine wpAny_bind (PyProof.Rows.listUpdate_at hoL rfl ?_ (by rw [List.size_toArray]; exact hlen) (Nat.zero_le _))
  refine wpAny_bind (PyProof.Rows.seqEpoch_at ho1 rfl ?_)
  refine wpAny_bind (wpAny_newTuple ?_ (by show us.length ≤ _; exact hlen))
  refine wpAny_bind (wpAny_newList ?_ (Nat.zero_le _))
  refine wpAny_holding ?_
  have hn1 : H a = none := I1.hok.fresh (by rw [ha]; all_goals exact Nat.le_refl _)
  generalize hkS : (((s1.heap.push (PyProof.Rows.seqObj "list" us.toArray 0)).update a (Obj.mapSeq fun _ => (#[] : Array Value))).push (PyProof.Rows.seqObj "tuple" us.toArray 0)).objs.size = kS
  have hkS' : kS = a + 2 := by rw [← hkS, PyProof.Rows.size_push', Heap.size_update, PyProof.Rows.size_push', ha]
  have hn2 : H kS = none := I1.hok.fresh (by rw [ha]; omega)
  have hka : kS ≠ a := by omega
  have fa : FpOk X pins H a := I1.fpOk (by rw [ha]; all_goals exact Nat.le_refl _) hn1
  have fk : FpOk X pins H kS := I1.fpOk (by rw [ha]; omega) hn2
  have na : ((((s1.heap.push (PyProof.Rows.seqObj "list" us.toArray 0)).update a (Obj.mapSeq fun _ => (#[] : Array Value))).push (PyProof.Rows.seqObj "tuple" us.toArray 0)).push (PyProof.Rows.seqObj "list" #[] 0)).get? a = some (PyProof.Rows.seqObj "list" #[] e1) :=
    Heap.get?_push_of_some _ (Heap.get?_push_of_some _ ho1)
  have nk : ((((s1.heap.push (PyProof.Rows.seqObj "list" us.toArray 0)).update a (Obj.mapSeq fun _ => (#[] : Array Value))).push (PyProof.Rows.seqObj "tuple" us.toArray 0)).push (PyProof.Rows.seqObj "list" #[] 0)).get? kS = some (PyProof.Rows.seqObj "list" #[] 0) := by
    rw [← hkS]; exact Heap.get?_push_size _ rfl
  have keep : ∀ b o, s1.heap.get? b = some o → ((((s1.heap.push (PyProof.Rows.seqObj "list" us.toArray 0)).update a (Obj.mapSeq fun _ => (#[] : Array Value))).push (PyProof.Rows.seqObj "tuple" us.toArray 0)).push (PyProof.Rows.seqObj "list" #[] 0)).get? b = some o := fun b o e => by
    have hb : b ≠ a := fun z => by
      have := Heap.lt_size e
      rw [z, ha] at this
      exact Nat.lt_irrefl _ this
    exact Heap.get?_push_of_some _ (Heap.get?_push_of_some _ ((Heap.get?_update_ne _ _ _ _ hb).trans (Heap.get?_push_of_some _ e)))
  generalize hh3 : ((((s1.heap.push (PyProof.Rows.seqObj "list" us.toArray 0)).update a (Obj.mapSeq fun _ => (#[] : Array Value))).push (PyProof.Rows.seqObj "tuple" us.toArray 0)).push (PyProof.Rows.seqObj "list" #[] 0)) = h3 at na nk keep
  have I3 : Inv X pins σ H { s1 with heap := h3 } := I1.kept (t' := s1.toks) keep
  show wpAny _ _ (PyProof.Rows.ksk_rest a (.ref f) false us.toArray e1 (.ref kS)) _ _ { s1 with heap := h3 }
  unfold PyProof.Rows.ksk_rest
  refine wpAny_bind (wpAny_rule ?_)
  first
    | rw [List.forIn_toArray]
    | (rw [← Array.forIn_toList]; simp only [List.toList_toArray])
  refine wpAny_bind (PyProof.Rows.ksk_fold (fun i s' => ∃ ks H' kA e, Inv X pins σ H' s' ∧ T ks H' ∧ ks.length = i ∧ Vals ks kA.toList ∧ s'.heap.get? kS = some (PyProof.Rows.seqObj "list" kA e) ∧ s'.heap.get? a = some (PyProof.Rows.seqObj "list" #[] e1) ∧ FpOk X pins H' a ∧ FpOk X pins H' kS) us 0 _
    ⟨[], H, #[], 0, I3, t0, rfl, .nil, nk, na, fa, fk⟩ ?_ ?_)
  · rintro j x s' hx ⟨ks, H', kA, e, I', tt, hl, hv, nk', na', fa', fk'⟩
    simp only [Nat.zero_add] at hl ⊢
    have hj : j < us.length := (List.getElem?_eq_some_iff.mp hx).1
    have hj2 : j < vs.length := by rw [r1.length]; exact hj
    obtain ⟨x', ex, rx'⟩ := r1.get (List.getElem?_eq_getElem hj2)
    obtain rfl : x' = x := by rw [hx] at ex; exact (Option.some.inj ex).symm
    have IP : Inv X (pins ++ pinsAt [a, kS] s'.heap) σ H' s' := I'.pinned (fun b hb => by
      rcases List.mem_cons.mp hb with rfl | hb
      · exact fa'
      · obtain rfl := List.mem_singleton.mp hb; exact fk') (fun b hb => by
      rcases List.mem_cons.mp hb with rfl | hb
      · exact ⟨_, na', fun _ z => nomatch z⟩
      · obtain rfl := List.mem_singleton.mp hb; exact ⟨_, nk', fun _ z => nomatch z⟩)
    refine wpAny_bind (wpAny_attempt (wpAny_mono (hk _ s' σ H' vs[j] f x' _ IP rx' (t1 ks H' vs[j] tt (by rw [hl]; exact List.getElem?_eq_getElem hj2))) (fun k s'' he => ?_) fun _ _ hF => hF.elim))
    obtain ⟨kv, H'', I'', rk, tt'⟩ := he
    have pa := I''.pin (a, PyProof.Rows.seqObj "list" #[] e1) (List.mem_append_right _ (List.mem_append_right _ (by simp [pinsAt, na', nk'])))
    have pk := I''.pin (kS, PyProof.Rows.seqObj "list" kA e) (List.mem_append_right _ (List.mem_append_right _ (by simp [pinsAt, na', nk'])))
    have I4 := I''.unpinned
    have hzk : kA.size ≤ sizeLine := by
      have h1 : ks.length = kA.toList.length := hv.length
      have h2 : kA.toList.length = kA.size := Array.length_toList
      omega
    have sb := Heap.SameBut.update s''.heap kS (Obj.mapSeq (·.push k))
    obtain ⟨c2, hc2⟩ : ∃ c2, (s''.heap.update kS (Obj.mapSeq (·.push k))).get? kS = some (PyProof.Rows.seqObj "list" (kA.push k) c2) := ⟨_, PyProof.Rows.get?_update_seq pk.1 (·.push k)⟩
    try dsimp only
    refine wpAny_bind (PyProof.Rows.listUpdate_at pk.1 rfl ?_ hzk (Nat.le_trans (Nat.le_of_eq (Array.size_push ..)) (Nat.succ_le_succ hzk)))
    have fk'' : FpOk X pins H'' kS := ⟨pk.2.1, fk'.2⟩
    refine wpAny_pure ⟨rfl, ks ++ [kv], H'', kA.push k, c2, I4.turned (t' := s''.toks) (fun b o hb e => (sb.2 b hb).trans e) fk''.1 fk''.2.1 fk''.2.2.2.1 fk''.2.2.2.2.1 fk''.2.2.2.2.2, tt', by simp [hl], ?_, hc2, (sb.2 a hka.symm).trans pa.1, ⟨pa.2.1, fa'.2⟩, fk''⟩
    rw [Array.toList_push]
    exact hv.append (.cons rk .nil)
  · rintro s' ⟨ks, H', kA, e, I', tt, hl, hv, nk', na', fa', fk'⟩
    simp only [Nat.zero_add] at hl
    obtain ⟨kz, hd, hal, hso, hdp, q⟩ := t2 ks H' tt (by rw [hl, r1.length])
    have hkz : kz.length = us.length := by rw [← DpAll.len hd, hl]
    have hk' := each_of_dp I' hd hv
    have hsz : kA.size = us.length := by
      have h1 : ks.length = kA.toList.length := hv.length
      have h2 : kA.toList.length = kA.size := Array.length_toList
      omega
    try dsimp only
    refine wpAny_bind (PyProof.Rows.listItems_at nk' rfl ?_)
    obtain ⟨G, g1, g2⟩ := restrict s'.heap fun b => decide (b ≠ kS)
    have gk : ∀ b o, b ≠ kS → s'.heap.get? b = some o → G.get? b = some o := fun b o hb e => (g1 b (by simpa using hb)).trans e
    refine PySem.W.keyH_end (κ := PySem.W.dataKind s'.heap kz) (h₁ := G) (vs := us) (fun b o hb e => ?_) (g2 kS (by simp)) nk' na' hka (PySem.W.SortsAt.data hk' hal hso fun d hd => ?_) hsz hlen fun h4 tk4 c k4 n4 => ?_
    · by_cases z : b = kS
      · rw [z, g2 kS (by simp)] at e; cases e
      · rw [g1 b (by simpa using z)] at e; exact e
    · have := hdp d hd
      have e : X.A.in1.in1.units = X.A.units + 2 := rfl
      omega
    · have ko : PySem.W.KeyedOut false kz us (PySem.W.sortVals (PySem.W.dataKind s'.heap kz) false kA.toList us) := ⟨s'.heap, kA.toList, hal, rfl, hk'⟩
      have hout := vals_each (PySem.W.keyedOut_each (bs := vs.zip kz) (fun b : V × PyData => b.2) (by rw [zip_snd (by rw [hkz, r1.length])]; exact ko) (each_zip r1 (by rw [hkz, r1.length])))
      refine ⟨.none, rfl, wpAny_pure ⟨_, rfl, .ref a, upd H' a (.lst _), ?_, rfl, q a fa'.1⟩⟩
      have I5 : Inv X pins σ H' { s' with heap := h4, toks := tk4 } := Inv.turnedL I' (t' := tk4) (ch := [a, kS]) (fun b o hb e => k4 b o (fun z => hb (by simp [z])) (gk b o (fun z => hb (by simp [z])) e)) (fun b hb => by
        rcases List.mem_cons.mp hb with rfl | hb
        · exact fa'
        · obtain rfl := List.mem_singleton.mp hb; exact fk')
      exact Inv.take (s := { s' with heap := h4, toks := tk4 }) I5 (h' := h4) (t' := tk4) (fun b o _ e => e) fa' (show ObjOk X.prog X.w _ _ _ (.lst _) from ⟨by rw [hout.length, ko.length hkz]; exact hlen, _, c, hout, n4⟩)
end
end Dp
/-! D14: sorted, typed. -/
namespace Dp
open PySem PySem.Spec L2
def srtK (key : D → D) (xs : List D) : List D := xs.mergeSort (PySem.W.dataLe false fun d => toP (key d))
def srt (xs : List D) : List D := srtK (fun d => d) xs
def KeyOk (ks : List D) : Prop := ks.all (flatN 9) = true ∧ PySem.W.AllAlike (ks.map toP) ∧ PySem.W.Sortable (ks.map toP)
theorem KeyOk.depth {ks : List D} (h : KeyOk ks) : ∀ d ∈ ks.map toP, d.depth ≤ 60 := fun d hd => by
  obtain ⟨x, hx, rfl⟩ := List.mem_map.mp hd
  have := (flat_ok 9 x (List.all_eq_true.mp h.1 x hx)).2
  omega
theorem reps_zip {K : PySem.W.Frag} {F : Hp} : ∀ {vs : List V} {ds : List D}, Reps K F vs ds → ∀ p ∈ vs.zip ds, Rep K F p.1 p.2
  | _, _, .nil, p, h => by simp at h
  | _, _, .cons r t, p, h => by
    rw [List.zip_cons_cons] at h
    rcases List.mem_cons.mp h with rfl | h
    · exact r
    · exact reps_zip t p h
theorem reps_unzip {K : PySem.W.Frag} {F : Hp} : ∀ {l : List (V × D)}, (∀ p ∈ l, Rep K F p.1 p.2) → Reps K F (l.map (·.1)) (l.map (·.2))
  | [], _ => .nil
  | p :: l, h => .cons (h p List.mem_cons_self) (reps_unzip fun q hq => h q (List.mem_cons_of_mem _ hq))
theorem zip_map2 {key : D → PyData} : ∀ (vs : List V) (xs : List D), vs.zip (xs.map key) = (vs.zip xs).map fun p => (p.1, key p.2)
  | [], _ => rfl
  | _ :: _, [] => rfl
  | v :: vs, x :: xs => by simp only [List.map_cons, List.zip_cons_cons]; rw [zip_map2 vs xs]
theorem zip_fst2 : ∀ {vs : List V} {xs : List D}, vs.length = xs.length → (vs.zip xs).map (·.2) = xs
  | [], [], _ => rfl
  | _ :: _, _ :: _, h => by simp only [List.zip_cons_cons, List.map_cons]; rw [zip_fst2 (by simpa using h)]
  | [], _ :: _, h => by simp at h
  | _ :: _, [], h => by simp at h
theorem sorted_reps {K : PySem.W.Frag} {F : Hp} {vs : List V} {xs : List D} (key : D → D) (r : Reps K F vs xs) :
    Reps K F (((vs.zip (xs.map fun d => toP (key d))).mergeSort (PySem.W.dataLe false fun b : V × PyData => b.2)).map (·.1)) (srtK key xs) := by
  have e1 : (vs.zip (xs.map fun d => toP (key d))).mergeSort (PySem.W.dataLe false fun b : V × PyData => b.2) = ((vs.zip xs).mergeSort (PySem.W.dataLe false fun p : V × D => toP (key p.2))).map fun p => (p.1, toP (key p.2)) := by
    rw [zip_map2]
    exact (PySem.W.sort_maps (fun p : V × D => (p.1, toP (key p.2))) fun _ _ _ _ => rfl).symm
  have e2 : srtK key xs = ((vs.zip xs).mergeSort (PySem.W.dataLe false fun p : V × D => toP (key p.2))).map (·.2) := by
    unfold srtK
    conv => lhs; rw [← zip_fst2 r.len]
    exact (PySem.W.sort_maps (fun p : V × D => p.2) fun _ _ _ _ => rfl).symm
  rw [e1, e2, List.map_map]
  exact reps_unzip fun p hp => reps_zip r p ((List.mergeSort_perm _ _).mem_iff.mp hp)
theorem dpAll_flat {K : PySem.W.Frag} {F H : Hp} (s : Same F H) {n : Nat} {vs : List V} {xs : List D} (r : Reps K F vs xs) (h : xs.all (flatN n) = true) : DpAll K H vs (xs.map toP) :=
  dpAll_of r fun v d hd q => dp_of s n d v (List.all_eq_true.mp h d hd) q
def dSorted (ds : List D) (M : Mem) (R : D → Mem → Prop) : Prop := match ds with
  | [d] => (match keysOrItems M d with
    | some xs => KeyOk xs ∧ R (.lst (srt xs)) M
    | none => False)
  | _ => False
theorem l_sorted {K : PySem.W.Frag} : LiftL K (rSortedD K) dSorted := by
  intro M F H xs ds R Q mo rs q fol
  unfold dSorted at q
  split at q
  · obtain ⟨v, rfl, r⟩ := reps1 rs
    split at q
    · rename_i ys ey
      obtain ⟨vs, hi, r1⟩ := koi_rep mo r ey
      refine ⟨v, vs, ys.map toP, rfl, hi, dpAll_flat mo.sub r1 q.1.1, q.1.2.1, q.1.2.2, q.1.depth, fun p hp => fol_new fol mo hp (new_lst hp mo (sorted_reps (fun d => d) r1)) q.2⟩
    · exact q.elim
  · exact q.elim
/-! sorted(x, key=o.m) -/
section
variable {X : Cx} {B : Hp}
def rMetK (g : Addr) (dsp : DSp) (K : PySem.W.Frag) : V → V → Hp → VK → Prop := fun y x H Q => ∃ q a, y = .ref q ∧ H q = some (.met g a) ∧ LSp K dsp [.ref a, x] H Q E0
theorem kfn_met {k : Nat} {g : Addr} {fd : FuncData} {ps : List Str} {dsp : DSp} (G : FnOk X.prog X.w X.K X.mg X.base (L2.CX X.prog X.w) k g fd ps (LSp X.K dsp)) (hb : Binds X.K fd ps []) (hr : Room (k + 2) X.A) : KFn X (rMetK g dsp X.K) := by
  intro pins s σ H x f u Q I ru h
  obtain ⟨q, a, ey, hq, h⟩ := h
  cases ey
  have F2 := G.raw hb .nil
  refine wpAny_call (call_met I hq (codeAny_mono (F2 X.A.in1.in1 X.stack s H [.ref a, u] [.ref a, x] Q E0 (Room.in1 (Room.in1 hr)) I.env0.in1.in1 (.cons rfl (.cons ru .nil)) (by simpa using h)) fun r s' hq => ?_))
  cases r with
  | error e =>
    obtain ⟨_, _, _, _, _, _, _, _, _, _, _, _, z⟩ := hq
    exact z.elim
  | ok fl =>
    cases fl with
    | ret u => exact I.after hq
    | next => exact False.elim hq
    | brk => exact False.elim hq
    | cont => exact False.elim hq
def rDefK (g : Addr) (dsp : DSp) (K : PySem.W.Frag) : V → V → Hp → VK → Prop := fun y x H Q => y = .ref g ∧ LSp K dsp [x] H Q E0
theorem kfn_def {k : Nat} {g : Addr} {fd : FuncData} {ps : List Str} {dsp : DSp} (G : FnOk X.prog X.w X.K X.mg X.base (L2.CX X.prog X.w) k g fd ps (LSp X.K dsp)) (hb : Binds X.K fd ps []) (hr : Room (k + 2) X.A) : KFn X (rDefK g dsp X.K) := by
  intro pins s σ H x f u Q I ru h
  obtain ⟨ey, h⟩ := h
  cases ey
  have F2 := G.raw hb .nil
  refine wpAny_call (codeAny_mono (F2 X.A.in1.in1 X.stack s H [u] [x] Q E0 (Room.in1 (Room.in1 hr)) I.env0.in1.in1 (.cons ru .nil) (by simpa using h)) fun r s' hq => ?_)
  cases r with
  | error e =>
    obtain ⟨_, _, _, _, _, _, _, _, _, _, _, _, z⟩ := hq
    exact z.elim
  | ok fl =>
    cases fl with
    | ret u => exact I.after hq
    | next => exact False.elim hq
    | brk => exact False.elim hq
    | cont => exact False.elim hq
theorem pe_bndm {e : Expr} {ta : TE} {m : Str} {pos : Pos} {C g : Addr} (he : PE X e ta) (c : Cls X.K C) (k : BMeth X.K C m g) (hb : attributeBase e m X.env (eval e X.env) = eval e X.env) :
    PE X (.Attribute e m pos) (fun σ H Q => ta σ H fun x H1 => ∃ a dx fs, x = .ref a ∧ H1 a = some (.ins C dx fs) ∧ fs.lookup m = none ∧ ∀ p, H1 p = none → Q (.ref p) (upd H1 p (.met g a))) := by
  refine ⟨fun pins s σ H Q I h => ?_⟩
  refine attr_of hb (thn (he.run pins s σ H _ I h) fun u s1 ⟨x, H1, I1, rx, a, dx, fs, ex, ea, l, q⟩ => ?_)
  subst ex
  exact op_getbound I1 ea c k l rx fun p hp => q p hp
def dSortMet (C : Addr) (dsp : DSp) (te to : DTE) (Γ : DSt) (M : Mem) (R : D → Mem → Prop) : Prop := te Γ M fun d M1 => to Γ M1 fun od M2 => ∃ items key, keysOrItems M2 d = some items ∧ (∃ fs, vw M2 od = .ins C fs) ∧ KeyOk (items.map key) ∧
  (∀ it ∈ items, ∀ M3, MLe M2 M3 → ∀ R' : D → Mem → Prop, R' (key it) M3 → dsp [od, it] M3 R' noX) ∧ R (.lst (srtK key items)) M2
theorem koi_le {M M' : Mem} (l : MLe M M') {d : D} {xs : List D} (h : keysOrItems M d = some xs) : keysOrItems M' d = some xs := by
  unfold keysOrItems at h ⊢
  cases d <;> simp only [vw] at h ⊢ <;> try exact h
  rename_i a
  cases q : M a with
  | none => rw [q] at h; simp at h
  | some m => rw [l a m q]; rw [q] at h; exact h
theorem de_sortMet {k : Nat} {C g : Addr} {fd : FuncData} {ps : List Str} {dsp : DSp} {m : Str} {p pos apos kpos : Pos} {e o : Expr} {te to : DTE} (G : FnOk X.prog X.w X.K X.mg X.base (L2.CX X.prog X.w) k g fd ps (LSp X.K dsp)) (hb : Binds X.K fd ps []) (hr : Room (k + 2) X.A) (hc : X.calm = true)
    (c : Cls X.K C) (bm : BMeth X.K C m g) (hg : Gl X "sorted") (hm : X.mg "sorted" = none) (ha : DE X B e te) (ho : DE X B o to) (hbs : attributeBase o m X.env (eval o X.env) = eval o X.env := by rfl)
    (hst : starEach [e] X.env = (false, eval e X.env) :: starEach [] X.env := by rfl) (he : backTo pos (starEach [e] X.env) = (false, eval e X.env) :: backTo pos (starEach [] X.env) := by rfl) (hpl : (backTo pos (starEach [e] X.env)).any (·.1) = false := by rfl) :
    DE X B (.Call (.Name "sorted" p) [e] [⟨some "key", .Attribute o m apos, kpos⟩] pos) (dSortMet C dsp te to) := by
  have hu : X.A.units + 64 < cLine := hr.units
  refine de_of (pe_callBK (cr_sortKey hu hc (kfn_met G hb hr)) hg hm rfl (pa_cons ha pa_nil hst) (pk_cons (pe_bndm ho c bm hbs) pk_nil) (he := he) (hpl := hpl)) fun Γ M F σ H R Q so ht fol => ?_
  refine ⟨Γ, M, F, _, so, ht, fun d M1 F1 v H1 m1 e1 r1 q1 => ?_⟩
  refine ⟨Γ, M1, F1, _, so.step e1 m1, q1, fun od M2 F2 w H2 m2 e2 r2 q2 => ?_⟩
  obtain ⟨items, key, hi, ⟨fs, ev⟩, hk, hd, q3⟩ := q2
  obtain ⟨a, dx, vs, rfl, hh, kk, rs⟩ := vw_ins m2 r2 ev
  refine ⟨a, dx, vs, rfl, hh, meth_free bm.mt kk rs, fun q hq => ?_⟩
  have hMq := m2.mfree hq
  have m3 : MOk X.K (mup M2 q (.raw (.met g a))) F2 (upd H2 q (.met g a)) := m2.cell hq (.raw _ fun _ e => nomatch e) (sz_upd m2.sz (fun _ e => nomatch e) (fun _ e => nomatch e) (fun _ e => nomatch e) (fun _ e => nomatch e) fun _ _ e => nomatch e)
  have le : MLe M2 (mup M2 q (.raw (.met g a))) := mup_le hMq
  obtain ⟨ws, hiv, rws⟩ := koi_rep m3 (r1.up e2) (koi_le le hi)
  refine ⟨v, ws, q, rfl, rfl, hiv, fun ks H' => ∃ F', MOk X.K (mup M2 q (.raw (.met g a))) F' H' ∧ Same F2 F' ∧ Reps X.K F' ks ((items.take ks.length).map key), ⟨F2, m3, .refl F2, .nil⟩, ?_, ?_⟩
  · rintro ks H' x ⟨F', mo, sm, rk⟩ hx
    obtain ⟨it, hit, rit⟩ := reps_get rws hx
    have hH' : H' q = some (.met g a) := by
      obtain ⟨_, o, e1, r1⟩ := mo.mem q _ mup_same
      cases r1 with | raw _ _ => exact e1
    refine ⟨q, a, rfl, hH', [od, it], _, F', fun d M' => d = key it ∧ M' = mup M2 q (.raw (.met g a)), noX, mo, .cons (r2.up sm) (.cons (rit.up sm) .nil), hd it (List.mem_of_getElem? hit) _ le _ ⟨rfl, rfl⟩, ?_, folx0⟩
    rintro d M' F'' y H'' m e r ⟨rfl, rfl⟩
    refine ⟨F'', m, sm.trans e, ?_⟩
    have : items.take (ks ++ [y]).length = items.take ks.length ++ [it] := by rw [List.length_append, List.length_singleton, List.take_succ, hit]; rfl
    rw [this, List.map_append]
    exact (rk.up e).app (.cons r .nil)
  · rintro ks H' ⟨F', mo, sm, rk⟩ hl
    have : items.take ks.length = items := List.take_of_length_le (by rw [hl, rws.len]; exact Nat.le_refl _)
    rw [this] at rk
    refine ⟨(items.map key).map toP, dpAll_flat mo.sub rk hk.1, hk.2.1, hk.2.2, hk.depth, fun p hp => ?_⟩
    rw [List.map_map]
    exact fol_new (fol.up ((e1.trans e2).trans sm)) (mo.less le) hp (new_lst hp (mo.less le) (sorted_reps key (rws.up sm))) q3
end
end Dp
/-! D15: methods of lists and dicts, isinstance, dict(). -/
namespace Dp
open PySem PySem.Spec L2
abbrev DM := D → List D → Mem → (D → Mem → Prop) → Prop
def LiftM (K : PySem.W.Frag) (r : V → List V → Hp → VK → Prop) (r' : DM) : Prop := ∀ M F H x dx xs ds R Q, MOk K M F H → Rep K F x dx → Reps K F xs ds → r' dx ds M R → Fol K F R Q → r x xs H (SzQ K Q)
def dBM (r' : DM) (to : DTE) (t : DTA) (Γ : DSt) (M : Mem) (R : D → Mem → Prop) : Prop := to Γ M fun d M1 => (lstOf M1 d).isSome = true ∧ t Γ M1 fun ds M2 => r' d ds M2 R
theorem reps0 {K : PySem.W.Frag} {F : Hp} {vs : List V} (r : Reps K F vs []) : vs = [] := by cases r; rfl
section
variable {X : Cx} {B : Hp} {o e : Expr} {es : List Expr} {to : DTE} {t : DTA} {name : Str} {apos cpos : Pos} {id : String} {r : V → List V → Hp → VK → Prop} {r' : DM}
theorem tyV_lst {K : PySem.W.Frag} {M : Mem} {F H : Hp} (mo : MOk K M F H) {d : D} {v : V} (q : Rep K F v d) (h : (lstOf M d).isSome = true) : tyV K "list" v H := by
  cases e : lstOf M d with
  | none => rw [e] at h; cases h
  | some xs =>
    obtain ⟨a, vs, rfl, hs, _⟩ := lstOf_rep mo q e
    exact .inl ⟨rfl, vs, hs⟩
theorem de_bm (slot : Slot "list" name id) (hty : typeOf (.builtin id) = pure (.type "method_descriptor")) (hm : MtR X id r) (l : LiftM X.K r r') (ho : DE X B o to) (ha : DA X B (e :: es) t)
    (hbase : attributeBase o name X.env (eval o X.env) = eval o X.env := by rfl)
    (hfew : ((backTo cpos (starEach (e :: es) X.env)).all (fun x => !x.1) && (backToKw cpos (keywordEach [] X.env)).all (fun x => x.1.isSome)
      && decide ((e :: es).length + ([] : List Keyword).length + (if ([] : List Keyword).isEmpty then 0 else 1) < 30)) = true := by rfl)
    (hline : (apos.endLine == cpos.line) = true := by rfl) (hs : starEach (e :: es) X.env = (false, eval e X.env) :: starEach es X.env := by rfl) (hplain : (backTo cpos (starEach es X.env)).any (·.1) = false := by rfl) :
    DE X B (.Call (.Attribute o name apos) (e :: es) [] cpos) (dBM r' to t) :=
  de_of (pe_bm PySem.F.plainAttrs_list slot hty hm ho ha hbase hfew hline hs hplain) fun Γ M F σ H R Q so ht fol =>
    ⟨Γ, M, F, _, so, ht, fun d M1 F1 v H1 m1 e1 r1 q1 => ⟨tyV_lst m1 r1 q1.1, Γ, M1, F1, _, so.step e1 m1, q1.2, fun ds M2 F2 vs H2 m2 e2 r2 q2 => l M2 F2 H2 v d vs ds R Q m2 (r1.up e2) r2 q2 (fol.up (e1.trans e2))⟩⟩
theorem de_bm0 (slot : Slot "list" name id) (hty : typeOf (.builtin id) = pure (.type "method_descriptor")) (hm : MtR X id r) (l : LiftM X.K r r') (ho : DE X B o to)
    (hbase : attributeBase o name X.env (eval o X.env) = eval o X.env := by rfl) (hline : (apos.endLine == cpos.line) = true := by rfl) : DE X B (.Call (.Attribute o name apos) [] [] cpos) (dBM r' to dNil) :=
  de_of (pe_bm0 PySem.F.plainAttrs_list slot hty hm ho hbase hline) fun Γ M F σ H R Q so ht fol =>
    ⟨Γ, M, F, _, so, ht, fun d M1 F1 v H1 m1 e1 r1 q1 => ⟨tyV_lst m1 r1 q1.1, l M1 F1 H1 v d [] [] R Q m1 r1 .nil q1.2 (fol.up e1)⟩⟩
end
/-! the methods -/
def dmApp (o : D) (ds : List D) (M : Mem) (R : D → Mem → Prop) : Prop := match o, ds with
  | .adr a, [y] => (match M a with
    | some (.lst xs) => xs.length < sizeLine ∧ R .non (mup M a (.lst (xs ++ [y])))
    | _ => False)
  | _, _ => False
theorem cell_lst {K : PySem.W.Frag} {M : Mem} {F H : Hp} (mo : MOk K M F H) {a : Addr} {xs : List D} (ha : M a = some (.lst xs)) : ∃ vs, H a = some (.lst vs) ∧ Reps K F vs xs := by
  obtain ⟨_, o, h, r⟩ := mo.mem a _ ha
  cases r with | lst r => exact ⟨_, h, r⟩
theorem l_app {K : PySem.W.Frag} : LiftM K rAppend dmApp := by
  intro M F H x dx xs ds R Q mo rx rs q fol
  unfold dmApp at q
  split at q
  · rename_i a y
    split at q
    · rename_i ys ha
      cases rx.adr_of
      obtain ⟨v, rfl, rv⟩ := reps1 rs
      obtain ⟨vs, h, rr⟩ := cell_lst mo ha
      exact ⟨a, vs, v, rfl, rfl, h, by rw [rr.len]; exact q.1, fol_write fol mo ha (.lst (rr.app (.cons rv .nil))) .non q.2⟩
    · exact q.elim
  · exact q.elim
def dmExt (o : D) (ds : List D) (M : Mem) (R : D → Mem → Prop) : Prop := match o, ds with
  | .adr a, [y] => (match M a, vw M y with
    | some (.lst xs), .lst ys => xs.length + ys.length ≤ sizeLine ∧ R .non (mup M a (.lst (xs ++ ys)))
    | _, _ => False)
  | _, _ => False
theorem l_ext {K : PySem.W.Frag} : LiftM K rExtend dmExt := by
  intro M F H x dx xs ds R Q mo rx rs q fol
  unfold dmExt at q
  split at q
  · rename_i a y
    split at q
    · rename_i zs ys ha hy
      cases rx.adr_of
      obtain ⟨v, rfl, rv⟩ := reps1 rs
      obtain ⟨vs, h, rr⟩ := cell_lst mo ha
      obtain ⟨b, ws, rfl, hb, rb⟩ := vw_lst mo rv hy
      exact ⟨a, b, vs, ws, rfl, rfl, h, hb, by rw [rr.len, rb.len]; exact q.1, fol_write fol mo ha (.lst (rr.app rb)) .non q.2⟩
    · exact q.elim
  · exact q.elim
theorem reps_last {K : PySem.W.Frag} {F : Hp} : ∀ {vs : List V} {ds : List D}, Reps K F vs ds → Reps K F vs.dropLast ds.dropLast
  | _, _, .nil => .nil
  | _, _, .cons r .nil => .nil
  | _, _, .cons r (.cons r2 t) => .cons r (reps_last (.cons r2 t))
def dmPop (o : D) (ds : List D) (M : Mem) (R : D → Mem → Prop) : Prop := match o, ds with
  | .adr a, [] => (match M a with
    | some (.lst xs) => (match xs[xs.length - 1]? with
      | some y => R y (mup M a (.lst xs.dropLast))
      | none => False)
    | _ => False)
  | _, _ => False
theorem reps_get' {K : PySem.W.Frag} {F : Hp} {vs : List V} {ds : List D} (r : Reps K F vs ds) {i : Nat} {d : D} (h : ds[i]? = some d) : ∃ v, vs[i]? = some v ∧ Rep K F v d := by
  have hi : i < vs.length := by rw [r.len]; exact (List.getElem?_eq_some_iff.mp h).1
  exact ⟨vs[i], List.getElem?_eq_getElem hi, r.at_ i _ _ (List.getElem?_eq_getElem hi) h⟩
theorem l_pop {K : PySem.W.Frag} : LiftM K rPop dmPop := by
  intro M F H x dx xs ds R Q mo rx rs q fol
  unfold dmPop at q
  split at q
  · rename_i a
    split at q
    · rename_i ys ha
      split at q
      · rename_i y hy
        cases rx.adr_of
        cases reps0 rs
        obtain ⟨vs, h, rr⟩ := cell_lst mo ha
        obtain ⟨v, hv, rv⟩ := reps_get' rr hy
        exact ⟨a, vs, v, rfl, rfl, h, by rw [rr.len]; exact hv, fol_write fol mo ha (.lst (reps_last rr)) rv q⟩
      · exact q.elim
    · exact q.elim
  · exact q.elim
theorem reps_erase {K : PySem.W.Frag} {F : Hp} : ∀ {vs : List V} {ds : List D} (j : Nat), Reps K F vs ds → Reps K F (vs.eraseIdx j) (ds.eraseIdx j)
  | _, _, _, .nil => .nil
  | _, _, 0, .cons r t => t
  | _, _, j + 1, .cons r t => .cons r (reps_erase j t)
def dmPopAt (o : D) (ds : List D) (M : Mem) (R : D → Mem → Prop) : Prop := match o, ds with
  | .adr a, [.int i] => (match M a with
    | some (.lst xs) => -(2 ^ 63) ≤ i ∧ i < 2 ^ 63 ∧ ∃ k y, seqIndex? i xs.length = some k ∧ xs[k]? = some y ∧ R y (mup M a (.lst (xs.eraseIdx k)))
    | _ => False)
  | _, _ => False
theorem l_popAt {K : PySem.W.Frag} : LiftM K rPopAt dmPopAt := by
  intro M F H x dx xs ds R Q mo rx rs q fol
  unfold dmPopAt at q
  split at q
  · rename_i a i
    split at q
    · rename_i ys ha
      obtain ⟨h1, h2, k, y, e1, e2, q⟩ := q
      cases rx.adr_of
      obtain ⟨v, rfl, rv⟩ := reps1 rs
      cases rv.int_of
      obtain ⟨vs, h, rr⟩ := cell_lst mo ha
      obtain ⟨w, hw, rw'⟩ := reps_get' rr e2
      exact ⟨a, vs, i, k, w, rfl, rfl, h, h1, h2, by rw [rr.len]; exact e1, hw, fol_write fol mo ha (.lst (reps_erase k rr)) rw' q⟩
    · exact q.elim
  · exact q.elim
/-! remove, index -/
def rRemove : V → List V → Hp → VK → Prop := fun x xs H Q => ∃ (l : Addr) (ys : List V) (y : V) (j : Nat) (z : V), x = .ref l ∧ xs = [y] ∧ H l = some (.lst ys) ∧ flatV y = true ∧ ys.all flatV = true ∧ ys[j]? = some z ∧ eqV z y = true ∧
  (∀ (m : Nat) (z' : V), m < j → ys[m]? = some z' → eqV z' y = false) ∧ Q .non (upd H l (.lst (ys.eraseIdx j)))
theorem mt_remove {X : Cx} : MtR X "list.remove" rRemove := by
  intro pins s σ H x xs v us Q I rx rxs h
  obtain ⟨l, ys, y, j, z, rfl, rfl, hH, fy, fys, hz, hzj, hno, q⟩ := h
  cases rx
  obtain ⟨uy, rfl, ry⟩ := vals1 rxs
  obtain ⟨hsz, its, n, r, hl, e⟩ := I.lstM hH
  obtain ⟨u, hu, ru⟩ := r.get hz
  obtain ⟨hjl, hje⟩ := List.getElem?_eq_some_iff.mp hu
  have hj : j < its.toArray.size := by simpa using hjl
  refine call_meets PySem.F.slot_list_remove ⟨_, e, rfl⟩ PySem.F.entry_list_remove (PySem.F.args_list_remove_2 _ _)
    (SeqAt.list_removeAt l its.toArray n none #[] uy (eqU y) j hj ?_ ?_ (by rw [List.size_toArray]; omega)) ⟨e, fun u' hu' => mem_eqAt ry fy r fys u' (by simpa using hu'), ?_⟩
  · have e1 : its.toArray[j] = u := by simpa using hje
    rw [e1, eqU_of ru (flat_at fys hz)]
    exact hzj
  · intro m hm hmj
    have hml : m < its.length := by simpa using hm
    have hmy : m < ys.length := by omega
    have hy' : ys[m]? = some ys[m] := List.getElem?_eq_getElem hmy
    obtain ⟨u2, hu2, ru2⟩ := r.get hy'
    obtain ⟨_, hme⟩ := List.getElem?_eq_some_iff.mp hu2
    have e1 : its.toArray[m] = u2 := by simpa using hme
    rw [e1, eqU_of ru2 (flat_at fys hy')]
    exact hno m _ hmj hy'
  · refine ⟨.non, _, I.lset (its' := its.eraseIdx j) (t' := s.toks) hH e ?_ (r.eraseIdx j) ?_, rfl, q⟩
    · show its.toArray.eraseIdxIfInBounds j = (its.eraseIdx j).toArray
      rw [List.eraseIdxIfInBounds_toArray]
    · have z2 := len_erase ys j
      omega
def dmRem (o : D) (ds : List D) (M : Mem) (R : D → Mem → Prop) : Prop := match o, ds with
  | .adr a, [y] => (match M a with
    | some (.lst xs) => sc y = true ∧ xs.all sc = true ∧ ∃ j z, xs[j]? = some z ∧ eqS z y = true ∧ (∀ (m : Nat) z', m < j → xs[m]? = some z' → eqS z' y = false) ∧ R .non (mup M a (.lst (xs.eraseIdx j)))
    | _ => False)
  | _, _ => False
theorem l_rem {K : PySem.W.Frag} : LiftM K rRemove dmRem := by
  intro M F H x dx xs ds R Q mo rx rs q fol
  unfold dmRem at q
  split at q
  · rename_i a y
    split at q
    · rename_i ys ha
      obtain ⟨s1, s2, j, z, e1, e2, hno, q⟩ := q
      cases rx.adr_of
      obtain ⟨v, rfl, rv⟩ := reps1 rs
      obtain ⟨vs, h, rr⟩ := cell_lst mo ha
      obtain ⟨w, hw, rw'⟩ := reps_get' rr e1
      have sc_at : ∀ (m : Nat) d, ys[m]? = some d → sc d = true := fun m d hd => List.all_eq_true.mp s2 d (List.mem_of_getElem? hd)
      refine ⟨a, vs, v, j, w, rfl, rfl, h, sc_flat rv s1, sc_flats rr s2, hw, by rw [eqS_rep rw' rv (sc_at _ _ e1) s1]; exact e2, fun m z' hm hz' => ?_, fol_write fol mo ha (.lst (reps_erase j rr)) .non q⟩
      obtain ⟨d, hd, rd⟩ := reps_get rr hz'
      rw [eqS_rep rd rv (sc_at _ _ hd) s1]
      exact hno m d hm hd
    · exact q.elim
  · exact q.elim
def dmIdx (o : D) (ds : List D) (M : Mem) (R : D → Mem → Prop) : Prop := match ds with
  | [y] => (match lstOf M o with
    | some xs => sc y = true ∧ xs.all sc = true ∧ ∃ j z, xs[j]? = some z ∧ eqS z y = true ∧ (∀ (m : Nat) z', m < j → xs[m]? = some z' → eqS z' y = false) ∧ R (.int (j : Nat)) M
    | _ => False)
  | _ => False
theorem l_idx {K : PySem.W.Frag} : LiftM K (rIndex K) dmIdx := by
  intro M F H x dx xs ds R Q mo rx rs q fol
  unfold dmIdx at q
  split at q
  · rename_i y
    split at q
    · rename_i ys ha
      obtain ⟨s1, s2, j, z, e1, e2, hno, q⟩ := q
      obtain ⟨a, vs, rfl, h, rr⟩ := lstOf_rep mo rx ha
      obtain ⟨v, rfl, rv⟩ := reps1 rs
      obtain ⟨w, hw, rw'⟩ := reps_get' rr e1
      have sc_at : ∀ (m : Nat) d, ys[m]? = some d → sc d = true := fun m d hd => List.all_eq_true.mp s2 d (List.mem_of_getElem? hd)
      refine ⟨a, vs, v, j, w, rfl, rfl, h, sc_flat rv s1, sc_flats rr s2, hw, by rw [eqS_rep rw' rv (sc_at _ _ e1) s1]; exact e2, fun m z' hm hz' => ?_, fol_at fol mo (.int _) q⟩
      obtain ⟨d, hd, rd⟩ := reps_get rr hz'
      rw [eqS_rep rd rv (sc_at _ _ hd) s1]
      exact hno m d hm hd
    · exact q.elim
  · exact q.elim
section
variable {X : Cx} {B : Hp} {o e : Expr} {es : List Expr} {to : DTE} {t : DTA} {apos cpos : Pos}
theorem de_app {te : DTE} (ho : DE X B o to) (he : DE X B e te) (hbase : attributeBase o "append" X.env (eval o X.env) = eval o X.env := by rfl)
    (hfew : ((backTo cpos (starEach [e] X.env)).all (fun x => !x.1) && (backToKw cpos (keywordEach [] X.env)).all (fun x => x.1.isSome) && decide (([e] : List Expr).length + ([] : List Keyword).length + (if ([] : List Keyword).isEmpty then 0 else 1) < 30)) = true := by rfl)
    (hline : (apos.endLine == cpos.line) = true := by rfl) (hs : starEach [e] X.env = (false, eval e X.env) :: starEach [] X.env := by rfl) : DE X B (.Call (.Attribute o "append" apos) [e] [] cpos) (dBM dmApp to (dCons te dNil)) :=
  de_bm PySem.F.slot_list_append PySem.F.type_list_append mt_append l_app ho (da_cons he da_nil hs) hbase hfew hline hs rfl
theorem de_extend {te : DTE} (ho : DE X B o to) (he : DE X B e te) (hbase : attributeBase o "extend" X.env (eval o X.env) = eval o X.env := by rfl)
    (hfew : ((backTo cpos (starEach [e] X.env)).all (fun x => !x.1) && (backToKw cpos (keywordEach [] X.env)).all (fun x => x.1.isSome) && decide (([e] : List Expr).length + ([] : List Keyword).length + (if ([] : List Keyword).isEmpty then 0 else 1) < 30)) = true := by rfl)
    (hline : (apos.endLine == cpos.line) = true := by rfl) (hs : starEach [e] X.env = (false, eval e X.env) :: starEach [] X.env := by rfl) : DE X B (.Call (.Attribute o "extend" apos) [e] [] cpos) (dBM dmExt to (dCons te dNil)) :=
  de_bm PySem.F.slot_list_extend PySem.F.type_list_extend mt_extend l_ext ho (da_cons he da_nil hs) hbase hfew hline hs rfl
theorem de_remove {te : DTE} (ho : DE X B o to) (he : DE X B e te) (hbase : attributeBase o "remove" X.env (eval o X.env) = eval o X.env := by rfl)
    (hfew : ((backTo cpos (starEach [e] X.env)).all (fun x => !x.1) && (backToKw cpos (keywordEach [] X.env)).all (fun x => x.1.isSome) && decide (([e] : List Expr).length + ([] : List Keyword).length + (if ([] : List Keyword).isEmpty then 0 else 1) < 30)) = true := by rfl)
    (hline : (apos.endLine == cpos.line) = true := by rfl) (hs : starEach [e] X.env = (false, eval e X.env) :: starEach [] X.env := by rfl) : DE X B (.Call (.Attribute o "remove" apos) [e] [] cpos) (dBM dmRem to (dCons te dNil)) :=
  de_bm PySem.F.slot_list_remove PySem.F.type_list_remove mt_remove l_rem ho (da_cons he da_nil hs) hbase hfew hline hs rfl
theorem de_index {te : DTE} (ho : DE X B o to) (he : DE X B e te) (hbase : attributeBase o "index" X.env (eval o X.env) = eval o X.env := by rfl)
    (hfew : ((backTo cpos (starEach [e] X.env)).all (fun x => !x.1) && (backToKw cpos (keywordEach [] X.env)).all (fun x => x.1.isSome) && decide (([e] : List Expr).length + ([] : List Keyword).length + (if ([] : List Keyword).isEmpty then 0 else 1) < 30)) = true := by rfl)
    (hline : (apos.endLine == cpos.line) = true := by rfl) (hs : starEach [e] X.env = (false, eval e X.env) :: starEach [] X.env := by rfl) : DE X B (.Call (.Attribute o "index" apos) [e] [] cpos) (dBM dmIdx to (dCons te dNil)) :=
  de_bm PySem.F.slot_list_index PySem.F.type_list_index mt_index l_idx ho (da_cons he da_nil hs) hbase hfew hline hs rfl
theorem de_popAt {te : DTE} (ho : DE X B o to) (he : DE X B e te) (hbase : attributeBase o "pop" X.env (eval o X.env) = eval o X.env := by rfl)
    (hfew : ((backTo cpos (starEach [e] X.env)).all (fun x => !x.1) && (backToKw cpos (keywordEach [] X.env)).all (fun x => x.1.isSome) && decide (([e] : List Expr).length + ([] : List Keyword).length + (if ([] : List Keyword).isEmpty then 0 else 1) < 30)) = true := by rfl)
    (hline : (apos.endLine == cpos.line) = true := by rfl) (hs : starEach [e] X.env = (false, eval e X.env) :: starEach [] X.env := by rfl) : DE X B (.Call (.Attribute o "pop" apos) [e] [] cpos) (dBM dmPopAt to (dCons te dNil)) :=
  de_bm PySem.F.slot_list_pop PySem.F.type_list_pop mt_popAt l_popAt ho (da_cons he da_nil hs) hbase hfew hline hs rfl
theorem de_pop (ho : DE X B o to) (hbase : attributeBase o "pop" X.env (eval o X.env) = eval o X.env := by rfl) (hline : (apos.endLine == cpos.line) = true := by rfl) : DE X B (.Call (.Attribute o "pop" apos) [] [] cpos) (dBM dmPop to dNil) :=
  de_bm0 PySem.F.slot_list_pop PySem.F.type_list_pop mt_pop l_pop ho hbase hline
/-! dict methods -/
def isDict (M : Mem) (d : D) : Bool := match vw M d with
  | .dK _ => true
  | .dT _ => true
  | _ => false
theorem isD_rep {K : PySem.W.Frag} {M : Mem} {F H : Hp} (mo : MOk K M F H) {d : D} {v : V} (r : Rep K F v d) (h : isDict M d = true) : ∃ a, v = .ref a ∧ IsD H a := by
  unfold isDict at h
  split at h
  · rename_i k e; obtain ⟨a, vs, rfl, h, _⟩ := vw_dK mo r e; exact ⟨a, rfl, .inl ⟨_, h⟩⟩
  · rename_i k e; obtain ⟨a, vs, rfl, h, _⟩ := vw_dT mo r e; exact ⟨a, rfl, .inr ⟨_, h⟩⟩
  · cases h
def dGet1 (td ty : DTE) (Γ : DSt) (M : Mem) (R : D → Mem → Prop) : Prop := td Γ M fun d M1 => isDict M1 d = true ∧ ty Γ M1 fun y M2 => match dictAt M2 d y with
  | some o => R (o.getD .non) M2
  | none => False
def dGet2 (td ty tz : DTE) (Γ : DSt) (M : Mem) (R : D → Mem → Prop) : Prop := td Γ M fun d M1 => isDict M1 d = true ∧ ty Γ M1 fun y M2 => tz Γ M2 fun z M3 => match dictAt M3 d y with
  | some o => R (o.getD z) M3
  | none => False
theorem de_get1 {ty : DTE} (hu : X.A.units + 1 < cLine) (ho : DE X B o to) (he : DE X B e ty) (hbase : attributeBase o "get" X.env (eval o X.env) = eval o X.env := by rfl)
    (hfew : ((backTo cpos (starEach [e] X.env)).all (fun x => !x.1) && (backToKw cpos (keywordEach [] X.env)).all (fun x => x.1.isSome) && decide (([e] : List Expr).length + ([] : List Keyword).length + (if ([] : List Keyword).isEmpty then 0 else 1) < 30)) = true := by rfl)
    (hline : (apos.endLine == cpos.line) = true := by rfl) (htr : backTo cpos (starEach [e] X.env) = [(false, eval e X.env)] := by rfl) : DE X B (.Call (.Attribute o "get" apos) [e] [] cpos) (dGet1 to ty) :=
  de_of (pe_dget1 hu ho he ⟨hbase, hfew, hline, htr⟩) fun Γ M F σ H R Q so ht fol => ⟨Γ, M, F, _, so, ht, fun d M1 F1 v H1 m1 e1 r1 q1 => by
    obtain ⟨a, rfl, hd⟩ := isD_rep m1 r1 q1.1
    refine ⟨a, rfl, hd, Γ, M1, F1, _, so.step e1 m1, q1.2, fun y M2 F2 w H2 m2 e2 r2 q2 => ?_⟩
    split at q2
    · rename_i oo ed
      obtain ⟨p, u, ep, g, h⟩ := dictAt_rep m2 (r1.up e2) r2 ed
      cases ep
      rcases h with ⟨rfl, rfl⟩ | ⟨w', d', rfl, rfl, r3⟩
      · exact ⟨none, g, fol_at (fol.up (e1.trans e2)) m2 .non q2⟩
      · exact ⟨some w', g, fol_at (fol.up (e1.trans e2)) m2 r3 q2⟩
    · exact q2.elim⟩
theorem de_get2 {f : Expr} {ty tz : DTE} (hu : X.A.units + 1 < cLine) (ho : DE X B o to) (he : DE X B e ty) (hf : DE X B f tz) (hbase : attributeBase o "get" X.env (eval o X.env) = eval o X.env := by rfl)
    (hfew : ((backTo cpos (starEach [e, f] X.env)).all (fun x => !x.1) && (backToKw cpos (keywordEach [] X.env)).all (fun x => x.1.isSome) && decide (([e, f] : List Expr).length + ([] : List Keyword).length + (if ([] : List Keyword).isEmpty then 0 else 1) < 30)) = true := by rfl)
    (hline : (apos.endLine == cpos.line) = true := by rfl) (htr : backTo cpos (starEach [e, f] X.env) = [(false, eval e X.env), (false, eval f X.env)] := by rfl) : DE X B (.Call (.Attribute o "get" apos) [e, f] [] cpos) (dGet2 to ty tz) :=
  de_of (pe_dget2 hu ho he hf ⟨hbase, hfew, hline, htr⟩) fun Γ M F σ H R Q so ht fol => ⟨Γ, M, F, _, so, ht, fun d M1 F1 v H1 m1 e1 r1 q1 => by
    obtain ⟨a, rfl, hd⟩ := isD_rep m1 r1 q1.1
    refine ⟨a, rfl, hd, Γ, M1, F1, _, so.step e1 m1, q1.2, fun y M2 F2 w H2 m2 e2 r2 q2 => ⟨Γ, M2, F2, _, (so.step e1 m1).step e2 m2, q2, fun z M3 F3 x H3 m3 e3 r3 q3 => ?_⟩⟩
    split at q3
    · rename_i oo ed
      obtain ⟨p, u, ep, g, h⟩ := dictAt_rep m3 ((r1.up e2).up e3) (r2.up e3) ed
      cases ep
      rcases h with ⟨rfl, rfl⟩ | ⟨w', d', rfl, rfl, r4⟩
      · exact ⟨none, g, fol_at (fol.up ((e1.trans e2).trans e3)) m3 r3 q3⟩
      · exact ⟨some w', g, fol_at (fol.up ((e1.trans e2).trans e3)) m3 r4 q3⟩
    · exact q3.elim⟩
/-- d.pop(k), k is there -/
def dPop1 (td ty : DTE) (Γ : DSt) (M : Mem) (R : D → Mem → Prop) : Prop := td Γ M fun d M1 => isDict M1 d = true ∧ ty Γ M1 fun y M2 => match d with
  | .adr a => (match M2 a, keyOf y with
    | some (.dK kvs), some k => (match look kvs k with
      | some v => R v (mup M2 a (.dK (drop kvs k)))
      | none => False)
    | _, _ => False)
  | _ => False
def dPop2 (td ty tz : DTE) (Γ : DSt) (M : Mem) (R : D → Mem → Prop) : Prop := td Γ M fun d M1 => isDict M1 d = true ∧ ty Γ M1 fun y M2 => tz Γ M2 fun z M3 => match d with
  | .adr a => (match M3 a, keyOf y with
    | some (.dK kvs), some k => (match look kvs k with
      | some v => R v (mup M3 a (.dK (drop kvs k)))
      | none => R z M3)
    | _, _ => False)
  | _ => False
theorem de_dpop1 {ty : DTE} (ho : DE X B o to) (he : DE X B e ty) (hbase : attributeBase o "pop" X.env (eval o X.env) = eval o X.env := by rfl)
    (hfew : ((backTo cpos (starEach [e] X.env)).all (fun x => !x.1) && (backToKw cpos (keywordEach [] X.env)).all (fun x => x.1.isSome) && decide (([e] : List Expr).length + ([] : List Keyword).length + (if ([] : List Keyword).isEmpty then 0 else 1) < 30)) = true := by rfl)
    (hline : (apos.endLine == cpos.line) = true := by rfl) (htr : backTo cpos (starEach [e] X.env) = [(false, eval e X.env)] := by rfl) : DE X B (.Call (.Attribute o "pop" apos) [e] [] cpos) (dPop1 to ty) :=
  de_of (pe_dpop1 ho he ⟨hbase, hfew, hline, htr⟩) fun Γ M F σ H R Q so ht fol => ⟨Γ, M, F, _, so, ht, fun d M1 F1 v H1 m1 e1 r1 q1 => by
    obtain ⟨a, rfl, hd⟩ := isD_rep m1 r1 q1.1
    refine ⟨a, rfl, hd, Γ, M1, F1, _, so.step e1 m1, q1.2, fun y M2 F2 w H2 m2 e2 r2 q2 => ?_⟩
    split at q2
    · rename_i b
      cases r1.adr_of
      split at q2
      · rename_i kvs k ha ek
        split at q2
        · rename_i v ev
          obtain ⟨_, ob, hH, rr⟩ := m2.mem a _ ha
          cases rr with
          | dK rr =>
            rcases look_rep k rr with ⟨a1, _⟩ | ⟨w', d', a1, b1, c1⟩
            · rw [a1] at ev; cases ev
            · rw [a1] at ev; cases ev
              exact ⟨_, k, w', hH, keyOf_rep r2 ek, b1, fol_write (fol.up (e1.trans e2)) m2 ha (.dK (drop_rep k rr)) c1 q2⟩
        · exact q2.elim
      · exact q2.elim
    · exact q2.elim⟩
theorem de_dpop2 {f : Expr} {ty tz : DTE} (ho : DE X B o to) (he : DE X B e ty) (hf : DE X B f tz) (hbase : attributeBase o "pop" X.env (eval o X.env) = eval o X.env := by rfl)
    (hfew : ((backTo cpos (starEach [e, f] X.env)).all (fun x => !x.1) && (backToKw cpos (keywordEach [] X.env)).all (fun x => x.1.isSome) && decide (([e, f] : List Expr).length + ([] : List Keyword).length + (if ([] : List Keyword).isEmpty then 0 else 1) < 30)) = true := by rfl)
    (hline : (apos.endLine == cpos.line) = true := by rfl) (htr : backTo cpos (starEach [e, f] X.env) = [(false, eval e X.env), (false, eval f X.env)] := by rfl) : DE X B (.Call (.Attribute o "pop" apos) [e, f] [] cpos) (dPop2 to ty tz) :=
  de_of (pe_dpop2 ho he hf ⟨hbase, hfew, hline, htr⟩) fun Γ M F σ H R Q so ht fol => ⟨Γ, M, F, _, so, ht, fun d M1 F1 v H1 m1 e1 r1 q1 => by
    obtain ⟨a, rfl, hd⟩ := isD_rep m1 r1 q1.1
    refine ⟨a, rfl, hd, Γ, M1, F1, _, so.step e1 m1, q1.2, fun y M2 F2 w H2 m2 e2 r2 q2 => ⟨Γ, M2, F2, _, (so.step e1 m1).step e2 m2, q2, fun z M3 F3 x H3 m3 e3 r3 q3 => ?_⟩⟩
    split at q3
    · rename_i b
      cases r1.adr_of
      split at q3
      · rename_i kvs k ha ek
        obtain ⟨_, ob, hH, rr⟩ := m3.mem a _ ha
        cases rr with
        | dK rr =>
          have f3 := fol.up ((e1.trans e2).trans e3)
          refine ⟨_, k, hH, keyOf_rep r2 ek, fun v' ev' => ?_, fun en => ?_⟩
          · rcases look_rep k rr with ⟨a1, b1⟩ | ⟨w', d', a1, b1, c1⟩
            · rw [b1] at ev'; cases ev'
            · rw [b1] at ev'; cases ev'
              rw [a1] at q3
              exact fol_write f3 m3 ha (.dK (drop_rep k rr)) c1 q3
          · rcases look_rep k rr with ⟨a1, b1⟩ | ⟨w', d', a1, b1, c1⟩
            · rw [a1] at q3
              exact fol_at f3 m3 r3 q3
            · rw [b1] at en; cases en
      · exact q3.elim
    · exact q3.elim⟩
end
end Dp
/-! D16: isinstance, dict(), == of dicts, displays of dicts. -/
namespace Dp
open PySem PySem.Spec L2
/-! ### isinstance(x, T), T built in -/
def tyOf (M : Mem) (d : D) : Option String := match vw M d with
  | .non => some "NoneType"
  | .bl _ => some "bool"
  | .int _ => some "int"
  | .str _ => some "str"
  | .lst _ => some "list"
  | .tup _ => some "tuple"
  | .dK _ => some "dict"
  | _ => none
def dIsi (ds : List D) (M : Mem) (R : D → Mem → Prop) : Prop := match ds with
  | [x, .ty n] => (match (tyOf M x).bind fun a => kitB a n with
    | some b => R (.bl b) M
    | none => False)
  | _ => False
theorem Rep.ty_of {K : PySem.W.Frag} {F : Hp} {v : V} {n : String} (h : Rep K F v (.ty n)) : v = .ty n := by cases h; rfl
section
variable {K : PySem.W.Frag}
theorem tyX_of {M : Mem} {F H : Hp} (mo : MOk K M F H) {d : D} {v : V} (r : Rep K F v d) {n : String} (e : tyOf M d = some n) : TyX K H v (.type n) := by
  unfold tyOf at e
  split at e <;> cases e
  · rename_i ev; rw [vw_non r ev]; exact .base (by constructor)
  · rename_i ev; rw [vw_bl r ev]; exact .base (by constructor)
  · rename_i ev; rw [vw_int r ev]; exact .base (by constructor)
  · rename_i ev; rw [vw_str r ev]; exact .base (by constructor)
  · rename_i ev; obtain ⟨a, vs, rfl, h, _⟩ := vw_lst mo r ev; exact .base (by constructor; exact h)
  · rename_i ev; obtain ⟨a, vs, rfl, _, h, _⟩ := vw_tup mo r ev; exact .base (by constructor; exact h)
  · rename_i ev; obtain ⟨a, vs, rfl, h, _⟩ := vw_dK mo r ev
    rcases h with h | ⟨o, h⟩
    · exact .base (by constructor; exact h)
    · exact .fDict h
theorem l_isi : LiftL K (rIsi K) dIsi := by
  intro M F H xs ds R Q mo rs q fol
  unfold dIsi at q
  split at q
  · rename_i x n
    obtain ⟨v, v2, rfl, r, r2⟩ := reps2 rs
    cases r2.ty_of
    split at q
    · rename_i b eb
      obtain ⟨a, e1, e2⟩ := Option.bind_eq_some_iff.mp eb
      exact ⟨v, .ty n, .type a, .type n, b, rfl, .ty n, tyX_of mo r e1, kit_ty e2, fol_at fol mo (.bl _) q⟩
    · exact q.elim
  · exact q.elim
/-! ### dict(x) -/
def pairOf (M : Mem) : D → Option (Key × D)
  | .tup [k, v] => (keyOf k).map fun x => (x, v)
  | _ => none
def prsOf : List D → Option (List (Key × D))
  | [] => some []
  | .tup [k, v] :: r => match keyOf k, prsOf r with
    | some x, some xs => some ((x, v) :: xs)
    | _, _ => none
  | _ => none
def dDictP (fz : Bool) (ds : List D) (M : Mem) (R : D → Mem → Prop) : Prop := match ds with
  | [d] => (match (lstOf M d).bind prsOf with
    | some kvs => if fz then R (.dK (merge [] kvs)) M else ∀ a, M a = none → R (.adr a) (mup M a (.dK (merge [] kvs)))
    | none => False)
  | _ => False
theorem prsOf_rep {F : Hp} : ∀ {vs : List V} {ds : List D} {kvs : List (Key × D)}, Reps K F vs ds → prsOf ds = some kvs →
    ∃ (ps : List Addr) (ws : List (Key × V)), vs = ps.map V.ref ∧ Paired (fun p kv => F p = some (.tup [kV kv.1, kv.2])) ps ws ∧ RepsK K F ws kvs
  | _, _, _, .nil, e => by cases e; exact ⟨[], [], rfl, .nil, .nil⟩
  | _, _, _, .cons (b := d) r t, e => by
    cases d <;> try (simp [prsOf] at e; done)
    rename_i xs
    rcases xs with _ | ⟨k, _ | ⟨v, _ | _⟩⟩ <;> try (simp [prsOf] at e; done)
    simp only [prsOf] at e
    split at e
    · rename_i x ys e1 e2
      cases e
      obtain ⟨ps, ws, rfl, p1, p2⟩ := prsOf_rep t e2
      obtain ⟨a, us, rfl, h, rs⟩ := r.tup_of
      obtain ⟨u1, u2, rfl, r1, r2⟩ := reps2 rs
      cases keyOf_rep r1 e1
      exact ⟨a :: ps, (x, u2) :: ws, rfl, .cons h p1, .cons ⟨rfl, r2⟩ p2⟩
    · cases e
theorem l_dictP (fz : Bool) : LiftL K (fun xs H Q => ∃ (a : Addr) (ps : List Addr) (kvs : List (Key × V)), xs = [.ref a] ∧ SqL K H a (ps.map V.ref) ∧ Paired (fun p kv => SqT K H p [kV kv.1, kv.2]) ps kvs ∧
    ∀ p, H p = none → Q (.ref p) (upd H p (.dK (mergeK [] kvs)))) (dDictP fz) := by
  intro M F H xs ds R Q mo rs q fol
  unfold dDictP at q
  split at q
  · obtain ⟨v, rfl, r⟩ := reps1 rs
    split at q
    · rename_i kvs ek
      obtain ⟨ys, e1, e2⟩ := Option.bind_eq_some_iff.mp ek
      obtain ⟨a, vs, rfl, h, r1⟩ := lstOf_rep mo r e1
      obtain ⟨ps, ws, rfl, p1, p2⟩ := prsOf_rep r1 e2
      refine ⟨a, ps, ws, rfl, h, ?_, fun p hp => ?_⟩
      · clear q p2 e2 r1 h
        induction p1 with
        | nil => exact .nil
        | cons h _ ih => exact .cons (.of (mo.sub _ _ h)) ih
      · have rr := merge_rep p2 (vs := []) (ds := []) .nil
        cases fz with
        | true => exact fol_newK fol mo hp True.intro (new_dK hp mo rr) (by simpa using q)
        | false => exact fol_cell fol mo hp (.dK rr) ((by simpa using q : ∀ a, M a = none → R (.adr a) (mup M a (.dK (merge [] kvs)))) p (mo.mfree hp))
    · exact q.elim
  · exact q.elim
def dDictD (fz : Bool) (ds : List D) (M : Mem) (R : D → Mem → Prop) : Prop := match ds with
  | [d] => (match vw M d with
    | .dK kvs => if fz then R (.dK kvs) M else ∀ a, M a = none → R (.adr a) (mup M a (.dK kvs))
    | _ => False)
  | _ => False
theorem l_dictD (fz : Bool) : LiftL K (fun xs H Q => ∃ (a : Addr) (kvs : List (Key × V)), xs = [.ref a] ∧ Rd H a (.dK kvs) ∧ ∀ p, H p = none → Q (.ref p) (upd H p (.dK kvs))) (dDictD fz) := by
  intro M F H xs ds R Q mo rs q fol
  unfold dDictD at q
  split at q
  · obtain ⟨v, rfl, r⟩ := reps1 rs
    split at q
    · rename_i kvs ek
      obtain ⟨a, vs, rfl, h, r1⟩ := vw_dK mo r ek
      refine ⟨a, vs, rfl, h, fun p hp => ?_⟩
      cases fz with
      | true => exact fol_newK fol mo hp True.intro (new_dK hp mo r1) (by simpa using q)
      | false => exact fol_cell fol mo hp (.dK r1) ((by simpa using q : ∀ a, M a = none → R (.adr a) (mup M a (.dK kvs))) p (mo.mfree hp))
    · exact q.elim
  · exact q.elim
end
/-! ### dicts compared -/
inductive HitsK (K : PySem.W.Frag) (H : Hp) (kb : List (Key × V)) : List (Key × V) → Bool → Prop
  | nil : HitsK K H kb [] true
  | miss {k v r} : valV kb k = none → HitsK K H kb ((k, v) :: r) false
  | hit {k v y r d e b} : valV kb k = some y → L2.Dp K H v d → L2.Dp K H y e → SeqAt.shaped d = true → SeqAt.shaped e = true → HitsK K H kb r b → HitsK K H kb ((k, v) :: r) (PyData.eqv d e && b)
def rEqK (K : PySem.W.Frag) (neg : Bool) : R2 := fun x y H Q => ∃ a b ka kb r, x = .ref a ∧ y = .ref b ∧ Rd H a (.dK ka) ∧ Rd H b (.dK kb) ∧ (ka.length = kb.length → HitsK K H kb ka r) ∧ Q (.bl (if neg then !(ka.length == kb.length && r) else (ka.length == kb.length && r))) H
section
variable {X : Cx}
theorem hits_down {pins : List (Addr × Obj)} {σ : St} {H : Hp} {s : Shared} (hu : X.A.units + 65 < cLine) (I : Inv X pins σ H s) {kb : List (Key × V)} {wb : List (Key × Value)} (rb : KV kb wb) :
    ∀ {ka : List (Key × V)} {wa : List (Key × Value)} {r : Bool}, KV ka wa → HitsK X.K H kb ka r → PySem.W.KeqHits X.A.in1 s wb wa r
  | [], wa, r, ra, h => by
    cases ra with
    | nil => cases h; exact .nil
  | (k, v) :: ka, wa, r, ra, h => by
    cases ra with
    | cons p t =>
      rename_i q wa'
      obtain ⟨k', w'⟩ := q
      obtain ⟨e, rv⟩ := p
      cases e
      cases h with
      | miss h => exact .miss (RelO.none_of (by rw [← h]; exact rb.val k))
      | hit h d1 d2 s1 s2 hr =>
        have := rb.val k
        rw [h] at this
        cases ev : valueAt wb k with
        | none => rw [ev] at this; exact this.elim
        | some u =>
          rw [ev] at this
          obtain ⟨as, q1⟩ := Dp.reads I _ _ _ d1 rv
          obtain ⟨bs, q2⟩ := Dp.reads I _ _ _ d2 this
          refine .hit ev (PySem.W.keq_at q1 q2 s1 s2 ?_) (hits_down hu I rb t hr)
          have e : X.A.in1.units = X.A.units + 1 := rfl
          omega
theorem op_eqK (hu : X.A.units + 65 < cLine) : OpR X (compareOp .Eq) (rEqK X.K false) := by
  intro pins s σ H x y v u Q I rx ry h
  obtain ⟨a, b, ka, kb, r, rfl, rfl, h1, h2, hits, q⟩ := h
  cases rx; cases ry
  obtain ⟨_, la, wa, ra, da⟩ := dk_rd I.hok h1
  obtain ⟨_, lb, wb, rb, db⟩ := dk_rd I.hok h2
  refine PySem.W.keq_eq (r := r) la lb da db (by omega) (fun hl => hits_down hu I rb ra (hits (by rw [ra.length, rb.length]; exact hl))) ?_
  rw [← ra.length, ← rb.length]
  exact ⟨.bl _, H, I, rfl, q⟩
theorem op_neK (hu : X.A.units + 65 < cLine) : OpR X (compareOp .NotEq) (rEqK X.K true) := by
  intro pins s σ H x y v u Q I rx ry h
  obtain ⟨a, b, ka, kb, r, rfl, rfl, h1, h2, hits, q⟩ := h
  cases rx; cases ry
  obtain ⟨_, la, wa, ra, da⟩ := dk_rd I.hok h1
  obtain ⟨_, lb, wb, rb, db⟩ := dk_rd I.hok h2
  refine PySem.W.keq_ne (r := r) la lb da db (by omega) (fun hl => hits_down hu I rb ra (hits (by rw [ra.length, rb.length]; exact hl))) ?_
  rw [← ra.length, ← rb.length]
  exact ⟨.bl _, H, I, rfl, q⟩
end
/-! typed -/
def eqDK (ka kb : List (Key × D)) : Option Bool :=
  if ka.length ≠ kb.length then some false
  else if (ka.all fun p => flatN 9 p.2) && (kb.all fun p => flatN 9 p.2) then some (ka.all fun p => match look kb p.1 with | some y => deq p.2 y | none => false)
  else if ka.isEmpty then some true else none
def dEqK (neg : Bool) (a : D) (b : D) (M : Mem) (R : D → Mem → Prop) : Prop := match vw M a, vw M b with
  | .dK ka, .dK kb => (match eqDK ka kb with
    | some c => R (.bl (if neg then !c else c)) M
    | none => False)
  | _, _ => False
section
variable {K : PySem.W.Frag}
theorem hitsK_of {F H : Hp} (s : Same F H) {kb : List (Key × V)} {db : List (Key × D)} (rb : RepsK K F kb db) (fb : (db.all fun p => flatN 9 p.2) = true) :
    ∀ {ka : List (Key × V)} {da : List (Key × D)}, RepsK K F ka da → (da.all fun p => flatN 9 p.2) = true → ∃ b, HitsK K H kb ka b ∧ b = (da.all fun p => match look db p.1 with | some y => deq p.2 y | none => false)
  | _, _, .nil, _ => ⟨true, .nil, rfl⟩
  | _, _, .cons (a := p) (b := q) r t, fa => by
    obtain ⟨k, v⟩ := p
    obtain ⟨k', d⟩ := q
    obtain ⟨e, rv⟩ := r
    cases e
    simp only [List.all_cons, Bool.and_eq_true] at fa
    obtain ⟨b, hb, eb⟩ := hitsK_of s rb fb t fa.2
    rcases look_rep k rb with ⟨a1, b1⟩ | ⟨w, d', a1, b1, c1⟩
    · refine ⟨false, .miss b1, ?_⟩
      simp [a1]
    · have fd : flatN 9 d' = true := List.all_eq_true.mp fb (k, d') (look_mem a1)
      refine ⟨_, .hit b1 (dp_of s 9 _ _ fa.1 rv) (dp_of s 9 _ _ fd c1) (flat_shaped (by decide) fa.1) (flat_shaped (by decide) fd) hb, ?_⟩
      rw [List.all_cons, a1, eb]
      rfl
theorem l_eqK (neg : Bool) : Lift2 K (rEqK K neg) (dEqK neg) := by
  intro M F H x y dx dy R Q mo rx ry q fol
  unfold dEqK at q
  split at q
  · rename_i ka kb e1 e2
    obtain ⟨a, vs, rfl, h1, r1⟩ := vw_dK mo rx e1
    obtain ⟨b, ws, rfl, h2, r2⟩ := vw_dK mo ry e2
    split at q
    · rename_i c ec
      have q' := fol_at fol mo (.bl _) q
      unfold eqDK at ec
      split at ec
      · rename_i hl
        cases ec
        refine ⟨a, b, vs, ws, true, rfl, rfl, h1, h2, fun hl' => absurd (by rw [← r1.len, ← r2.len]; exact hl') hl, ?_⟩
        have : (vs.length == ws.length) = false := by rw [r1.len, r2.len]; simpa using hl
        rw [this]; exact q'
      · rename_i hl
        have hl' : (vs.length == ws.length) = true := by rw [r1.len, r2.len]; simpa using hl
        split at ec
        · rename_i hf
          simp only [Bool.and_eq_true] at hf
          obtain ⟨bb, hb, eb⟩ := hitsK_of mo.sub r2 hf.2 r1 hf.1
          cases ec
          refine ⟨a, b, vs, ws, bb, rfl, rfl, h1, h2, fun _ => hb, ?_⟩
          rw [hl', Bool.true_and, eb]; exact q'
        · split at ec
          · rename_i he
            cases ec
            have : ka = [] := List.isEmpty_iff.mp he
            subst this
            cases r1 with
            | nil =>
              refine ⟨a, b, [], ws, true, rfl, rfl, h1, h2, fun _ => .nil, ?_⟩
              rw [hl', Bool.true_and]; exact q'
          · cases ec
    · exact q.elim
  · exact q.elim
end
section
variable {X : Cx} {B : Hp} {pos : Pos} {a b : Expr} {ta tb : DTE}
theorem de_eqK (hu : X.A.units + 65 < cLine) (ha : DE X B a ta) (hb : DE X B b tb) (hm : behindInMarks .Eq b = false := by exact nomark _) : DE X B (.Compare a [.Eq] [b] pos) (dOp (dEqK false) ta tb) := de_cmp (op_eqK hu) (l_eqK false) ha hb hm
theorem de_neK (hu : X.A.units + 65 < cLine) (ha : DE X B a ta) (hb : DE X B b tb) (hm : behindInMarks .NotEq b = false := by exact nomark _) : DE X B (.Compare a [.NotEq] [b] pos) (dOp (dEqK true) ta tb) := de_cmp (op_neK hu) (l_eqK true) ha hb hm
theorem dt_eqK (hu : X.A.units + 65 < cLine) (ha : DE X B a ta) (hb : DE X B b tb) (hm : behindInMarks .Eq b = false := by exact nomark _) : DT X B (.Compare a [.Eq] [b] pos) (dTst (dOp (dEqK false) ta tb)) := dt_cmp (op_eqK hu) (l_eqK false) ha hb hm
theorem dt_neK (hu : X.A.units + 65 < cLine) (ha : DE X B a ta) (hb : DE X B b tb) (hm : behindInMarks .NotEq b = false := by exact nomark _) : DT X B (.Compare a [.NotEq] [b] pos) (dTst (dOp (dEqK true) ta tb)) := dt_cmp (op_neK hu) (l_eqK true) ha hb hm
end
end Dp
/-! D17: sets of ints and texts, walked. -/
namespace Dp
open PySem PySem.Spec PyProof.Rows L2
/-- the set with the keys ks at a -/
def SetG (P : Program) (w : World) (h : Heap) (a : Addr) (ks : List Key) : Prop :=
  ∃ o es ep t ks', h.get? a = some o ∧ o.ExactSet ∧ o.data = .set es ep t ∧ Paired (fun (e : Int × Value) k => (mixKind P w).is k e.2 = true ∧ e.1 = (mixKind P w).hash k) es.toList ks' ∧ ks'.Perm ks ∧
    es.size < scanBound ∧ t.fits es.size = true ∧ Ris t.place.toList ∧ (w.params.followText "set-order" = true ∨ t.led = true)
theorem paired_perm {α β : Type} {R : α → β → Prop} {l l' : List α} (p : l.Perm l') : ∀ {ks : List β}, Paired R l' ks → ∃ ks', ks'.Perm ks ∧ Paired R l ks' := by
  induction p with
  | nil => exact fun h => ⟨_, .refl _, h⟩
  | cons x _ ih =>
    intro ks h
    cases h with
    | cons r t => obtain ⟨ks', p, q⟩ := ih t; exact ⟨_ :: ks', p.cons _, .cons r q⟩
  | swap x y l =>
    intro ks h
    cases h with
    | cons r t => cases t with
      | cons r2 t => exact ⟨_, .swap _ _ _, .cons r2 (.cons r t)⟩
  | trans _ _ ih1 ih2 =>
    intro ks h
    obtain ⟨k1, p1, q1⟩ := ih2 h
    obtain ⟨k2, p2, q2⟩ := ih1 q1
    exact ⟨k2, p2.trans p1, q2⟩
section
variable {P : Program} {w : World} {h h' : Heap} {a : Addr} {ks : List Key}
theorem SetG.at_ (R : SetG P w h a ks) (k : ∀ o, h.get? a = some o → h'.get? a = some o) : SetG P w h' a ks := by
  obtain ⟨o, es, ep, t, ks', ho, r⟩ := R
  exact ⟨o, es, ep, t, ks', k o ho, r⟩
theorem elems_of : ∀ {l : List (Int × Value)} {ks : List Key}, Paired (fun (e : Int × Value) k => (mixKind P w).is k e.2 = true ∧ e.1 = (mixKind P w).hash k) l ks → ElemsOf (mixKind P w) l
  | _, _, .nil => fun _ h => nomatch h
  | _, _, .cons (b := k) r t => fun e h => by
    rcases List.mem_cons.mp h with rfl | h
    · exact ⟨⟨k, r⟩, key_scan (keyIs_rel r.1)⟩
    · exact elems_of t e h
theorem mem_of : ∀ {l : List (Int × Value)} {ks : List Key}, Paired (fun (e : Int × Value) k => (mixKind P w).is k e.2 = true ∧ e.1 = (mixKind P w).hash k) l ks → ∀ k, k ∈ ks ↔ ∃ e ∈ l, (mixKind P w).is k e.2 = true
  | _, _, .nil => fun k => by simp
  | _, _, .cons (a := e) (b := k') r t => fun k => by
    rw [List.mem_cons]
    constructor
    · rintro (rfl | h)
      · exact ⟨e, List.mem_cons_self, r.1⟩
      · obtain ⟨e', h1, h2⟩ := (mem_of t k).mp h
        exact ⟨e', List.mem_cons_of_mem _ h1, h2⟩
    · rintro ⟨e', h1, h2⟩
      rcases List.mem_cons.mp h1 with rfl | h1
      · exact .inl ((mixKind P w).inj _ _ _ h2 r.1)
      · exact .inr ((mem_of t k).mpr ⟨e', h1, h2⟩)
theorem setG_size (R : SetG P w h a ks) : ∃ o es ep t, h.get? a = some o ∧ o.cls = .type "set" ∧ o.dict = none ∧ o.data = .set es ep t ∧ es.size = ks.length ∧ t.fits es.size = true := by
  obtain ⟨o, es, ep, t, ks', ho, hex, hd, pr, pm, hb, hf, hr, hl⟩ := R
  exact ⟨o, es, ep, t, ho, hex.1, hex.2.1, hd, by rw [← Array.length_toList, Paired.length pr, pm.length_eq], hf⟩
end
section
variable {P : Program} {w : World} {A : Around} {E : Value → Shared → Prop} {s : Shared} {a : Addr} {ks : List Key}
theorem setG_tail {g : Bool → Sem Unit} (hg : ∀ (b : Bool) (s₁ : Shared) (Q' : Unit → Shared → Prop), Q' () s₁ → wpAny (model P w) A (g b) Q' E s₁)
    {o : Obj} {es : Array (Int × Value)} {ep : Nat} {t : SetTable} (ho : s.heap.get? a = some o) (hex : o.ExactSet) (hd : o.data = .set es ep t)
    {es1 : Array (Int × Value)} {t2 : SetTable} {ks' ks1 : List Key} (pr : Paired (fun (e : Int × Value) k => (mixKind P w).is k e.2 = true ∧ e.1 = (mixKind P w).hash k) es1.toList ks') (pm1 : ks'.Perm ks1)
    (hb1 : es1.size < scanBound) (hf2 : t2.fits es1.size = true) (hr : Ris t2.place.toList) (hl : w.params.followText "set-order" = true ∨ t2.led = true) {wasDummy : Bool} {R : Option Bool → Shared → Prop}
    (hR : ∀ h', Heap.SameBut a s.heap h' → SetG P w h' a ks1 → R (some true) { s with heap := h' }) :
    wpAny (model P w) A (do
        storeSet a es1 t2
        if (!wasDummy && t2.tooFull) = true then do
            g (relayAll t2 es1 (SetTable.grown es1.size)).2.2
            storeSet a (relayAll t2 es1 (SetTable.grown es1.size)).1 (relayAll t2 es1 (SetTable.grown es1.size)).2.1
            pure (some true)
          else pure (some true)) R E s := by
  refine wpAny_bind (wpAny_storeSet_of ho hd ?_ (fits_of_scanBound hb1))
  have ho1 := store_at (es' := es1) (t' := t2) ho hd
  have sb1 := Heap.SameBut.update s.heap a (Obj.putSet es1 t2)
  split
  · have pm := relayAll_perm t2 es1 (SetTable.grown es1.size)
    have hf3 := relayAll_fits t2 es1 (SetTable.grown es1.size)
    have hr3 := relayAll_ris t2 es1 (SetTable.grown es1.size)
    have hl3 := relayAll_led t2 es1 (SetTable.grown es1.size)
    generalize relayAll t2 es1 (SetTable.grown es1.size) = Z at pm hf3 hr3 hl3 ⊢
    obtain ⟨es2, t3, gave⟩ := Z
    dsimp only at pm hf3 hr3 hl3 ⊢
    have hsz : es2.size = es1.size := by rw [← Array.length_toList, pm.length_eq, Array.length_toList]
    have hb2 : es2.size < scanBound := by rw [hsz]; exact hb1
    refine wpAny_bind (hg _ _ _ ?_)
    refine wpAny_bind (wpAny_storeSet_of ho1 rfl ?_ (fits_of_scanBound hb2))
    have ho2 := store_at (es' := es2) (t' := t3) ho1 rfl
    obtain ⟨k2, q2, p2⟩ := paired_perm pm pr
    exact wpAny_pure (hR _ (sb1.trans (Heap.SameBut.update _ a _)) ⟨_, es2, _, t3, k2, ho2, hex, rfl, p2, q2.trans pm1, hb2, hf3, hr3, hl.imp id fun z => by rw [hl3]; exact z⟩)
  · exact wpAny_pure (hR _ sb1 ⟨_, es1, _, t2, ks', ho1, hex, rfl, pr, pm1, hb1, hf2, hr, hl⟩)
/-- one more -/
def hasK (ks : List Key) (k : Key) : Bool := ks.any fun j => decide (j = k)
theorem hasK_iff {ks : List Key} {k : Key} : hasK ks k = true ↔ k ∈ ks := by
  unfold hasK
  rw [List.any_eq_true]
  exact ⟨fun ⟨j, h, e⟩ => of_decide_eq_true e ▸ h, fun h => ⟨k, h, decide_eq_true rfl⟩⟩
def addK (ks : List Key) (k : Key) : List Key := if hasK ks k = true then ks else ks ++ [k]
theorem setG_add {k : Key} {x : Value} {Q : Bool → Shared → Prop} (R : SetG P w s.heap a ks) (rx : RelV (kV k) x) (room : ks.length + 1 < scanBound)
    (hQ : ∀ h' b, Heap.SameBut a s.heap h' → SetG P w h' a (addK ks k) → Q b { s with heap := h' }) :
    wpAny (model P w) A (setAddHashed a x ((mixKind P w).hash k)) Q E s := by
  obtain ⟨o, es, ep, t, ks', ho, hex, hd, pr, pm, hb, hf, hr, hl⟩ := R
  have hkey : (mixKind P w).is k x = true := kV_is rx
  have hsc : x.scannable = true := key_scan rx
  have hel : ElemsOf (mixKind P w) es.toList := elems_of pr
  have hn : es.size = ks.length := by rw [← Array.length_toList, Paired.length pr, pm.length_eq]
  unfold setAddHashed setAddHashedIn
  refine wpAny_holding (wpAny_bind (wpAny_setState_of ho hd hf ?_))
  dsimp only
  rw [byScan_of hsc hb hel]
  simp only [↓reduceIte]
  unfold setAddByScan
  refine wpAny_bind ?_
  refine wpAny_bind (wpAny_rule ?_)
  refine wpAny_bind (wpAny_setScan_of hkey ho hd hf hel ?_)
  cases hfi : List.findIdx? (fun e => (mixKind P w).is k e.2) es.toList with
  | some j =>
    dsimp only
    obtain ⟨hj, pj, _⟩ := List.findIdx?_eq_some_iff_getElem.mp hfi
    have hk : k ∈ ks := pm.mem_iff.mp ((mem_of pr k).mpr ⟨es.toList[j], List.getElem_mem hj, pj⟩)
    refine wpAny_pure (wpAny_pure (hQ s.heap _ (Heap.SameBut.refl a s.heap) ?_))
    unfold addK
    rw [if_pos (hasK_iff.mpr hk)]
    exact ⟨o, es, ep, t, ks', ho, hex, hd, pr, pm, hb, hf, hr, hl⟩
  | none =>
    dsimp only
    have hnk : k ∉ ks := fun z => by
      obtain ⟨e, he, q⟩ := (mem_of pr k).mp (pm.mem_iff.mpr z)
      have c := List.findIdx?_eq_none_iff.mp hfi e he
      rw [q] at c
      cases c
    have hgw : ∀ (b : Bool) {s₁ : Shared} {Q' : Unit → Shared → Prop}, Q' () s₁ → wpAny (model P w) A (match b with | true => rule "set.scan.the-table-gave-way" | false => pure ()) Q' E s₁ :=
      fun b s₁ Q' q => by cases b <;> first | exact wpAny_pure q | exact wpAny_rule q
    have pl := layNew_perm t es ((mixKind P w).hash k) x
    have hf1 := layNew_fits t es ((mixKind P w).hash k) x
    have hr1 := layNew_ris t es ((mixKind P w).hash k) x hr
    have hl1 := layNew_led t es ((mixKind P w).hash k) x
    generalize layNew t es ((mixKind P w).hash k) x = Z at pl hf1 hr1 hl1 ⊢
    obtain ⟨es1, t1, wasDummy, gave⟩ := Z
    dsimp only at pl hf1 hr1 hl1 ⊢
    rw [Array.toList_push] at pl
    have pc : es1.toList.Perm (((mixKind P w).hash k, x) :: es.toList) := pl.trans (List.perm_append_singleton _ _)
    obtain ⟨k1, q1, p1⟩ := paired_perm pc (.cons ⟨hkey, rfl⟩ pr)
    have pm1 : k1.Perm (addK ks k) := by
      unfold addK
      rw [if_neg fun z => hnk (hasK_iff.mp z)]
      exact q1.trans ((pm.cons k).trans (List.perm_append_singleton _ _).symm)
    have hsz : es1.size = ks.length + 1 := by rw [← Array.length_toList, pc.length_eq, List.length_cons, Array.length_toList, hn]
    have hb1 : es1.size < scanBound := by rw [hsz]; exact room
    have hled : w.params.followText "set-order" = true ∨ t1.led = true := hl.imp id fun z => by rw [hl1]; exact z
    refine wpAny_bind (hgw _ ?_)
    split
    · refine wpAny_bind ?_
      rw [hashByValue_scannable 8 hsc]
      refine wpAny_pure ?_
      refine setG_tail ?_ ho hex hd p1 pm1 hb1 ?_ ?_ ?_ ?_
      · intro b s₁ Q' q; cases b <;> first | exact wpAny_pure q | exact wpAny_rule q
      · first | (split <;> first | exact hf1 | exact SetTable.fits_plain_off hf1) | exact hf1
      · first | (split <;> exact hr1) | exact hr1
      · first | (split <;> exact hled) | exact hled
      · intro h' sb r; dsimp only; exact wpAny_pure (hQ h' _ sb r)
    · refine wpAny_bind (wpAny_pure ?_)
      simp only [↓reduceIte]
      refine setG_tail ?_ ho hex hd p1 pm1 hb1 hf1 hr1 hled ?_
      · intro b s₁ Q' q; cases b <;> first | exact wpAny_pure q | exact wpAny_rule q
      · intro h' sb r; dsimp only; exact wpAny_pure (hQ h' _ sb r)
end
/-! set(x) of a list or tuple: by a step -/
section
variable {P : Program} {w : World} {A : Around} {R : Result → Shared → Prop} {I : Addr} {fp wr : List Addr} {G : Array GenState → Array GenState → Prop} {n : Nat} {Pv : Nat → Value → Prop} {St : Nat → Shared → Prop}
theorem set_loop (W : WalksS P w A.in1 I fp wr G n Pv St) (S : Addr) (hSf : S ∉ fp) (J : Nat → Heap → Prop) (jw : ∀ i h h', J i h → (∀ b o, b ∉ wr → h.get? b = some o → h'.get? b = some o) → J i h')
    (step : ∀ i v (s' : Shared) (Q : Bool → Shared → Prop) (E : Value → Shared → Prop), Pv i v → J i s'.heap → (∀ h' tk b, s'.toks ≤ tk → Heap.SameBut S s'.heap h' → J (i + 1) h' → Q b { s' with heap := h', toks := tk }) → wpAny (model P w) A.in1 (setAdd S v) Q E s') :
    ∀ (k i : Nat) (s : Shared), n - i = k → i ≤ n → St i s → J i s.heap → (∀ s', Moved (S :: wr) G s s' → J n s'.heap → R (.ok (.ret .none)) s') →
      codeAny (model P w) A (.builtin "set.update.loop" ⟨[.ref S, .ref I], []⟩) R s := by
  have hsub : ∀ b ∈ wr, b ∈ S :: wr := fun b hb => List.mem_cons_of_mem _ hb
  intro k
  induction k with
  | zero =>
    intro i s hk hi hst hS hR
    have hin : i = n := by omega
    subst hin
    refine codeAny_builtin PyProof.Rows.F.entry_set_update_loop ?_
    rw [Around.under_plainId PyProof.Rows.F.plain_set_update_loop _]
    show wpAny _ A.in1 (pyNext (.ref I) >>= _) _ _ s
    refine wpAny_bind (W.done s _ _ hst fun s' hm => ?_)
    show wpAny _ A.in1 (ret Value.none) _ _ s'
    exact wpAny_pure (hR s' (hm.mono hsub) (jw _ _ _ hS fun b o hb e => hm.heap b o hb e))
  | succ k ih =>
    intro i s hk hi hst hS hR
    have hlt : i < n := by omega
    refine codeAny_builtin PyProof.Rows.F.entry_set_update_loop ?_
    rw [Around.under_plainId PyProof.Rows.F.plain_set_update_loop _]
    show wpAny _ A.in1 (pyNext (.ref I) >>= _) _ _ s
    refine wpAny_bind (W.item i s _ _ hlt hst fun v s' hP hst' hm => ?_)
    have hS' := jw _ _ _ hS fun b o hb e => hm.heap b o hb e
    show wpAny _ A.in1 (holding [v] (setAdd S v) >>= _) _ _ s'
    refine wpAny_bind (wpAny_holding (step i v s' _ _ hP hS' fun h' tk b htk hsb hS2 => ?_))
    refine wpAny_pure ⟨plainId_quiet PyProof.Rows.F.plain_set_update_loop _, ih (i + 1) _ (by omega) hlt (W.frame _ s' _ _ hst' htk fun b hb o e => ?_) hS2 fun s'' hm'' hS'' => ?_⟩
    · rw [hsb.2 b (fun h : b = S => hSf (by rw [← h]; exact hb))]; exact e
    · refine hR s'' (Moved.trans W.gtrans ((hm.mono hsub).then_heap htk fun b o hb e => ?_) hm'') hS''
      rw [hsb.2 b (fun h : b = S => hb (by rw [h]; exact List.mem_cons_self))]; exact e
end
section
variable {P : Program} {w : World} {A : Around} {E : Value → Shared → Prop} {s : Shared}
theorem code_set_led1 (a : Value) {Q₁ : Value → Shared → Prop}
    (h : Q₁ (.ref s.heap.objs.size) { s with heap := s.heap.push { cls := .type "set", dict := none, data := .set #[] 0 (.fresh 0 0 (!w.params.followText "set-order")) } }) :
    codeAny (model P w) A (.call (.builtin "set.__new__") ⟨[.type "set", a], []⟩) (wants Q₁ E) s := by
  refine codeAny_of_tree ?_
  show wpAny _ A.in1 (do checkBuiltinCall "set.__new__" ⟨[.type "set", a], []⟩; again (.builtin "set.__new__" ⟨[.type "set", a], []⟩)) _ _ s
  refine wpAny_bind (wpAny_of_eq (PySem.F.newCall_set_1 a) (wpAny_pure ⟨plainId_quiet F.plain_set_new _, codeAny_builtin F.entry_set_new ?_⟩))
  rw [Around.under_plainId F.plain_set_new _]
  unfold Builtin.«set.__new__» Builtin.Frozenset.newClass
  have hsub := sub_set_self
  obtain ⟨hp, g, d, tk, os⟩ := s
  dsimp only
  wp_walk
  refine wpAny_askSetting (wpAny_pure ?_)
  dsimp only
  simp only [newObj]
  refine wpAny_bind (wpAny_alloc (wpAny_pure ?_))
  exact wpAny_pure h
set_option maxHeartbeats 3200000 in
theorem set_of_list {l : Addr} {items : Array Value} {Q : Value → Shared → Prop} (hh : A.handled = none) (hl : s.heap.IsList l items) (J : Nat → Heap → Prop) (jw : ∀ i h h', J i h → (∀ b o, b ≠ s.heap.objs.size + 1 → h.get? b = some o → h'.get? b = some o) → J i h')
    (j0 : J 0 (s.heap.push { cls := .type "set", dict := none, data := .set #[] 0 (.fresh 0 0 (!w.params.followText "set-order")) }))
    (step : ∀ (i : Nat) (v : Value) (s' : Shared) (Q : Bool → Shared → Prop) (E : Value → Shared → Prop), items[i]? = some v → J i s'.heap → (∀ h' tk b, s'.toks ≤ tk → Heap.SameBut s.heap.objs.size s'.heap h' → J (i + 1) h' → Q b { s' with heap := h', toks := tk }) → wpAny (model P w) A.in1.in1.in1 (setAdd s.heap.objs.size v) Q E s')
    (h : ∀ (h' : Heap) (tk : Nat), J items.size h' → (∀ b o, b < s.heap.objs.size → s.heap.get? b = some o → h'.get? b = some o) → Q (.ref s.heap.objs.size) { s with heap := h', toks := tk }) :
    wpAny (model P w) A (call (.type "set") [.ref l]) Q E s := by
  obtain ⟨c, tl, hmro⟩ := PySem.F.called_set.mro
  have hmade := PySem.F.called_set.made
  have hsub := PySem.F.called_set.sub
  refine wpAny_call (codeAny_of_tree ?_)
  show wpAny _ _ (callAny (.type "set") _) _ _ _
  refine wpAny_pure ⟨Code.quiet_builtin _ (by decide +kernel), codeAny_builtin PySem.F.entry_type_call ?_⟩
  rw [Around.under_plain (weight_type_call_type "set" [.ref l] []) rfl]
  have h1 := PySem.F.called_set.notType
  have h2 := PySem.F.called_set.canCreate
  have hct := PySem.F.typeCall_set_1 (.ref l)
  repeat (any_goals (first | assumption | wp_step))
  refine codeAny_mono (code_set_led1 (.ref l) (E := E) (Q₁ := fun obj s₁ => obj = .ref s.heap.objs.size ∧ s₁ = { s with heap := s.heap.push { cls := .type "set", dict := none, data := .set #[] 0 (.fresh 0 0 (!w.params.followText "set-order")) } }) ⟨rfl, rfl⟩) fun r s₁ hr => ?_
  cases r with
  | error e => exact hr
  | ok fl =>
    cases fl with
    | ret obj =>
      obtain ⟨rfl, rfl⟩ := hr
      generalize (!w.params.followText "set-order") = led at j0 ⊢
      have hS : (s.heap.push { cls := .type "set", dict := none, data := .set #[] 0 (.fresh 0 0 led) }).get? s.heap.objs.size = some { cls := .type "set", dict := none, data := .set #[] 0 (.fresh 0 0 led) } := Heap.get?_push_size _ rfl
      have hT : Shared.TypeIs { s with heap := s.heap.push { cls := .type "set", dict := none, data := .set #[] 0 (.fresh 0 0 led) } } (.ref s.heap.objs.size) "set" := ⟨_, hS, rfl⟩
      have hli := PySem.F.called_set.init.lookup
      have hbi := PySem.F.called_set.init.bind (.ref s.heap.objs.size)
      repeat (any_goals (first | assumption | wp_step))
      refine codeAny_mono (codeAny_call_builtin (R := wants (fun r s₂ => r = .none ∧ ∃ h' tk, s₂ = { s with heap := h', toks := tk } ∧ J items.size h' ∧
          (∀ b o, b < s.heap.objs.size → s.heap.get? b = some o → h'.get? b = some o)) E) PySem.F.called_set.init.plain PySem.F.entry_set_init (check_set_init_1 hT ?_)) fun r₂ s₂ hr₂ => ?_
      · obtain ⟨ol, hol, hcl, nl, hdl⟩ := hl
        obtain ⟨ocls, odict, odata, oslots⟩ := ol
        simp only at hcl hdl
        subst hcl; subst hdl
        have hol' : (s.heap.push { cls := .type "set", dict := none, data := .set #[] 0 (.fresh 0 0 led) }).get? l = some { cls := .type "list", dict := odict, data := .seq items nl, slots := oslots } := Heap.get?_push_of_some _ hol
        have hsls := PySem.F.sub_list_set
        have hslf := PySem.F.sub_list_frozenset
        have hne : (Value.type "list" == Value.type "dict") = false := by decide
        have hl1 : (s.heap.push { cls := .type "set", dict := none, data := .set #[] 0 (.fresh 0 0 led) }).IsList l items := ⟨_, hol', rfl, nl, rfl⟩
        unfold Builtin.«set.__init__» noKeywords Builtin.Frozenset.updateFrom
        generalize hPI : pyIter = PI
        wp_walk
        subst hPI
        refine wpAny_pyIter_list hl1 ?_
        refine wpAny_bind (wpAny_runValue ?_)
        have hlS : l < s.heap.objs.size := Heap.lt_size hol
        have hh3 : A.in1.in1.in1.handled = none := by simp [hh]
        have hneI : l ≠ (s.heap.push { cls := .type "set", dict := none, data := .set #[] 0 (.fresh 0 0 led) }).objs.size := by
          rw [Heap.size_push]; exact Nat.ne_of_lt (Nat.lt_succ_of_lt hlS)
        have hSf : s.heap.objs.size ∉ [(s.heap.push { cls := .type "set", dict := none, data := .set #[] 0 (.fresh 0 0 led) }).objs.size, l] := by
          rw [Heap.size_push]; simp only [List.mem_cons, List.mem_singleton, List.not_mem_nil, or_false, not_or]
          exact ⟨Nat.ne_of_lt (Nat.lt_succ_self _), Nat.ne_of_gt hlS⟩
        refine set_loop ((Walks.list hh3 _ l hneI items).toS) s.heap.objs.size hSf J (fun i g g' hj k => jw i g g' hj fun b o hb e => k b o (by simp only [List.mem_singleton]; rw [Heap.size_push]; exact hb) e)
          step (items.size - 0) 0 _ (by omega) (Nat.zero_le _) ⟨⟨_, Heap.get?_push_size _ rfl, rfl, rfl⟩, (hl1.push _)⟩ (jw _ _ _ j0 fun b o _ e => Heap.get?_push_of_some _ e) ?hR
        case hR =>
          intro s' hm hS'
          obtain ⟨h', g', d', tk', os'⟩ := s'
          have eg : g' = s.gens := hm.gens
          have ed : d' = s.drawn := hm.drawn
          have eo : os' = s.os := hm.os
          subst eg; subst ed; subst eo
          show wpAny _ _ _ _ _ _
          refine wpAny_pure ?_
          show wpAny _ _ (ret Value.none) _ _ _
          refine wpAny_pure ⟨rfl, h', tk', rfl, hS', fun b o hb e => ?_⟩
          have hb1 : b ≠ s.heap.objs.size := Nat.ne_of_lt hb
          have hb2 : b ≠ (s.heap.push { cls := .type "set", dict := none, data := .set #[] 0 (.fresh 0 0 led) }).objs.size := by
            rw [Heap.size_push]; exact Nat.ne_of_lt (Nat.lt_succ_of_lt hb)
          exact hm.heap b o (by simp only [List.mem_cons, List.mem_singleton, List.not_mem_nil, or_false, not_or]; exact ⟨hb1, hb2⟩) (Heap.get?_push_of_some _ (Heap.get?_push_of_some _ e))
      · cases r₂ with
        | error e => exact hr₂
        | ok fl₂ =>
          cases fl₂ with
          | ret r =>
            obtain ⟨rfl, h', tk, rfl, hS', hk'⟩ := hr₂
            repeat (any_goals (first | assumption | wp_step))
            exact h _ _ hS' hk'
          | _ => exact hr₂.elim
    | _ => exact hr.elim
set_option maxHeartbeats 3200000 in
theorem set_of_tuple {l : Addr} {items : Array Value} {Q : Value → Shared → Prop} (hh : A.handled = none) (hl : s.heap.IsTuple l items) (J : Nat → Heap → Prop) (jw : ∀ i h h', J i h → (∀ b o, b ≠ s.heap.objs.size + 1 → h.get? b = some o → h'.get? b = some o) → J i h')
    (j0 : J 0 (s.heap.push { cls := .type "set", dict := none, data := .set #[] 0 (.fresh 0 0 (!w.params.followText "set-order")) }))
    (step : ∀ (i : Nat) (v : Value) (s' : Shared) (Q : Bool → Shared → Prop) (E : Value → Shared → Prop), items[i]? = some v → J i s'.heap → (∀ h' tk b, s'.toks ≤ tk → Heap.SameBut s.heap.objs.size s'.heap h' → J (i + 1) h' → Q b { s' with heap := h', toks := tk }) → wpAny (model P w) A.in1.in1.in1 (setAdd s.heap.objs.size v) Q E s')
    (h : ∀ (h' : Heap) (tk : Nat), J items.size h' → (∀ b o, b < s.heap.objs.size → s.heap.get? b = some o → h'.get? b = some o) → Q (.ref s.heap.objs.size) { s with heap := h', toks := tk }) :
    wpAny (model P w) A (call (.type "set") [.ref l]) Q E s := by
  obtain ⟨c, tl, hmro⟩ := PySem.F.called_set.mro
  have hmade := PySem.F.called_set.made
  have hsub := PySem.F.called_set.sub
  refine wpAny_call (codeAny_of_tree ?_)
  show wpAny _ _ (callAny (.type "set") _) _ _ _
  refine wpAny_pure ⟨Code.quiet_builtin _ (by decide +kernel), codeAny_builtin PySem.F.entry_type_call ?_⟩
  rw [Around.under_plain (weight_type_call_type "set" [.ref l] []) rfl]
  have h1 := PySem.F.called_set.notType
  have h2 := PySem.F.called_set.canCreate
  have hct := PySem.F.typeCall_set_1 (.ref l)
  repeat (any_goals (first | assumption | wp_step))
  refine codeAny_mono (code_set_led1 (.ref l) (E := E) (Q₁ := fun obj s₁ => obj = .ref s.heap.objs.size ∧ s₁ = { s with heap := s.heap.push { cls := .type "set", dict := none, data := .set #[] 0 (.fresh 0 0 (!w.params.followText "set-order")) } }) ⟨rfl, rfl⟩) fun r s₁ hr => ?_
  cases r with
  | error e => exact hr
  | ok fl =>
    cases fl with
    | ret obj =>
      obtain ⟨rfl, rfl⟩ := hr
      generalize (!w.params.followText "set-order") = led at j0 ⊢
      have hS : (s.heap.push { cls := .type "set", dict := none, data := .set #[] 0 (.fresh 0 0 led) }).get? s.heap.objs.size = some { cls := .type "set", dict := none, data := .set #[] 0 (.fresh 0 0 led) } := Heap.get?_push_size _ rfl
      have hT : Shared.TypeIs { s with heap := s.heap.push { cls := .type "set", dict := none, data := .set #[] 0 (.fresh 0 0 led) } } (.ref s.heap.objs.size) "set" := ⟨_, hS, rfl⟩
      have hli := PySem.F.called_set.init.lookup
      have hbi := PySem.F.called_set.init.bind (.ref s.heap.objs.size)
      repeat (any_goals (first | assumption | wp_step))
      refine codeAny_mono (codeAny_call_builtin (R := wants (fun r s₂ => r = .none ∧ ∃ h' tk, s₂ = { s with heap := h', toks := tk } ∧ J items.size h' ∧
          (∀ b o, b < s.heap.objs.size → s.heap.get? b = some o → h'.get? b = some o)) E) PySem.F.called_set.init.plain PySem.F.entry_set_init (check_set_init_1 hT ?_)) fun r₂ s₂ hr₂ => ?_
      · obtain ⟨ol, hol, hcl, nl, hdl⟩ := hl
        obtain ⟨ocls, odict, odata, oslots⟩ := ol
        simp only at hcl hdl
        subst hcl; subst hdl
        have hol' : (s.heap.push { cls := .type "set", dict := none, data := .set #[] 0 (.fresh 0 0 led) }).get? l = some { cls := .type "tuple", dict := odict, data := .seq items nl, slots := oslots } := Heap.get?_push_of_some _ hol
        have hsls := PySem.F.sub_tuple_set
        have hslf := PySem.F.sub_tuple_frozenset
        have hne : (Value.type "tuple" == Value.type "dict") = false := by decide
        have hl1 : (s.heap.push { cls := .type "set", dict := none, data := .set #[] 0 (.fresh 0 0 led) }).IsTuple l items := ⟨_, hol', rfl, nl, rfl⟩
        unfold Builtin.«set.__init__» noKeywords Builtin.Frozenset.updateFrom
        generalize hPI : pyIter = PI
        wp_walk
        subst hPI
        refine wpAny_pyIter_tuple hl1 ?_
        refine wpAny_bind (wpAny_runValue ?_)
        have hlS : l < s.heap.objs.size := Heap.lt_size hol
        have hh3 : A.in1.in1.in1.handled = none := by simp [hh]
        have hneI : l ≠ (s.heap.push { cls := .type "set", dict := none, data := .set #[] 0 (.fresh 0 0 led) }).objs.size := by
          rw [Heap.size_push]; exact Nat.ne_of_lt (Nat.lt_succ_of_lt hlS)
        have hSf : s.heap.objs.size ∉ [(s.heap.push { cls := .type "set", dict := none, data := .set #[] 0 (.fresh 0 0 led) }).objs.size, l] := by
          rw [Heap.size_push]; simp only [List.mem_cons, List.mem_singleton, List.not_mem_nil, or_false, not_or]
          exact ⟨Nat.ne_of_lt (Nat.lt_succ_self _), Nat.ne_of_gt hlS⟩
        refine set_loop ((Walks.tuple hh3 _ l hneI items).toS) s.heap.objs.size hSf J (fun i g g' hj k => jw i g g' hj fun b o hb e => k b o (by simp only [List.mem_singleton]; rw [Heap.size_push]; exact hb) e)
          step (items.size - 0) 0 _ (by omega) (Nat.zero_le _) ⟨⟨_, Heap.get?_push_size _ rfl, rfl, rfl⟩, (hl1.push _)⟩ (jw _ _ _ j0 fun b o _ e => Heap.get?_push_of_some _ e) ?hR
        case hR =>
          intro s' hm hS'
          obtain ⟨h', g', d', tk', os'⟩ := s'
          have eg : g' = s.gens := hm.gens
          have ed : d' = s.drawn := hm.drawn
          have eo : os' = s.os := hm.os
          subst eg; subst ed; subst eo
          show wpAny _ _ _ _ _ _
          refine wpAny_pure ?_
          show wpAny _ _ (ret Value.none) _ _ _
          refine wpAny_pure ⟨rfl, h', tk', rfl, hS', fun b o hb e => ?_⟩
          have hb1 : b ≠ s.heap.objs.size := Nat.ne_of_lt hb
          have hb2 : b ≠ (s.heap.push { cls := .type "set", dict := none, data := .set #[] 0 (.fresh 0 0 led) }).objs.size := by
            rw [Heap.size_push]; exact Nat.ne_of_lt (Nat.lt_succ_of_lt hb)
          exact hm.heap b o (by simp only [List.mem_cons, List.mem_singleton, List.not_mem_nil, or_false, not_or]; exact ⟨hb1, hb2⟩) (Heap.get?_push_of_some _ (Heap.get?_push_of_some _ e))
      · cases r₂ with
        | error e => exact hr₂
        | ok fl₂ =>
          cases fl₂ with
          | ret r =>
            obtain ⟨rfl, h', tk, rfl, hS', hk'⟩ := hr₂
            repeat (any_goals (first | assumption | wp_step))
            exact h _ _ hS' hk'
          | _ => exact hr₂.elim
    | _ => exact hr.elim
end
end Dp
/-! D18: len(set(x)), sorted(set(x)). -/
namespace Dp
open PySem PySem.Spec PyProof.Rows L2
def dedup (ks : List Key) : List Key := ks.foldl addK []
theorem dedup_snoc (ks : List Key) (k : Key) : dedup (ks ++ [k]) = addK (dedup ks) k := by unfold dedup; rw [List.foldl_append]; rfl
theorem addK_len (ks : List Key) (k : Key) : (addK ks k).length ≤ ks.length + 1 := by unfold addK; split <;> simp
theorem addK_mem {ks : List Key} {k j : Key} : j ∈ addK ks k ↔ j ∈ ks ∨ j = k := by
  unfold addK
  split
  · rename_i h
    exact ⟨.inl, fun h' => h'.elim id fun e => e ▸ hasK_iff.mp h⟩
  · simp
theorem foldl_addK_mem : ∀ (ks acc : List Key) (j : Key), j ∈ ks.foldl addK acc ↔ j ∈ acc ∨ j ∈ ks
  | [], acc, j => by simp
  | k :: ks, acc, j => by rw [List.foldl_cons, foldl_addK_mem ks, addK_mem, List.mem_cons, or_assoc]
theorem dedup_mem {ks : List Key} {j : Key} : j ∈ dedup ks ↔ j ∈ ks := by unfold dedup; rw [foldl_addK_mem]; simp
theorem addK_nodup {ks : List Key} {k : Key} (h : ks.Nodup) : (addK ks k).Nodup := by
  unfold addK
  split
  · exact h
  · rename_i c
    rw [List.nodup_append]
    refine ⟨h, by simp, fun a ha b hb e => ?_⟩
    rw [List.mem_singleton.mp hb] at e
    exact c (hasK_iff.mpr (e ▸ ha))
theorem foldl_addK_nodup : ∀ (ks acc : List Key), acc.Nodup → (ks.foldl addK acc).Nodup
  | [], acc, h => h
  | k :: ks, acc, h => by rw [List.foldl_cons]; exact foldl_addK_nodup ks _ (addK_nodup h)
theorem dedup_nodup (ks : List Key) : (dedup ks).Nodup := foldl_addK_nodup ks [] List.nodup_nil
theorem foldl_addK_len : ∀ (ks acc : List Key), (ks.foldl addK acc).length ≤ acc.length + ks.length
  | [], acc => by simp
  | k :: ks, acc => by
    rw [List.foldl_cons]
    have h1 := foldl_addK_len ks (addK acc k)
    have h2 := addK_len acc k
    rw [List.length_cons]
    omega
theorem dedup_len (ks : List Key) : (dedup ks).length ≤ ks.length := by have := foldl_addK_len ks []; simpa [dedup] using this
theorem foldl_addK_id : ∀ (ks acc : List Key), (acc ++ ks).Nodup → ks.foldl addK acc = acc ++ ks
  | [], acc, _ => by simp
  | k :: ks, acc, h => by
    rw [List.foldl_cons]
    have hk : k ∉ acc := by
      rw [List.nodup_append] at h
      exact fun z => h.2.2 k z k (by simp) rfl
    have e : addK acc k = acc ++ [k] := by unfold addK; rw [if_neg fun z => hk (hasK_iff.mp z)]
    rw [e, foldl_addK_id ks _ (by simpa using h)]
    simp
theorem dedup_id {ks : List Key} (h : ks.Nodup) : dedup ks = ks := by unfold dedup; rw [foldl_addK_id ks [] (by simpa using h)]; rfl
theorem dedup_len_iff {ks : List Key} : (dedup ks).length = ks.length ↔ ks.Nodup := by
  refine ⟨fun h => ?_, fun h => by rw [dedup_id h]⟩
  have : ∀ (ks acc : List Key), (ks.foldl addK acc).length = acc.length + ks.length → acc.Nodup → (acc ++ ks).Nodup := by
    intro ks
    induction ks with
    | nil => intro acc _ h; simpa using h
    | cons k ks ih =>
      intro acc h hn
      rw [List.foldl_cons] at h
      have h1 := foldl_addK_len ks (addK acc k)
      have h2 := addK_len acc k
      rw [List.length_cons] at h
      have h3 : (addK acc k).length = acc.length + 1 := by omega
      have hk : hasK acc k ≠ true := fun c => by unfold addK at h3; rw [if_pos c] at h3; omega
      have e : addK acc k = acc ++ [k] := by unfold addK; rw [if_neg hk]
      have := ih (addK acc k) (by omega) (addK_nodup hn)
      rw [e] at this
      simpa using this
  simpa using this ks [] (by simpa [dedup] using h) List.nodup_nil
section
variable {X : Cx}
theorem setG_fresh {P : Program} {h : Heap} (w : World) : SetG P w (h.push { cls := .type "set", dict := none, data := .set #[] 0 (.fresh 0 0 (!w.params.followText "set-order")) }) h.objs.size [] :=
  ⟨_, #[], 0, _, [], Heap.get?_push_size _ rfl, ⟨rfl, rfl, rfl⟩, rfl, .nil, .refl _, (by decide), (by rfl), List.Pairwise.nil, by
    show _ ∨ (!w.params.followText "set-order") = true
    cases w.params.followText "set-order"
    · exact .inr rfl
    · exact .inl rfl⟩
theorem set_call {pins : List (Addr × Obj)} {σ : L2.St} {H : Hp} {s : Shared} {A : Around} {E : Value → Shared → Prop} {Q : Value → Shared → Prop} (I : Inv X pins σ H s) (hA : A.handled = none) {l : Addr} {ks : List Key} (hq : SqL X.K H l (ks.map kV) ∨ SqT X.K H l (ks.map kV)) (hb : ks.length + 1 < scanBound)
    (h : ∀ (h' : Heap) (tk : Nat), SetG X.prog X.w h' s.heap.objs.size (dedup ks) → (∀ b o, s.heap.get? b = some o → h'.get? b = some o) → Q (.ref s.heap.objs.size) { s with heap := h', toks := tk }) :
    wpAny (model X.prog X.w) A (call (.type "set") [.ref l]) Q E s := by
  have step : ∀ (its : List Value), Vals (ks.map kV) its → ∀ (B : Around) (i : Nat) (v : Value) (s' : Shared) (Q : Bool → Shared → Prop) (E : Value → Shared → Prop), its.toArray[i]? = some v → SetG X.prog X.w s'.heap s.heap.objs.size (dedup (ks.take i)) →
      (∀ h' tk b, s'.toks ≤ tk → Heap.SameBut s.heap.objs.size s'.heap h' → SetG X.prog X.w h' s.heap.objs.size (dedup (ks.take (i + 1))) → Q b { s' with heap := h', toks := tk }) → wpAny (model X.prog X.w) B (setAdd s.heap.objs.size v) Q E s' := by
    intro its r B i v s' Q E hv hS hQ
    have hi : i < ks.length := by
      have h1 := (List.getElem?_eq_some_iff.mp (by simpa using hv : its[i]? = some v)).1
      have h2 := r.length
      rw [List.length_map] at h2
      omega
    obtain ⟨u, eu, ru⟩ := r.get (i := i) (x := kV ks[i]) (by rw [List.getElem?_map, List.getElem?_eq_getElem hi]; rfl)
    obtain rfl : u = v := by
      have : its[i]? = some v := by simpa using hv
      rw [eu] at this; exact Option.some.inj this
    unfold setAdd
    refine wpAny_holding (wpAny_bind ((mixKind X.prog X.w).pyHash (k := ks[i]) (kV_is ru) ?_))
    have hlen : (dedup (ks.take i)).length ≤ i := Nat.le_trans (dedup_len _) (by rw [List.length_take]; omega)
    refine setG_add (s := { s' with toks := s'.toks + 1 }) hS ru (by omega) fun h' b sb hS2 => hQ h' _ b (Nat.le_succ _) sb ?_
    have : ks.take (i + 1) = ks.take i ++ [ks[i]] := by rw [List.take_succ, List.getElem?_eq_getElem hi]; rfl
    rw [this, dedup_snoc]
    exact hS2
  have jw : ∀ (i : Nat) (g g' : Heap), SetG X.prog X.w g s.heap.objs.size (dedup (ks.take i)) → (∀ b o, b ≠ s.heap.objs.size + 1 → g.get? b = some o → g'.get? b = some o) → SetG X.prog X.w g' s.heap.objs.size (dedup (ks.take i)) :=
    fun i g g' hS k => hS.at_ fun o e => k _ o (by omega) e
  have fin : ∀ (its : List Value), Vals (ks.map kV) its → ∀ (h' : Heap) (tk : Nat), SetG X.prog X.w h' s.heap.objs.size (dedup (ks.take its.toArray.size)) → (∀ b o, b < s.heap.objs.size → s.heap.get? b = some o → h'.get? b = some o) → Q (.ref s.heap.objs.size) { s with heap := h', toks := tk } := by
    intro its r h' tk hS hk
    have hl : its.toArray.size = ks.length := by rw [List.size_toArray, ← r.length, List.length_map]
    rw [hl, List.take_length] at hS
    exact h h' tk hS fun b o e => hk b o (Heap.lt_size e) e
  rcases hq with hq | hq
  · obtain ⟨its, r, pl, hz⟩ := I.list hq
    exact set_of_list hA pl.isList (fun i h => SetG X.prog X.w h s.heap.objs.size (dedup (ks.take i))) jw (setG_fresh X.w) (step its r _) (fin its r)
  · obtain ⟨its, r, pl, hz⟩ := I.tuple hq
    exact set_of_tuple hA pl (fun i h => SetG X.prog X.w h s.heap.objs.size (dedup (ks.take i))) jw (setG_fresh X.w) (step its r _) (fin its r)
def tLenSetK (K : PySem.W.Frag) (ta : TE) : TE := fun σ H Q => ta σ H fun x H1 => ∃ l, ∃ ks : List Key, x = .ref l ∧ (SqL K H1 l (ks.map kV) ∨ SqT K H1 l (ks.map kV)) ∧ ks.length + 1 < scanBound ∧ Q (.int ((dedup ks).length : Nat)) H1
theorem pe_lenSetK {a : Expr} {ta : TE} {p p2 q pos : Pos} (hc : X.calm = true) (hg : Gl X "len") (hm : X.mg "len" = none) (hg2 : Gl X "set") (hm2 : X.mg "set" = none) (ha : PE X a ta)
    (na : starEach [a] X.env = (false, eval a X.env) :: starEach [] X.env := by rfl) : PE X (.Call (.Name "len" p) [.Call (.Name "set" p2) [a] [] q] [] pos) (tLenSetK X.K ta) := by
  refine ⟨fun pins s σ H Q I h => ?_⟩
  refine Call_ (ld_blt I hg hm boot_len ?_)
  refine PyProof.Rows.callWith_builtin1 (PyProof.Rows.args_cons ?_ rfl) rfl rfl
  refine Call_ (ld_blt I hg2 hm2 boot_set ?_)
  refine PyProof.Rows.callWith_type1 (PyProof.Rows.args_cons (thn (ha.run pins s σ H _ I h) fun v s1 ⟨x, H1, I1, r1, q1⟩ => PyProof.Rows.args_nil ?_) na) na rfl
  obtain ⟨l, ks, rfl, hq, hb, q1⟩ := q1
  cases r1
  refine set_call I1 (I1.ok.hd hc) hq hb fun h' tk hS hk => ?_
  refine PyProof.Rows.args_nil ?_
  obtain ⟨o, es, ep, t, ho, hc1, hd1, hd, hn, hf⟩ := setG_size hS
  obtain ⟨_, _, _, _, _, ho', hex, _⟩ := hS
  rw [ho] at ho'; cases ho'
  have I2 : Inv X pins σ H1 { s1 with heap := h', toks := tk } := I1.kept hk
  have hz : es.size < scanBound := by rw [hn]; have := dedup_len ks; omega
  refine call_len_set ho hex hd hf (by have : scanBound = 4096 := rfl; omega) ⟨.int ((dedup ks).length : Nat), H1, I2.tok _, ⟨_, by rw [hn]⟩, q1⟩
def tSortSetK (K : PySem.W.Frag) (ta : TE) : TE := fun σ H Q => ta σ H fun x H1 => ∃ l, ∃ ks : List Key, x = .ref l ∧ (SqL K H1 l (ks.map kV) ∨ SqT K H1 l (ks.map kV)) ∧ ks.length + 1 < scanBound ∧ KeyOk (ks.map kD) ∧
  ∀ (ks' : List Key) p, ks'.Perm (dedup ks) → H1 p = none → Q (.ref p) (upd H1 p (.lst (((ks'.map kV).zip ((ks'.map kD).map toP)).mergeSort (PySem.W.dataLe false fun b : V × PyData => b.2) |>.map (·.1))))
theorem keyOk_sub {ks ks' : List D} (h : KeyOk ks) (hs : ∀ x ∈ ks', x ∈ ks) : KeyOk ks' := by
  obtain ⟨a, b, c⟩ := h
  have hm : ∀ d, d ∈ ks'.map toP → d ∈ ks.map toP := fun d hd => by
    obtain ⟨x, hx, rfl⟩ := List.mem_map.mp hd
    exact List.mem_map_of_mem (hs x hx)
  refine ⟨List.all_eq_true.mpr fun x hx => List.all_eq_true.mp a x (hs x hx), fun d hd d' hd' => b d (hm d hd) d' (hm d' hd'), c.imp (fun c d hd => c d (hm d hd)) fun c d hd => c d (hm d hd)⟩
theorem dp_keys {K : PySem.W.Frag} {H : Hp} : ∀ (ks : List Key), DpAll K H (ks.map kV) ((ks.map kD).map toP)
  | [] => .nil
  | k :: ks => by
    refine .cons ?_ (dp_keys ks)
    cases k with
    | inl i => exact .int i
    | inr x => exact .str x
theorem pe_sortSetK {a : Expr} {ta : TE} {p p2 q pos : Pos} (hu : X.A.units + 64 < cLine) (hc : X.calm = true) (hg : Gl X "sorted") (hm : X.mg "sorted" = none) (hg2 : Gl X "set") (hm2 : X.mg "set" = none) (ha : PE X a ta)
    (na : starEach [a] X.env = (false, eval a X.env) :: starEach [] X.env := by rfl) : PE X (.Call (.Name "sorted" p) [.Call (.Name "set" p2) [a] [] q] [] pos) (tSortSetK X.K ta) := by
  refine ⟨fun pins s σ H Q I h => ?_⟩
  refine Call_ (ld_blt I hg hm (by rfl) ?_)
  refine PyProof.Rows.callWith_builtin1 (PyProof.Rows.args_cons ?_ rfl) rfl rfl
  refine Call_ (ld_blt I hg2 hm2 boot_set ?_)
  refine PyProof.Rows.callWith_type1 (PyProof.Rows.args_cons (thn (ha.run pins s σ H _ I h) fun v s1 ⟨x, H1, I1, r1, q1⟩ => PyProof.Rows.args_nil ?_) na) na rfl
  obtain ⟨l, ks, rfl, hq, hb, ok, q1⟩ := q1
  cases r1
  refine set_call I1 (I1.ok.hd hc) hq hb fun h' tk hS hk => ?_
  refine PyProof.Rows.args_nil ?_
  have I2 : Inv X pins σ H1 { s1 with heap := h', toks := tk } := I1.kept hk
  obtain ⟨o, es, ep, t, ks', ho, hex, hd, pr, pm, hbb, hf, hr, hl⟩ := hS
  refine Calls.call_function_entry PyProof.Rows.kind_sorted PyProof.Rows.plain_sorted PyProof.Rows.entry_sorted (PyProof.Rows.args_sorted1 _) ?_
  unfold Builtin.«sorted»
  refine wpAny_bind (m := checkCount "sorted" 1 1 _) (wpAny_pure ?_)
  refine wpAny_bind (collect_set (A := X.A.in1) (s := { s1 with heap := h', toks := tk }) (I1.ok.hd hc) ⟨o, ho, hex.1, hd⟩ hf hbb hr hl fun s3 us k3 hz g3 o3 pm3 => ?_)
  have I3 : Inv X pins σ H1 s3 := by
    have e : s3 = { ({ s1 with heap := h', toks := tk } : Shared) with heap := s3.heap, gens := s3.gens, drawn := s3.drawn, toks := s3.toks } := by
      cases s3; cases o3; rfl
    rw [e]
    exact I2.call (ch := []) (Un.kept k3) (I2.hok.kept k3) (by rw [g3]; exact I2.bare) (fun _ z => nomatch z)
  obtain ⟨k4, q4, p4⟩ : ∃ k4 : List Key, k4.Perm ks' ∧ Vals (k4.map kV) us := by
    have pv : ∀ {l : List (Int × Value)} {ks : List Key}, Paired (fun (e : Int × Value) k => (mixKind X.prog X.w).is k e.2 = true ∧ e.1 = (mixKind X.prog X.w).hash k) l ks → Paired (fun (v : Value) (k : Key) => RelV (kV k) v) (l.map (·.2)) ks := by
      intro l ks h
      induction h with
      | nil => exact .nil
      | cons r _ ih => exact .cons (keyIs_rel r.1) ih
    obtain ⟨k4, q4, p4⟩ := paired_perm pm3 (pv pr)
    refine ⟨k4, q4, ?_⟩
    clear q4 pm3 k3
    induction p4 with
    | nil => exact .nil
    | cons r _ ih => exact .cons r ih
  have pk : k4.Perm (dedup ks) := q4.trans pm
  have ok4 : KeyOk (k4.map kD) := keyOk_sub ok fun x hx => by
    obtain ⟨k, hk4, rfl⟩ := List.mem_map.mp hx
    exact List.mem_map_of_mem (dedup_mem.mp (pk.mem_iff.mp hk4))
  have hd4 : DpAll X.K H1 (k4.map kV) ((k4.map kD).map toP) := dp_keys k4
  have hle : us.length ≤ sizeLine := by
    rw [← p4.length, List.length_map, pk.length_eq]
    have := dedup_len ks
    have e1 : scanBound = 4096 := rfl
    have e2 : sizeLine = 2 ^ 24 := by first | rfl | exact PySem.sizeLine_eq
    omega
  obtain ⟨e1, e2⟩ := each_pairs I3 hd4 p4
  refine wpAny_bind (wpAny_newList ?_ hle)
  have hoL : (s3.heap.push (PyProof.Rows.seqObj "list" us.toArray 0)).get? s3.heap.objs.size = some (PyProof.Rows.seqObj "list" us.toArray 0) := Heap.get?_push_size _ rfl
  have keep : ∀ b o, s3.heap.get? b = some o → (s3.heap.push (PyProof.Rows.seqObj "list" us.toArray 0)).get? b = some o := fun b o e => Heap.get?_push_of_some _ e
  show wpAny _ _ _ _ _ { s3 with heap := s3.heap.push (PyProof.Rows.seqObj "list" us.toArray 0) }
  have hz2 : ((k4.map kV).zip ((k4.map kD).map toP)).length ≤ sizeLine := by
    rw [List.length_zip]
    have := p4.length
    omega
  have hmap : ((k4.map kV).zip ((k4.map kD).map toP)).map (fun b : V × PyData => b.2) = (k4.map kD).map toP := zip_snd (DpAll.len hd4)
  have e2' : PySem.W.EachIs (fun u (b : V × PyData) => ∃ as, Reads (s3.heap.push (PyProof.Rows.seqObj "list" us.toArray 0)) u b.2 as ∧ s3.heap.objs.size ∉ as) us ((k4.map kV).zip ((k4.map kD).map toP)) :=
    e2.mono fun u b ⟨as, hr⟩ => ⟨as, PyProof.Rows.Reads.keeps keep hr, fun hm => by
      obtain ⟨o, ho⟩ := PyProof.On.reads_mem_get hr _ hm
      exact Nat.lt_irrefl _ (Heap.lt_size ho)⟩
  refine wpAny_bind (wpAny_holding (PySem.W.list_sort_data (enc := fun b : V × PyData => b.2) hoL e1 e2' (by rw [hmap]; exact ok4.2.1) (by rw [hmap]; exact ok4.2.2) hz2 (fun b hb => ?_) fun out hol hout => ?_))
  · have : b.2 ∈ (k4.map kD).map toP := by rw [← hmap]; exact List.mem_map_of_mem hb
    have := ok4.depth _ this
    have e : X.A.in1.units = X.A.units + 1 := rfl
    omega
  · obtain ⟨c, hc2⟩ := PyProof.Rows.sortedHeap_at (vs := us) (out := out.toArray) hoL
    have hv := vals_each hout
    refine wpAny_pure ⟨_, rfl, .ref s3.heap.objs.size, upd H1 s3.heap.objs.size (.lst _), I3.laid (t' := s3.toks) (fun b o e => ?_) (Nat.le_refl _) (show ObjOk X.prog X.w _ _ _ (.lst _) from ⟨?_, out, c, hv, hc2⟩), rfl, q1 k4 _ pk (I3.hok.fresh (Nat.le_refl _))⟩
    · have hb : b < s3.heap.objs.size := Heap.lt_size e
      rw [PyProof.Rows.sortedHeap_old (Nat.ne_of_lt hb) (by rw [PyProof.Rows.size_push']; exact Nat.lt_succ_of_lt hb)]
      exact keep b o e
    · rw [hv.length, hol]; exact hz2
end
/-! typed -/
def dLenSet (ta : DTE) (Γ : DSt) (M : Mem) (R : D → Mem → Prop) : Prop := ta Γ M fun d M1 => match (itemsOf M1 d).bind keysOf with
  | some ks => ks.length + 1 < scanBound ∧ R (.int ((dedup ks).length : Nat)) M1
  | none => False
def dSortSet (ta : DTE) (Γ : DSt) (M : Mem) (R : D → Mem → Prop) : Prop := ta Γ M fun d M1 => match (itemsOf M1 d).bind keysOf with
  | some ks => ks.length + 1 < scanBound ∧ KeyOk (ks.map kD) ∧ ∀ ks' : List Key, ks'.Perm (dedup ks) → R (.lst (srt (ks'.map kD))) M1
  | none => False
section
variable {X : Cx} {B : Hp}
theorem de_lenSet {a : Expr} {ta : DTE} {p p2 q pos : Pos} (hc : X.calm = true) (hg : Gl X "len") (hm : X.mg "len" = none) (hg2 : Gl X "set") (hm2 : X.mg "set" = none) (ha : DE X B a ta)
    (na : starEach [a] X.env = (false, eval a X.env) :: starEach [] X.env := by rfl) : DE X B (.Call (.Name "len" p) [.Call (.Name "set" p2) [a] [] q] [] pos) (dLenSet ta) :=
  de_of (pe_lenSetK hc hg hm hg2 hm2 ha na) fun Γ M F σ H R Q so ht fol => ⟨Γ, M, F, _, so, ht, fun d M1 F1 v H1 m1 e1 r1 q1 => by
    split at q1
    · rename_i ks ek
      obtain ⟨xs, ex, ek⟩ := Option.bind_eq_some_iff.mp ek
      obtain ⟨l, vs, rfl, hq, rs⟩ := itemsOf_rep m1 r1 ex
      rw [keysOf_rep rs ek] at hq
      exact ⟨l, ks, rfl, hq, q1.1, fol_at (fol.up e1) m1 (.int _) q1.2⟩
    · exact q1.elim⟩
theorem de_sortSet {a : Expr} {ta : DTE} {p p2 q pos : Pos} (hu : X.A.units + 64 < cLine) (hc : X.calm = true) (hg : Gl X "sorted") (hm : X.mg "sorted" = none) (hg2 : Gl X "set") (hm2 : X.mg "set" = none) (ha : DE X B a ta)
    (na : starEach [a] X.env = (false, eval a X.env) :: starEach [] X.env := by rfl) : DE X B (.Call (.Name "sorted" p) [.Call (.Name "set" p2) [a] [] q] [] pos) (dSortSet ta) :=
  de_of (pe_sortSetK hu hc hg hm hg2 hm2 ha na) fun Γ M F σ H R Q so ht fol => ⟨Γ, M, F, _, so, ht, fun d M1 F1 v H1 m1 e1 r1 q1 => by
    split at q1
    · rename_i ks ek
      obtain ⟨xs, ex, ek⟩ := Option.bind_eq_some_iff.mp ek
      obtain ⟨l, vs, rfl, hq, rs⟩ := itemsOf_rep m1 r1 ex
      rw [keysOf_rep rs ek] at hq
      refine ⟨l, ks, rfl, hq, q1.1, q1.2.1, fun ks' p hp hn => ?_⟩
      have rk : Reps X.K F1 (ks'.map kV) (ks'.map kD) := reps_of_map (fun k => kD_rep k) ks'
      exact fol_new (fol.up e1) m1 hn (new_lst hn m1 (sorted_reps (fun d => d) rk)) (q1.2.2 ks' hp)
    · exact q1.elim⟩
end
end Dp
/-! D19: [e for p in xs for q in ys]; what bodies want. -/
namespace Dp
open PySem PySem.Spec L2
section
variable {X : Cx} {B : Hp} {pos : Pos}
def lc2Body (xs : List D) (GM : Mem → Prop) (p : Pat) (tt : DTT) (s1 : DTI) (p1 : Pat) (tt1 : DTT) (te : DTE) (vs1 : List Nat) (Γw : DSt) (M1 : Mem) (fin : Addr → List D → Mem → Prop) : Prop := ∀ a, M1 a = none → ∃ Iv : Nat → List D → Mem → Prop, Iv 0 [] (mup M1 a (.lst [])) ∧
  (∀ i acc M', i ≤ xs.length → Iv i acc M' → GM M' ∧ M' a = some (.lst acc)) ∧
  (∀ i x acc M', xs[i]? = some x → Iv i acc M' → ∃ Γ2, patD p x Γw = some Γ2 ∧ tt Γ2 M' fun b M2 => if b = true then s1 Γ2 M2 fun ys GM1 M3 => ∃ Jv : Nat → List D → Mem → Prop, Jv 0 acc M3 ∧
      (∀ j acc M', j ≤ ys.length → Jv j acc M' → GM1 M') ∧
      (∀ j y acc M', ys[j]? = some y → Jv j acc M' → ∃ Γ3, patD p1 y (dwipe Γ2 vs1) = some Γ3 ∧ tt1 Γ3 M' fun b M4 => if b = true then te Γ3 M4 fun z M5 => M5 a = some (.lst acc) ∧ acc.length < sizeLine ∧ Jv (j + 1) (acc ++ [z]) (mup M5 a (.lst (acc ++ [z]))) else Jv (j + 1) acc M4) ∧
      ∀ acc M', Jv ys.length acc M' → Iv (i + 1) acc M'
    else Iv (i + 1) acc M2) ∧
  ∀ acc M', Iv xs.length acc M' → fin a acc M'
def dLc2 (fz : Bool) (s : DTI) (p : Pat) (tt : DTT) (s1 : DTI) (p1 : Pat) (tt1 : DTT) (te : DTE) (vs vs1 : List Nat) (Γ : DSt) (M : Mem) (R : D → Mem → Prop) : Prop := s Γ M fun xs GM M1 => lc2Body xs GM p tt s1 p1 tt1 te vs1 (dwipe Γ vs) M1 fun a acc M' => if fz then R (.lst acc) (mdel M' a) else R (.adr a) M'
theorem it_of {J : It} {n : Nat} {G : Hp → Prop} {Y : Nat → Hp → V → Hp → Prop} (w : Walk J n G Y) {H1 : Hp} {Qd : Hp → Prop} {St : (Hp → Prop) → V → Hp → Prop} (Pv : Nat → Hp → Prop) (h0 : Pv 0 H1) (hG : ∀ i H, i ≤ n → Pv i H → G H)
    (hs : ∀ i x H H', i < n → Pv i H → Y i H x H' → St (Pv (i + 1)) x H') (hd : ∀ H, Pv n H → Qd H) :
    ∃ W : Nat → Nat → Hp → Prop, (∃ m, W 0 m H1) ∧ ∀ i m H, W i m H → (J.stop i H ∧ Qd H) ∨ (J.go i H ∧ ∃ Nx : Hp → Prop, (∀ H', Nx H' → ∃ m', m' < m ∧ W (i + 1) m' H') ∧ ∀ x H', J.yld i H x H' → St Nx x H') := by
  refine ⟨fun i m H => m = n - i ∧ i ≤ n ∧ Pv i H, ⟨n, by simp, Nat.zero_le _, h0⟩, ?_⟩
  rintro i m H ⟨rfl, hi, p⟩
  have q := hG i H hi p
  by_cases hlt : i < n
  · exact .inr ⟨w.goes i H hlt q, Pv (i + 1), fun H' p' => ⟨n - (i + 1), by omega, rfl, hlt, p'⟩, fun x H' y => hs i x H H' hlt p (w.yields i H x H' hlt q y)⟩
  · have e : i = n := by omega
    subst e
    exact .inl ⟨w.stops H q, hd H p⟩
theorem lc2_down {s s1 : DTI} {p p1 : Pat} {tt tt1 : DTT} {te : DTE} {vs vs1 : List Nat} {fin : Addr → List D → Mem → Prop} {Γ : DSt} {M : Mem} {F : Hp} {σ : L2.St} {H : Hp} {Q : VK} (hv : ∀ i ∈ patV p, i ∈ vs) (hv1 : ∀ i ∈ patV p1, i ∈ vs1) (so : SOk X.K B Γ M F σ H)
    (ht : s Γ M fun xs GM M1 => lc2Body xs GM p tt s1 p1 tt1 te vs1 (dwipe Γ vs) M1 fin) (hfin : ∀ a acc M' F' H', MOk X.K M' F' H' → Same F F' → M' a = some (.lst acc) → fin a acc M' → Q (.ref a) H') :
    tLc2 (LI X.K B s) (patG X.K p) (LT X.K B tt) (LI X.K B s1) (patG X.K p1) (LT X.K B tt1) (LE X.K B te) vs vs1 σ H Q :=
  ⟨Γ, M, F, _, so, ht, fun J H1 F1 M1 xs GM m1 e1 ⟨G, Y, w, wg, wy⟩ hz hb => fun D hD => by
    obtain ⟨Iv, h0, hG, hstep, hd⟩ := hb D (m1.mfree hD)
    have z0 : Sz X.K (upd H1 D (.lst [])) := sz_upd m1.sz (fun _ e => by cases e; exact Nat.zero_le _) (fun _ e => nomatch e) (fun _ e => nomatch e) (fun _ e => nomatch e) fun _ _ e => nomatch e
    have so1 := so.step e1 m1
    refine it_of w (fun i H => ∃ acc M' F', MOk X.K M' F' H ∧ Same F1 F' ∧ Iv i acc M') ⟨[], _, F1, m1.cell hD (.lst .nil) z0, .refl _, h0⟩ (fun i H hi ⟨acc, M', F', mo, e', iv⟩ => wg M' F' H mo e' (hG i acc M' hi iv).1) ?_ ?_
    · rintro i x H H' hi ⟨acc, M', F', mo, e', iv⟩ y
      obtain ⟨gm, _⟩ := hG i acc M' (Nat.le_of_lt hi) iv
      obtain ⟨F2, d, hd1, m2, e2, r2⟩ := wy i M' F' H x H' hi mo e' gm y
      obtain ⟨Γ2, hp2, q⟩ := hstep i d acc M' hd1 iv
      have sw : SOk X.K B (dwipe Γ vs) M' F2 (wipe σ vs) H' := wiped (so1.step (e'.trans e2) m2) vs
      refine pat_of (vs := vs) p sw r2 hp2 hv fun σ2 so2 w2 => ⟨?_, ?_⟩
      · rw [w2, wipe_wipe]
      · refine ⟨Γ2, M', F2, _, so2, q, fun b M3 F3 H3 m3 e3 q3 => ?_⟩
        have e13 : Same F1 F3 := (e'.trans e2).trans e3
        cases b with
        | false => exact (if_neg Bool.false_ne_true).mpr ⟨acc, M3, F3, m3, e13, by simpa using q3⟩
        | true =>
          refine (if_pos rfl).mpr ⟨Γ2, M3, F3, _, so2.step e3 m3, by simpa using q3, fun J1 H4 F4 M4 ys GM1 m4 e4 ⟨G1, Y1, w1, wg1, wy1⟩ hz1 hb1 => ?_⟩
          obtain ⟨Jv, j0, jG, jstep, jd⟩ := hb1
          have so4 := (so2.step e3 m3).step e4 m4
          refine it_of w1 (fun j H => ∃ acc M' F', MOk X.K M' F' H ∧ Same F4 F' ∧ Jv j acc M') ⟨acc, M4, F4, m4, .refl _, j0⟩ (fun j H hj ⟨acc, M', F', mo, e', jv⟩ => wg1 M' F' H mo e' (jG j acc M' hj jv)) ?_ ?_
          · rintro j x1 H5 H6 hj ⟨acc1, M5, F5, mo5, e5, jv⟩ y1
            obtain ⟨F6, d1, hd6, m6, e6, r6⟩ := wy1 j M5 F5 H5 x1 H6 hj mo5 e5 (jG j acc1 M5 (Nat.le_of_lt hj) jv) y1
            obtain ⟨Γ3, hp3, q6⟩ := jstep j d1 acc1 M5 hd6 jv
            have sw1 : SOk X.K B (dwipe Γ2 vs1) M5 F6 (wipe σ2 vs1) H6 := wiped (so4.step (e5.trans e6) m6) vs1
            refine pat_of (vs := vs1) p1 sw1 r6 hp3 hv1 fun σ3 so3 w3 => ⟨?_, ?_⟩
            · rw [w3, wipe_wipe]
            · refine ⟨Γ3, M5, F6, _, so3, q6, fun b7 M7 F7 H7 m7 e7 q7 => ?_⟩
              have e47 : Same F4 F7 := (e5.trans e6).trans e7
              cases b7 with
              | false => exact (if_neg Bool.false_ne_true).mpr ⟨acc1, M7, F7, m7, e47, by simpa using q7⟩
              | true =>
                refine (if_pos rfl).mpr ⟨Γ3, M7, F7, _, so3.step e7 m7, by simpa using q7, fun yd M8 F8 yv H8 m8 e8 r8 q8 => ?_⟩
                obtain ⟨_, ho, hH, ro⟩ := m8.mem D _ q8.1
                cases ro with
                | lst ro =>
                  have hl8 := ro.len
                  refine ⟨_, hH, by rw [hl8]; exact q8.2.1, acc1 ++ [yd], _, F8, m8.write q8.1 (.lst (reps_snoc ro r8)) (sz_upd m8.sz (fun _ e => by cases e; rw [List.length_append, List.length_singleton, hl8]; exact q8.2.1) (fun _ e => nomatch e) (fun _ e => nomatch e) (fun _ e => nomatch e) fun _ _ e => nomatch e), e47.trans e8, q8.2.2⟩
          · rintro H5 ⟨acc1, M5, F5, mo5, e5, jv⟩
            exact ⟨acc1, M5, F5, mo5, (e13.trans e4).trans e5, jd acc1 M5 jv⟩
    · rintro H ⟨acc, M', F', mo, e', iv⟩
      exact hfin D acc M' F' H mo (e1.trans e') (hG _ acc M' (Nat.le_refl _) iv).2 (hd acc M' iv)⟩
theorem de_lc2 {fz : Bool} {elt tg iter tg1 iter1 : Expr} {ifs ifs1 : List Expr} {scope : Scope} {own : List (Str × Nat)} {vs1 : List Nat} {s s1 : DTI} {p p1 : Pat} {tt tt1 : DTT} {te : DTE} (hc : X.calm = true) (hN : X.N.Nodup) (hi : DI X B tg iter s) (ok : BlkOk X.N X.env.scope scope own) (hvs : ∀ i ∈ vs1, i ∈ own.map (·.2)) (hv : ∀ i ∈ patV p, i ∈ own.map (·.2)) (hv1 : ∀ i ∈ patV p1, i ∈ vs1)
    (hg : ∀ (s : Shared) (H : Hp) (C : Addr) (cl : List (Str × Addr)) (fp : List Addr), PP (X.blk s H scope (compEnvC scope cl C X.env) fp) tg p) (ht : ∀ (s : Shared) (H : Hp) (C : Addr) (cl : List (Str × Addr)) (fp : List Addr), DTs (X.blk s H scope (compEnvC scope cl C X.env) fp) B ifs tt)
    (hi1 : ∀ (s : Shared) (H : Hp) (C : Addr) (cl : List (Str × Addr)) (fp : List Addr), DI (X.blk s H scope (compEnvC scope cl C X.env) fp) B tg1 iter1 s1)
    (hg1 : ∀ (s : Shared) (H : Hp) (C : Addr) (cl : List (Str × Addr)) (fp : List Addr), PP (X.blk s H scope (compEnvC scope cl C X.env) fp) tg1 p1) (ht1 : ∀ (s : Shared) (H : Hp) (C : Addr) (cl : List (Str × Addr)) (fp : List Addr), DTs (X.blk s H scope (compEnvC scope cl C X.env) fp) B ifs1 tt1)
    (he : ∀ (s : Shared) (H : Hp) (C : Addr) (cl : List (Str × Addr)) (fp : List Addr), DE (X.blk s H scope (compEnvC scope cl C X.env) fp) B elt te) (hs : ∀ x, foldedSetIterable iter X.env x = pure x := by intro _; rfl) (hs1 : ∀ env x, foldedSetIterable iter1 env x = pure x := by intro _ _; rfl) :
    DE X B (.ListComp elt [⟨tg, iter, ifs, 0⟩, ⟨tg1, iter1, ifs1, 0⟩] scope pos) (dLc2 fz s p tt s1 p1 tt1 te (own.map (·.2)) vs1) :=
  de_of (pe_lc2 hc hN hi ok hvs hg ht hi1 hg1 ht1 he hs hs1) fun Γ M F σ H R Q so hq fol => lc2_down hv hv1 so hq fun a acc M' F' H' mo e ha q z => .now (by
    cases fz with
    | true =>
      obtain ⟨F2, m2, s2, r2⟩ := lst_frozen mo ha
      exact fol _ _ F2 _ H' m2 (e.trans s2) r2 (by simpa using q)
    | false => exact fol _ _ F' _ H' mo e (.adr a) (by simpa using q))
theorem ds_setLc2 {fz : Bool} {i : Nat} {y : Str} {py spos : Pos} {elt tg iter tg1 iter1 : Expr} {ifs ifs1 : List Expr} {scope : Scope} {own : List (Str × Nat)} {vs1 : List Nat} {s s1 : DTI} {p p1 : Pat} {tt tt1 : DTT} {te : DTE} (hc : X.calm = true) (hN : X.N.Nodup) (hy : X.N[i]? = some y) (hyl : X.env.scope.names.lookup y = some .local)
    (hsw : swapsWith (.ListComp elt [⟨tg, iter, ifs, 0⟩, ⟨tg1, iter1, ifs1, 0⟩] scope pos) (some (.Name y py)) spos.line X.env = pure true) (hi : DI X B tg iter s) (ok : BlkOk X.N X.env.scope scope own) (hvs : ∀ i ∈ vs1, i ∈ own.map (·.2)) (hv : ∀ i ∈ patV p, i ∈ own.map (·.2)) (hv1 : ∀ i ∈ patV p1, i ∈ vs1)
    (hg : ∀ (s : Shared) (H : Hp) (C : Addr) (cl : List (Str × Addr)) (fp : List Addr), PP (X.blk s H scope (compEnvC scope cl C X.env) fp) tg p) (ht : ∀ (s : Shared) (H : Hp) (C : Addr) (cl : List (Str × Addr)) (fp : List Addr), DTs (X.blk s H scope (compEnvC scope cl C X.env) fp) B ifs tt)
    (hi1 : ∀ (s : Shared) (H : Hp) (C : Addr) (cl : List (Str × Addr)) (fp : List Addr), DI (X.blk s H scope (compEnvC scope cl C X.env) fp) B tg1 iter1 s1)
    (hg1 : ∀ (s : Shared) (H : Hp) (C : Addr) (cl : List (Str × Addr)) (fp : List Addr), PP (X.blk s H scope (compEnvC scope cl C X.env) fp) tg1 p1) (ht1 : ∀ (s : Shared) (H : Hp) (C : Addr) (cl : List (Str × Addr)) (fp : List Addr), DTs (X.blk s H scope (compEnvC scope cl C X.env) fp) B ifs1 tt1)
    (he : ∀ (s : Shared) (H : Hp) (C : Addr) (cl : List (Str × Addr)) (fp : List Addr), DE (X.blk s H scope (compEnvC scope cl C X.env) fp) B elt te) (hs : ∀ x, foldedSetIterable iter X.env x = pure x := by intro _; rfl) (hs1 : ∀ env x, foldedSetIterable iter1 env x = pure x := by intro _ _; rfl) :
    DS X B (.Assign [.Name y py] (.ListComp elt [⟨tg, iter, ifs, 0⟩, ⟨tg1, iter1, ifs1, 0⟩] scope pos) spos) (dAsg (dLc2 fz s p tt s1 p1 tt1 te (own.map (·.2)) vs1) (dgN i)) :=
  ds_of (ps_setLc2 hc hN hy hyl hsw hi ok hvs hg ht hi1 hg1 ht1 he hs hs1) fun Γ M F σ H R E so hq fol => lc2_down hv hv1 so hq fun a acc M' F' H' mo e ha q z => .now (by
    cases fz with
    | true =>
      obtain ⟨F2, m2, s2, r2⟩ := lst_frozen mo ha
      exact fol.nx _ _ F2 _ H' ((so.step (e.trans s2) m2).set i r2) (e.trans s2) (by simpa [dgN] using q)
    | false => exact fol.nx _ _ F' _ H' ((so.step e mo).set i (.adr a)) e (by simpa [dgN] using q))
end
/-! ### rooms, constants -/
theorem hu1 {k : Nat} {A : Around} (r : Room k A) : A.units + 1 < cLine := by have := r.un; omega
theorem hu64 {k : Nat} {A : Around} (r : Room k A) : A.units + 64 < cLine := by have := r.un; omega
theorem hu65 {k : Nat} {A : Around} (r : Room k A) : A.units + 65 < cLine := by have := r.un; omega
theorem de_gI {X : Cx} {B : Hp} {pos : Pos} {x : Str} {i : Int} (hg : Gl X x) (hm : ∃ t, X.mg x = some (.int i t)) (hd : (x == ("__debug__" : Str)) = false := by decide) : DE X B (.Name x pos) (dC (.int i)) :=
  hm.elim fun _ h => de_globI hg h hd
theorem de_gS {X : Cx} {B : Hp} {pos : Pos} {x : Str} {y : Str} (hg : Gl X x) (hm : ∃ t, X.mg x = some (.str y t)) (hd : (x == ("__debug__" : Str)) = false := by decide) : DE X B (.Name x pos) (dC (.str y)) :=
  hm.elim fun _ h => de_globS hg h hd
theorem law_exc {P : Program} {w : World} {outer : List Env} {H : Hp} {s : Shared} {e : Value} {s' : Shared} (h : L2.CX P w outer H s L2.E0 e s') : False := by
  obtain ⟨_, _, _, _, _, _, _, _, _, _, _, _, z⟩ := h
  exact z
end Dp
/-! D20: the law's own promise; more of what may be handed back; a tactic. -/
namespace Dp
open PySem PySem.Spec L2
/-! ### the law -/
def spLawD : DSp := fun ds M R _ => ∃ xs : List Int, ds = [.kls (xs.map .int)] ∧ xs.length ≤ 63 ∧ M = (fun _ => none) ∧ ∀ M', R (.bl true) M'
def LSpZ (K : PySem.W.Frag) (dsp : DSp) : Sp := fun vs H Q E => ∃ ds F R RX, Same F H ∧ Reps K F vs ds ∧ dsp ds (fun _ => none) R RX ∧ Fol K F R Q ∧ FolX K F RX E
theorem sz_hok {P : Program} {w : World} {K : PySem.W.Frag} {H : Hp} {h : Heap} (hok : HOk P w H h) : Sz K H where
  lst := fun a xs h => by
    rcases h with h | ⟨o, its, n, hk, hc, hd, hs, hz, r⟩
    · obtain ⟨z, _⟩ := h.ok hok; exact z
    · have e := r.length; simp only [Array.length_toList] at e; omega
  tup := fun a xs h => by
    rcases h with h | ⟨o, its, n, hk, hc, hs, hz, r⟩
    · obtain ⟨z, _⟩ := h.ok hok; exact z
    · have e := r.length; simp only [Array.length_toList] at e; omega
  dK := fun a xs h => (dk_rd hok h).1
  dT := fun a xs h => (dt_rd hok h).1
theorem fnok_z {P : Program} {w : World} {K : PySem.W.Frag} {mg : Str → Option Value} {base : Heap} {CX : CXT} {k : Nat} {f : Addr} {fd : FuncData} {ps : List Str} {dsp : DSp} (F : FnOk P w K mg base CX k f fd ps (LSp K dsp)) (len : ∀ ds M R RX, dsp ds M R RX → ds.length = ps.length) : FnOk P w K mg base CX k f fd ps (LSpZ K dsp) where
  len := fun vs H Q E ⟨ds, F', R, RX, s, r, d, _⟩ => by rw [r.len]; exact len _ _ _ _ d
  run := fun A outer s H args us vs Q E hr he hb hv ⟨ds, F', R, RX, sm, r, d, fol, fx⟩ =>
    F.run A outer s H args us vs Q E hr he hb hv ⟨ds, fun _ => none, F', R, RX, ⟨sm, (fun _ _ h => nomatch h), sz_hok he.hok⟩, r, d, fol, fx⟩
theorem spLaw_len {x : Str} : ∀ ds M R RX, spLawD ds M R RX → ds.length = [x].length := fun ds M R RX ⟨xs, h, _⟩ => by rw [h]; rfl
theorem law_start {K : PySem.W.Frag} {H : Hp} {a : Addr} {ns : List Int} (hl : ns.length ≤ 63) (hS : SqL K H a (ns.map V.int)) : LSpZ K spLawD [.ref a] H (fun v _ => v = .bl true) fun _ _ _ => False :=
  ⟨[.kls (ns.map .int)], H, fun d _ => d = .bl true, noX, .refl H, .cons (.kls hS (by simp) fun i v d h1 h2 => by
    rw [List.getElem?_map] at h1 h2
    cases e : ns[i]? with
    | none => rw [e] at h1; cases h1
    | some n => rw [e] at h1 h2; cases h1; cases h2; exact .int n) .nil, ⟨ns, rfl, hl, rfl, fun _ => rfl⟩, fun d M' F' v H' mo e r q => by subst q; exact r.bl_of, folx0⟩
/-! ### handed back: things that hang in things -/
theorem lk_mono {P P' : Hp → Prop} {H : Hp} (l : Lk P H) (h : ∀ H, P H → P' H) : Lk P' H := l.imp h
/-- the first of a pair is frozen -/
theorem Fz.fst {M M' : Mem} {d d' e : D} (h : Fz M d M' d') : Fz M (.tup [d, e]) M' (.tup [d', e]) := fun K F H v mo r => by
  obtain ⟨a, vs, rfl, hF, rs⟩ := r.tup_of
  obtain ⟨v1, v2, rfl, r1, r2⟩ := reps2 rs
  refine (h K F H v1 mo r1).imp fun H' ⟨F', m, s, r'⟩ => ⟨F', m, s, .tupR (s _ _ hF) (.cons r' (.cons (r2.up s) .nil))⟩
theorem Fz.trans {M M1 M' : Mem} {d d1 d' : D} (h : Fz M d M1 d1) (g : Fz M1 d1 M' d') : Fz M d M' d' := fun K F H v mo r => by
  have key : ∀ {H : Hp}, Lk (fun H' => ∃ F', MOk K M1 F' H' ∧ Same F F' ∧ Rep K F' v d1) H → Lk (fun H' => ∃ F', MOk K M' F' H' ∧ Same F F' ∧ Rep K F' v d') H := by
    intro H l
    induction l with
    | now q =>
      obtain ⟨F1, m1, s1, r1⟩ := q
      exact (g K F1 _ v m1 r1).imp fun H' ⟨F', m', s', r'⟩ => ⟨F', m', s1.trans s', r'⟩
    | lock h m _ ih => exact .lock h m ih
  exact key (h K F H v mo r)
theorem mdel_none {M : Mem} {a b : Addr} (h : M b = none) : mdel M a b = none := by unfold mdel; split <;> first | rfl | exact h
theorem mdel_ne {M : Mem} {a b : Addr} (h : b ≠ a) : mdel M a b = M b := if_neg h
theorem mle_mdel {M M' : Mem} {a : Addr} (h : MLe M M') (ha : M a = none) : MLe M (mdel M' a) := fun b m e => by
  have q : b ≠ a := fun q => by rw [q, ha] at e; cases e
  rw [mdel_ne q]; exact h b m e
theorem MLe.trans {A B C : Mem} (h : MLe A B) (g : MLe B C) : MLe A C := fun a m e => g a m (h a m e)
theorem MLe.none {A B : Mem} (h : MLe A B) {a : Addr} (e : B a = none) : A a = none := by
  cases q : A a with
  | none => rfl
  | some m => rw [h a m q] at e; cases e
theorem mle_mup {M M' : Mem} {a : Addr} {m : MO} (h : MLe M M') (ha : M a = none) : MLe M (mup M' a m) := fun b n e => by
  have q : b ≠ a := fun q => by rw [q, ha] at e; cases e
  rw [mup_ne q]; exact h b n e
theorem mup_at {M : Mem} {a b : Addr} {m : MO} : mup M a m b = if b = a then some m else M b := rfl
/-! ### look in rows -/
section
variable {κ β γ : Type} [DecidableEq κ]
theorem look_cons {k k' : κ} {v : β} {r : List (κ × β)} : look ((k', v) :: r) k = if k' = k then some v else look r k := rfl
theorem look_map {l : List γ} {kf : γ → κ} {vf : γ → β} {k : κ} : look (l.map fun x => (kf x, vf x)) k = (l.find? fun x => decide (kf x = k)).map vf := by
  induction l with
  | nil => rfl
  | cons x l ih =>
    rw [List.map_cons, look_cons, List.find?_cons, ih]
    by_cases h : kf x = k
    · rw [if_pos h, decide_eq_true h]; rfl
    · rw [if_neg h, decide_eq_false h]
end
end Dp
/-! D21: readings run: equations. -/
namespace Dp
open PySem PySem.Spec L2
section
variable {M : Mem} {a b : Addr}
theorem v_non : vw M .non = .non := rfl
theorem v_bl {x} : vw M (.bl x) = .bl x := rfl
theorem v_int {x} : vw M (.int x) = .int x := rfl
theorem v_str {x} : vw M (.str x) = .str x := rfl
theorem v_tup {x} : vw M (.tup x) = .tup x := rfl
theorem v_lst {x} : vw M (.lst x) = .lst x := rfl
theorem v_kls {x} : vw M (.kls x) = .kls x := rfl
theorem v_dK {x} : vw M (.dK x) = .dK x := rfl
theorem v_dT {x} : vw M (.dT x) = .dT x := rfl
theorem v_ins {C x} : vw M (.ins C x) = .ins C x := rfl
theorem v_cl {xs} (h : M a = some (.lst xs)) : vw M (.adr a) = .lst xs := by simp only [vw, h]
theorem v_cK {xs} (h : M a = some (.dK xs)) : vw M (.adr a) = .dK xs := by simp only [vw, h]
theorem v_cT {xs} (h : M a = some (.dT xs)) : vw M (.adr a) = .dT xs := by simp only [vw, h]
theorem v_cI {C xs} (h : M a = some (.ins C xs)) : vw M (.adr a) = .ins C xs := by simp only [vw, h]
theorem v_cL {o vs xs} (h : M a = some (.lkK o vs xs)) : vw M (.adr a) = .dK xs := by simp only [vw, h]
theorem f_ins {C fs f} : fldOf M (.ins C fs) f = look fs f := rfl
theorem f_cI {C fs f} (h : M a = some (.ins C fs)) : fldOf M (.adr a) f = look fs f := by unfold fldOf; rw [v_cI h]
theorem da_dKs {kvs : List (Sum Int Str × D)} {s : Str} : dictAt M (.dK kvs) (.str s) = some (look kvs (Sum.inr s)) := by
  simp only [dictAt, vw, keyOf, Option.map_some]
theorem da_cKs {kvs : List (Sum Int Str × D)} {s : Str} (h : M a = some (.dK kvs)) : dictAt M (.adr a) (.str s) = some (look kvs (Sum.inr s)) := by
  unfold dictAt; rw [v_cK h]; simp only [keyOf, Option.map_some]
theorem da_cLs {o vs} {kvs : List (Sum Int Str × D)} {s : Str} (h : M a = some (.lkK o vs kvs)) : dictAt M (.adr a) (.str s) = some (look kvs (Sum.inr s)) := by
  unfold dictAt; rw [v_cL h]; simp only [keyOf, Option.map_some]
theorem da_dKi {kvs : List (Sum Int Str × D)} {s : Int} : dictAt M (.dK kvs) (.int s) = some (look kvs (Sum.inl s)) := by
  simp only [dictAt, vw, keyOf, Option.map_some]
theorem da_cKi {kvs : List (Sum Int Str × D)} {s : Int} (h : M a = some (.dK kvs)) : dictAt M (.adr a) (.int s) = some (look kvs (Sum.inl s)) := by
  unfold dictAt; rw [v_cK h]; simp only [keyOf, Option.map_some]
theorem ix_dKs {kvs : List (Sum Int Str × D)} {s : Str} : ixB M (.dK kvs) (.str s) = look kvs (Sum.inr s) := by
  unfold ixB; rw [v_dK]; dsimp only; rw [da_dKs]; rfl
theorem ix_cKs {kvs : List (Sum Int Str × D)} {s : Str} (h : M a = some (.dK kvs)) : ixB M (.adr a) (.str s) = look kvs (Sum.inr s) := by
  unfold ixB; rw [v_cK h]; dsimp only; rw [da_cKs h]; rfl
theorem ix_dKi {kvs : List (Sum Int Str × D)} {s : Int} : ixB M (.dK kvs) (.int s) = look kvs (Sum.inl s) := by
  unfold ixB; rw [v_dK]; dsimp only; rw [da_dKi]; rfl
theorem ix_cKi {kvs : List (Sum Int Str × D)} {s : Int} (h : M a = some (.dK kvs)) : ixB M (.adr a) (.int s) = look kvs (Sum.inl s) := by
  unfold ixB; rw [v_cK h]; dsimp only; rw [da_cKi h]; rfl
theorem ix_lst {xs : List D} {i : Int} : ixB M (.lst xs) (.int i) = L2.atI xs i := rfl
theorem ix_tup {xs : List D} {i : Int} : ixB M (.tup xs) (.int i) = L2.atI xs i := rfl
theorem ix_kls {xs : List D} {i : Int} : ixB M (.kls xs) (.int i) = L2.atI xs i := rfl
theorem ix_cl {xs : List D} {i : Int} (h : M a = some (.lst xs)) : ixB M (.adr a) (.int i) = L2.atI xs i := by
  unfold ixB; rw [v_cl h]; rfl
theorem lo_lst {xs} : lstOf M (.lst xs) = some xs := rfl
theorem lo_kls {xs} : lstOf M (.kls xs) = some xs := rfl
theorem lo_cl {xs} (h : M a = some (.lst xs)) : lstOf M (.adr a) = some xs := by unfold lstOf; rw [v_cl h]
theorem io_lst {xs} : itemsOf M (.lst xs) = some xs := rfl
theorem io_tup {xs} : itemsOf M (.tup xs) = some xs := rfl
theorem io_kls {xs} : itemsOf M (.kls xs) = some xs := rfl
theorem io_cl {xs} (h : M a = some (.lst xs)) : itemsOf M (.adr a) = some xs := by unfold itemsOf; rw [v_cl h]
theorem ki_lst {xs} : keysOrItems M (.lst xs) = some xs := rfl
theorem ki_tup {xs} : keysOrItems M (.tup xs) = some xs := rfl
theorem ki_dK {kvs} : keysOrItems M (.dK kvs) = some (kvs.map fun kv => kD kv.1) := rfl
theorem ki_cl {xs} (h : M a = some (.lst xs)) : keysOrItems M (.adr a) = some xs := by unfold keysOrItems; rw [v_cl h]
theorem ki_cK {kvs} (h : M a = some (.dK kvs)) : keysOrItems M (.adr a) = some (kvs.map fun kv => kD kv.1) := by unfold keysOrItems; rw [v_cK h]
theorem dd_dK {kvs} : isDict M (.dK kvs) = true := rfl
theorem dd_cK {kvs} (h : M a = some (.dK kvs)) : isDict M (.adr a) = true := by unfold isDict; rw [v_cK h]
theorem dd_cT {kvs} (h : M a = some (.dT kvs)) : isDict M (.adr a) = true := by unfold isDict; rw [v_cT h]
theorem in_look {β : Type} {o : Option β} : (o.isSome = true) ↔ ∃ x, o = some x := Option.isSome_iff_exists
/-! == by kinds -/
theorem e_ii {i j : Int} : eqB (.int i) (.int j) = some (decide (i = j)) := rfl
theorem e_ss {i j : Str} : eqB (.str i) (.str j) = some (decide (i = j)) := rfl
theorem e_bb {i j : Bool} : eqB (.bl i) (.bl j) = some (decide (i = j)) := rfl
/-! membership -/
theorem inB_dK {x : Str} {kvs} : inB M (.str x) (.dK kvs) = some (look kvs (Sum.inr x)).isSome := by
  unfold inB; rw [v_dK]; dsimp only; rw [da_dKs]; rfl
theorem inB_cK {x : Str} {kvs} (h : M a = some (.dK kvs)) : inB M (.str x) (.adr a) = some (look kvs (Sum.inr x)).isSome := by
  unfold inB; rw [v_cK h]; dsimp only; rw [da_cKs h]; rfl
theorem inB_tup {x : D} {xs} : inB M x (.tup xs) = seqIn x xs := rfl
theorem inB_lst {x : D} {xs} : inB M x (.lst xs) = seqIn x xs := rfl
theorem inB_cl {x : D} {xs} (h : M a = some (.lst xs)) : inB M x (.adr a) = seqIn x xs := by unfold inB; rw [v_cl h]
theorem strs_sc (xs : List Str) : (xs.map D.str).all sc = true := by
  rw [List.all_eq_true]; intro x hx; obtain ⟨s, _, rfl⟩ := List.mem_map.mp hx; rfl
theorem strs_any (x : Str) (xs : List Str) : ((xs.map D.str).any fun z => eqS z (.str x)) = decide (x ∈ xs) := by
  induction xs with
  | nil => rfl
  | cons y ys ih =>
    rw [List.map_cons, List.any_cons, ih]
    show (decide (y = x) || decide (x ∈ ys)) = _
    by_cases h : y = x
    · subst h
      rw [decide_eq_true rfl, decide_eq_true (List.mem_cons_self)]; rfl
    · rw [decide_eq_false h, Bool.false_or]
      by_cases g : x ∈ ys
      · rw [decide_eq_true g, decide_eq_true (List.mem_cons_of_mem _ g)]
      · rw [decide_eq_false g, decide_eq_false fun c => (List.mem_cons.mp c).elim (fun e => h e.symm) g]
theorem seqIn_strs {x : Str} {xs : List Str} : seqIn (.str x) (xs.map .str) = some (decide (x ∈ xs)) := by
  unfold seqIn
  rw [if_pos (by rw [strs_sc]; rfl), strs_any]
/-! rows with text keys -/
theorem look_str {α : Type} (l : List (Str × α)) (f : α → D) (x : Str) : look (l.map fun p => (((Sum.inr p.1 : Sum Int Str)), f p.2)) (Sum.inr x) = (l.lookup x).map f := by
  induction l with
  | nil => rfl
  | cons p l ih =>
    obtain ⟨y, v⟩ := p
    rw [List.map_cons, look_cons, ih, List.lookup_cons]
    by_cases h : y = x
    · subst h; simp
    · have h2 : (x == y) = false := by simpa using fun q => h q.symm
      rw [if_neg (fun q => h (Sum.inr.inj q)), h2]
end
theorem lim : (1000000 : Nat) ≤ sizeLine := by rw [PySem.sizeLine_eq]; decide
end Dp
/-! D22: orders. -/
namespace Dp
open PySem PySem.Spec L2
/-- the order of texts -/
def sLe (a b : Str) : Bool := decide (a.cps.toList ≤ b.cps.toList)
theorem str_ext {a b : Str} (h : a.cps.toList = b.cps.toList) : a = b := by
  cases a; cases b
  congr
  exact Array.toList_inj.mp h
theorem sLe_refl (a : Str) : sLe a a = true := decide_eq_true (List.le_refl _)
theorem sLe_trans {a b c : Str} (h : sLe a b = true) (g : sLe b c = true) : sLe a c = true := decide_eq_true (List.le_trans (of_decide_eq_true h) (of_decide_eq_true g))
theorem sLe_total (a b : Str) : sLe a b = true ∨ sLe b a = true := (List.le_total a.cps.toList b.cps.toList).imp (fun h => decide_eq_true h) fun h => decide_eq_true h
theorem sLe_anti {a b : Str} (h : sLe a b = true) (g : sLe b a = true) : a = b := str_ext (List.le_antisymm (of_decide_eq_true h) (of_decide_eq_true g))
def ssort (l : List Str) : List Str := l.mergeSort sLe
theorem ssort_perm (l : List Str) : (ssort l).Perm l := List.mergeSort_perm _ _
theorem ssort_sorted (l : List Str) : (ssort l).Pairwise fun a b => sLe a b = true := PySem.W.sort_pairwise (le := sLe) ⟨fun _ _ _ h g => sLe_trans h g, sLe_total⟩ l
theorem srt_strs (l : List Str) : srt (l.map .str) = (ssort l).map .str := by
  unfold srt srtK ssort
  refine (PySem.W.sort_maps D.str fun a _ b _ => ?_).symm
  have h := congrFun (congrFun (PySem.W.dataLe_str (β := Str) fun x => x) a) b
  exact h.symm
theorem strs_perm {l l' : List Str} (h : l.Perm l') : ssort l = ssort l' := by
  refine List.Perm.eq_of_pairwise (le := fun a b => sLe a b = true) (fun a b _ _ h g => sLe_anti h g) (ssort_sorted l) (ssort_sorted l') ((ssort_perm l).trans (h.trans (ssort_perm l').symm))
theorem keyOk_strs {l : List Str} (h : ∀ x ∈ l, PyData.strOk x = true) : KeyOk (l.map .str) := by
  refine ⟨List.all_eq_true.mpr fun x hx => ?_, ?_, ?_⟩
  · obtain ⟨s, hs, rfl⟩ := List.mem_map.mp hx
    simpa [flatN] using h s hs
  · rw [List.map_map]; exact PySem.W.AllAlike.of fun _ _ => by simp [toP, PySem.W.alike]
  · rw [List.map_map]; exact PySem.W.Sortable.others fun _ => by simp [toP]
theorem lt_is (i j : Int) (s t : Str) : PySem.W.dataLt (.tuple [.int i, .str s]) (.tuple [.int j, .str t]) = decide (i < j ∨ (i = j ∧ s.cps.toList < t.cps.toList)) := by
  rw [PySem.W.dataLt_pair (by simp [PySem.W.alike]) (by simp [PySem.W.alike]), PySem.W.dataLt_int, PySem.W.dataLt_str]
  simp only [PyData.eqv, beq_iff_eq]
  by_cases h1 : i = j
  · rw [if_pos h1]
    by_cases h2 : s = t
    · subst h2 h1
      rw [if_pos rfl]
      have : ¬ (i < i ∨ i = i ∧ s.cps.toList < s.cps.toList) := by
        rintro (h | ⟨_, h⟩)
        · omega
        · exact List.lt_irrefl _ h
      simp [this]
    · rw [if_neg h2]
      subst h1
      simp
  · rw [if_neg h1]
    simp [h1]
/-- (number, text) up -/
def isLe (p q : Int × Str) : Bool := decide (p.1 < q.1) || (decide (p.1 = q.1) && sLe p.2 q.2)
theorem isLe_total (p q : Int × Str) : isLe p q = true ∨ isLe q p = true := by
  unfold isLe
  rcases Int.lt_trichotomy p.1 q.1 with h | h | h
  · left; simp [h]
  · rcases sLe_total p.2 q.2 with g | g
    · left; simp [h, g]
    · right; simp [h, g]
  · right; simp [h]
theorem isLe_trans {p q r : Int × Str} (h : isLe p q = true) (g : isLe q r = true) : isLe p r = true := by
  unfold isLe at *
  simp only [Bool.or_eq_true, Bool.and_eq_true, decide_eq_true_eq] at *
  rcases h with h | ⟨h1, h2⟩ <;> rcases g with g | ⟨g1, g2⟩
  · left; omega
  · left; omega
  · left; omega
  · right; exact ⟨by omega, sLe_trans h2 g2⟩
theorem isLe_anti {p q : Int × Str} (h : isLe p q = true) (g : isLe q p = true) : p = q := by
  unfold isLe at *
  simp only [Bool.or_eq_true, Bool.and_eq_true, decide_eq_true_eq] at *
  rcases h with h | ⟨h1, h2⟩ <;> rcases g with g | ⟨g1, g2⟩
  · omega
  · omega
  · omega
  · exact Prod.ext h1 (sLe_anti h2 g2)
theorem dataLe_is {β : Type} (x : β → Int) (y : β → Str) : PySem.W.dataLe false (fun b => .tuple [.int (x b), .str (y b)]) = fun p q => isLe (x p, y p) (x q, y q) := by
  funext p q
  show (!PySem.W.dataLt (.tuple [.int (x q), .str (y q)]) (.tuple [.int (x p), .str (y p)])) = _
  rw [lt_is]
  unfold isLe sLe
  rw [Bool.eq_iff_iff]
  simp only [Bool.not_eq_true', decide_eq_false_iff_not, Bool.or_eq_true, Bool.and_eq_true, decide_eq_true_eq]
  constructor
  · intro h
    rcases Int.lt_trichotomy (x p) (x q) with a | a | a
    · exact .inl a
    · refine .inr ⟨a, ?_⟩
      exact List.not_lt.mp fun c => h (.inr ⟨a.symm, c⟩)
    · exact absurd (.inl a) h
  · rintro (h | ⟨h1, h2⟩) (g | ⟨g1, g2⟩)
    · omega
    · omega
    · omega
    · exact absurd g2 (List.not_lt.mpr h2)
theorem keyOk_is {α : Type} {l : List α} (x : α → Int) (y : α → Str) (h : ∀ a ∈ l, PyData.strOk (y a) = true) : KeyOk (l.map fun a => D.tup [.int (x a), .str (y a)]) := by
  refine ⟨List.all_eq_true.mpr fun d hd => ?_, ?_, ?_⟩
  · obtain ⟨a, ha, rfl⟩ := List.mem_map.mp hd
    simp [flatN, h a ha]
  · rw [List.map_map]; exact PySem.W.AllAlike.of fun _ _ => by simp [toP, toPs, PySem.W.alike, PySem.W.alikeAll]
  · rw [List.map_map]; exact PySem.W.Sortable.tuples fun _ => ⟨_, _, by simp [toP, toPs]; exact ⟨rfl, rfl⟩⟩
/-- rows sorted by a number and a text -/
theorem srtK_is {α : Type} (l : List α) (e : α → D) (x : α → Int) (y : α → Str) (key : D → D) (hk : ∀ a ∈ l, key (e a) = .tup [.int (x a), .str (y a)]) :
    srtK key (l.map e) = (l.mergeSort fun p q => isLe (x p, y p) (x q, y q)).map e := by
  unfold srtK
  refine (PySem.W.sort_maps e fun a ha b hb => ?_).symm
  have h := congrFun (congrFun (dataLe_is x y) a) b
  rw [← h]
  show (!PySem.W.dataLt (.tuple [.int (x b), .str (y b)]) (.tuple [.int (x a), .str (y a)])) = (!PySem.W.dataLt (toP (key (e b))) (toP (key (e a))))
  rw [hk a ha, hk b hb]
  simp [toP, toPs]
/-! == with [] -/
theorem eqv_nil (xs : List PyData) : PyData.eqv (.list xs) (.list []) = xs.isEmpty := by
  cases xs <;> simp [PyData.eqv, PyData.eqvAll]
theorem eq_kls_nil {xs : List D} (h : xs.all (flatN 8) = true) : eqB (.kls xs) (.lst []) = some xs.isEmpty := by
  have e : eqB (.kls xs) (.lst []) = if flatN 9 (.kls xs) && flatN 9 (.lst []) then some (deq (.kls xs) (.lst [])) else none := rfl
  rw [e, if_pos (by simp [flatN, h])]
  unfold deq
  simp only [toP, toPs]
  rw [eqv_nil, toPs_map]
  cases xs <;> rfl
theorem eq_lst_nil {xs : List D} (h : xs.all (flatN 8) = true) : eqB (.lst xs) (.lst []) = some xs.isEmpty := by
  have e : eqB (.lst xs) (.lst []) = if flatN 9 (.lst xs) && flatN 9 (.lst []) then some (deq (.lst xs) (.lst [])) else none := rfl
  rw [e, if_pos (by simp [flatN, h])]
  unfold deq
  simp only [toP, toPs]
  rw [eqv_nil, toPs_map]
  cases xs <;> rfl
theorem ints_flat (xs : List Int) : (xs.map D.int).all (flatN 8) = true := by
  rw [List.all_eq_true]; intro x hx; obtain ⟨s, _, rfl⟩ := List.mem_map.mp hx; rfl
theorem strs_flat {xs : List Str} (h : ∀ x ∈ xs, PyData.strOk x = true) : (xs.map D.str).all (flatN 8) = true := by
  rw [List.all_eq_true]; intro x hx; obtain ⟨s, hs, rfl⟩ := List.mem_map.mp hx; exact h s hs
theorem map_isEmpty {α β : Type} (f : α → β) (l : List α) : (l.map f).isEmpty = l.isEmpty := by cases l <;> rfl
theorem atI_map {α β : Type} (f : α → β) (l : List α) (i : Int) : L2.atI (l.map f) i = (L2.atI l i).map f := by
  unfold L2.atI
  rw [List.length_map]
  cases h : ixN l.length i with
  | none => rfl
  | some j => simp
theorem atI_mem {α : Type} {l : List α} {i : Int} (h0 : 0 ≤ i) (h : i < l.length) : ∃ x, L2.atI l i = some x ∧ x ∈ l := by
  have h1 : i.toNat < l.length := by omega
  refine ⟨l[i.toNat], ?_, List.getElem_mem h1⟩
  unfold L2.atI ixN
  rw [if_pos h0, if_pos h]
  simp [h1]
section
variable {M : Mem} {a : Addr}
theorem ln_lst {xs} : lenOf M (.lst xs) = some xs.length := rfl
theorem ln_tup {xs} : lenOf M (.tup xs) = some xs.length := rfl
theorem ln_kls {xs} : lenOf M (.kls xs) = some xs.length := rfl
theorem ln_dK {k} : lenOf M (.dK k) = some k.length := rfl
theorem ln_cl {xs} (h : M a = some (.lst xs)) : lenOf M (.adr a) = some xs.length := by unfold lenOf; rw [v_cl h]
theorem ln_cK {xs} (h : M a = some (.dK xs)) : lenOf M (.adr a) = some xs.length := by unfold lenOf; rw [v_cK h]
end
theorem szl {n : Nat} (h : n ≤ 1000000) : n ≤ sizeLine := Nat.le_trans h lim
theorem szlt {n : Nat} (h : n < 1000000) : n < sizeLine := Nat.lt_of_lt_of_le h lim
end Dp
/-! D23: rows by names. -/
namespace Dp
open PySem PySem.Spec L2
section
variable {α : Type}
theorem lookup_mem {l : List (Str × α)} {x : Str} {v : α} (h : l.lookup x = some v) : (x, v) ∈ l := by
  induction l with
  | nil => cases h
  | cons p l ih =>
    obtain ⟨y, u⟩ := p
    rw [List.lookup_cons] at h
    by_cases e : x = y
    · subst e
      simp only [beq_self_eq_true] at h
      cases h; exact List.mem_cons_self
    · have : (x == y) = false := by simpa using e
      rw [this] at h
      exact List.mem_cons_of_mem _ (ih h)
theorem lookup_of {l : List (Str × α)} {x : Str} (h : x ∈ l.map (·.1)) : ∃ v, l.lookup x = some v := by
  induction l with
  | nil => cases h
  | cons p l ih =>
    obtain ⟨y, u⟩ := p
    rw [List.lookup_cons]
    by_cases e : x = y
    · subst e; simp
    · have h2 : (x == y) = false := by simpa using e
      rw [h2]
      rw [List.map_cons] at h
      exact ih ((List.mem_cons.mp h).resolve_left e)
theorem lookup_non {l : List (Str × α)} {x : Str} (h : x ∉ l.map (·.1)) : l.lookup x = none := by
  cases e : l.lookup x with
  | none => rfl
  | some v => exact absurd (List.mem_map_of_mem (lookup_mem e)) h
theorem lookup_nodup {l : List (Str × α)} (hn : (l.map (·.1)).Nodup) {x : Str} {v : α} (h : (x, v) ∈ l) : l.lookup x = some v := by
  induction l with
  | nil => cases h
  | cons p l ih =>
    obtain ⟨y, u⟩ := p
    rw [List.lookup_cons]
    rw [List.map_cons, List.nodup_cons] at hn
    rcases List.mem_cons.mp h with e | h
    · cases e; simp
    · have e : x ≠ y := fun q => hn.1 (q ▸ (List.mem_map_of_mem (f := (·.1)) h : x ∈ _))
      have h2 : (x == y) = false := by simpa using e
      rw [h2]; exact ih hn.2 h
theorem lookup_perm {l l' : List (Str × α)} (hn : (l.map (·.1)).Nodup) (p : l.Perm l') (x : Str) : l.lookup x = l'.lookup x := by
  have hn' : (l'.map (·.1)).Nodup := (p.map _).nodup_iff.mp hn
  cases e : l.lookup x with
  | none =>
    symm
    refine lookup_non fun h => ?_
    obtain ⟨v, hv⟩ := lookup_of ((p.map (·.1)).mem_iff.mpr h)
    rw [e] at hv; cases hv
  | some v => exact (lookup_nodup hn' (p.mem_iff.mp (lookup_mem e))).symm
/-- rows by the order of their names -/
def rsrt (l : List (Str × α)) : List (Str × α) := (ssort (l.map (·.1))).filterMap fun x => (l.lookup x).map fun v => (x, v)
theorem filterMap_rows (l : List (Str × α)) : ∀ (xs : List Str), (∀ x ∈ xs, x ∈ l.map (·.1)) → (xs.filterMap fun x => (l.lookup x).map fun v => (x, v)).map (·.1) = xs
  | [], _ => rfl
  | x :: xs, h => by
    obtain ⟨v, hv⟩ := lookup_of (h x List.mem_cons_self)
    rw [List.filterMap_cons, hv]
    simp only [Option.map_some, List.map_cons]
    rw [filterMap_rows l xs fun y hy => h y (List.mem_cons_of_mem _ hy)]
theorem rsrt_keys (l : List (Str × α)) : (rsrt l).map (·.1) = ssort (l.map (·.1)) := filterMap_rows l _ fun x hx => (ssort_perm _).mem_iff.mp hx
theorem rsrt_mem {l : List (Str × α)} (hn : (l.map (·.1)).Nodup) {p : Str × α} : p ∈ rsrt l ↔ p ∈ l := by
  unfold rsrt
  rw [List.mem_filterMap]
  constructor
  · rintro ⟨x, hx, h⟩
    obtain ⟨v, hv, rfl⟩ := Option.map_eq_some_iff.mp h
    exact lookup_mem hv
  · intro h
    exact ⟨p.1, (ssort_perm _).mem_iff.mpr (List.mem_map_of_mem h), by rw [lookup_nodup hn h]; rfl⟩
theorem rsrt_nodup {l : List (Str × α)} (hn : (l.map (·.1)).Nodup) : ((rsrt l).map (·.1)).Nodup := by rw [rsrt_keys]; exact (ssort_perm _).nodup_iff.mpr hn
theorem nodup_of_map {β : Type} {f : α → β} : ∀ {l : List α}, (l.map f).Nodup → l.Nodup
  | [], _ => List.nodup_nil
  | x :: l, h => by
    rw [List.map_cons, List.nodup_cons] at h
    exact List.nodup_cons.mpr ⟨fun q => h.1 (List.mem_map_of_mem q), nodup_of_map h.2⟩
theorem rsrt_perm {l : List (Str × α)} (hn : (l.map (·.1)).Nodup) : (rsrt l).Perm l :=
  (List.perm_ext_iff_of_nodup (nodup_of_map (rsrt_nodup hn)) (nodup_of_map hn)).mpr fun p => rsrt_mem hn
theorem rsrt_lookup {l : List (Str × α)} (hn : (l.map (·.1)).Nodup) (x : Str) : (rsrt l).lookup x = l.lookup x := lookup_perm (rsrt_nodup hn) (rsrt_perm hn) x
theorem keys_str (l : List (Str × α)) (f : α → D) : ((l.map fun p => ((Sum.inr p.1 : Sum Int Str), f p.2)).map fun kv => kD kv.1) = (l.map (·.1)).map .str := by
  rw [List.map_map, List.map_map]; rfl
theorem inr_nodup {l : List Str} (h : l.Nodup) : (l.map (Sum.inr : Str → Sum Int Str)).Nodup := h.map _ fun _ _ n q => n (Sum.inr.inj q)
/-- {x: rows[x] for x in names} -/
theorem merge_rows (l : List (Str × α)) (f : α → D) (xs : List Str) (hn : xs.Nodup) (hs : ∀ x ∈ xs, x ∈ l.map (·.1)) :
    merge [] (xs.map fun x => ((Sum.inr x : Sum Int Str), ((l.lookup x).map f).getD .non)) = (xs.filterMap fun x => (l.lookup x).map fun v => (x, v)).map fun p => (Sum.inr p.1, f p.2) := by
  rw [merge_nil (by rw [List.map_map]; exact inr_nodup hn)]
  clear hn
  induction xs with
  | nil => rfl
  | cons x xs ih =>
    obtain ⟨v, hv⟩ := lookup_of (hs x List.mem_cons_self)
    rw [List.map_cons, List.filterMap_cons, hv]
    simp only [Option.map_some, Option.getD_some, List.map_cons]
    rw [ih fun y hy => hs y (List.mem_cons_of_mem _ hy)]
theorem merge_rsrt (l : List (Str × α)) (f : α → D) (hn : (l.map (·.1)).Nodup) : merge [] ((ssort (l.map (·.1))).map fun x => ((Sum.inr x : Sum Int Str), ((l.lookup x).map f).getD .non)) = (rsrt l).map fun p => (Sum.inr p.1, f p.2) :=
  merge_rows l f _ ((ssort_perm _).nodup_iff.mpr hn) fun x hx => (ssort_perm _).mem_iff.mp hx
end
end Dp
/-! D24: rows written; lists. -/
namespace Dp
open PySem PySem.Spec L2
section
variable {α : Type}
theorem put_rows (l : List (Str × α)) (f : α → D) (k : Str) (v : α) : put (l.map fun p => ((Sum.inr p.1 : Sum Int Str), f p.2)) (Sum.inr k) (f v) = (put l k v).map fun p => (Sum.inr p.1, f p.2) := by
  unfold put
  have e : ((l.map fun p => ((Sum.inr p.1 : Sum Int Str), f p.2)).any fun kv => decide (kv.1 = Sum.inr k)) = l.any fun kv => decide (kv.1 = k) := by
    rw [List.any_map]
    congr 1
    funext p
    show decide ((Sum.inr p.1 : Sum Int Str) = Sum.inr k) = decide (p.1 = k)
    by_cases h : p.1 = k
    · rw [h]; simp
    · rw [decide_eq_false h, decide_eq_false fun q => h (Sum.inr.inj q)]
  rw [e]
  split
  · rw [List.map_map, List.map_map]
    refine List.map_congr_left fun p _ => ?_
    show (if (Sum.inr p.1 : Sum Int Str) = Sum.inr k then ((Sum.inr p.1 : Sum Int Str), f v) else (Sum.inr p.1, f p.2)) = _
    by_cases h : p.1 = k
    · rw [if_pos (by rw [h])]
      show _ = (fun p : Str × α => ((Sum.inr p.1 : Sum Int Str), f p.2)) (if p.1 = k then (p.1, v) else p)
      rw [if_pos h]
    · rw [if_neg fun q => h (Sum.inr.inj q)]
      show _ = (fun p : Str × α => ((Sum.inr p.1 : Sum Int Str), f p.2)) (if p.1 = k then (p.1, v) else p)
      rw [if_neg h]
  · rw [List.map_append]; rfl
theorem put_keys (l : List (Str × α)) (k : Str) (v : α) : (put l k v).map (·.1) = if k ∈ l.map (·.1) then l.map (·.1) else l.map (·.1) ++ [k] := by
  unfold put
  by_cases h : k ∈ l.map (·.1)
  · have : (l.any fun kv => decide (kv.1 = k)) = true := by
      obtain ⟨p, hp, e⟩ := List.mem_map.mp h
      exact List.any_eq_true.mpr ⟨p, hp, decide_eq_true e⟩
    rw [if_pos this, if_pos h, List.map_map]
    refine List.map_congr_left fun p _ => ?_
    show (if p.1 = k then (p.1, v) else p).1 = p.1
    split <;> rfl
  · have : ¬ (l.any fun kv => decide (kv.1 = k)) = true := fun q => by
      obtain ⟨p, hp, e⟩ := List.any_eq_true.mp q
      exact h (List.mem_map.mpr ⟨p, hp, of_decide_eq_true e⟩)
    rw [if_neg this, if_neg h, List.map_append]; rfl
theorem put_nodup {l : List (Str × α)} (h : (l.map (·.1)).Nodup) (k : Str) (v : α) : ((put l k v).map (·.1)).Nodup := by
  rw [put_keys]
  split
  · exact h
  · rename_i hk
    rw [List.nodup_append]
    exact ⟨h, by simp, fun a ha b hb e => hk (by rw [List.mem_singleton.mp hb] at e; exact e ▸ ha)⟩
theorem look_put {κ β : Type} [DecidableEq κ] (l : List (κ × β)) (k x : κ) (v : β) : look (put l k v) x = if k = x then some v else look l x := by
  unfold put
  split
  · rename_i h
    induction l with
    | nil => cases h
    | cons p l ih =>
      obtain ⟨y, u⟩ := p
      rw [List.map_cons]
      by_cases hy : y = k
      · subst hy
        simp only [if_true, look_cons]
        by_cases hx : y = x
        · rw [if_pos hx, if_pos hx]
        · rw [if_neg hx, if_neg hx, if_neg hx]
          clear ih h
          induction l with
          | nil => rfl
          | cons q l ih2 =>
            obtain ⟨z, t⟩ := q
            rw [List.map_cons]
            by_cases hz : z = y
            · subst hz; simp only [if_true, look_cons]; rw [if_neg hx, if_neg hx, ih2]
            · simp only [hz, if_false, look_cons]; rw [ih2]
      · simp only [hy, if_false, look_cons]
        have h' : (l.any fun kv => decide (kv.1 = k)) = true := by simpa [hy] using h
        rw [ih h']
        by_cases hx : y = x
        · rw [if_pos hx, if_pos hx, if_neg (fun q => hy (hx.trans q.symm))]
        · rw [if_neg hx, if_neg hx]
  · rename_i h
    induction l with
    | nil => rfl
    | cons p l ih =>
      obtain ⟨y, u⟩ := p
      have hy : y ≠ k := fun q => h (by simp [q])
      have h' : ¬ (l.any fun kv => decide (kv.1 = k)) = true := fun q => h (by rw [List.any_cons, q, Bool.or_true])
      rw [List.cons_append, look_cons, look_cons, ih h']
      by_cases hx : y = x
      · rw [if_pos hx, if_pos hx, if_neg (fun q => hy (hx.trans q.symm))]
      · rw [if_neg hx, if_neg hx]
theorem look_lookup_ (l : List (Str × α)) (x : Str) : look l x = l.lookup x := by
  induction l with
  | nil => rfl
  | cons p l ih =>
    obtain ⟨y, v⟩ := p
    rw [look_cons, List.lookup_cons, ih]
    by_cases h : y = x
    · subst h; simp
    · have h2 : (x == y) = false := by simpa using fun q => h q.symm
      rw [if_neg h, h2]
theorem lookup_put (l : List (Str × α)) (k x : Str) (v : α) : (put l k v).lookup x = if k = x then some v else l.lookup x := by
  rw [← look_lookup_, look_put, look_lookup_]
/-- the first place of a text -/
theorem str_place {xs : List Str} {n : Str} (h : n ∈ xs) : ∃ j z, (xs.map D.str)[j]? = some z ∧ eqS z (.str n) = true ∧ (∀ (m : Nat) z', m < j → (xs.map D.str)[m]? = some z' → eqS z' (.str n) = false) ∧ (xs.map D.str).eraseIdx j = (xs.erase n).map .str := by
  induction xs with
  | nil => cases h
  | cons x xs ih =>
    by_cases hx : x = n
    · subst hx
      refine ⟨0, .str x, rfl, ?_, fun m z' hm => absurd hm (Nat.not_lt_zero m), ?_⟩
      · show decide (x = x) = true; simp
      · rw [List.map_cons, List.eraseIdx_cons_zero, List.erase_cons_head]
    · obtain ⟨j, z, h1, h2, h3, h4⟩ := ih ((List.mem_cons.mp h).resolve_left fun q => hx q.symm)
      refine ⟨j + 1, z, by rw [List.map_cons, List.getElem?_cons_succ]; exact h1, h2, fun m z' hm hz => ?_, ?_⟩
      · cases m with
        | zero =>
          rw [List.map_cons, List.getElem?_cons_zero] at hz
          cases hz
          show decide (x = n) = false
          exact decide_eq_false hx
        | succ m => rw [List.map_cons, List.getElem?_cons_succ] at hz; exact h3 m z' (by omega) hz
      · rw [List.map_cons, List.eraseIdx_cons_succ, h4, List.erase_cons_tail (by simpa using hx)]
        rfl
end
end Dp
/-! D25: an expression's value frozen. -/
namespace Dp
open PySem PySem.Spec L2
def dFrz (t : DTE) (Γ : DSt) (M : Mem) (R : D → Mem → Prop) : Prop := t Γ M fun d M1 => ∃ d' M', Fz M1 d M' d' ∧ R d' M'
theorem pe_same {X : Cx} {e : Expr} {t : TE} (h : PE X e t) : PE X e t := h
theorem de_frz {X : Cx} {B : Hp} {e : Expr} {t : DTE} (h : DE X B e t) : DE X B e (dFrz t) :=
  de_of h fun Γ M F σ H R Q so ht fol => ⟨Γ, M, F, _, so, ht, fun d M1 F1 v H1 m1 e1 r1 ⟨d', M', hz, q⟩ => fun _ => (hz X.K F1 H1 v m1 r1).imp fun H' ⟨F', m', s', r'⟩ => fol d' M' F' v H' m' (e1.trans s') r' q⟩
theorem fz_dK {M : Mem} {a : Addr} {kvs} (h : M a = some (.dK kvs)) : Fz M (.adr a) (mdel M a) (.dK kvs) := Fz.dK h (MLe.refl _)
theorem fz_lst {M : Mem} {a : Addr} {xs} (h : M a = some (.lst xs)) : Fz M (.adr a) (mdel M a) (.lst xs) := Fz.lst h (MLe.refl _)
end Dp
/-! D26: comprehensions whose parts only add to the memory. -/
namespace Dp
open PySem PySem.Spec L2
/-- [f x for x in l if q x], while the memory grows -/
theorem lc_grow {α : Type} (l : List α) (enc : α → D) (q : α → Bool) (f : α → D) {GM : Mem → Prop} {p : Pat} {tt : DTT} {te : DTE} {Γw : DSt} {M : Mem} {fin : Addr → List D → Mem → Prop} (hG : ∀ M', MLe M M' → GM M')
    (hs : ∀ x ∈ l, ∀ M', MLe M M' → ∃ Γ2, patD p (enc x) Γw = some Γ2 ∧ ∀ (Q : D → Mem → Prop) (Q' : Mem → Prop), (q x = true → ∀ M2, MLe M' M2 → Q (f x) M2) → (q x = false → ∀ M2, MLe M' M2 → Q' M2) → tt Γ2 M' fun b M2 => if b = true then te Γ2 M2 Q else Q' M2)
    (hf : ∀ c M', M c = none → MLe M M' → M' c = some (.lst ((l.filter q).map f)) → fin c ((l.filter q).map f) M') : lcBody (l.map enc) GM p tt te Γw M fin := fun c hc => by
  have le : ∀ {M' : Mem}, (∀ b m, b ≠ c → M b = some m → M' b = some m) → MLe M M' := fun h b m e => h b m (fun q => by rw [q, hc] at e; cases e) e
  refine ⟨fun i acc M' => acc = ((l.take i).filter q).map f ∧ M' c = some (.lst acc) ∧ ∀ b m, b ≠ c → M b = some m → M' b = some m, ⟨rfl, mup_same, fun b m hb e => by rw [mup_ne hb]; exact e⟩, ?_, ?_, ?_⟩
  · rintro i acc M' hi ⟨_, h, g⟩
    exact ⟨hG _ (le g), h⟩
  · rintro i x acc M' hx ⟨rfl, h, g⟩
    rw [List.getElem?_map] at hx
    obtain ⟨y, hy, rfl⟩ := Option.map_eq_some_iff.mp hx
    have ht : l.take (i + 1) = l.take i ++ [y] := by rw [List.take_succ, hy]; rfl
    obtain ⟨Γ2, e, k⟩ := hs y (List.mem_of_getElem? hy) M' (le g)
    refine ⟨Γ2, e, k _ _ (fun hq M2 l2 => ⟨l2 _ _ h, ?_, mup_same, fun b m hb eb => ?_⟩) fun hq M2 l2 => ⟨?_, l2 _ _ h, fun b m hb eb => l2 _ _ (g b m hb eb)⟩⟩
    · rw [ht, List.filter_append, List.map_append, List.filter_cons, if_pos hq]; rfl
    · rw [mup_ne hb]; exact l2 _ _ (g b m hb eb)
    · rw [ht, List.filter_append, List.filter_cons, if_neg (by rw [hq]; exact Bool.false_ne_true), List.filter_nil, List.append_nil]
  · rintro acc M' ⟨rfl, h, g⟩
    rw [List.length_map, List.take_length] at h ⊢
    exact hf c M' hc (le g) h
end Dp
/-! M1: seats: who can be seated together (the plain law). -/
namespace Mt
section
variable {N M : Type} [DecidableEq N] [DecidableEq M]
def cnt (f : N → M) (K : List N) (m : M) : Nat := (K.filter fun x => decide (f x = m)).length
/-- f seats the calls K -/
structure Seats (he : N → List M) (cap : M → Nat) (f : N → M) (K : List N) : Prop where
  he : ∀ x ∈ K, f x ∈ he x
  cp : ∀ m, cnt f K m ≤ cap m
def Sea (he : N → List M) (cap : M → Nat) (K : List N) : Prop := ∃ f, Seats he cap f K
theorem sub_len {l m : List N} (h : l.Nodup) (hs : ∀ x ∈ l, x ∈ m) : l.length ≤ m.length := by
  induction l generalizing m with
  | nil => simp
  | cons x l ih =>
    rw [List.nodup_cons] at h
    have hx : x ∈ m := hs x List.mem_cons_self
    have := ih (m := m.erase x) h.2 fun y hy => by
      have : y ≠ x := fun q => h.1 (q ▸ hy)
      exact (List.mem_erase_of_ne this).mpr (hs y (List.mem_cons_of_mem _ hy))
    rw [List.length_erase_of_mem hx] at this
    have := List.length_pos_of_mem hx
    rw [List.length_cons]
    omega
theorem cnt_cons (f : N → M) (x : N) (K : List N) (m : M) : cnt f (x :: K) m = (if f x = m then 1 else 0) + cnt f K m := by
  unfold cnt
  rw [List.filter_cons]
  by_cases h : f x = m
  · simp [h]; omega
  · simp [h]
theorem cnt_perm {f : N → M} {K L : List N} (h : K.Perm L) (m : M) : cnt f K m = cnt f L m := (h.filter _).length_eq
theorem cnt_snoc (f : N → M) (x : N) (K : List N) (m : M) : cnt f (K ++ [x]) m = cnt f K m + (if f x = m then 1 else 0) := by
  rw [cnt_perm (L := x :: K) (by simpa using List.perm_append_comm (l₁ := K) (l₂ := [x])), cnt_cons]; omega
theorem cnt_congr {f g : N → M} {K : List N} (h : ∀ x ∈ K, f x = g x) (m : M) : cnt f K m = cnt g K m := by
  unfold cnt
  congr 1
  exact List.filter_congr fun x hx => by rw [h x hx]
theorem cnt_sub {f : N → M} {K L : List N} (hK : K.Nodup) (h : ∀ x ∈ K, x ∈ L) (m : M) : cnt f K m ≤ cnt f L m := by
  unfold cnt
  refine sub_len (hK.sublist List.filter_sublist) fun x hx => ?_
  rw [List.mem_filter] at hx ⊢
  exact ⟨h x hx.1, hx.2⟩
theorem Sea.sub {he : N → List M} {cap : M → Nat} {K L : List N} (h : Sea he cap L) (hK : K.Nodup) (hs : ∀ x ∈ K, x ∈ L) : Sea he cap K := by
  obtain ⟨f, h⟩ := h
  exact ⟨f, fun x hx => h.he x (hs x hx), fun m => Nat.le_trans (cnt_sub hK hs m) (h.cp m)⟩
theorem Sea.mono {he he' : N → List M} {cap cap' : M → Nat} {K : List N} (h : Sea he cap K) (hh : ∀ x ∈ K, ∀ m ∈ he x, m ∈ he' x) (hc : ∀ m, cap m ≤ cap' m) : Sea he' cap' K := by
  obtain ⟨f, h⟩ := h
  exact ⟨f, fun x hx => hh x hx _ (h.he x hx), fun m => Nat.le_trans (h.cp m) (hc m)⟩
/-- by a map of counts: who is in C under g is no more than who is in C under f -/
theorem pigeon {f g : N → M} (C : M → Bool) : ∀ (P Q : List N), (∀ m, C m = true → cnt g P m ≤ cnt f Q m) → (P.filter fun x => C (g x)).length ≤ (Q.filter fun x => C (f x)).length
  | [], Q, _ => by simp
  | p :: P, Q, h => by
    by_cases hp : C (g p) = true
    · have h1 := h (g p) hp
      rw [cnt_cons, if_pos rfl] at h1
      have : ∃ q ∈ Q, f q = g p := by
        have h2 : 0 < (Q.filter fun x => decide (f x = g p)).length := by unfold cnt at h1; omega
        obtain ⟨q, hq⟩ := List.exists_mem_of_length_pos h2
        rw [List.mem_filter] at hq
        exact ⟨q, hq.1, of_decide_eq_true hq.2⟩
      obtain ⟨q, hq, e⟩ := this
      have pm := List.perm_cons_erase hq
      have ih := pigeon (f := f) (g := g) C P (Q.erase q) fun m hm => by
        have h3 := h m hm
        rw [cnt_cons, cnt_perm pm, cnt_cons, e] at h3
        omega
      have e2 : (Q.filter fun x => C (f x)).length = ((q :: Q.erase q).filter fun x => C (f x)).length := (pm.filter _).length_eq
      rw [e2, List.filter_cons, List.filter_cons, if_pos hp, if_pos (by rw [e]; exact hp), List.length_cons, List.length_cons]
      omega
    · rw [List.filter_cons, if_neg hp]
      refine pigeon C P Q fun m hm => ?_
      have h3 := h m hm
      rw [cnt_cons] at h3
      omega
/-- the masts that can be reached from b in k steps -/
def R (he : N → List M) (f : N → M) (A : List N) (b : N) : Nat → M → Prop
  | 0, m => m ∈ he b
  | k + 1, m => R he f A b k m ∨ ∃ x ∈ A, R he f A b k (f x) ∧ m ∈ he x
theorem R.mono {he : N → List M} {f : N → M} {A : List N} {b : N} {m : M} {j : Nat} (h : R he f A b j m) : ∀ {k : Nat}, j ≤ k → R he f A b k m
  | 0, hk => by have : j = 0 := by omega
                subst this; exact h
  | k + 1, hk => by
    by_cases e : j = k + 1
    · subst e; exact h
    · exact .inl (R.mono h (by omega))
theorem upd_cnt {f : N → M} {A : List N} {x : N} {m : M} (hA : A.Nodup) (hx : x ∈ A) (m' : M) : cnt (fun y => if y = x then m else f y) A m' + (if f x = m' then 1 else 0) = cnt f A m' + (if m = m' then 1 else 0) := by
  have pm := List.perm_cons_erase hx
  rw [cnt_perm pm, cnt_perm pm (f := f), cnt_cons, cnt_cons, if_pos rfl]
  have : cnt (fun y => if y = x then m else f y) (A.erase x) m' = cnt f (A.erase x) m' := cnt_congr (fun y hy => by
    have : y ≠ x := ((hA.mem_erase_iff).mp hy).1
    rw [if_neg this]) m'
  rw [this]; omega
theorem augment {he : N → List M} {cap : M → Nat} {A : List N} {b : N} (hA : A.Nodup) (hb : b ∉ A) : ∀ (k : Nat) (f : N → M), Seats he cap f A → (∃ m, R he f A b k m ∧ cnt f A m < cap m) → Sea he cap (A ++ [b])
  | 0, f, h, ⟨m, hm, hr⟩ => by
    refine ⟨fun y => if y = b then m else f y, fun x hx => ?_, fun m' => ?_⟩
    · rcases List.mem_append.mp hx with hx | hx
      · have : x ≠ b := fun q => hb (q ▸ hx)
        rw [if_neg this]; exact h.he x hx
      · have : x = b := List.mem_singleton.mp hx
        subst this
        rw [if_pos rfl]; exact hm
    · rw [cnt_snoc, if_pos rfl]
      have e : cnt (fun y => if y = b then m else f y) A m' = cnt f A m' := cnt_congr (fun y hy => by
        have : y ≠ b := fun q => hb (q ▸ hy)
        rw [if_neg this]) m'
      rw [e]
      by_cases q : m = m'
      · subst q; rw [if_pos rfl]; omega
      · rw [if_neg q]; exact h.cp m'
  | k + 1, f, h, ⟨m, hm, hr⟩ => by
    by_cases q : ∃ m, R he f A b k m ∧ cnt f A m < cap m
    · exact augment hA hb k f h q
    · have hnk : ¬ R he f A b k m := fun hk => q ⟨m, hk, hr⟩
      rcases hm with hm | ⟨x, hx, hxk, hmx⟩
      · exact absurd hm hnk
      have hxm : f x ≠ m := fun e => hnk (e ▸ hxk)
      have hu := fun m' => upd_cnt (f := f) (m := m) hA hx m'
      have keep : ∀ j, j ≤ k → ∀ m', R he f A b j m' → R he (fun y => if y = x then m else f y) A b j m' := by
        intro j
        induction j with
        | zero => exact fun _ _ h => h
        | succ j ih =>
          intro hj m' hm'
          rcases hm' with hm' | ⟨y, hy, hyj, hmy⟩
          · exact .inl (ih (by omega) m' hm')
          · by_cases e : y = x
            · subst e
              exact absurd (R.mono (k := k) (show R he f A b (j + 1) m from .inr ⟨y, hy, hyj, hmx⟩) hj) hnk
            · refine .inr ⟨y, hy, ?_, hmy⟩
              have e3 : (fun y => if y = x then m else f y) y = f y := if_neg e
              rw [e3]
              exact ih (by omega) _ hyj
      refine augment hA hb k (fun y => if y = x then m else f y) ⟨fun y hy => ?_, fun m' => ?_⟩ ⟨f x, keep k (Nat.le_refl _) _ hxk, ?_⟩
      · by_cases e : y = x
        · subst e; rw [if_pos rfl]; exact hmx
        · rw [if_neg e]; exact h.he y hy
      · have h1 := hu m'
        have h2 := h.cp m'
        by_cases e : m = m'
        · subst e; rw [if_neg hxm, if_pos rfl] at h1; omega
        · rw [if_neg e] at h1; omega
      · have h1 := hu (f x)
        have h2 := h.cp (f x)
        rw [if_pos rfl, if_neg (Ne.symm hxm)] at h1
        omega
/-- who can't be seated too: all masts that can be reached are full -/
def Rch (he : N → List M) (f : N → M) (A : List N) (b : N) (m : M) : Prop := ∃ k, R he f A b k m
theorem Rch.b {he : N → List M} {f : N → M} {A : List N} {b : N} {m : M} (h : m ∈ he b) : Rch he f A b m := ⟨0, h⟩
theorem Rch.x {he : N → List M} {f : N → M} {A : List N} {b x : N} {m : M} (hx : x ∈ A) (h : Rch he f A b (f x)) (hm : m ∈ he x) : Rch he f A b m := by
  obtain ⟨k, h⟩ := h
  exact ⟨k + 1, .inr ⟨x, hx, h, hm⟩⟩
theorem full {he : N → List M} {cap : M → Nat} {A : List N} {b : N} {f : N → M} (hA : A.Nodup) (hb : b ∉ A) (h : Seats he cap f A) (hn : ¬ Sea he cap (A ++ [b])) {m : M} (hm : Rch he f A b m) : cap m ≤ cnt f A m := by
  obtain ⟨k, hk⟩ := hm
  rcases Nat.lt_or_ge (cnt f A m) (cap m) with q | q
  · exact absurd (augment hA hb k f h ⟨m, hk, q⟩) hn
  · exact q
/-- a closed lot of full masts: no more calls of it can be seated -/
theorem no_more {he : N → List M} {cap : M → Nat} {A B : List N} {f : N → M} (C : M → Prop) (hB : B.Nodup) (hC : ∀ m, C m → cap m ≤ cnt f A m) (hcl : ∀ x ∈ B, (∀ m ∈ he x, C m) ∨ (x ∈ A ∧ ¬ C (f x))) (h : Sea he cap B) : B.length ≤ A.length := by
  classical
  obtain ⟨g, hg⟩ := h
  have h1 := pigeon (f := f) (g := g) (fun m => decide (C m)) B A fun m hm => Nat.le_trans (hg.cp m) (hC m (of_decide_eq_true hm))
  have h2 : (B.filter fun x => !decide (C (g x))).length ≤ (A.filter fun x => !decide (C (f x))).length := by
    refine sub_len (hB.sublist List.filter_sublist) fun x hx => ?_
    rw [List.mem_filter] at hx ⊢
    have hx2 : ¬ C (g x) := by simpa using hx.2
    rcases hcl x hx.1 with q | ⟨q1, q2⟩
    · exact absurd (q _ (hg.he x hx.1)) hx2
    · exact ⟨q1, by simpa using q2⟩
  have e : ∀ (l : List N) (p : N → Bool), l.length = (l.filter p).length + (l.filter fun x => !p x).length := fun l p => by
    induction l with
    | nil => rfl
    | cons x l ih => rw [List.filter_cons, List.filter_cons]; cases p x <;> simp [ih] <;> omega
  rw [e B fun x => decide (C (g x)), e A fun x => decide (C (f x))]
  exact Nat.add_le_add h1 h2
theorem exchange {he : N → List M} {cap : M → Nat} {A B : List N} (hA : A.Nodup) (hB : B.Nodup) (sA : Sea he cap A) (sB : Sea he cap B) (hl : A.length < B.length) : ∃ b ∈ B, b ∉ A ∧ Sea he cap (A ++ [b]) := by
  classical
  by_cases q : ∃ b ∈ B, b ∉ A ∧ Sea he cap (A ++ [b])
  · exact q
  have q' : ∀ b ∈ B, b ∉ A → ¬ Sea he cap (A ++ [b]) := fun b h1 h2 h3 => q ⟨b, h1, h2, h3⟩
  obtain ⟨f, hf⟩ := sA
  have := no_more (f := f) (A := A) (fun m => ∃ b ∈ B, b ∉ A ∧ Rch he f A b m) hB (fun m ⟨b, h1, h2, h3⟩ => full hA h2 hf (q' b h1 h2) h3) (fun x hx => by
    by_cases hxA : x ∈ A
    · by_cases hc : ∃ b ∈ B, b ∉ A ∧ Rch he f A b (f x)
      · obtain ⟨b, h1, h2, h3⟩ := hc
        exact .inl fun m hm => ⟨b, h1, h2, h3.x hxA hm⟩
      · exact .inr ⟨hxA, hc⟩
    · exact .inl fun m hm => ⟨x, hx, hxA, .b hm⟩) sB
  omega
theorem snoc_nodup {A : List N} {b : N} (h : A.Nodup) (hb : b ∉ A) : (A ++ [b]).Nodup := by
  rw [List.nodup_append]
  exact ⟨h, by simp, fun x hx y hy e => hb (by rw [List.mem_singleton.mp hy] at e; exact e ▸ hx)⟩
theorem extend {he : N → List M} {cap : M → Nat} {B : List N} (hB : B.Nodup) (sB : Sea he cap B) : ∀ (k : Nat) (Z : List N), Z.Nodup → Sea he cap Z → Z.length + k = B.length → ∃ Z', Z'.Nodup ∧ Sea he cap Z' ∧ Z'.length = B.length ∧ (∀ x ∈ Z, x ∈ Z') ∧ ∀ x ∈ Z', x ∈ Z ∨ x ∈ B
  | 0, Z, hZ, sZ, hl => ⟨Z, hZ, sZ, by omega, fun _ h => h, fun _ h => .inl h⟩
  | k + 1, Z, hZ, sZ, hl => by
    obtain ⟨b, hb, hbZ, hs⟩ := exchange hZ hB sZ sB (by omega)
    obtain ⟨Z', h1, h2, h3, h4, h5⟩ := extend hB sB k (Z ++ [b]) (snoc_nodup hZ hbZ) hs (by rw [List.length_append, List.length_singleton]; omega)
    refine ⟨Z', h1, h2, h3, fun x hx => h4 x (List.mem_append_left _ hx), fun x hx => ?_⟩
    rcases h5 x hx with h | h
    · rcases List.mem_append.mp h with h | h
      · exact .inl h
      · rw [List.mem_singleton.mp h]; exact .inr hb
    · exact .inr h
/-- n can be seated with whoever of P can be seated -/
def Free (he : N → List M) (cap : M → Nat) (P : N → Prop) (n : N) : Prop := ∀ Z : List N, Z.Nodup → (∀ x ∈ Z, P x) → Sea he cap Z → Sea he cap (Z ++ [n])
/-- the calls, one by one -/
inductive Gr (he : N → List M) (cap : M → Nat) : List N → List N → Prop
  | nil : Gr he cap [] []
  | kept {l K n} (h : Gr he cap l K) (s : Sea he cap (K ++ [n])) : Gr he cap (l ++ [n]) (K ++ [n])
  | gone {l K n} (h : Gr he cap l K) (s : ¬ Sea he cap (K ++ [n])) : Gr he cap (l ++ [n]) K
theorem Gr.sub {he : N → List M} {cap : M → Nat} {l K : List N} (h : Gr he cap l K) : K.Sublist l := by
  induction h with
  | nil => exact .slnil
  | kept h s ih => exact ih.append (List.Sublist.refl _)
  | gone h s ih => exact ih.trans (List.sublist_append_left _ _)
theorem Gr.sea [Inhabited M] {he : N → List M} {cap : M → Nat} {l K : List N} (h : Gr he cap l K) : Sea he cap K := by
  induction h with
  | nil => exact ⟨fun _ => default, ⟨(fun _ h => (nomatch h)), fun m => by simp [cnt]⟩⟩
  | kept h s ih => exact s
  | gone h s ih => exact ih
theorem Gr.max {he : N → List M} {cap : M → Nat} {l K : List N} (h : Gr he cap l K) (hl : l.Nodup) : ∀ n ∈ l, n ∉ K → ¬ Sea he cap (K ++ [n]) := by
  induction h with
  | nil => exact fun _ h => nomatch h
  | @kept l K n h s ih =>
    intro x hx hxK hs
    rw [List.mem_append, not_or] at hxK
    have hl' := List.nodup_append.mp hl
    rcases List.mem_append.mp hx with hx | hx
    · refine ih hl'.1 x hx hxK.1 (hs.sub (snoc_nodup (hl'.1.sublist h.sub) hxK.1) fun y hy => ?_)
      rcases List.mem_append.mp hy with hy | hy
      · exact List.mem_append_left _ (List.mem_append_left _ hy)
      · exact List.mem_append_right _ hy
    · exact hxK.2 hx
  | @gone l K n h s ih =>
    intro x hx hxK hs
    rcases List.mem_append.mp hx with hx | hx
    · exact ih (List.nodup_append.mp hl).1 x hx hxK hs
    · rw [List.mem_singleton.mp hx] at hs; exact s hs
theorem Gr.greatest [Inhabited M] {he : N → List M} {cap : M → Nat} {l K Z : List N} (h : Gr he cap l K) (hl : l.Nodup) (hZ : Z.Nodup) (sZ : Sea he cap Z) (hs : ∀ x ∈ Z, x ∈ l) : Z.length ≤ K.length := by
  rcases Nat.lt_or_ge K.length Z.length with q | q
  · obtain ⟨b, h1, h2, h3⟩ := exchange (hl.sublist h.sub) hZ h.sea sZ q
    exact absurd h3 (h.max hl b (hs b h1) h2)
  · exact q
/-- who is kept next -/
theorem Gr.free [Inhabited M] {he : N → List M} {cap : M → Nat} {l K : List N} {n : N} (h : Gr he cap l K) (hl : (l ++ [n]).Nodup) : Sea he cap (K ++ [n]) ↔ Free he cap (fun x => x ∈ l) n := by
  have hl' := List.nodup_append.mp hl
  have hn : n ∉ l := fun q => hl'.2.2 n q n (by simp) rfl
  have hK := hl'.1.sublist h.sub
  have hKl : ∀ x ∈ K, x ∈ l := fun x hx => h.sub.subset hx
  constructor
  · intro hs Z hZ hP sZ
    have hB := snoc_nodup hK fun q => hn (hKl n q)
    have hle := h.greatest hl'.1 hZ sZ hP
    obtain ⟨Z', h1, h2, h3, h4, h5⟩ := extend hB hs ((K ++ [n]).length - Z.length) Z hZ sZ (by rw [List.length_append, List.length_singleton]; omega)
    by_cases q : n ∈ Z'
    · refine h2.sub (snoc_nodup hZ fun q => hn (hP n q)) fun x hx => ?_
      rcases List.mem_append.mp hx with hx | hx
      · exact h4 x hx
      · rw [List.mem_singleton.mp hx]; exact q
    · have := h.greatest hl'.1 h1 h2 fun x hx => by
        rcases h5 x hx with h | h
        · exact hP x h
        · rcases List.mem_append.mp h with h | h
          · exact hKl x h
          · rw [List.mem_singleton.mp h] at hx; exact absurd hx q
      rw [h3, List.length_append, List.length_singleton] at this
      omega
  · intro hf
    exact hf K hK hKl h.sea
theorem Gr.mem [Inhabited M] {he : N → List M} {cap : M → Nat} {l K : List N} (h : Gr he cap l K) (hl : l.Nodup) : ∀ (l1 l2 : List N) (n : N), l = l1 ++ n :: l2 → (n ∈ K ↔ Free he cap (fun x => x ∈ l1) n) := by
  induction h with
  | nil => intro l1 l2 n e; simp at e
  | @kept l K n h s ih =>
    intro l1 l2 x e
    have hl' := List.nodup_append.mp hl
    rcases List.eq_nil_or_concat l2 with rfl | ⟨l2', last, rfl⟩
    · obtain ⟨e1, e2⟩ := List.append_inj' e rfl
      cases e2; subst e1
      have := h.free hl
      exact ⟨fun _ => this.mp s, fun _ => by simp⟩
    · have e' : l ++ [n] = (l1 ++ x :: l2') ++ [last] := by rw [e]; simp
      obtain ⟨e1, e2⟩ := List.append_inj' e' rfl
      rw [← ih hl'.1 l1 l2' x e1, List.mem_append]
      refine ⟨fun q => q.resolve_right fun q => ?_, .inl⟩
      exact hl'.2.2 x (by rw [e1]; simp) x q rfl
  | @gone l K n h s ih =>
    intro l1 l2 x e
    have hl' := List.nodup_append.mp hl
    rcases List.eq_nil_or_concat l2 with rfl | ⟨l2', last, rfl⟩
    · obtain ⟨e1, e2⟩ := List.append_inj' e rfl
      cases e2; subst e1
      have := h.free hl
      exact ⟨fun q => absurd (h.sub.subset q) (fun q => hl'.2.2 n q n (by simp) rfl), fun q => absurd (this.mpr q) s⟩
    · have e' : l ++ [n] = (l1 ++ x :: l2') ++ [last] := by rw [e]; simp
      obtain ⟨e1, e2⟩ := List.append_inj' e' rfl
      exact ih hl'.1 l1 l2' x e1
/-- more channels -/
theorem Free.more {he : N → List M} {cap cap' : M → Nat} {P : N → Prop} {n : N} {ms : M} (hc : ∀ m, cap' m = cap m + if m = ms then 1 else 0) (hn : ¬ P n) (h : Free he cap P n) : Free he cap' P n := by
  intro Z hZ hP sZ
  have hle : ∀ m, cap m ≤ cap' m := fun m => by rw [hc]; omega
  have hnZ : n ∉ Z := fun q => hn (hP n q)
  apply Classical.byContradiction
  intro hno
  obtain ⟨f, hf⟩ := sZ
  by_cases hms : cnt f Z ms ≤ cap ms
  · refine hno ((h Z hZ hP ⟨f, hf.he, fun m => ?_⟩).mono (fun _ _ _ h => h) hle)
    have := hf.cp m
    rw [hc] at this
    by_cases e : m = ms
    · subst e; exact hms
    · rw [if_neg e] at this; exact this
  · have : ∃ y ∈ Z, f y = ms := by
      have h2 : 0 < (Z.filter fun x => decide (f x = ms)).length := by unfold cnt at hms; omega
      obtain ⟨q, hq⟩ := List.exists_mem_of_length_pos h2
      rw [List.mem_filter] at hq
      exact ⟨q, hq.1, of_decide_eq_true hq.2⟩
    obtain ⟨y, hy, ey⟩ := this
    have pm := List.perm_cons_erase hy
    have hcn : ∀ m, cnt f Z m = (if ms = m then 1 else 0) + cnt f (Z.erase y) m := fun m => by rw [cnt_perm pm, cnt_cons, ey]
    have hZ' := hZ.erase y
    have hsub : ∀ x ∈ Z.erase y, x ∈ Z := fun x hx => List.mem_of_mem_erase hx
    have hs := h (Z.erase y) hZ' (fun x hx => hP x (hsub x hx)) ⟨f, fun x hx => hf.he x (hsub x hx), fun m => by
      have h1 := hf.cp m
      rw [hc, hcn] at h1
      by_cases e : m = ms
      · subst e; simp only [if_true] at h1; omega
      · rw [if_neg e, if_neg (Ne.symm e)] at h1; omega⟩
    have hnZ' : n ∉ Z.erase y := fun q => hnZ (hsub n q)
    have := no_more (f := f) (A := Z.erase y) (Rch he f Z n) (snoc_nodup hZ' hnZ') (fun m hm => by
      have h1 := full hZ hnZ hf hno hm
      rw [hc, hcn] at h1
      by_cases e : m = ms
      · subst e; simp only [if_true] at h1; omega
      · rw [if_neg e, if_neg (Ne.symm e)] at h1; omega) (fun x hx => by
        rcases List.mem_append.mp hx with hx | hx
        · by_cases hc : Rch he f Z n (f x)
          · exact .inl fun m hm => hc.x (hsub x hx) hm
          · exact .inr ⟨hx, hc⟩
        · rw [List.mem_singleton.mp hx]; exact .inl fun m hm => .b hm) hs
    rw [List.length_append, List.length_singleton] at this
    omega
/-- fewer ahead -/
theorem Free.less {he : N → List M} {cap : M → Nat} {P P' : N → Prop} {n : N} (hp : ∀ x, P' x → P x) (h : Free he cap P n) : Free he cap P' n := fun Z hZ hP sZ => h Z hZ (fun x hx => hp x (hP x hx)) sZ
/-- heard by more -/
theorem Free.heard {he he' : N → List M} {cap : M → Nat} {P : N → Prop} {n : N} (hs : ∀ x, P x → ∀ m, m ∈ he' x ↔ m ∈ he x) (hn : ∀ m ∈ he n, m ∈ he' n) (h : Free he cap P n) : Free he' cap P n := fun Z hZ hP sZ => by
  refine (h Z hZ hP (sZ.mono (fun x hx m hm => (hs x (hP x hx) m).mp hm) fun _ => Nat.le_refl _)).mono (fun x hx m hm => ?_) fun _ => Nat.le_refl _
  rcases List.mem_append.mp hx with hx | hx
  · exact (hs x (hP x hx) m).mpr hm
  · rw [List.mem_singleton.mp hx] at hm ⊢; exact hn m hm
end
end Mt
namespace K20
open PySem PySem.Spec L2 Dp
def top (i : Nat) : Stmt := PySem.Challenge.pw_mastcalls_k20_whole_more.main.body.getD i (.Pass ⟨0, 0, 0, 0⟩)
abbrev s_Seats_init : Stmt := inClass (top 2) 0
abbrev N_Seats_init : List Str := ["self", "scene", "mast"]
theorem sc_Seats_init : FnScope N_Seats_init ["self", "scene"] (defScope s_Seats_init) := ⟨rfl, rfl, rfl, by decide +kernel, rfl, by decide +kernel, by decide +kernel⟩
abbrev s_Seats_sit : Stmt := inClass (top 2) 1
abbrev N_Seats_sit : List Str := ["self", "name", "mast", "old"]
theorem sc_Seats_sit : FnScope N_Seats_sit ["self", "name", "mast"] (defScope s_Seats_sit) := ⟨rfl, rfl, rfl, by decide +kernel, rfl, by decide +kernel, by decide +kernel⟩
abbrev s_Seats_has_room : Stmt := inClass (top 2) 2
abbrev N_Seats_has_room : List Str := ["self", "mast"]
theorem sc_Seats_has_room : FnScope N_Seats_has_room ["self", "mast"] (defScope s_Seats_has_room) := ⟨rfl, rfl, rfl, by decide +kernel, rfl, by decide +kernel, by decide +kernel⟩
abbrev s_Seats_ways_from : Stmt := inClass (top 2) 3
abbrev N_Seats_ways_from : List Str := ["self", "name", "came", "rest", "one", "mast"]
theorem sc_Seats_ways_from : FnScope N_Seats_ways_from ["self", "name"] (defScope s_Seats_ways_from) := ⟨rfl, rfl, rfl, by decide +kernel, rfl, by decide +kernel, by decide +kernel⟩
abbrev s_Seats_add : Stmt := inClass (top 2) 4
abbrev N_Seats_add : List Str := ["self", "name", "came", "mast", "one", "before"]
theorem sc_Seats_add : FnScope N_Seats_add ["self", "name"] (defScope s_Seats_add) := ⟨rfl, rfl, rfl, by decide +kernel, rfl, by decide +kernel, by decide +kernel⟩
abbrev s_Seats_lot_against : Stmt := inClass (top 2) 5
abbrev N_Seats_lot_against : List Str := ["self", "name", "came", "found", "mast", "one"]
theorem sc_Seats_lot_against : FnScope N_Seats_lot_against ["self", "name"] (defScope s_Seats_lot_against) := ⟨rfl, rfl, rfl, by decide +kernel, rfl, by decide +kernel, by decide +kernel⟩
abbrev s_Kept_init : Stmt := inClass (top 3) 0
abbrev N_Kept_init : List Str := ["self", "scene", "seats", "papers", "name"]
theorem sc_Kept_init : FnScope N_Kept_init ["self", "scene"] (defScope s_Kept_init) := ⟨rfl, rfl, rfl, by decide +kernel, rfl, by decide +kernel, by decide +kernel⟩
abbrev s_kept : Stmt := top 4
abbrev N_kept : List Str := ["scene"]
theorem sc_kept : FnScope N_kept ["scene"] (defScope s_kept) := ⟨rfl, rfl, rfl, by decide +kernel, rfl, by decide +kernel, by decide +kernel⟩
abbrev s_is_seatable : Stmt := top 5
abbrev N_is_seatable : List Str := ["scene", "names", "seats", "name"]
theorem sc_is_seatable : FnScope N_is_seatable ["scene", "names"] (defScope s_is_seatable) := ⟨rfl, rfl, rfl, by decide +kernel, rfl, by decide +kernel, by decide +kernel⟩
abbrev s_is_whole : Stmt := top 13
abbrev N_is_whole : List Str := ["thing", "low", "high"]
theorem sc_is_whole : FnScope N_is_whole ["thing", "low", "high"] (defScope s_is_whole) := ⟨rfl, rfl, rfl, by decide +kernel, rfl, by decide +kernel, by decide +kernel⟩
abbrev s_is_name : Stmt := top 14
abbrev N_is_name : List Str := ["thing", "sign"]
theorem sc_is_name : FnScope N_is_name ["thing"] (defScope s_is_name) := ⟨rfl, rfl, rfl, by decide +kernel, rfl, by decide +kernel, by decide +kernel⟩
abbrev s_Call_init : Stmt := inClass (top 15) 0
abbrev N_Call_init : List Str := ["self", "worth", "heard"]
theorem sc_Call_init : FnScope N_Call_init ["self", "worth", "heard"] (defScope s_Call_init) := ⟨rfl, rfl, rfl, by decide +kernel, rfl, by decide +kernel, by decide +kernel⟩
abbrev s_Scene_init : Stmt := inClass (top 16) 0
abbrev N_Scene_init : List Str := ["self", "channels", "calls", "mast", "many", "name", "call"]
theorem sc_Scene_init : FnScope N_Scene_init ["self", "channels", "calls"] (defScope s_Scene_init) := ⟨rfl, rfl, rfl, by decide +kernel, rfl, by decide +kernel, by decide +kernel⟩
abbrev s_Scene_order : Stmt := inClass (top 16) 2
abbrev N_Scene_order : List Str := ["self"]
theorem sc_Scene_order : FnScope N_Scene_order ["self"] (defScope s_Scene_order) := ⟨rfl, rfl, rfl, by decide +kernel, rfl, by decide +kernel, by decide +kernel⟩
abbrev s_Scene_rank : Stmt := inClass (top 16) 3
abbrev N_Scene_rank : List Str := ["self", "name"]
theorem sc_Scene_rank : FnScope N_Scene_rank ["self", "name"] (defScope s_Scene_rank) := ⟨rfl, rfl, rfl, by decide +kernel, rfl, by decide +kernel, by decide +kernel⟩
abbrev s_law_number : Stmt := top 18
abbrev N_law_number : List Str := ["_law_script", "_law_index", "_law_cell", "_law_blend"]
theorem sc_law_number : FnScope N_law_number ["_law_script", "_law_index"] (defScope s_law_number) := ⟨rfl, rfl, rfl, by decide +kernel, rfl, by decide +kernel, by decide +kernel⟩
abbrev s_law_take : Stmt := top 19
abbrev N_law_take : List Str := ["_law_draw", "_law_many"]
theorem sc_law_take : FnScope N_law_take ["_law_draw", "_law_many"] (defScope s_law_take) := ⟨rfl, rfl, rfl, by decide +kernel, rfl, by decide +kernel, by decide +kernel⟩
abbrev s_law_pick : Stmt := top 20
abbrev N_law_pick : List Str := ["_law_draw", "_law_items"]
theorem sc_law_pick : FnScope N_law_pick ["_law_draw", "_law_items"] (defScope s_law_pick) := ⟨rfl, rfl, rfl, by decide +kernel, rfl, by decide +kernel, by decide +kernel⟩
abbrev s_law_masts : Stmt := top 21
abbrev N_law_masts : List Str := ["_law_draw", "_law_most", "_law_number_here"]
theorem sc_law_masts : FnScope N_law_masts ["_law_draw", "_law_most"] (defScope s_law_masts) := ⟨rfl, rfl, rfl, by decide +kernel, rfl, by decide +kernel, by decide +kernel⟩
abbrev s_law_heard : Stmt := top 22
abbrev N_law_heard : List Str := ["_law_draw", "_law_channels", "_law_mast"]
theorem sc_law_heard : FnScope N_law_heard ["_law_draw", "_law_channels"] (defScope s_law_heard) := ⟨rfl, rfl, rfl, by decide +kernel, rfl, by decide +kernel, by decide +kernel⟩
abbrev s_law_scene : Stmt := top 23
abbrev N_law_scene : List Str := ["_law_draw", "_law_masts_here", "_law_calls", "_law_channels", "_law_found", "_law_number_here"]
theorem sc_law_scene : FnScope N_law_scene ["_law_draw", "_law_masts_here", "_law_calls"] (defScope s_law_scene) := ⟨rfl, rfl, rfl, by decide +kernel, rfl, by decide +kernel, by decide +kernel⟩
abbrev s_law : Stmt := top 24
abbrev N_law : List Str := ["_law_script", "_law_draw", "_law_scene_here", "_law_lot", "_law_calls", "_law_mast", "_law_more", "_law_gone", "_law_fewer", "_law_raised", "_law_wider", "_law_lots", "_law_turn", "_law_some", "_law_one", "_law_other", "_law_many", "_law_name", "_law_call"]
theorem sc_law : FnScope N_law ["_law_script"] (defScope s_law) := ⟨rfl, rfl, rfl, by decide +kernel, rfl, by decide +kernel, by decide +kernel⟩
/-- where the defs and classes lie -/
structure Dat where
  C_Seats : Addr
  C_Kept : Addr
  C_Call : Addr
  C_Scene : Addr
  f_Seats_init : Addr
  d_Seats_init : FuncData
  f_Seats_sit : Addr
  d_Seats_sit : FuncData
  f_Seats_has_room : Addr
  d_Seats_has_room : FuncData
  f_Seats_ways_from : Addr
  d_Seats_ways_from : FuncData
  f_Seats_add : Addr
  d_Seats_add : FuncData
  f_Seats_lot_against : Addr
  d_Seats_lot_against : FuncData
  f_Kept_init : Addr
  d_Kept_init : FuncData
  f_kept : Addr
  d_kept : FuncData
  f_is_seatable : Addr
  d_is_seatable : FuncData
  f_is_whole : Addr
  d_is_whole : FuncData
  f_is_name : Addr
  d_is_name : FuncData
  f_Call_init : Addr
  d_Call_init : FuncData
  f_Scene_init : Addr
  d_Scene_init : FuncData
  f_Scene_order : Addr
  d_Scene_order : FuncData
  f_Scene_rank : Addr
  d_Scene_rank : FuncData
  f_law_number : Addr
  d_law_number : FuncData
  f_law_take : Addr
  d_law_take : FuncData
  f_law_pick : Addr
  d_law_pick : FuncData
  f_law_masts : Addr
  d_law_masts : FuncData
  f_law_heard : Addr
  d_law_heard : FuncData
  f_law_scene : Addr
  d_law_scene : FuncData
  f_law : Addr
  d_law : FuncData
/-- what the top has written -/
structure Tx (K : PySem.W.Frag) (mg : Str → Option Value) (d : Dat) : Prop where
  c_Seats : Cls K d.C_Seats
  m_Seats : mg "Seats" = some (.ref d.C_Seats)
  k_Seats : Mk K d.C_Seats d.f_Seats_init
  o_Seats_scene : NoAttr K d.C_Seats "scene"
  o_Seats_seating : NoAttr K d.C_Seats "seating"
  o_Seats_seated : NoAttr K d.C_Seats "seated"
  c_Kept : Cls K d.C_Kept
  m_Kept : mg "Kept" = some (.ref d.C_Kept)
  k_Kept : Mk K d.C_Kept d.f_Kept_init
  o_Kept_lot : NoAttr K d.C_Kept "lot"
  o_Kept_seating : NoAttr K d.C_Kept "seating"
  o_Kept_papers : NoAttr K d.C_Kept "papers"
  c_Call : Cls K d.C_Call
  m_Call : mg "Call" = some (.ref d.C_Call)
  k_Call : Mk K d.C_Call d.f_Call_init
  o_Call_worth : NoAttr K d.C_Call "worth"
  o_Call_heard : NoAttr K d.C_Call "heard"
  c_Scene : Cls K d.C_Scene
  m_Scene : mg "Scene" = some (.ref d.C_Scene)
  k_Scene : Mk K d.C_Scene d.f_Scene_init
  o_Scene_channels : NoAttr K d.C_Scene "channels"
  o_Scene_calls : NoAttr K d.C_Scene "calls"
  F_Seats_init : Fun K "__init__" "Seats.__init__" s_Seats_init d.f_Seats_init d.d_Seats_init
  B_Seats_init : Binds K d.d_Seats_init ["self", "scene"] []
  F_Seats_sit : Fun K "sit" "Seats.sit" s_Seats_sit d.f_Seats_sit d.d_Seats_sit
  B_Seats_sit : Binds K d.d_Seats_sit ["self", "name", "mast"] []
  M_Seats_sit : Meth K d.C_Seats "sit" d.f_Seats_sit
  F_Seats_has_room : Fun K "has_room" "Seats.has_room" s_Seats_has_room d.f_Seats_has_room d.d_Seats_has_room
  B_Seats_has_room : Binds K d.d_Seats_has_room ["self", "mast"] []
  M_Seats_has_room : Meth K d.C_Seats "has_room" d.f_Seats_has_room
  F_Seats_ways_from : Fun K "ways_from" "Seats.ways_from" s_Seats_ways_from d.f_Seats_ways_from d.d_Seats_ways_from
  B_Seats_ways_from : Binds K d.d_Seats_ways_from ["self", "name"] []
  M_Seats_ways_from : Meth K d.C_Seats "ways_from" d.f_Seats_ways_from
  F_Seats_add : Fun K "add" "Seats.add" s_Seats_add d.f_Seats_add d.d_Seats_add
  B_Seats_add : Binds K d.d_Seats_add ["self", "name"] []
  M_Seats_add : Meth K d.C_Seats "add" d.f_Seats_add
  F_Seats_lot_against : Fun K "lot_against" "Seats.lot_against" s_Seats_lot_against d.f_Seats_lot_against d.d_Seats_lot_against
  B_Seats_lot_against : Binds K d.d_Seats_lot_against ["self", "name"] []
  M_Seats_lot_against : Meth K d.C_Seats "lot_against" d.f_Seats_lot_against
  F_Kept_init : Fun K "__init__" "Kept.__init__" s_Kept_init d.f_Kept_init d.d_Kept_init
  B_Kept_init : Binds K d.d_Kept_init ["self", "scene"] []
  F_kept : Fun K "kept" "kept" s_kept d.f_kept d.d_kept
  B_kept : Binds K d.d_kept ["scene"] []
  m_kept : mg "kept" = some (.ref d.f_kept)
  F_is_seatable : Fun K "is_seatable" "is_seatable" s_is_seatable d.f_is_seatable d.d_is_seatable
  B_is_seatable : Binds K d.d_is_seatable ["scene", "names"] []
  m_is_seatable : mg "is_seatable" = some (.ref d.f_is_seatable)
  F_is_whole : Fun K "is_whole" "is_whole" s_is_whole d.f_is_whole d.d_is_whole
  B_is_whole : Binds K d.d_is_whole ["thing", "low", "high"] []
  m_is_whole : mg "is_whole" = some (.ref d.f_is_whole)
  F_is_name : Fun K "is_name" "is_name" s_is_name d.f_is_name d.d_is_name
  B_is_name : Binds K d.d_is_name ["thing"] []
  m_is_name : mg "is_name" = some (.ref d.f_is_name)
  F_Call_init : Fun K "__init__" "Call.__init__" s_Call_init d.f_Call_init d.d_Call_init
  B_Call_init : Binds K d.d_Call_init ["self", "worth", "heard"] []
  F_Scene_init : Fun K "__init__" "Scene.__init__" s_Scene_init d.f_Scene_init d.d_Scene_init
  B_Scene_init : Binds K d.d_Scene_init ["self", "channels", "calls"] []
  F_Scene_order : Fun K "order" "Scene.order" s_Scene_order d.f_Scene_order d.d_Scene_order
  B_Scene_order : Binds K d.d_Scene_order ["self"] []
  M_Scene_order : Meth K d.C_Scene "order" d.f_Scene_order
  F_Scene_rank : Fun K "rank" "Scene.rank" s_Scene_rank d.f_Scene_rank d.d_Scene_rank
  B_Scene_rank : Binds K d.d_Scene_rank ["self", "name"] []
  M_Scene_rank : Meth K d.C_Scene "rank" d.f_Scene_rank
  bm_Scene_rank : BMeth K d.C_Scene "rank" d.f_Scene_rank
  F_law_number : Fun K "_law_number" "_law_number" s_law_number d.f_law_number d.d_law_number
  B_law_number : Binds K d.d_law_number ["_law_script", "_law_index"] []
  m_law_number : mg "_law_number" = some (.ref d.f_law_number)
  F_law_take : Fun K "_law_take" "_law_take" s_law_take d.f_law_take d.d_law_take
  B_law_take : Binds K d.d_law_take ["_law_draw", "_law_many"] []
  m_law_take : mg "_law_take" = some (.ref d.f_law_take)
  F_law_pick : Fun K "_law_pick" "_law_pick" s_law_pick d.f_law_pick d.d_law_pick
  B_law_pick : Binds K d.d_law_pick ["_law_draw", "_law_items"] []
  m_law_pick : mg "_law_pick" = some (.ref d.f_law_pick)
  F_law_masts : Fun K "_law_masts" "_law_masts" s_law_masts d.f_law_masts d.d_law_masts
  B_law_masts : Binds K d.d_law_masts ["_law_draw", "_law_most"] []
  m_law_masts : mg "_law_masts" = some (.ref d.f_law_masts)
  F_law_heard : Fun K "_law_heard" "_law_heard" s_law_heard d.f_law_heard d.d_law_heard
  B_law_heard : Binds K d.d_law_heard ["_law_draw", "_law_channels"] []
  m_law_heard : mg "_law_heard" = some (.ref d.f_law_heard)
  F_law_scene : Fun K "_law_scene" "_law_scene" s_law_scene d.f_law_scene d.d_law_scene
  B_law_scene : Binds K d.d_law_scene ["_law_draw", "_law_masts_here", "_law_calls"] []
  m_law_scene : mg "_law_scene" = some (.ref d.f_law_scene)
  F_law : Fun K "law" "law" s_law d.f_law d.d_law
  B_law : Binds K d.d_law ["_law_script"] []
  m_law : mg "law" = some (.ref d.f_law)
  n_abs : mg "abs" = none
  n_all : mg "all" = none
  n_any : mg "any" = none
  n_bool : mg "bool" = none
  n_dict : mg "dict" = none
  n_int : mg "int" = none
  n_isinstance : mg "isinstance" = none
  n_len : mg "len" = none
  n_list : mg "list" = none
  n_range : mg "range" = none
  n_set : mg "set" = none
  n_sorted : mg "sorted" = none
  n_str : mg "str" = none
  n_tuple : mg "tuple" = none
  g_LETTERS : ∃ t, mg "LETTERS" = some (.str "abcdefghijklmnopqrstuvwxyz" t)
  g_FIGURES : ∃ t, mg "FIGURES" = some (.str "0123456789" t)
  g_MOST_CHANNELS : ∃ t, mg "MOST_CHANNELS" = some (.int 1000 t)
theorem lk_Seats_scene {x0 x1 x2 y : D} : look [(("scene" : Str), x0), (("seating" : Str), x1), (("seated" : Str), x2)] "scene" = some x0 := rfl
theorem pa_Seats_scene {x0 x1 x2 y : D} : putD "scene" y [] = [(("scene" : Str), y)] := rfl
theorem pt_Seats_scene {x0 x1 x2 y : D} : putD "scene" y [(("scene" : Str), x0), (("seating" : Str), x1), (("seated" : Str), x2)] = [(("scene" : Str), y), (("seating" : Str), x1), (("seated" : Str), x2)] := rfl
theorem lk_Seats_seating {x0 x1 x2 y : D} : look [(("scene" : Str), x0), (("seating" : Str), x1), (("seated" : Str), x2)] "seating" = some x1 := rfl
theorem pa_Seats_seating {x0 x1 x2 y : D} : putD "seating" y [(("scene" : Str), x0)] = [(("scene" : Str), x0), (("seating" : Str), y)] := rfl
theorem pt_Seats_seating {x0 x1 x2 y : D} : putD "seating" y [(("scene" : Str), x0), (("seating" : Str), x1), (("seated" : Str), x2)] = [(("scene" : Str), x0), (("seating" : Str), y), (("seated" : Str), x2)] := rfl
theorem lk_Seats_seated {x0 x1 x2 y : D} : look [(("scene" : Str), x0), (("seating" : Str), x1), (("seated" : Str), x2)] "seated" = some x2 := rfl
theorem pa_Seats_seated {x0 x1 x2 y : D} : putD "seated" y [(("scene" : Str), x0), (("seating" : Str), x1)] = [(("scene" : Str), x0), (("seating" : Str), x1), (("seated" : Str), y)] := rfl
theorem pt_Seats_seated {x0 x1 x2 y : D} : putD "seated" y [(("scene" : Str), x0), (("seating" : Str), x1), (("seated" : Str), x2)] = [(("scene" : Str), x0), (("seating" : Str), x1), (("seated" : Str), y)] := rfl
theorem lk_Kept_lot {x0 x1 x2 y : D} : look [(("lot" : Str), x0), (("seating" : Str), x1), (("papers" : Str), x2)] "lot" = some x0 := rfl
theorem pa_Kept_lot {x0 x1 x2 y : D} : putD "lot" y [] = [(("lot" : Str), y)] := rfl
theorem pt_Kept_lot {x0 x1 x2 y : D} : putD "lot" y [(("lot" : Str), x0), (("seating" : Str), x1), (("papers" : Str), x2)] = [(("lot" : Str), y), (("seating" : Str), x1), (("papers" : Str), x2)] := rfl
theorem lk_Kept_seating {x0 x1 x2 y : D} : look [(("lot" : Str), x0), (("seating" : Str), x1), (("papers" : Str), x2)] "seating" = some x1 := rfl
theorem pa_Kept_seating {x0 x1 x2 y : D} : putD "seating" y [(("lot" : Str), x0)] = [(("lot" : Str), x0), (("seating" : Str), y)] := rfl
theorem pt_Kept_seating {x0 x1 x2 y : D} : putD "seating" y [(("lot" : Str), x0), (("seating" : Str), x1), (("papers" : Str), x2)] = [(("lot" : Str), x0), (("seating" : Str), y), (("papers" : Str), x2)] := rfl
theorem lk_Kept_papers {x0 x1 x2 y : D} : look [(("lot" : Str), x0), (("seating" : Str), x1), (("papers" : Str), x2)] "papers" = some x2 := rfl
theorem pa_Kept_papers {x0 x1 x2 y : D} : putD "papers" y [(("lot" : Str), x0), (("seating" : Str), x1)] = [(("lot" : Str), x0), (("seating" : Str), x1), (("papers" : Str), y)] := rfl
theorem pt_Kept_papers {x0 x1 x2 y : D} : putD "papers" y [(("lot" : Str), x0), (("seating" : Str), x1), (("papers" : Str), x2)] = [(("lot" : Str), x0), (("seating" : Str), x1), (("papers" : Str), y)] := rfl
theorem lk_Call_worth {x0 x1 y : D} : look [(("worth" : Str), x0), (("heard" : Str), x1)] "worth" = some x0 := rfl
theorem pa_Call_worth {x0 x1 y : D} : putD "worth" y [] = [(("worth" : Str), y)] := rfl
theorem pt_Call_worth {x0 x1 y : D} : putD "worth" y [(("worth" : Str), x0), (("heard" : Str), x1)] = [(("worth" : Str), y), (("heard" : Str), x1)] := rfl
theorem lk_Call_heard {x0 x1 y : D} : look [(("worth" : Str), x0), (("heard" : Str), x1)] "heard" = some x1 := rfl
theorem pa_Call_heard {x0 x1 y : D} : putD "heard" y [(("worth" : Str), x0)] = [(("worth" : Str), x0), (("heard" : Str), y)] := rfl
theorem pt_Call_heard {x0 x1 y : D} : putD "heard" y [(("worth" : Str), x0), (("heard" : Str), x1)] = [(("worth" : Str), x0), (("heard" : Str), y)] := rfl
theorem lk_Scene_channels {x0 x1 y : D} : look [(("channels" : Str), x0), (("calls" : Str), x1)] "channels" = some x0 := rfl
theorem pa_Scene_channels {x0 x1 y : D} : putD "channels" y [] = [(("channels" : Str), y)] := rfl
theorem pt_Scene_channels {x0 x1 y : D} : putD "channels" y [(("channels" : Str), x0), (("calls" : Str), x1)] = [(("channels" : Str), y), (("calls" : Str), x1)] := rfl
theorem lk_Scene_calls {x0 x1 y : D} : look [(("channels" : Str), x0), (("calls" : Str), x1)] "calls" = some x1 := rfl
theorem pa_Scene_calls {x0 x1 y : D} : putD "calls" y [(("channels" : Str), x0)] = [(("channels" : Str), x0), (("calls" : Str), y)] := rfl
theorem pt_Scene_calls {x0 x1 y : D} : putD "calls" y [(("channels" : Str), x0), (("calls" : Str), x1)] = [(("channels" : Str), x0), (("calls" : Str), y)] := rfl
theorem Tx.fok_Seats_scene {K : PySem.W.Frag} {mg : Str → Option Value} {d : Dat} (T : Tx K mg d) : FOk K d.C_Seats "scene" := ⟨T.c_Seats, T.o_Seats_scene⟩
theorem Tx.fok_Seats_seating {K : PySem.W.Frag} {mg : Str → Option Value} {d : Dat} (T : Tx K mg d) : FOk K d.C_Seats "seating" := ⟨T.c_Seats, T.o_Seats_seating⟩
theorem Tx.fok_Seats_seated {K : PySem.W.Frag} {mg : Str → Option Value} {d : Dat} (T : Tx K mg d) : FOk K d.C_Seats "seated" := ⟨T.c_Seats, T.o_Seats_seated⟩
theorem Tx.fok_Kept_lot {K : PySem.W.Frag} {mg : Str → Option Value} {d : Dat} (T : Tx K mg d) : FOk K d.C_Kept "lot" := ⟨T.c_Kept, T.o_Kept_lot⟩
theorem Tx.fok_Kept_seating {K : PySem.W.Frag} {mg : Str → Option Value} {d : Dat} (T : Tx K mg d) : FOk K d.C_Kept "seating" := ⟨T.c_Kept, T.o_Kept_seating⟩
theorem Tx.fok_Kept_papers {K : PySem.W.Frag} {mg : Str → Option Value} {d : Dat} (T : Tx K mg d) : FOk K d.C_Kept "papers" := ⟨T.c_Kept, T.o_Kept_papers⟩
theorem Tx.fok_Call_worth {K : PySem.W.Frag} {mg : Str → Option Value} {d : Dat} (T : Tx K mg d) : FOk K d.C_Call "worth" := ⟨T.c_Call, T.o_Call_worth⟩
theorem Tx.fok_Call_heard {K : PySem.W.Frag} {mg : Str → Option Value} {d : Dat} (T : Tx K mg d) : FOk K d.C_Call "heard" := ⟨T.c_Call, T.o_Call_heard⟩
theorem Tx.fok_Scene_channels {K : PySem.W.Frag} {mg : Str → Option Value} {d : Dat} (T : Tx K mg d) : FOk K d.C_Scene "channels" := ⟨T.c_Scene, T.o_Scene_channels⟩
theorem Tx.fok_Scene_calls {K : PySem.W.Frag} {mg : Str → Option Value} {d : Dat} (T : Tx K mg d) : FOk K d.C_Scene "calls" := ⟨T.c_Scene, T.o_Scene_calls⟩
end K20
namespace K20
open PySem PySem.Spec L2 Dp
section
variable {P : Program} {w : World} {K : PySem.W.Frag} {mg : Str → Option Value} {base : Heap} {d : Dat}
/-! the law's own helpers -/
def sp_law_number (_ : Dat) : DSp := fun ds M R _ => ∃ (xs : List Int) (n : Int), ds = [.kls (xs.map .int), .int n] ∧ xs.length ≤ 63 ∧ ∀ r : Int, R (.int r) M
theorem ok_law_number (T : Tx K mg d) : FnOk P w K mg base (L2.CX P w) 1 d.f_law_number d.d_law_number ["_law_script", "_law_index"] (LSp K (sp_law_number d)) := by
  refine dfn_ok (k := 0) T.F_law_number sc_law_number (fun ds M R RX h => ?_) (by decide) fun cdv A outer s0 H0 E0 B ds M R RX hr fx h => ?_
  · obtain ⟨xs, n, rfl, hl, hR⟩ := h; rfl
  obtain ⟨xs, n, rfl, hl, hR⟩ := h
  have nd := sc_law_number.nd
  refine ⟨_, (dss_cons (ds_if (dt_eq (hu64 hr) (nv 0) (de_lst da_nil)) (dss_one (ds_ret (de_callTy (call_int1.or call_int_str) l_int1 (by rfl) T.n_int (by rfl) (da_cons (de_mod (de_add (de_mul (nv 1) de_int) de_int) de_int) da_nil)))) dss_nil) (dss_cons (ds_set (i := 2) nd rfl (Or.inl rfl) (de_ix (hu1 hr) (nv 0) (de_mod (nv 1) (de_callB cr_lenAll l_len (by rfl) T.n_len (by rfl) (da_cons (nv 0) da_nil))))) (dss_cons (ds_if (dt_ge (de_callB call_abs l_abs (by rfl) T.n_abs (by rfl) (da_cons (nv 2) da_nil)) (de_pow de_int de_int)) (dss_one (ds_set (i := 2) nd rfl (Or.inl rfl) (de_mod (nv 2) (de_pow de_int de_int)))) dss_nil) (dss_cons (ds_set (i := 3) nd rfl (Or.inl rfl) (de_mod (de_add (de_mul (de_add (nv 2) (de_mul de_int (nv 1))) de_int) (de_mul de_int (de_callB cr_lenAll l_len (by rfl) T.n_len (by rfl) (da_cons (nv 0) da_nil)))) de_int)) (dss_one (ds_ret (de_callTy (call_int1.or call_int_str) l_int1 (by rfl) T.n_int (by rfl) (da_cons (de_mod (de_add (de_mul (de_mod (de_mul (nv 3) de_int) de_int) de_int) (nv 1)) de_int) da_nil)))))))), ?_⟩
  have ret : ∀ c : Int, ∃ d' M', Fz M (.int c) M' d' ∧ R d' M' := fun c => ⟨_, _, Fz.refl _ _, hR c⟩
  simp only [Dp.dSeq, Dp.dAsg, Dp.dgN, Dp.dVar, Dp.dC, Dp.dUn, Dp.dOp, Dp.dFld, Dp.dTst, Dp.dAnd, Dp.dOr, Dp.dNot, Dp.dAndV, Dp.dOrV, Dp.dNotV, Dp.dIf, Dp.dIfS, Dp.dRet, Dp.dRetN, Dp.dExpr, Dp.dPar, Dp.dPar3, Dp.dNext, Dp.dNever, Dp.dBrk, Dp.dCont, Dp.dgTup, Dp.dgCons, Dp.dgNil, Dp.dCall, Dp.dCons, Dp.dNil, Dp.dTup, Dp.dLst, Dp.dLstM, Dp.dNewK, Dp.dCallF, Dp.dMethF, Dp.dMake, Dp.dMakeF, Dp.dFldS, Dp.dPut, Dp.dBM, Dp.dGet1, Dp.dGet2, Dp.dPop1, Dp.dPop2, Dp.dStar, Dp.dIx, Dp.dAdd, Dp.dSub, Dp.dMul, Dp.dMod, Dp.dFdiv, Dp.dPow, Dp.dNeg, Dp.dAugN, Dp.dAugS, Dp.dAugF, Dp.dAugI, Dp.dLtS, Dp.dLe, Dp.dGt, Dp.dGe, Dp.dOrd, Dp.dBetween, Dp.dIsN, Dp.dEq, Dp.dEqK, Dp.dIn, Dp.dstart, List.map_cons, List.map_nil, List.length_cons, List.length_nil, List.cons_append, List.nil_append, List.replicate, List.getElem?_cons_zero, List.getElem?_cons_succ, List.set_cons_zero, List.set_cons_succ, Nat.reduceAdd, Nat.reduceSub, if_true, if_false, Bool.false_eq_true, Bool.not_true, Bool.not_false, Dp.v_non, Dp.v_bl, Dp.v_int, Dp.v_str, Dp.v_tup, Dp.v_lst, Dp.v_kls, Dp.v_dK, Dp.v_dT, Dp.v_ins, Dp.f_ins, Dp.da_dKs, Dp.da_dKi, Dp.ix_dKs, Dp.ix_dKi, Dp.ix_lst, Dp.ix_tup, Dp.ix_kls, Dp.lo_lst, Dp.lo_kls, Dp.io_lst, Dp.io_tup, Dp.io_kls, Dp.ki_lst, Dp.ki_tup, Dp.ki_dK, Dp.dd_dK, Dp.e_ii, Dp.e_ss, Dp.e_bb, Dp.inB_dK, Dp.inB_tup, Dp.inB_lst, Dp.dLen, Dp.dAbs, Dp.dInt1, Dp.dStr1, Dp.dIsi, Dp.dListOf, Dp.dTupOf, Dp.dSum, Dp.dAny, Dp.dAll, Dp.dSorted, Dp.dDictP, Dp.dDictD, Dp.dSortMet, Dp.dLenSet, Dp.dSortSet, Dp.dmApp, Dp.dmExt, Dp.dmPop, Dp.dmPopAt, Dp.dmRem, Dp.dmIdx, Dp.dSet, Dp.intOf, Dp.keyOf, Dp.dwipe, Dp.patD, Dp.patDs, Dp.ln_lst, Dp.ln_tup, Dp.ln_kls, Dp.ln_dK, Dp.dFor, Dp.dLc, Dp.dDc, Dp.dLc2, Dp.srcOf, Dp.dFrz, lk_Seats_scene, pa_Seats_scene, pt_Seats_scene, lk_Seats_seating, pa_Seats_seating, pt_Seats_seating, lk_Seats_seated, pa_Seats_seated, pt_Seats_seated, lk_Kept_lot, pa_Kept_lot, pt_Kept_lot, lk_Kept_seating, pa_Kept_seating, pt_Kept_seating, lk_Kept_papers, pa_Kept_papers, pt_Kept_papers, lk_Call_worth, pa_Call_worth, pt_Call_worth, lk_Call_heard, pa_Call_heard, pt_Call_heard, lk_Scene_channels, pa_Scene_channels, pt_Scene_channels, lk_Scene_calls, pa_Scene_calls, pt_Scene_calls, eq_kls_nil (ints_flat xs), map_isEmpty]
  refine ⟨Nat.zero_le _, ?_⟩
  cases hx : xs.isEmpty with
  | true => simp only [Dp.dSeq, Dp.dAsg, Dp.dgN, Dp.dVar, Dp.dC, Dp.dUn, Dp.dOp, Dp.dFld, Dp.dTst, Dp.dAnd, Dp.dOr, Dp.dNot, Dp.dAndV, Dp.dOrV, Dp.dNotV, Dp.dIf, Dp.dIfS, Dp.dRet, Dp.dRetN, Dp.dExpr, Dp.dPar, Dp.dPar3, Dp.dNext, Dp.dNever, Dp.dBrk, Dp.dCont, Dp.dgTup, Dp.dgCons, Dp.dgNil, Dp.dCall, Dp.dCons, Dp.dNil, Dp.dTup, Dp.dLst, Dp.dLstM, Dp.dNewK, Dp.dCallF, Dp.dMethF, Dp.dMake, Dp.dMakeF, Dp.dFldS, Dp.dPut, Dp.dBM, Dp.dGet1, Dp.dGet2, Dp.dPop1, Dp.dPop2, Dp.dStar, Dp.dIx, Dp.dAdd, Dp.dSub, Dp.dMul, Dp.dMod, Dp.dFdiv, Dp.dPow, Dp.dNeg, Dp.dAugN, Dp.dAugS, Dp.dAugF, Dp.dAugI, Dp.dLtS, Dp.dLe, Dp.dGt, Dp.dGe, Dp.dOrd, Dp.dBetween, Dp.dIsN, Dp.dEq, Dp.dEqK, Dp.dIn, Dp.dstart, List.map_cons, List.map_nil, List.length_cons, List.length_nil, List.cons_append, List.nil_append, List.replicate, List.getElem?_cons_zero, List.getElem?_cons_succ, List.set_cons_zero, List.set_cons_succ, Nat.reduceAdd, Nat.reduceSub, if_true, if_false, Bool.false_eq_true, Bool.not_true, Bool.not_false, Dp.v_non, Dp.v_bl, Dp.v_int, Dp.v_str, Dp.v_tup, Dp.v_lst, Dp.v_kls, Dp.v_dK, Dp.v_dT, Dp.v_ins, Dp.f_ins, Dp.da_dKs, Dp.da_dKi, Dp.ix_dKs, Dp.ix_dKi, Dp.ix_lst, Dp.ix_tup, Dp.ix_kls, Dp.lo_lst, Dp.lo_kls, Dp.io_lst, Dp.io_tup, Dp.io_kls, Dp.ki_lst, Dp.ki_tup, Dp.ki_dK, Dp.dd_dK, Dp.e_ii, Dp.e_ss, Dp.e_bb, Dp.inB_dK, Dp.inB_tup, Dp.inB_lst, Dp.dLen, Dp.dAbs, Dp.dInt1, Dp.dStr1, Dp.dIsi, Dp.dListOf, Dp.dTupOf, Dp.dSum, Dp.dAny, Dp.dAll, Dp.dSorted, Dp.dDictP, Dp.dDictD, Dp.dSortMet, Dp.dLenSet, Dp.dSortSet, Dp.dmApp, Dp.dmExt, Dp.dmPop, Dp.dmPopAt, Dp.dmRem, Dp.dmIdx, Dp.dSet, Dp.intOf, Dp.keyOf, Dp.dwipe, Dp.patD, Dp.patDs, Dp.ln_lst, Dp.ln_tup, Dp.ln_kls, Dp.ln_dK, Dp.dFor, Dp.dLc, Dp.dDc, Dp.dLc2, Dp.srcOf, Dp.dFrz, lk_Seats_scene, pa_Seats_scene, pt_Seats_scene, lk_Seats_seating, pa_Seats_seating, pt_Seats_seating, lk_Seats_seated, pa_Seats_seated, pt_Seats_seated, lk_Kept_lot, pa_Kept_lot, pt_Kept_lot, lk_Kept_seating, pa_Kept_seating, pt_Kept_seating, lk_Kept_papers, pa_Kept_papers, pt_Kept_papers, lk_Call_worth, pa_Call_worth, pt_Call_worth, lk_Call_heard, pa_Call_heard, pt_Call_heard, lk_Scene_channels, pa_Scene_channels, pt_Scene_channels, lk_Scene_calls, pa_Scene_calls, pt_Scene_calls]; exact ⟨.inr (by decide), by decide, ret _⟩
  | false =>
    have h0 : (0 : Int) < (xs.length : Nat) := by
      cases xs with
      | nil => cases hx
      | cons _ _ => rw [List.length_cons]; omega
    obtain ⟨c, hc, hm⟩ := atI_mem (l := xs) (i := n % (xs.length : Nat)) (Int.emod_nonneg _ (by omega)) (Int.emod_lt_of_pos _ h0)
    have hc' : L2.atI (xs.map D.int) (n % (xs.length : Nat)) = some (.int c) := by rw [atI_map, hc]; rfl
    simp only [Dp.dSeq, Dp.dAsg, Dp.dgN, Dp.dVar, Dp.dC, Dp.dUn, Dp.dOp, Dp.dFld, Dp.dTst, Dp.dAnd, Dp.dOr, Dp.dNot, Dp.dAndV, Dp.dOrV, Dp.dNotV, Dp.dIf, Dp.dIfS, Dp.dRet, Dp.dRetN, Dp.dExpr, Dp.dPar, Dp.dPar3, Dp.dNext, Dp.dNever, Dp.dBrk, Dp.dCont, Dp.dgTup, Dp.dgCons, Dp.dgNil, Dp.dCall, Dp.dCons, Dp.dNil, Dp.dTup, Dp.dLst, Dp.dLstM, Dp.dNewK, Dp.dCallF, Dp.dMethF, Dp.dMake, Dp.dMakeF, Dp.dFldS, Dp.dPut, Dp.dBM, Dp.dGet1, Dp.dGet2, Dp.dPop1, Dp.dPop2, Dp.dStar, Dp.dIx, Dp.dAdd, Dp.dSub, Dp.dMul, Dp.dMod, Dp.dFdiv, Dp.dPow, Dp.dNeg, Dp.dAugN, Dp.dAugS, Dp.dAugF, Dp.dAugI, Dp.dLtS, Dp.dLe, Dp.dGt, Dp.dGe, Dp.dOrd, Dp.dBetween, Dp.dIsN, Dp.dEq, Dp.dEqK, Dp.dIn, Dp.dstart, List.map_cons, List.map_nil, List.length_cons, List.length_nil, List.cons_append, List.nil_append, List.replicate, List.getElem?_cons_zero, List.getElem?_cons_succ, List.set_cons_zero, List.set_cons_succ, Nat.reduceAdd, Nat.reduceSub, if_true, if_false, Bool.false_eq_true, Bool.not_true, Bool.not_false, Dp.v_non, Dp.v_bl, Dp.v_int, Dp.v_str, Dp.v_tup, Dp.v_lst, Dp.v_kls, Dp.v_dK, Dp.v_dT, Dp.v_ins, Dp.f_ins, Dp.da_dKs, Dp.da_dKi, Dp.ix_dKs, Dp.ix_dKi, Dp.ix_lst, Dp.ix_tup, Dp.ix_kls, Dp.lo_lst, Dp.lo_kls, Dp.io_lst, Dp.io_tup, Dp.io_kls, Dp.ki_lst, Dp.ki_tup, Dp.ki_dK, Dp.dd_dK, Dp.e_ii, Dp.e_ss, Dp.e_bb, Dp.inB_dK, Dp.inB_tup, Dp.inB_lst, Dp.dLen, Dp.dAbs, Dp.dInt1, Dp.dStr1, Dp.dIsi, Dp.dListOf, Dp.dTupOf, Dp.dSum, Dp.dAny, Dp.dAll, Dp.dSorted, Dp.dDictP, Dp.dDictD, Dp.dSortMet, Dp.dLenSet, Dp.dSortSet, Dp.dmApp, Dp.dmExt, Dp.dmPop, Dp.dmPopAt, Dp.dmRem, Dp.dmIdx, Dp.dSet, Dp.intOf, Dp.keyOf, Dp.dwipe, Dp.patD, Dp.patDs, Dp.ln_lst, Dp.ln_tup, Dp.ln_kls, Dp.ln_dK, Dp.dFor, Dp.dLc, Dp.dDc, Dp.dLc2, Dp.srcOf, Dp.dFrz, lk_Seats_scene, pa_Seats_scene, pt_Seats_scene, lk_Seats_seating, pa_Seats_seating, pt_Seats_seating, lk_Seats_seated, pa_Seats_seated, pt_Seats_seated, lk_Kept_lot, pa_Kept_lot, pt_Kept_lot, lk_Kept_seating, pa_Kept_seating, pt_Kept_seating, lk_Kept_papers, pa_Kept_papers, pt_Kept_papers, lk_Call_worth, pa_Call_worth, pt_Call_worth, lk_Call_heard, pa_Call_heard, pt_Call_heard, lk_Scene_channels, pa_Scene_channels, pt_Scene_channels, lk_Scene_calls, pa_Scene_calls, pt_Scene_calls, List.length_map, hc']
    refine ⟨h0, trivial, ⟨by decide, by decide, by decide⟩, ?_⟩
    generalize (if c < 0 then -c else c) = z
    split
    · exact ⟨⟨by decide, by decide, by decide⟩, by decide, .inl (by decide), .inr (by decide), .inl (by decide), by decide, .inr (by decide), by decide, .inr (by decide), by decide, ret _⟩
    · exact ⟨.inl (by decide), .inr (by decide), .inl (by decide), by decide, .inr (by decide), by decide, .inr (by decide), by decide, ret _⟩
/-- draws: the cell with the script and how many were drawn -/
def Drw (M : Mem) (a : Addr) : Prop := ∃ (xs : List Int) (n : Int), xs.length ≤ 63 ∧ M a = some (.lst [.kls (xs.map .int), .int n])
def Oth (a : Addr) (M M' : Mem) : Prop := ∀ b, b ≠ a → M' b = M b
theorem Oth.refl (a : Addr) (M : Mem) : Oth a M M := fun _ _ => rfl
theorem Oth.trans {a : Addr} {M M1 M2 : Mem} (h : Oth a M M1) (g : Oth a M1 M2) : Oth a M M2 := fun b hb => (g b hb).trans (h b hb)
def sp_law_take (_ : Dat) : DSp := fun ds M R _ => ∃ (a : Addr) (m : Int), ds = [.adr a, .int m] ∧ 0 < m ∧ Drw M a ∧ ∀ (r : Int) (M' : Mem), 0 ≤ r → r < m → Drw M' a → Oth a M M' → R (.int r) M'
theorem ok_law_take (T : Tx K mg d) : FnOk P w K mg base (L2.CX P w) 2 d.f_law_take d.d_law_take ["_law_draw", "_law_many"] (LSp K (sp_law_take d)) := by
  have G_law_number := ok_law_number (P := P) (w := w) (base := base) T
  refine dfn_ok (k := 1) T.F_law_take sc_law_take (fun ds M R RX h => ?_) (by decide) fun cdv A outer s0 H0 E0 B ds M R RX hr fx h => ?_
  · obtain ⟨a, m, rfl, hm, ⟨xs, n, hl, hM⟩, hR⟩ := h; rfl
  obtain ⟨a, m, rfl, hm, ⟨xs, n, hl, hM⟩, hR⟩ := h
  have nd := sc_law_take.nd
  refine ⟨_, (dss_cons (ds_augS (hu1 hr) ip_add (nv 0) de_int de_int) (dss_one (ds_ret (de_mod (de_callTy (call_int1.or call_int_str) l_int1 (by rfl) T.n_int (by rfl) (da_cons (de_call G_law_number (hr.mono (by decide)) (by rfl) T.m_law_number T.F_law_number.kp T.B_law_number (da_cons (de_ix (hu1 hr) (nv 0) de_int) (da_cons (de_callTy (call_int1.or call_int_str) l_int1 (by rfl) T.n_int (by rfl) (da_cons (de_ix (hu1 hr) (nv 0) de_int) da_nil)) da_nil))) da_nil)) (nv 1))))), ?_⟩
  have i1 : L2.atI [D.kls (xs.map .int), .int n] 1 = some (.int n) := rfl
  have x1 : ixN 2 1 = some 1 := rfl
  simp only [Dp.dSeq, Dp.dAsg, Dp.dgN, Dp.dVar, Dp.dC, Dp.dUn, Dp.dOp, Dp.dFld, Dp.dTst, Dp.dAnd, Dp.dOr, Dp.dNot, Dp.dAndV, Dp.dOrV, Dp.dNotV, Dp.dIf, Dp.dIfS, Dp.dRet, Dp.dRetN, Dp.dExpr, Dp.dPar, Dp.dPar3, Dp.dNext, Dp.dNever, Dp.dBrk, Dp.dCont, Dp.dgTup, Dp.dgCons, Dp.dgNil, Dp.dCall, Dp.dCons, Dp.dNil, Dp.dTup, Dp.dLst, Dp.dLstM, Dp.dNewK, Dp.dCallF, Dp.dMethF, Dp.dMake, Dp.dMakeF, Dp.dFldS, Dp.dPut, Dp.dBM, Dp.dGet1, Dp.dGet2, Dp.dPop1, Dp.dPop2, Dp.dStar, Dp.dIx, Dp.dAdd, Dp.dSub, Dp.dMul, Dp.dMod, Dp.dFdiv, Dp.dPow, Dp.dNeg, Dp.dAugN, Dp.dAugS, Dp.dAugF, Dp.dAugI, Dp.dLtS, Dp.dLe, Dp.dGt, Dp.dGe, Dp.dOrd, Dp.dBetween, Dp.dIsN, Dp.dEq, Dp.dEqK, Dp.dIn, Dp.dstart, List.map_cons, List.map_nil, List.length_cons, List.length_nil, List.cons_append, List.nil_append, List.replicate, List.getElem?_cons_zero, List.getElem?_cons_succ, List.set_cons_zero, List.set_cons_succ, Nat.reduceAdd, Nat.reduceSub, if_true, if_false, Bool.false_eq_true, Bool.not_true, Bool.not_false, Dp.v_non, Dp.v_bl, Dp.v_int, Dp.v_str, Dp.v_tup, Dp.v_lst, Dp.v_kls, Dp.v_dK, Dp.v_dT, Dp.v_ins, Dp.f_ins, Dp.da_dKs, Dp.da_dKi, Dp.ix_dKs, Dp.ix_dKi, Dp.ix_lst, Dp.ix_tup, Dp.ix_kls, Dp.lo_lst, Dp.lo_kls, Dp.io_lst, Dp.io_tup, Dp.io_kls, Dp.ki_lst, Dp.ki_tup, Dp.ki_dK, Dp.dd_dK, Dp.e_ii, Dp.e_ss, Dp.e_bb, Dp.inB_dK, Dp.inB_tup, Dp.inB_lst, Dp.dLen, Dp.dAbs, Dp.dInt1, Dp.dStr1, Dp.dIsi, Dp.dListOf, Dp.dTupOf, Dp.dSum, Dp.dAny, Dp.dAll, Dp.dSorted, Dp.dDictP, Dp.dDictD, Dp.dSortMet, Dp.dLenSet, Dp.dSortSet, Dp.dmApp, Dp.dmExt, Dp.dmPop, Dp.dmPopAt, Dp.dmRem, Dp.dmIdx, Dp.dSet, Dp.intOf, Dp.keyOf, Dp.dwipe, Dp.patD, Dp.patDs, Dp.ln_lst, Dp.ln_tup, Dp.ln_kls, Dp.ln_dK, Dp.dFor, Dp.dLc, Dp.dDc, Dp.dLc2, Dp.srcOf, Dp.dFrz, lk_Seats_scene, pa_Seats_scene, pt_Seats_scene, lk_Seats_seating, pa_Seats_seating, pt_Seats_seating, lk_Seats_seated, pa_Seats_seated, pt_Seats_seated, lk_Kept_lot, pa_Kept_lot, pt_Kept_lot, lk_Kept_seating, pa_Kept_seating, pt_Kept_seating, lk_Kept_papers, pa_Kept_papers, pt_Kept_papers, lk_Call_worth, pa_Call_worth, pt_Call_worth, lk_Call_heard, pa_Call_heard, pt_Call_heard, lk_Scene_channels, pa_Scene_channels, pt_Scene_channels, lk_Scene_calls, pa_Scene_calls, pt_Scene_calls, ix_cl hM, i1, Option.bind_some, hM, x1]
  have hM' : mup M a (.lst [.kls (xs.map .int), .int (n + 1)]) a = some (.lst [.kls (xs.map .int), .int (n + 1)]) := mup_same
  have j0 : L2.atI [D.kls (xs.map .int), .int (n + 1)] 0 = some (.kls (xs.map .int)) := rfl
  have j1 : L2.atI [D.kls (xs.map .int), .int (n + 1)] 1 = some (.int (n + 1)) := rfl
  simp only [Dp.dSeq, Dp.dAsg, Dp.dgN, Dp.dVar, Dp.dC, Dp.dUn, Dp.dOp, Dp.dFld, Dp.dTst, Dp.dAnd, Dp.dOr, Dp.dNot, Dp.dAndV, Dp.dOrV, Dp.dNotV, Dp.dIf, Dp.dIfS, Dp.dRet, Dp.dRetN, Dp.dExpr, Dp.dPar, Dp.dPar3, Dp.dNext, Dp.dNever, Dp.dBrk, Dp.dCont, Dp.dgTup, Dp.dgCons, Dp.dgNil, Dp.dCall, Dp.dCons, Dp.dNil, Dp.dTup, Dp.dLst, Dp.dLstM, Dp.dNewK, Dp.dCallF, Dp.dMethF, Dp.dMake, Dp.dMakeF, Dp.dFldS, Dp.dPut, Dp.dBM, Dp.dGet1, Dp.dGet2, Dp.dPop1, Dp.dPop2, Dp.dStar, Dp.dIx, Dp.dAdd, Dp.dSub, Dp.dMul, Dp.dMod, Dp.dFdiv, Dp.dPow, Dp.dNeg, Dp.dAugN, Dp.dAugS, Dp.dAugF, Dp.dAugI, Dp.dLtS, Dp.dLe, Dp.dGt, Dp.dGe, Dp.dOrd, Dp.dBetween, Dp.dIsN, Dp.dEq, Dp.dEqK, Dp.dIn, Dp.dstart, List.map_cons, List.map_nil, List.length_cons, List.length_nil, List.cons_append, List.nil_append, List.replicate, List.getElem?_cons_zero, List.getElem?_cons_succ, List.set_cons_zero, List.set_cons_succ, Nat.reduceAdd, Nat.reduceSub, if_true, if_false, Bool.false_eq_true, Bool.not_true, Bool.not_false, Dp.v_non, Dp.v_bl, Dp.v_int, Dp.v_str, Dp.v_tup, Dp.v_lst, Dp.v_kls, Dp.v_dK, Dp.v_dT, Dp.v_ins, Dp.f_ins, Dp.da_dKs, Dp.da_dKi, Dp.ix_dKs, Dp.ix_dKi, Dp.ix_lst, Dp.ix_tup, Dp.ix_kls, Dp.lo_lst, Dp.lo_kls, Dp.io_lst, Dp.io_tup, Dp.io_kls, Dp.ki_lst, Dp.ki_tup, Dp.ki_dK, Dp.dd_dK, Dp.e_ii, Dp.e_ss, Dp.e_bb, Dp.inB_dK, Dp.inB_tup, Dp.inB_lst, Dp.dLen, Dp.dAbs, Dp.dInt1, Dp.dStr1, Dp.dIsi, Dp.dListOf, Dp.dTupOf, Dp.dSum, Dp.dAny, Dp.dAll, Dp.dSorted, Dp.dDictP, Dp.dDictD, Dp.dSortMet, Dp.dLenSet, Dp.dSortSet, Dp.dmApp, Dp.dmExt, Dp.dmPop, Dp.dmPopAt, Dp.dmRem, Dp.dmIdx, Dp.dSet, Dp.intOf, Dp.keyOf, Dp.dwipe, Dp.patD, Dp.patDs, Dp.ln_lst, Dp.ln_tup, Dp.ln_kls, Dp.ln_dK, Dp.dFor, Dp.dLc, Dp.dDc, Dp.dLc2, Dp.srcOf, Dp.dFrz, lk_Seats_scene, pa_Seats_scene, pt_Seats_scene, lk_Seats_seating, pa_Seats_seating, pt_Seats_seating, lk_Seats_seated, pa_Seats_seated, pt_Seats_seated, lk_Kept_lot, pa_Kept_lot, pt_Kept_lot, lk_Kept_seating, pa_Kept_seating, pt_Kept_seating, lk_Kept_papers, pa_Kept_papers, pt_Kept_papers, lk_Call_worth, pa_Call_worth, pt_Call_worth, lk_Call_heard, pa_Call_heard, pt_Call_heard, lk_Scene_channels, pa_Scene_channels, pt_Scene_channels, lk_Scene_calls, pa_Scene_calls, pt_Scene_calls, ix_cl hM', j0, j1, v_cl hM']
  refine ⟨trivial, trivial, xs, n + 1, rfl, hl, fun r => ⟨hm, _, _, Fz.refl _ _, hR _ _ (Int.emod_nonneg _ (by omega)) (Int.emod_lt_of_pos _ hm) ⟨xs, n + 1, hl, hM'⟩ fun b hb => mup_ne hb⟩⟩
def sp_law_pick (_ : Dat) : DSp := fun ds M R _ => ∃ (a : Addr) (xs : List D), ds = [.adr a, .lst xs] ∧ xs ≠ [] ∧ Drw M a ∧ ∀ (x : D) (M' : Mem), x ∈ xs → Drw M' a → Oth a M M' → R x M'
theorem ok_law_pick (T : Tx K mg d) : FnOk P w K mg base (L2.CX P w) 3 d.f_law_pick d.d_law_pick ["_law_draw", "_law_items"] (LSp K (sp_law_pick d)) := by
  have G_law_take := ok_law_take (P := P) (w := w) (base := base) T
  refine dfn_ok (k := 2) T.F_law_pick sc_law_pick (fun ds M R RX h => ?_) (by decide) fun cdv A outer s0 H0 E0 B ds M R RX hr fx h => ?_
  · obtain ⟨a, xs, rfl, hx, hD, hR⟩ := h; rfl
  obtain ⟨a, xs, rfl, hx, hD, hR⟩ := h
  have nd := sc_law_pick.nd
  refine ⟨_, (dss_one (ds_ret (de_ix (hu1 hr) (nv 1) (de_call G_law_take (hr.mono (by decide)) (by rfl) T.m_law_take T.F_law_take.kp T.B_law_take (da_cons (nv 0) (da_cons (de_callB cr_lenAll l_len (by rfl) T.n_len (by rfl) (da_cons (nv 1) da_nil)) da_nil)))))), ?_⟩
  simp only [Dp.dSeq, Dp.dAsg, Dp.dgN, Dp.dVar, Dp.dC, Dp.dUn, Dp.dOp, Dp.dFld, Dp.dTst, Dp.dAnd, Dp.dOr, Dp.dNot, Dp.dAndV, Dp.dOrV, Dp.dNotV, Dp.dIf, Dp.dIfS, Dp.dRet, Dp.dRetN, Dp.dExpr, Dp.dPar, Dp.dPar3, Dp.dNext, Dp.dNever, Dp.dBrk, Dp.dCont, Dp.dgTup, Dp.dgCons, Dp.dgNil, Dp.dCall, Dp.dCons, Dp.dNil, Dp.dTup, Dp.dLst, Dp.dLstM, Dp.dNewK, Dp.dCallF, Dp.dMethF, Dp.dMake, Dp.dMakeF, Dp.dFldS, Dp.dPut, Dp.dBM, Dp.dGet1, Dp.dGet2, Dp.dPop1, Dp.dPop2, Dp.dStar, Dp.dIx, Dp.dAdd, Dp.dSub, Dp.dMul, Dp.dMod, Dp.dFdiv, Dp.dPow, Dp.dNeg, Dp.dAugN, Dp.dAugS, Dp.dAugF, Dp.dAugI, Dp.dLtS, Dp.dLe, Dp.dGt, Dp.dGe, Dp.dOrd, Dp.dBetween, Dp.dIsN, Dp.dEq, Dp.dEqK, Dp.dIn, Dp.dstart, List.map_cons, List.map_nil, List.length_cons, List.length_nil, List.cons_append, List.nil_append, List.replicate, List.getElem?_cons_zero, List.getElem?_cons_succ, List.set_cons_zero, List.set_cons_succ, Nat.reduceAdd, Nat.reduceSub, if_true, if_false, Bool.false_eq_true, Bool.not_true, Bool.not_false, Dp.v_non, Dp.v_bl, Dp.v_int, Dp.v_str, Dp.v_tup, Dp.v_lst, Dp.v_kls, Dp.v_dK, Dp.v_dT, Dp.v_ins, Dp.f_ins, Dp.da_dKs, Dp.da_dKi, Dp.ix_dKs, Dp.ix_dKi, Dp.ix_lst, Dp.ix_tup, Dp.ix_kls, Dp.lo_lst, Dp.lo_kls, Dp.io_lst, Dp.io_tup, Dp.io_kls, Dp.ki_lst, Dp.ki_tup, Dp.ki_dK, Dp.dd_dK, Dp.e_ii, Dp.e_ss, Dp.e_bb, Dp.inB_dK, Dp.inB_tup, Dp.inB_lst, Dp.dLen, Dp.dAbs, Dp.dInt1, Dp.dStr1, Dp.dIsi, Dp.dListOf, Dp.dTupOf, Dp.dSum, Dp.dAny, Dp.dAll, Dp.dSorted, Dp.dDictP, Dp.dDictD, Dp.dSortMet, Dp.dLenSet, Dp.dSortSet, Dp.dmApp, Dp.dmExt, Dp.dmPop, Dp.dmPopAt, Dp.dmRem, Dp.dmIdx, Dp.dSet, Dp.intOf, Dp.keyOf, Dp.dwipe, Dp.patD, Dp.patDs, Dp.ln_lst, Dp.ln_tup, Dp.ln_kls, Dp.ln_dK, Dp.dFor, Dp.dLc, Dp.dDc, Dp.dLc2, Dp.srcOf, Dp.dFrz, lk_Seats_scene, pa_Seats_scene, pt_Seats_scene, lk_Seats_seating, pa_Seats_seating, pt_Seats_seating, lk_Seats_seated, pa_Seats_seated, pt_Seats_seated, lk_Kept_lot, pa_Kept_lot, pt_Kept_lot, lk_Kept_seating, pa_Kept_seating, pt_Kept_seating, lk_Kept_papers, pa_Kept_papers, pt_Kept_papers, lk_Call_worth, pa_Call_worth, pt_Call_worth, lk_Call_heard, pa_Call_heard, pt_Call_heard, lk_Scene_channels, pa_Scene_channels, pt_Scene_channels, lk_Scene_calls, pa_Scene_calls, pt_Scene_calls]
  have hp : (0 : Int) < (xs.length : Nat) := by
    cases xs with
    | nil => exact absurd rfl hx
    | cons _ _ => rw [List.length_cons]; omega
  refine ⟨a, _, rfl, hp, hD, fun r M' h0 h1 hD' ho => ?_⟩
  obtain ⟨x, e, hm⟩ := atI_mem (l := xs) h0 h1
  simp only [Dp.dSeq, Dp.dAsg, Dp.dgN, Dp.dVar, Dp.dC, Dp.dUn, Dp.dOp, Dp.dFld, Dp.dTst, Dp.dAnd, Dp.dOr, Dp.dNot, Dp.dAndV, Dp.dOrV, Dp.dNotV, Dp.dIf, Dp.dIfS, Dp.dRet, Dp.dRetN, Dp.dExpr, Dp.dPar, Dp.dPar3, Dp.dNext, Dp.dNever, Dp.dBrk, Dp.dCont, Dp.dgTup, Dp.dgCons, Dp.dgNil, Dp.dCall, Dp.dCons, Dp.dNil, Dp.dTup, Dp.dLst, Dp.dLstM, Dp.dNewK, Dp.dCallF, Dp.dMethF, Dp.dMake, Dp.dMakeF, Dp.dFldS, Dp.dPut, Dp.dBM, Dp.dGet1, Dp.dGet2, Dp.dPop1, Dp.dPop2, Dp.dStar, Dp.dIx, Dp.dAdd, Dp.dSub, Dp.dMul, Dp.dMod, Dp.dFdiv, Dp.dPow, Dp.dNeg, Dp.dAugN, Dp.dAugS, Dp.dAugF, Dp.dAugI, Dp.dLtS, Dp.dLe, Dp.dGt, Dp.dGe, Dp.dOrd, Dp.dBetween, Dp.dIsN, Dp.dEq, Dp.dEqK, Dp.dIn, Dp.dstart, List.map_cons, List.map_nil, List.length_cons, List.length_nil, List.cons_append, List.nil_append, List.replicate, List.getElem?_cons_zero, List.getElem?_cons_succ, List.set_cons_zero, List.set_cons_succ, Nat.reduceAdd, Nat.reduceSub, if_true, if_false, Bool.false_eq_true, Bool.not_true, Bool.not_false, Dp.v_non, Dp.v_bl, Dp.v_int, Dp.v_str, Dp.v_tup, Dp.v_lst, Dp.v_kls, Dp.v_dK, Dp.v_dT, Dp.v_ins, Dp.f_ins, Dp.da_dKs, Dp.da_dKi, Dp.ix_dKs, Dp.ix_dKi, Dp.ix_lst, Dp.ix_tup, Dp.ix_kls, Dp.lo_lst, Dp.lo_kls, Dp.io_lst, Dp.io_tup, Dp.io_kls, Dp.ki_lst, Dp.ki_tup, Dp.ki_dK, Dp.dd_dK, Dp.e_ii, Dp.e_ss, Dp.e_bb, Dp.inB_dK, Dp.inB_tup, Dp.inB_lst, Dp.dLen, Dp.dAbs, Dp.dInt1, Dp.dStr1, Dp.dIsi, Dp.dListOf, Dp.dTupOf, Dp.dSum, Dp.dAny, Dp.dAll, Dp.dSorted, Dp.dDictP, Dp.dDictD, Dp.dSortMet, Dp.dLenSet, Dp.dSortSet, Dp.dmApp, Dp.dmExt, Dp.dmPop, Dp.dmPopAt, Dp.dmRem, Dp.dmIdx, Dp.dSet, Dp.intOf, Dp.keyOf, Dp.dwipe, Dp.patD, Dp.patDs, Dp.ln_lst, Dp.ln_tup, Dp.ln_kls, Dp.ln_dK, Dp.dFor, Dp.dLc, Dp.dDc, Dp.dLc2, Dp.srcOf, Dp.dFrz, lk_Seats_scene, pa_Seats_scene, pt_Seats_scene, lk_Seats_seating, pa_Seats_seating, pt_Seats_seating, lk_Seats_seated, pa_Seats_seated, pt_Seats_seated, lk_Kept_lot, pa_Kept_lot, pt_Kept_lot, lk_Kept_seating, pa_Kept_seating, pt_Kept_seating, lk_Kept_papers, pa_Kept_papers, pt_Kept_papers, lk_Call_worth, pa_Call_worth, pt_Call_worth, lk_Call_heard, pa_Call_heard, pt_Call_heard, lk_Scene_channels, pa_Scene_channels, pt_Scene_channels, lk_Scene_calls, pa_Scene_calls, pt_Scene_calls, e]
  exact ⟨trivial, _, _, Fz.refl _ _, hR x M' hm hD' ho⟩
theorem Drw.oth {a c : Addr} {M M' : Mem} (h : Drw M a) (e : M' a = M a) : Drw M' a := by
  obtain ⟨xs, n, hl, hM⟩ := h
  exact ⟨xs, n, hl, e.trans hM⟩
/-- a comprehension whose parts draw -/
theorem lc_draw {xs : List D} {GM : Mem → Prop} {p : Pat} {tt : DTT} {te : DTE} {Γw : DSt} {M : Mem} {fin : Addr → List D → Mem → Prop} {a : Addr} (hD : Drw M a) (Pr : Nat → List D → Prop) (h0 : Pr 0 []) (hG : ∀ M', (∀ b m, b ≠ a → M b = some m → M' b = some m) → GM M')
    (step : ∀ i x acc M', xs[i]? = some x → Pr i acc → Drw M' a → (∀ b m, b ≠ a → M b = some m → M' b = some m) → ∃ Γ2, patD p x Γw = some Γ2 ∧ ∀ K : Bool → Mem → Prop, (∀ b M2, Oth a M' M2 → Drw M2 a → (b = true → ∀ K' : D → Mem → Prop, (∀ y M3, Oth a M2 M3 → Drw M3 a → Pr (i + 1) (acc ++ [y]) → K' y M3) → te Γ2 M2 K') → (b = false → Pr (i + 1) acc) → K b M2) → tt Γ2 M' K)
    (hf : ∀ c acc M', M c = none → Pr xs.length acc → Drw M' a → M' c = some (.lst acc) → (∀ b, b ≠ a → b ≠ c → M' b = M b) → fin c acc M') : lcBody xs GM p tt te Γw M fin := by
  intro c hc
  have hac : a ≠ c := by
    rintro rfl
    obtain ⟨_, _, _, h⟩ := hD
    rw [hc] at h; cases h
  have keep : ∀ M' : Mem, (∀ b, b ≠ a → b ≠ c → M' b = M b) → ∀ b m, b ≠ a → M b = some m → M' b = some m := fun M' h b m hb e => by
    rw [h b hb (fun q => by rw [q, hc] at e; cases e)]; exact e
  refine ⟨fun i acc M' => Pr i acc ∧ Drw M' a ∧ M' c = some (.lst acc) ∧ ∀ b, b ≠ a → b ≠ c → M' b = M b, ⟨h0, hD.oth (c := c) (mup_ne hac), mup_same, fun b _ hb => mup_ne hb⟩, ?_, ?_, ?_⟩
  · rintro i acc M' hi ⟨hp, hd, hl, ho⟩
    exact ⟨hG M' (keep M' ho), hl⟩
  · rintro i x acc M' hx ⟨hp, hd, hl, ho⟩
    obtain ⟨Γ2, hpat, hk⟩ := step i x acc M' hx hp hd (keep M' ho)
    refine ⟨Γ2, hpat, hk _ fun b M2 o2 d2 ht hf2 => ?_⟩
    cases b with
    | true =>
      rw [if_pos rfl]
      refine ht rfl _ fun y M3 o3 d3 hp3 => ⟨?_, hp3, d3.oth (c := c) (mup_ne hac), mup_same, fun b hb hb2 => ?_⟩
      · rw [o3 c (Ne.symm hac), o2 c (Ne.symm hac)]; exact hl
      · rw [mup_ne hb2, o3 b hb, o2 b hb]; exact ho b hb hb2
    | false =>
      rw [if_neg Bool.false_ne_true]
      refine ⟨hf2 rfl, d2, ?_, fun b hb hb2 => ?_⟩
      · rw [o2 c (Ne.symm hac)]; exact hl
      · rw [o2 b hb]; exact ho b hb hb2
  · rintro acc M' ⟨hp, hd, hl, ho⟩
    exact hf c acc M' hc hp hd hl ho
/-- .. frozen -/
theorem oth_del {a c : Addr} {M M' : Mem} (hac : M c = none) (h : ∀ b, b ≠ a → b ≠ c → M' b = M b) : Oth a M (mdel M' c) := fun b hb => by
  by_cases q : b = c
  · subst q; unfold mdel; rw [if_pos rfl, hac]
  · rw [mdel_ne q]; exact h b hb q
theorem drw_del {a c : Addr} {M M' : Mem} (hD : Drw M a) (hc : M c = none) (h : Drw M' a) : Drw (mdel M' c) a := h.oth (c := c) (mdel_ne (by
    rintro rfl
    obtain ⟨_, _, _, h⟩ := hD
    rw [hc] at h; cases h))
def mN (i : Nat) : Str := ("m" : Str) ++ Str.ofString (toString (i : Int))
def cN (i : Nat) : Str := ("c" : Str) ++ Str.ofString (toString (i : Int))
def Chs (n : Nat) (ch : List (Str × Int)) : Prop := ch.map (·.1) = (List.range n).map mN ∧ ∀ p ∈ ch, 0 ≤ p.2 ∧ p.2 ≤ 3
theorem prs_of (ch : List (Str × Int)) : prsOf (ch.map fun p => .tup [.str p.1, .int p.2]) = some (ch.map fun p => ((Sum.inr p.1 : Sum Int Str), .int p.2)) := by
  induction ch with
  | nil => rfl
  | cons p ch ih => simp only [List.map_cons, prsOf, Dp.keyOf, ih]
theorem name_len (i : Nat) (h : i < 10) : (Str.ofString "m").length + (Str.ofString (toString (i : Int))).length ≤ 1000000 := by
  have : ∀ i : Fin 10, (Str.ofString "m").length + (Str.ofString (toString ((i : Nat) : Int))).length ≤ 1000000 := by decide +kernel
  exact this ⟨i, h⟩
theorem log_lt {n : Nat} (h : n < 1000) : ((n : Int)).natAbs.log2 < 1920 := by
  rw [Int.natAbs_natCast]
  exact Nat.lt_of_le_of_lt (Nat.log2_le_self n) (by omega)
theorem mN_nodup : ((List.range 10).map mN).Nodup := by decide +kernel
theorem cN_nodup : ((List.range 10).map cN).Nodup := by decide +kernel
theorem range_nodup {f : Nat → Str} (h : ((List.range 10).map f).Nodup) {n : Nat} (hn : n ≤ 10) : ((List.range n).map f).Nodup := by
  have e : (List.range n).map f = ((List.range 10).map f).take n := by rw [← List.map_take, List.take_range, Nat.min_eq_left hn]
  rw [e]
  exact h.sublist (List.take_sublist _ _)
def sp_law_masts (_ : Dat) : DSp := fun ds M R _ => ∃ (a : Addr) (m : Nat), ds = [.adr a, .int m] ∧ 0 < m ∧ m ≤ 9 ∧ Drw M a ∧ ∀ (n : Nat) (ch : List (Str × Int)) (M' : Mem), 1 ≤ n → n ≤ m → Chs n ch → Drw M' a → Oth a M M' → R (.dK (ch.map fun p => (Sum.inr p.1, .int p.2))) M'
theorem ok_law_masts (T : Tx K mg d) : FnOk P w K mg base (L2.CX P w) 4 d.f_law_masts d.d_law_masts ["_law_draw", "_law_most"] (LSp K (sp_law_masts d)) := by
  have G_law_pick := ok_law_pick (P := P) (w := w) (base := base) T
  have G_law_take := ok_law_take (P := P) (w := w) (base := base) T
  refine dfn_ok (k := 3) T.F_law_masts sc_law_masts (fun ds M R RX h => ?_) (by decide) fun cdv A outer s0 H0 E0 B ds M R RX hr fx h => ?_
  · obtain ⟨a, m, rfl, h0, h9, hD, hR⟩ := h; rfl
  obtain ⟨a, m, rfl, h0, h9, hD, hR⟩ := h
  have nd := sc_law_masts.nd
  refine ⟨_, (dss_one (ds_ret (de_callTy (call_dictP rfl) (l_dictP true) (by rfl) T.n_dict (by rfl) (da_cons (de_lc (fz := true) (own := [("_law_number_here", 2)]) rfl nd (di_range1 (by rfl) T.n_range (da_cons (de_add de_int (de_call G_law_take (hr.mono (by decide)) (by rfl) T.m_law_take T.F_law_take.kp T.B_law_take (da_cons (nv 0) (da_cons (nv 1) da_nil)))) da_nil)) (blkOk_by (N := N_law_masts) (sc := defScope s_law_masts) (own := [("_law_number_here", 2)]) (by decide +kernel)) (by decide) (fun _ _ _ _ _ => (pp_name (i := 2) nd rfl (Or.inl rfl))) (fun _ _ _ _ _ => dts_nil) (fun _ _ _ _ _ => (de_tup (da_cons (de_add de_str (de_callTy call_str_int l_str1 (by rfl) T.n_str (by rfl) (da_cons (nv 2) da_nil))) (da_cons (de_call G_law_pick (hr.mono (by decide)) (by rfl) T.m_law_pick T.F_law_pick.kp T.B_law_pick (da_cons (nv 0) (da_cons (de_lst (da_cons de_int (da_cons de_int (da_cons de_int (da_cons de_int (da_cons de_int (da_cons de_int (da_cons de_int da_nil)))))))) da_nil))) da_nil))))) da_nil)))), ?_⟩
  simp only [Dp.dSeq, Dp.dAsg, Dp.dgN, Dp.dVar, Dp.dC, Dp.dUn, Dp.dOp, Dp.dFld, Dp.dTst, Dp.dAnd, Dp.dOr, Dp.dNot, Dp.dAndV, Dp.dOrV, Dp.dNotV, Dp.dIf, Dp.dIfS, Dp.dRet, Dp.dRetN, Dp.dExpr, Dp.dPar, Dp.dPar3, Dp.dNext, Dp.dNever, Dp.dBrk, Dp.dCont, Dp.dgTup, Dp.dgCons, Dp.dgNil, Dp.dCall, Dp.dCons, Dp.dNil, Dp.dTup, Dp.dLst, Dp.dLstM, Dp.dNewK, Dp.dCallF, Dp.dMethF, Dp.dMake, Dp.dMakeF, Dp.dFldS, Dp.dPut, Dp.dBM, Dp.dGet1, Dp.dGet2, Dp.dPop1, Dp.dPop2, Dp.dStar, Dp.dIx, Dp.dAdd, Dp.dSub, Dp.dMul, Dp.dMod, Dp.dFdiv, Dp.dPow, Dp.dNeg, Dp.dAugN, Dp.dAugS, Dp.dAugF, Dp.dAugI, Dp.dLtS, Dp.dLe, Dp.dGt, Dp.dGe, Dp.dOrd, Dp.dBetween, Dp.dIsN, Dp.dEq, Dp.dEqK, Dp.dIn, Dp.dstart, List.map_cons, List.map_nil, List.length_cons, List.length_nil, List.cons_append, List.nil_append, List.replicate, List.getElem?_cons_zero, List.getElem?_cons_succ, List.set_cons_zero, List.set_cons_succ, Nat.reduceAdd, Nat.reduceSub, if_true, if_false, Bool.false_eq_true, Bool.not_true, Bool.not_false, Dp.v_non, Dp.v_bl, Dp.v_int, Dp.v_str, Dp.v_tup, Dp.v_lst, Dp.v_kls, Dp.v_dK, Dp.v_dT, Dp.v_ins, Dp.f_ins, Dp.da_dKs, Dp.da_dKi, Dp.ix_dKs, Dp.ix_dKi, Dp.ix_lst, Dp.ix_tup, Dp.ix_kls, Dp.lo_lst, Dp.lo_kls, Dp.io_lst, Dp.io_tup, Dp.io_kls, Dp.ki_lst, Dp.ki_tup, Dp.ki_dK, Dp.dd_dK, Dp.e_ii, Dp.e_ss, Dp.e_bb, Dp.inB_dK, Dp.inB_tup, Dp.inB_lst, Dp.dLen, Dp.dAbs, Dp.dInt1, Dp.dStr1, Dp.dIsi, Dp.dListOf, Dp.dTupOf, Dp.dSum, Dp.dAny, Dp.dAll, Dp.dSorted, Dp.dDictP, Dp.dDictD, Dp.dSortMet, Dp.dLenSet, Dp.dSortSet, Dp.dmApp, Dp.dmExt, Dp.dmPop, Dp.dmPopAt, Dp.dmRem, Dp.dmIdx, Dp.dSet, Dp.intOf, Dp.keyOf, Dp.dwipe, Dp.patD, Dp.patDs, Dp.ln_lst, Dp.ln_tup, Dp.ln_kls, Dp.ln_dK, Dp.dFor, Dp.dLc, Dp.dDc, Dp.dLc2, Dp.srcOf, Dp.dFrz, lk_Seats_scene, pa_Seats_scene, pt_Seats_scene, lk_Seats_seating, pa_Seats_seating, pt_Seats_seating, lk_Seats_seated, pa_Seats_seated, pt_Seats_seated, lk_Kept_lot, pa_Kept_lot, pt_Kept_lot, lk_Kept_seating, pa_Kept_seating, pt_Kept_seating, lk_Kept_papers, pa_Kept_papers, pt_Kept_papers, lk_Call_worth, pa_Call_worth, pt_Call_worth, lk_Call_heard, pa_Call_heard, pt_Call_heard, lk_Scene_channels, pa_Scene_channels, pt_Scene_channels, lk_Scene_calls, pa_Scene_calls, pt_Scene_calls]
  refine ⟨a, (m : Int), rfl, by omega, hD, fun r M1 r0 r1 d1 o1 => ?_⟩
  simp only [Dp.dSeq, Dp.dAsg, Dp.dgN, Dp.dVar, Dp.dC, Dp.dUn, Dp.dOp, Dp.dFld, Dp.dTst, Dp.dAnd, Dp.dOr, Dp.dNot, Dp.dAndV, Dp.dOrV, Dp.dNotV, Dp.dIf, Dp.dIfS, Dp.dRet, Dp.dRetN, Dp.dExpr, Dp.dPar, Dp.dPar3, Dp.dNext, Dp.dNever, Dp.dBrk, Dp.dCont, Dp.dgTup, Dp.dgCons, Dp.dgNil, Dp.dCall, Dp.dCons, Dp.dNil, Dp.dTup, Dp.dLst, Dp.dLstM, Dp.dNewK, Dp.dCallF, Dp.dMethF, Dp.dMake, Dp.dMakeF, Dp.dFldS, Dp.dPut, Dp.dBM, Dp.dGet1, Dp.dGet2, Dp.dPop1, Dp.dPop2, Dp.dStar, Dp.dIx, Dp.dAdd, Dp.dSub, Dp.dMul, Dp.dMod, Dp.dFdiv, Dp.dPow, Dp.dNeg, Dp.dAugN, Dp.dAugS, Dp.dAugF, Dp.dAugI, Dp.dLtS, Dp.dLe, Dp.dGt, Dp.dGe, Dp.dOrd, Dp.dBetween, Dp.dIsN, Dp.dEq, Dp.dEqK, Dp.dIn, Dp.dstart, List.map_cons, List.map_nil, List.length_cons, List.length_nil, List.cons_append, List.nil_append, List.replicate, List.getElem?_cons_zero, List.getElem?_cons_succ, List.set_cons_zero, List.set_cons_succ, Nat.reduceAdd, Nat.reduceSub, if_true, if_false, Bool.false_eq_true, Bool.not_true, Bool.not_false, Dp.v_non, Dp.v_bl, Dp.v_int, Dp.v_str, Dp.v_tup, Dp.v_lst, Dp.v_kls, Dp.v_dK, Dp.v_dT, Dp.v_ins, Dp.f_ins, Dp.da_dKs, Dp.da_dKi, Dp.ix_dKs, Dp.ix_dKi, Dp.ix_lst, Dp.ix_tup, Dp.ix_kls, Dp.lo_lst, Dp.lo_kls, Dp.io_lst, Dp.io_tup, Dp.io_kls, Dp.ki_lst, Dp.ki_tup, Dp.ki_dK, Dp.dd_dK, Dp.e_ii, Dp.e_ss, Dp.e_bb, Dp.inB_dK, Dp.inB_tup, Dp.inB_lst, Dp.dLen, Dp.dAbs, Dp.dInt1, Dp.dStr1, Dp.dIsi, Dp.dListOf, Dp.dTupOf, Dp.dSum, Dp.dAny, Dp.dAll, Dp.dSorted, Dp.dDictP, Dp.dDictD, Dp.dSortMet, Dp.dLenSet, Dp.dSortSet, Dp.dmApp, Dp.dmExt, Dp.dmPop, Dp.dmPopAt, Dp.dmRem, Dp.dmIdx, Dp.dSet, Dp.intOf, Dp.keyOf, Dp.dwipe, Dp.patD, Dp.patDs, Dp.ln_lst, Dp.ln_tup, Dp.ln_kls, Dp.ln_dK, Dp.dFor, Dp.dLc, Dp.dDc, Dp.dLc2, Dp.srcOf, Dp.dFrz, lk_Seats_scene, pa_Seats_scene, pt_Seats_scene, lk_Seats_seating, pa_Seats_seating, pt_Seats_seating, lk_Seats_seated, pa_Seats_seated, pt_Seats_seated, lk_Kept_lot, pa_Kept_lot, pt_Kept_lot, lk_Kept_seating, pa_Kept_seating, pt_Kept_seating, lk_Kept_papers, pa_Kept_papers, pt_Kept_papers, lk_Call_worth, pa_Call_worth, pt_Call_worth, lk_Call_heard, pa_Call_heard, pt_Call_heard, lk_Scene_channels, pa_Scene_channels, pt_Scene_channels, lk_Scene_calls, pa_Scene_calls, pt_Scene_calls]
  refine ⟨by omega, by omega, ?_⟩
  obtain ⟨k, hk⟩ : ∃ k : Nat, (1 + r : Int).toNat = k := ⟨_, rfl⟩
  rw [hk]
  refine lc_draw d1 (fun i acc => ∃ ch, acc = ch.map (fun p : Str × Int => .tup [.str p.1, .int p.2]) ∧ Chs i ch) ⟨[], rfl, rfl, by simp⟩ (fun _ _ => trivial) ?_ ?_
  · rintro i x acc M' hx ⟨ch, rfl, hch⟩ hd hkeep
    have hi : i < k := by
      have := (List.getElem?_eq_some_iff.mp hx).1
      simpa [rangeD] using this
    have ex : x = .int (i : Int) := by
      have : (rangeD 0 k)[i]? = some (.int ((0 : Int) + (i : Nat))) := by simp [rangeD, hi]
      rw [this] at hx
      cases hx
      rw [Int.zero_add]
    subst ex
    refine ⟨_, rfl, fun K hK => hK true M' (Oth.refl _ _) hd (fun _ K' hK' => ?_) fun h => nomatch h⟩
    simp only [Dp.dSeq, Dp.dAsg, Dp.dgN, Dp.dVar, Dp.dC, Dp.dUn, Dp.dOp, Dp.dFld, Dp.dTst, Dp.dAnd, Dp.dOr, Dp.dNot, Dp.dAndV, Dp.dOrV, Dp.dNotV, Dp.dIf, Dp.dIfS, Dp.dRet, Dp.dRetN, Dp.dExpr, Dp.dPar, Dp.dPar3, Dp.dNext, Dp.dNever, Dp.dBrk, Dp.dCont, Dp.dgTup, Dp.dgCons, Dp.dgNil, Dp.dCall, Dp.dCons, Dp.dNil, Dp.dTup, Dp.dLst, Dp.dLstM, Dp.dNewK, Dp.dCallF, Dp.dMethF, Dp.dMake, Dp.dMakeF, Dp.dFldS, Dp.dPut, Dp.dBM, Dp.dGet1, Dp.dGet2, Dp.dPop1, Dp.dPop2, Dp.dStar, Dp.dIx, Dp.dAdd, Dp.dSub, Dp.dMul, Dp.dMod, Dp.dFdiv, Dp.dPow, Dp.dNeg, Dp.dAugN, Dp.dAugS, Dp.dAugF, Dp.dAugI, Dp.dLtS, Dp.dLe, Dp.dGt, Dp.dGe, Dp.dOrd, Dp.dBetween, Dp.dIsN, Dp.dEq, Dp.dEqK, Dp.dIn, Dp.dstart, List.map_cons, List.map_nil, List.length_cons, List.length_nil, List.cons_append, List.nil_append, List.replicate, List.getElem?_cons_zero, List.getElem?_cons_succ, List.set_cons_zero, List.set_cons_succ, Nat.reduceAdd, Nat.reduceSub, if_true, if_false, Bool.false_eq_true, Bool.not_true, Bool.not_false, Dp.v_non, Dp.v_bl, Dp.v_int, Dp.v_str, Dp.v_tup, Dp.v_lst, Dp.v_kls, Dp.v_dK, Dp.v_dT, Dp.v_ins, Dp.f_ins, Dp.da_dKs, Dp.da_dKi, Dp.ix_dKs, Dp.ix_dKi, Dp.ix_lst, Dp.ix_tup, Dp.ix_kls, Dp.lo_lst, Dp.lo_kls, Dp.io_lst, Dp.io_tup, Dp.io_kls, Dp.ki_lst, Dp.ki_tup, Dp.ki_dK, Dp.dd_dK, Dp.e_ii, Dp.e_ss, Dp.e_bb, Dp.inB_dK, Dp.inB_tup, Dp.inB_lst, Dp.dLen, Dp.dAbs, Dp.dInt1, Dp.dStr1, Dp.dIsi, Dp.dListOf, Dp.dTupOf, Dp.dSum, Dp.dAny, Dp.dAll, Dp.dSorted, Dp.dDictP, Dp.dDictD, Dp.dSortMet, Dp.dLenSet, Dp.dSortSet, Dp.dmApp, Dp.dmExt, Dp.dmPop, Dp.dmPopAt, Dp.dmRem, Dp.dmIdx, Dp.dSet, Dp.intOf, Dp.keyOf, Dp.dwipe, Dp.patD, Dp.patDs, Dp.ln_lst, Dp.ln_tup, Dp.ln_kls, Dp.ln_dK, Dp.dFor, Dp.dLc, Dp.dDc, Dp.dLc2, Dp.srcOf, Dp.dFrz, lk_Seats_scene, pa_Seats_scene, pt_Seats_scene, lk_Seats_seating, pa_Seats_seating, pt_Seats_seating, lk_Seats_seated, pa_Seats_seated, pt_Seats_seated, lk_Kept_lot, pa_Kept_lot, pt_Kept_lot, lk_Kept_seating, pa_Kept_seating, pt_Kept_seating, lk_Kept_papers, pa_Kept_papers, pt_Kept_papers, lk_Call_worth, pa_Call_worth, pt_Call_worth, lk_Call_heard, pa_Call_heard, pt_Call_heard, lk_Scene_channels, pa_Scene_channels, pt_Scene_channels, lk_Scene_calls, pa_Scene_calls, pt_Scene_calls]
    refine ⟨log_lt (by omega), szl (name_len i (by omega)), szl (by decide), a, _, rfl, by simp, hd, fun x M3 hx3 hd3 ho3 => ?_⟩
    obtain ⟨v, rfl, hv⟩ : ∃ v : Int, x = .int v ∧ 0 ≤ v ∧ v ≤ 3 := by
      simp only [List.mem_cons, List.not_mem_nil, or_false] at hx3
      rcases hx3 with rfl | rfl | rfl | rfl | rfl | rfl | rfl <;> exact ⟨_, rfl, by decide, by decide⟩
    refine ⟨szl (by decide), hK' _ M3 ho3 hd3 ⟨ch ++ [(mN i, v)], by simp [mN], ?_, ?_⟩⟩
    · rw [List.map_append, hch.1, List.range_succ, List.map_append]; rfl
    · intro p hp
      rcases List.mem_append.mp hp with hp | hp
      · exact hch.2 p hp
      · rw [List.mem_singleton.mp hp]; exact hv
  · rintro c acc M' hc ⟨ch, rfl, hch⟩ hd hl ho
    have hlen : (rangeD 0 k).length = k := by simp [rangeD]
    rw [hlen] at hch
    simp only [Dp.dSeq, Dp.dAsg, Dp.dgN, Dp.dVar, Dp.dC, Dp.dUn, Dp.dOp, Dp.dFld, Dp.dTst, Dp.dAnd, Dp.dOr, Dp.dNot, Dp.dAndV, Dp.dOrV, Dp.dNotV, Dp.dIf, Dp.dIfS, Dp.dRet, Dp.dRetN, Dp.dExpr, Dp.dPar, Dp.dPar3, Dp.dNext, Dp.dNever, Dp.dBrk, Dp.dCont, Dp.dgTup, Dp.dgCons, Dp.dgNil, Dp.dCall, Dp.dCons, Dp.dNil, Dp.dTup, Dp.dLst, Dp.dLstM, Dp.dNewK, Dp.dCallF, Dp.dMethF, Dp.dMake, Dp.dMakeF, Dp.dFldS, Dp.dPut, Dp.dBM, Dp.dGet1, Dp.dGet2, Dp.dPop1, Dp.dPop2, Dp.dStar, Dp.dIx, Dp.dAdd, Dp.dSub, Dp.dMul, Dp.dMod, Dp.dFdiv, Dp.dPow, Dp.dNeg, Dp.dAugN, Dp.dAugS, Dp.dAugF, Dp.dAugI, Dp.dLtS, Dp.dLe, Dp.dGt, Dp.dGe, Dp.dOrd, Dp.dBetween, Dp.dIsN, Dp.dEq, Dp.dEqK, Dp.dIn, Dp.dstart, List.map_cons, List.map_nil, List.length_cons, List.length_nil, List.cons_append, List.nil_append, List.replicate, List.getElem?_cons_zero, List.getElem?_cons_succ, List.set_cons_zero, List.set_cons_succ, Nat.reduceAdd, Nat.reduceSub, if_true, if_false, Bool.false_eq_true, Bool.not_true, Bool.not_false, Dp.v_non, Dp.v_bl, Dp.v_int, Dp.v_str, Dp.v_tup, Dp.v_lst, Dp.v_kls, Dp.v_dK, Dp.v_dT, Dp.v_ins, Dp.f_ins, Dp.da_dKs, Dp.da_dKi, Dp.ix_dKs, Dp.ix_dKi, Dp.ix_lst, Dp.ix_tup, Dp.ix_kls, Dp.lo_lst, Dp.lo_kls, Dp.io_lst, Dp.io_tup, Dp.io_kls, Dp.ki_lst, Dp.ki_tup, Dp.ki_dK, Dp.dd_dK, Dp.e_ii, Dp.e_ss, Dp.e_bb, Dp.inB_dK, Dp.inB_tup, Dp.inB_lst, Dp.dLen, Dp.dAbs, Dp.dInt1, Dp.dStr1, Dp.dIsi, Dp.dListOf, Dp.dTupOf, Dp.dSum, Dp.dAny, Dp.dAll, Dp.dSorted, Dp.dDictP, Dp.dDictD, Dp.dSortMet, Dp.dLenSet, Dp.dSortSet, Dp.dmApp, Dp.dmExt, Dp.dmPop, Dp.dmPopAt, Dp.dmRem, Dp.dmIdx, Dp.dSet, Dp.intOf, Dp.keyOf, Dp.dwipe, Dp.patD, Dp.patDs, Dp.ln_lst, Dp.ln_tup, Dp.ln_kls, Dp.ln_dK, Dp.dFor, Dp.dLc, Dp.dDc, Dp.dLc2, Dp.srcOf, Dp.dFrz, lk_Seats_scene, pa_Seats_scene, pt_Seats_scene, lk_Seats_seating, pa_Seats_seating, pt_Seats_seating, lk_Seats_seated, pa_Seats_seated, pt_Seats_seated, lk_Kept_lot, pa_Kept_lot, pt_Kept_lot, lk_Kept_seating, pa_Kept_seating, pt_Kept_seating, lk_Kept_papers, pa_Kept_papers, pt_Kept_papers, lk_Call_worth, pa_Call_worth, pt_Call_worth, lk_Call_heard, pa_Call_heard, pt_Call_heard, lk_Scene_channels, pa_Scene_channels, pt_Scene_channels, lk_Scene_calls, pa_Scene_calls, pt_Scene_calls, prs_of, Option.bind_some]
    have nd2 : ((ch.map fun p => ((Sum.inr p.1 : Sum Int Str), D.int p.2)).map (·.1)).Nodup := by
      have e : (ch.map fun p => ((Sum.inr p.1 : Sum Int Str), D.int p.2)).map (·.1) = (ch.map (·.1)).map Sum.inr := by rw [List.map_map, List.map_map]; rfl
      rw [e, hch.1]
      exact (range_nodup mN_nodup (by omega)).map _ fun x y h => fun q => h (Sum.inr.inj q)
    rw [merge_nil nd2]
    exact ⟨_, _, Fz.refl _ _, hR k ch _ (by omega) (by omega) hch (drw_del d1 hc hd) (o1.trans (oth_del hc ho))⟩
def sp_law_heard (_ : Dat) : DSp := fun ds M R _ => ∃ (a : Addr) (ch : List (Sum Int Str × D)) (ns : List Str), ds = [.adr a, .dK ch] ∧ ch.map (·.1) = ns.map Sum.inr ∧ Drw M a ∧ ∀ (hs : List Str) (M' : Mem), hs.Sublist ns → Drw M' a → Oth a M M' → R (.lst (hs.map .str)) M'
theorem ok_law_heard (T : Tx K mg d) : FnOk P w K mg base (L2.CX P w) 3 d.f_law_heard d.d_law_heard ["_law_draw", "_law_channels"] (LSp K (sp_law_heard d)) := by
  have G_law_take := ok_law_take (P := P) (w := w) (base := base) T
  refine dfn_ok (k := 2) T.F_law_heard sc_law_heard (fun ds M R RX h => ?_) (by decide) fun cdv A outer s0 H0 E0 B ds M R RX hr fx h => ?_
  · obtain ⟨a, ch, ns, rfl, hn, hD, hR⟩ := h; rfl
  obtain ⟨a, ch, ns, rfl, hn, hD, hR⟩ := h
  have nd := sc_law_heard.nd
  refine ⟨_, (dss_one (ds_ret (de_lc (fz := true) (own := [("_law_mast", 2)]) rfl nd (di_any (nv 1)) (blkOk_by (N := N_law_heard) (sc := defScope s_law_heard) (own := [("_law_mast", 2)]) (by decide +kernel)) (by decide) (fun _ _ _ _ _ => (pp_name (i := 2) nd rfl (Or.inl rfl))) (fun _ _ _ _ _ => (dts_one (dt_eq (hu64 hr) (de_call G_law_take (hr.mono (by decide)) (by rfl) T.m_law_take T.F_law_take.kp T.B_law_take (da_cons (nv 0) (da_cons de_int da_nil))) de_int))) (fun _ _ _ _ _ => (nv 2))))), ?_⟩
  simp only [Dp.dSeq, Dp.dAsg, Dp.dgN, Dp.dVar, Dp.dC, Dp.dUn, Dp.dOp, Dp.dFld, Dp.dTst, Dp.dAnd, Dp.dOr, Dp.dNot, Dp.dAndV, Dp.dOrV, Dp.dNotV, Dp.dIf, Dp.dIfS, Dp.dRet, Dp.dRetN, Dp.dExpr, Dp.dPar, Dp.dPar3, Dp.dNext, Dp.dNever, Dp.dBrk, Dp.dCont, Dp.dgTup, Dp.dgCons, Dp.dgNil, Dp.dCall, Dp.dCons, Dp.dNil, Dp.dTup, Dp.dLst, Dp.dLstM, Dp.dNewK, Dp.dCallF, Dp.dMethF, Dp.dMake, Dp.dMakeF, Dp.dFldS, Dp.dPut, Dp.dBM, Dp.dGet1, Dp.dGet2, Dp.dPop1, Dp.dPop2, Dp.dStar, Dp.dIx, Dp.dAdd, Dp.dSub, Dp.dMul, Dp.dMod, Dp.dFdiv, Dp.dPow, Dp.dNeg, Dp.dAugN, Dp.dAugS, Dp.dAugF, Dp.dAugI, Dp.dLtS, Dp.dLe, Dp.dGt, Dp.dGe, Dp.dOrd, Dp.dBetween, Dp.dIsN, Dp.dEq, Dp.dEqK, Dp.dIn, Dp.dstart, List.map_cons, List.map_nil, List.length_cons, List.length_nil, List.cons_append, List.nil_append, List.replicate, List.getElem?_cons_zero, List.getElem?_cons_succ, List.set_cons_zero, List.set_cons_succ, Nat.reduceAdd, Nat.reduceSub, if_true, if_false, Bool.false_eq_true, Bool.not_true, Bool.not_false, Dp.v_non, Dp.v_bl, Dp.v_int, Dp.v_str, Dp.v_tup, Dp.v_lst, Dp.v_kls, Dp.v_dK, Dp.v_dT, Dp.v_ins, Dp.f_ins, Dp.da_dKs, Dp.da_dKi, Dp.ix_dKs, Dp.ix_dKi, Dp.ix_lst, Dp.ix_tup, Dp.ix_kls, Dp.lo_lst, Dp.lo_kls, Dp.io_lst, Dp.io_tup, Dp.io_kls, Dp.ki_lst, Dp.ki_tup, Dp.ki_dK, Dp.dd_dK, Dp.e_ii, Dp.e_ss, Dp.e_bb, Dp.inB_dK, Dp.inB_tup, Dp.inB_lst, Dp.dLen, Dp.dAbs, Dp.dInt1, Dp.dStr1, Dp.dIsi, Dp.dListOf, Dp.dTupOf, Dp.dSum, Dp.dAny, Dp.dAll, Dp.dSorted, Dp.dDictP, Dp.dDictD, Dp.dSortMet, Dp.dLenSet, Dp.dSortSet, Dp.dmApp, Dp.dmExt, Dp.dmPop, Dp.dmPopAt, Dp.dmRem, Dp.dmIdx, Dp.dSet, Dp.intOf, Dp.keyOf, Dp.dwipe, Dp.patD, Dp.patDs, Dp.ln_lst, Dp.ln_tup, Dp.ln_kls, Dp.ln_dK, Dp.dFor, Dp.dLc, Dp.dDc, Dp.dLc2, Dp.srcOf, Dp.dFrz, lk_Seats_scene, pa_Seats_scene, pt_Seats_scene, lk_Seats_seating, pa_Seats_seating, pt_Seats_seating, lk_Seats_seated, pa_Seats_seated, pt_Seats_seated, lk_Kept_lot, pa_Kept_lot, pt_Kept_lot, lk_Kept_seating, pa_Kept_seating, pt_Kept_seating, lk_Kept_papers, pa_Kept_papers, pt_Kept_papers, lk_Call_worth, pa_Call_worth, pt_Call_worth, lk_Call_heard, pa_Call_heard, pt_Call_heard, lk_Scene_channels, pa_Scene_channels, pt_Scene_channels, lk_Scene_calls, pa_Scene_calls, pt_Scene_calls]
  have hks : (ch.map fun kv => kD kv.1) = ns.map D.str := by
    have : (ch.map fun kv => kD kv.1) = (ch.map (·.1)).map kD := by rw [List.map_map]; rfl
    rw [this, hn, List.map_map]; rfl
  rw [hks]
  refine lc_draw hD (fun i acc => ∃ hs, acc = hs.map D.str ∧ hs.Sublist (ns.take i)) ⟨[], rfl, by simp⟩ (fun _ _ => trivial) ?_ ?_
  · rintro i x acc M' hx ⟨hs, rfl, hsub⟩ hd hkeep
    rw [List.getElem?_map] at hx
    obtain ⟨y, hy, rfl⟩ := Option.map_eq_some_iff.mp hx
    have ht : ns.take (i + 1) = ns.take i ++ [y] := by rw [List.take_succ, hy]; rfl
    refine ⟨_, rfl, fun K hK => ?_⟩
    simp only [Dp.dSeq, Dp.dAsg, Dp.dgN, Dp.dVar, Dp.dC, Dp.dUn, Dp.dOp, Dp.dFld, Dp.dTst, Dp.dAnd, Dp.dOr, Dp.dNot, Dp.dAndV, Dp.dOrV, Dp.dNotV, Dp.dIf, Dp.dIfS, Dp.dRet, Dp.dRetN, Dp.dExpr, Dp.dPar, Dp.dPar3, Dp.dNext, Dp.dNever, Dp.dBrk, Dp.dCont, Dp.dgTup, Dp.dgCons, Dp.dgNil, Dp.dCall, Dp.dCons, Dp.dNil, Dp.dTup, Dp.dLst, Dp.dLstM, Dp.dNewK, Dp.dCallF, Dp.dMethF, Dp.dMake, Dp.dMakeF, Dp.dFldS, Dp.dPut, Dp.dBM, Dp.dGet1, Dp.dGet2, Dp.dPop1, Dp.dPop2, Dp.dStar, Dp.dIx, Dp.dAdd, Dp.dSub, Dp.dMul, Dp.dMod, Dp.dFdiv, Dp.dPow, Dp.dNeg, Dp.dAugN, Dp.dAugS, Dp.dAugF, Dp.dAugI, Dp.dLtS, Dp.dLe, Dp.dGt, Dp.dGe, Dp.dOrd, Dp.dBetween, Dp.dIsN, Dp.dEq, Dp.dEqK, Dp.dIn, Dp.dstart, List.map_cons, List.map_nil, List.length_cons, List.length_nil, List.cons_append, List.nil_append, List.replicate, List.getElem?_cons_zero, List.getElem?_cons_succ, List.set_cons_zero, List.set_cons_succ, Nat.reduceAdd, Nat.reduceSub, if_true, if_false, Bool.false_eq_true, Bool.not_true, Bool.not_false, Dp.v_non, Dp.v_bl, Dp.v_int, Dp.v_str, Dp.v_tup, Dp.v_lst, Dp.v_kls, Dp.v_dK, Dp.v_dT, Dp.v_ins, Dp.f_ins, Dp.da_dKs, Dp.da_dKi, Dp.ix_dKs, Dp.ix_dKi, Dp.ix_lst, Dp.ix_tup, Dp.ix_kls, Dp.lo_lst, Dp.lo_kls, Dp.io_lst, Dp.io_tup, Dp.io_kls, Dp.ki_lst, Dp.ki_tup, Dp.ki_dK, Dp.dd_dK, Dp.e_ii, Dp.e_ss, Dp.e_bb, Dp.inB_dK, Dp.inB_tup, Dp.inB_lst, Dp.dLen, Dp.dAbs, Dp.dInt1, Dp.dStr1, Dp.dIsi, Dp.dListOf, Dp.dTupOf, Dp.dSum, Dp.dAny, Dp.dAll, Dp.dSorted, Dp.dDictP, Dp.dDictD, Dp.dSortMet, Dp.dLenSet, Dp.dSortSet, Dp.dmApp, Dp.dmExt, Dp.dmPop, Dp.dmPopAt, Dp.dmRem, Dp.dmIdx, Dp.dSet, Dp.intOf, Dp.keyOf, Dp.dwipe, Dp.patD, Dp.patDs, Dp.ln_lst, Dp.ln_tup, Dp.ln_kls, Dp.ln_dK, Dp.dFor, Dp.dLc, Dp.dDc, Dp.dLc2, Dp.srcOf, Dp.dFrz, lk_Seats_scene, pa_Seats_scene, pt_Seats_scene, lk_Seats_seating, pa_Seats_seating, pt_Seats_seating, lk_Seats_seated, pa_Seats_seated, pt_Seats_seated, lk_Kept_lot, pa_Kept_lot, pt_Kept_lot, lk_Kept_seating, pa_Kept_seating, pt_Kept_seating, lk_Kept_papers, pa_Kept_papers, pt_Kept_papers, lk_Call_worth, pa_Call_worth, pt_Call_worth, lk_Call_heard, pa_Call_heard, pt_Call_heard, lk_Scene_channels, pa_Scene_channels, pt_Scene_channels, lk_Scene_calls, pa_Scene_calls, pt_Scene_calls]
    refine ⟨a, 2, rfl, by decide, hd, fun r M2 r0 r1 hd2 ho2 => ?_⟩
    simp only [Dp.dSeq, Dp.dAsg, Dp.dgN, Dp.dVar, Dp.dC, Dp.dUn, Dp.dOp, Dp.dFld, Dp.dTst, Dp.dAnd, Dp.dOr, Dp.dNot, Dp.dAndV, Dp.dOrV, Dp.dNotV, Dp.dIf, Dp.dIfS, Dp.dRet, Dp.dRetN, Dp.dExpr, Dp.dPar, Dp.dPar3, Dp.dNext, Dp.dNever, Dp.dBrk, Dp.dCont, Dp.dgTup, Dp.dgCons, Dp.dgNil, Dp.dCall, Dp.dCons, Dp.dNil, Dp.dTup, Dp.dLst, Dp.dLstM, Dp.dNewK, Dp.dCallF, Dp.dMethF, Dp.dMake, Dp.dMakeF, Dp.dFldS, Dp.dPut, Dp.dBM, Dp.dGet1, Dp.dGet2, Dp.dPop1, Dp.dPop2, Dp.dStar, Dp.dIx, Dp.dAdd, Dp.dSub, Dp.dMul, Dp.dMod, Dp.dFdiv, Dp.dPow, Dp.dNeg, Dp.dAugN, Dp.dAugS, Dp.dAugF, Dp.dAugI, Dp.dLtS, Dp.dLe, Dp.dGt, Dp.dGe, Dp.dOrd, Dp.dBetween, Dp.dIsN, Dp.dEq, Dp.dEqK, Dp.dIn, Dp.dstart, List.map_cons, List.map_nil, List.length_cons, List.length_nil, List.cons_append, List.nil_append, List.replicate, List.getElem?_cons_zero, List.getElem?_cons_succ, List.set_cons_zero, List.set_cons_succ, Nat.reduceAdd, Nat.reduceSub, if_true, if_false, Bool.false_eq_true, Bool.not_true, Bool.not_false, Dp.v_non, Dp.v_bl, Dp.v_int, Dp.v_str, Dp.v_tup, Dp.v_lst, Dp.v_kls, Dp.v_dK, Dp.v_dT, Dp.v_ins, Dp.f_ins, Dp.da_dKs, Dp.da_dKi, Dp.ix_dKs, Dp.ix_dKi, Dp.ix_lst, Dp.ix_tup, Dp.ix_kls, Dp.lo_lst, Dp.lo_kls, Dp.io_lst, Dp.io_tup, Dp.io_kls, Dp.ki_lst, Dp.ki_tup, Dp.ki_dK, Dp.dd_dK, Dp.e_ii, Dp.e_ss, Dp.e_bb, Dp.inB_dK, Dp.inB_tup, Dp.inB_lst, Dp.dLen, Dp.dAbs, Dp.dInt1, Dp.dStr1, Dp.dIsi, Dp.dListOf, Dp.dTupOf, Dp.dSum, Dp.dAny, Dp.dAll, Dp.dSorted, Dp.dDictP, Dp.dDictD, Dp.dSortMet, Dp.dLenSet, Dp.dSortSet, Dp.dmApp, Dp.dmExt, Dp.dmPop, Dp.dmPopAt, Dp.dmRem, Dp.dmIdx, Dp.dSet, Dp.intOf, Dp.keyOf, Dp.dwipe, Dp.patD, Dp.patDs, Dp.ln_lst, Dp.ln_tup, Dp.ln_kls, Dp.ln_dK, Dp.dFor, Dp.dLc, Dp.dDc, Dp.dLc2, Dp.srcOf, Dp.dFrz, lk_Seats_scene, pa_Seats_scene, pt_Seats_scene, lk_Seats_seating, pa_Seats_seating, pt_Seats_seating, lk_Seats_seated, pa_Seats_seated, pt_Seats_seated, lk_Kept_lot, pa_Kept_lot, pt_Kept_lot, lk_Kept_seating, pa_Kept_seating, pt_Kept_seating, lk_Kept_papers, pa_Kept_papers, pt_Kept_papers, lk_Call_worth, pa_Call_worth, pt_Call_worth, lk_Call_heard, pa_Call_heard, pt_Call_heard, lk_Scene_channels, pa_Scene_channels, pt_Scene_channels, lk_Scene_calls, pa_Scene_calls, pt_Scene_calls]
    refine hK _ M2 ho2 hd2 (fun _ K' hK' => ?_) fun _ => ⟨hs, rfl, by rw [ht]; exact hsub.trans (List.sublist_append_left _ _)⟩
    simp only [Dp.dSeq, Dp.dAsg, Dp.dgN, Dp.dVar, Dp.dC, Dp.dUn, Dp.dOp, Dp.dFld, Dp.dTst, Dp.dAnd, Dp.dOr, Dp.dNot, Dp.dAndV, Dp.dOrV, Dp.dNotV, Dp.dIf, Dp.dIfS, Dp.dRet, Dp.dRetN, Dp.dExpr, Dp.dPar, Dp.dPar3, Dp.dNext, Dp.dNever, Dp.dBrk, Dp.dCont, Dp.dgTup, Dp.dgCons, Dp.dgNil, Dp.dCall, Dp.dCons, Dp.dNil, Dp.dTup, Dp.dLst, Dp.dLstM, Dp.dNewK, Dp.dCallF, Dp.dMethF, Dp.dMake, Dp.dMakeF, Dp.dFldS, Dp.dPut, Dp.dBM, Dp.dGet1, Dp.dGet2, Dp.dPop1, Dp.dPop2, Dp.dStar, Dp.dIx, Dp.dAdd, Dp.dSub, Dp.dMul, Dp.dMod, Dp.dFdiv, Dp.dPow, Dp.dNeg, Dp.dAugN, Dp.dAugS, Dp.dAugF, Dp.dAugI, Dp.dLtS, Dp.dLe, Dp.dGt, Dp.dGe, Dp.dOrd, Dp.dBetween, Dp.dIsN, Dp.dEq, Dp.dEqK, Dp.dIn, Dp.dstart, List.map_cons, List.map_nil, List.length_cons, List.length_nil, List.cons_append, List.nil_append, List.replicate, List.getElem?_cons_zero, List.getElem?_cons_succ, List.set_cons_zero, List.set_cons_succ, Nat.reduceAdd, Nat.reduceSub, if_true, if_false, Bool.false_eq_true, Bool.not_true, Bool.not_false, Dp.v_non, Dp.v_bl, Dp.v_int, Dp.v_str, Dp.v_tup, Dp.v_lst, Dp.v_kls, Dp.v_dK, Dp.v_dT, Dp.v_ins, Dp.f_ins, Dp.da_dKs, Dp.da_dKi, Dp.ix_dKs, Dp.ix_dKi, Dp.ix_lst, Dp.ix_tup, Dp.ix_kls, Dp.lo_lst, Dp.lo_kls, Dp.io_lst, Dp.io_tup, Dp.io_kls, Dp.ki_lst, Dp.ki_tup, Dp.ki_dK, Dp.dd_dK, Dp.e_ii, Dp.e_ss, Dp.e_bb, Dp.inB_dK, Dp.inB_tup, Dp.inB_lst, Dp.dLen, Dp.dAbs, Dp.dInt1, Dp.dStr1, Dp.dIsi, Dp.dListOf, Dp.dTupOf, Dp.dSum, Dp.dAny, Dp.dAll, Dp.dSorted, Dp.dDictP, Dp.dDictD, Dp.dSortMet, Dp.dLenSet, Dp.dSortSet, Dp.dmApp, Dp.dmExt, Dp.dmPop, Dp.dmPopAt, Dp.dmRem, Dp.dmIdx, Dp.dSet, Dp.intOf, Dp.keyOf, Dp.dwipe, Dp.patD, Dp.patDs, Dp.ln_lst, Dp.ln_tup, Dp.ln_kls, Dp.ln_dK, Dp.dFor, Dp.dLc, Dp.dDc, Dp.dLc2, Dp.srcOf, Dp.dFrz, lk_Seats_scene, pa_Seats_scene, pt_Seats_scene, lk_Seats_seating, pa_Seats_seating, pt_Seats_seating, lk_Seats_seated, pa_Seats_seated, pt_Seats_seated, lk_Kept_lot, pa_Kept_lot, pt_Kept_lot, lk_Kept_seating, pa_Kept_seating, pt_Kept_seating, lk_Kept_papers, pa_Kept_papers, pt_Kept_papers, lk_Call_worth, pa_Call_worth, pt_Call_worth, lk_Call_heard, pa_Call_heard, pt_Call_heard, lk_Scene_channels, pa_Scene_channels, pt_Scene_channels, lk_Scene_calls, pa_Scene_calls, pt_Scene_calls]
    exact hK' _ M2 (Oth.refl _ _) hd2 ⟨hs ++ [y], by simp, by rw [ht]; exact hsub.append (List.Sublist.refl _)⟩
  · rintro c acc M' hc ⟨hs, rfl, hsub⟩ hd hl ho
    rw [List.length_map, List.take_length] at hsub
    exact ⟨_, _, Fz.refl _ _, hR hs _ hsub (drw_del hD hc hd) (oth_del hc ho)⟩

end
end K20
namespace K20
open PySem PySem.Spec L2 Dp
section
variable {P : Program} {w : World} {K : PySem.W.Frag} {mg : Str → Option Value} {base : Heap} {d : Dat}
/-! scenes -/
structure Sc where
  ch : List (Str × Int)
  ca : List (Str × Int × List Str)
def dCal (d : Dat) (c : Int × List Str) : D := .ins d.C_Call [("worth", .int c.1), ("heard", .tup (c.2.map .str))]
def dChs (s : Sc) : List (Sum Int Str × D) := s.ch.map fun p => (Sum.inr p.1, .int p.2)
def dCas (d : Dat) (s : Sc) : List (Sum Int Str × D) := s.ca.map fun p => (Sum.inr p.1, dCal d p.2)
def dScn (d : Dat) (s : Sc) : D := .ins d.C_Scene [("channels", .dK (dChs s)), ("calls", .dK (dCas d s))]
theorem look_ca {d : Dat} {s : Sc} {x : Str} : look (dCas d s) (Sum.inr x) = (s.ca.lookup x).map (dCal d) := look_str s.ca (dCal d) x
theorem look_ch {s : Sc} {x : Str} : look (dChs s) (Sum.inr x) = (s.ch.lookup x).map .int := look_str s.ch .int x
def LET (c : Nat) : Bool := decide (c ∈ ("abcdefghijklmnopqrstuvwxyz" : Str).cps.toList)
def LEF (c : Nat) : Bool := decide (c ∈ (("abcdefghijklmnopqrstuvwxyz" : Str) ++ ("0123456789" : Str)).cps.toList)
def isName (s : Str) : Bool := match s.cps.toList with
  | [] => false
  | c :: cs => decide ((c :: cs).length ≤ 8) && LET c && (c :: cs).all LEF
def sp_is_whole (_ : Dat) : DSp := fun ds M R _ => ∃ n lo hi : Int, ds = [.int n, .int lo, .int hi] ∧ R (.bl (decide (lo ≤ n) && decide (n ≤ hi))) M
theorem ok_is_whole (T : Tx K mg d) : FnOk P w K mg base (L2.CX P w) 1 d.f_is_whole d.d_is_whole ["thing", "low", "high"] (LSp K (sp_is_whole d)) := by
  refine dfn_ok (k := 0) T.F_is_whole sc_is_whole (fun ds M R RX h => ?_) (by decide) fun cdv A outer s0 H0 E0 B ds M R RX hr fx h => ?_
  · obtain ⟨n, lo, hi, rfl, hR⟩ := h; rfl
  obtain ⟨n, lo, hi, rfl, hR⟩ := h
  have nd := sc_is_whole.nd
  refine ⟨_, (dss_one (ds_ret (de_and (de_callB call_isi l_isi (by rfl) T.n_isinstance (by rfl) (da_cons (nv 0) (da_cons (de_ty (by rfl) T.n_int (by rfl)) da_nil))) (de_and (de_not (de_callB call_isi l_isi (by rfl) T.n_isinstance (by rfl) (da_cons (nv 0) (da_cons (de_ty (by rfl) T.n_bool (by rfl)) da_nil)))) (de_one (de_between (nv 1) (nv 0) (nv 2))))))), ?_⟩
  have k1 : kitB "int" "int" = some true := by decide +kernel
  have k2 : kitB "int" "bool" = some false := by decide +kernel
  simp only [Dp.dSeq, Dp.dAsg, Dp.dgN, Dp.dVar, Dp.dC, Dp.dUn, Dp.dOp, Dp.dFld, Dp.dTst, Dp.dAnd, Dp.dOr, Dp.dNot, Dp.dAndV, Dp.dOrV, Dp.dNotV, Dp.dIf, Dp.dIfS, Dp.dRet, Dp.dRetN, Dp.dExpr, Dp.dPar, Dp.dPar3, Dp.dNext, Dp.dNever, Dp.dBrk, Dp.dCont, Dp.dgTup, Dp.dgCons, Dp.dgNil, Dp.dCall, Dp.dCons, Dp.dNil, Dp.dTup, Dp.dLst, Dp.dLstM, Dp.dNewK, Dp.dCallF, Dp.dMethF, Dp.dMake, Dp.dMakeF, Dp.dFldS, Dp.dPut, Dp.dBM, Dp.dGet1, Dp.dGet2, Dp.dPop1, Dp.dPop2, Dp.dStar, Dp.dIx, Dp.dAdd, Dp.dSub, Dp.dMul, Dp.dMod, Dp.dFdiv, Dp.dPow, Dp.dNeg, Dp.dAugN, Dp.dAugS, Dp.dAugF, Dp.dAugI, Dp.dLtS, Dp.dLe, Dp.dGt, Dp.dGe, Dp.dOrd, Dp.dBetween, Dp.dIsN, Dp.dEq, Dp.dEqK, Dp.dIn, Dp.dstart, List.map_cons, List.map_nil, List.length_cons, List.length_nil, List.cons_append, List.nil_append, List.replicate, List.getElem?_cons_zero, List.getElem?_cons_succ, List.set_cons_zero, List.set_cons_succ, Nat.reduceAdd, Nat.reduceSub, if_true, if_false, Bool.false_eq_true, Bool.not_true, Bool.not_false, Dp.v_non, Dp.v_bl, Dp.v_int, Dp.v_str, Dp.v_tup, Dp.v_lst, Dp.v_kls, Dp.v_dK, Dp.v_dT, Dp.v_ins, Dp.f_ins, Dp.da_dKs, Dp.da_dKi, Dp.ix_dKs, Dp.ix_dKi, Dp.ix_lst, Dp.ix_tup, Dp.ix_kls, Dp.lo_lst, Dp.lo_kls, Dp.io_lst, Dp.io_tup, Dp.io_kls, Dp.ki_lst, Dp.ki_tup, Dp.ki_dK, Dp.dd_dK, Dp.e_ii, Dp.e_ss, Dp.e_bb, Dp.inB_dK, Dp.inB_tup, Dp.inB_lst, Dp.dLen, Dp.dAbs, Dp.dInt1, Dp.dStr1, Dp.dIsi, Dp.dListOf, Dp.dTupOf, Dp.dSum, Dp.dAny, Dp.dAll, Dp.dSorted, Dp.dDictP, Dp.dDictD, Dp.dSortMet, Dp.dLenSet, Dp.dSortSet, Dp.dmApp, Dp.dmExt, Dp.dmPop, Dp.dmPopAt, Dp.dmRem, Dp.dmIdx, Dp.dSet, Dp.intOf, Dp.keyOf, Dp.dwipe, Dp.patD, Dp.patDs, Dp.ln_lst, Dp.ln_tup, Dp.ln_kls, Dp.ln_dK, Dp.dFor, Dp.dLc, Dp.dDc, Dp.dLc2, Dp.srcOf, Dp.dFrz, lk_Seats_scene, pa_Seats_scene, pt_Seats_scene, lk_Seats_seating, pa_Seats_seating, pt_Seats_seating, lk_Seats_seated, pa_Seats_seated, pt_Seats_seated, lk_Kept_lot, pa_Kept_lot, pt_Kept_lot, lk_Kept_seating, pa_Kept_seating, pt_Kept_seating, lk_Kept_papers, pa_Kept_papers, pt_Kept_papers, lk_Call_worth, pa_Call_worth, pt_Call_worth, lk_Call_heard, pa_Call_heard, pt_Call_heard, lk_Scene_channels, pa_Scene_channels, pt_Scene_channels, lk_Scene_calls, pa_Scene_calls, pt_Scene_calls, tyOf, Option.bind_some, k1, k2]
  by_cases h : lo ≤ n
  · rw [if_pos h]; exact ⟨_, _, Fz.refl _ _, by simpa [h] using hR⟩
  · rw [if_neg h]; exact ⟨_, _, Fz.refl _ _, by simpa [h] using hR⟩
theorem str_len (s : Str) : s.length = s.cps.toList.length := by rw [Array.length_toList]; rfl
def sp_is_name (_ : Dat) : DSp := fun ds M R _ => ∃ s : Str, ds = [.str s] ∧ s.length ≤ 1000000 ∧ R (.bl (isName s)) M
theorem ok_is_name (T : Tx K mg d) : FnOk P w K mg base (L2.CX P w) 1 d.f_is_name d.d_is_name ["thing"] (LSp K (sp_is_name d)) := by
  refine dfn_ok (k := 0) T.F_is_name sc_is_name (fun ds M R RX h => ?_) (by decide) fun cdv A outer s0 H0 E0 B ds M R RX hr fx h => ?_
  · obtain ⟨s, rfl, hl, hR⟩ := h; rfl
  obtain ⟨s, rfl, hl, hR⟩ := h
  have nd := sc_is_name.nd
  refine ⟨_, (dss_cons (ds_if (dt_w (dw_or (dt_not (dt_val (de_callB call_isi l_isi (by rfl) T.n_isinstance (by rfl) (da_cons (nv 0) (da_cons (de_ty (by rfl) T.n_str (by rfl)) da_nil))))) (dw_or (dt_not (dt_between de_int (de_callB cr_lenAll l_len (by rfl) T.n_len (by rfl) (da_cons (nv 0) da_nil)) de_int)) (dw_or1 (dt_notin (hu65 hr) (de_ix (hu1 hr) (nv 0) de_int) (de_gS (by rfl) T.g_LETTERS)))))) (dss_one (ds_ret de_bl)) dss_nil) (dss_one (ds_ret (de_callB (cr_all rfl) l_all (by rfl) T.n_all (by rfl) (da_cons (de_lc (fz := true) (own := [("sign", 1)]) rfl nd (di_str (nv 0)) (blkOk_by (N := N_is_name) (sc := defScope s_is_name) (own := [("sign", 1)]) (by decide +kernel)) (by decide) (fun _ _ _ _ _ => (pp_name (i := 1) nd rfl (Or.inl rfl))) (fun _ _ _ _ _ => dts_nil) (fun _ _ _ _ _ => (de_in (hu65 hr) (nv 1) (de_add (de_gS (by rfl) T.g_LETTERS) (de_gS (by rfl) T.g_FIGURES))))) da_nil))))), ?_⟩
  have k1 : kitB "str" "str" = some true := by decide +kernel
  have LL : (("abcdefghijklmnopqrstuvwxyz" : Str)).length + (("0123456789" : Str)).length ≤ sizeLine := szl (by decide)
  simp only [Dp.dSeq, Dp.dAsg, Dp.dgN, Dp.dVar, Dp.dC, Dp.dUn, Dp.dOp, Dp.dFld, Dp.dTst, Dp.dAnd, Dp.dOr, Dp.dNot, Dp.dAndV, Dp.dOrV, Dp.dNotV, Dp.dIf, Dp.dIfS, Dp.dRet, Dp.dRetN, Dp.dExpr, Dp.dPar, Dp.dPar3, Dp.dNext, Dp.dNever, Dp.dBrk, Dp.dCont, Dp.dgTup, Dp.dgCons, Dp.dgNil, Dp.dCall, Dp.dCons, Dp.dNil, Dp.dTup, Dp.dLst, Dp.dLstM, Dp.dNewK, Dp.dCallF, Dp.dMethF, Dp.dMake, Dp.dMakeF, Dp.dFldS, Dp.dPut, Dp.dBM, Dp.dGet1, Dp.dGet2, Dp.dPop1, Dp.dPop2, Dp.dStar, Dp.dIx, Dp.dAdd, Dp.dSub, Dp.dMul, Dp.dMod, Dp.dFdiv, Dp.dPow, Dp.dNeg, Dp.dAugN, Dp.dAugS, Dp.dAugF, Dp.dAugI, Dp.dLtS, Dp.dLe, Dp.dGt, Dp.dGe, Dp.dOrd, Dp.dBetween, Dp.dIsN, Dp.dEq, Dp.dEqK, Dp.dIn, Dp.dstart, List.map_cons, List.map_nil, List.length_cons, List.length_nil, List.cons_append, List.nil_append, List.replicate, List.getElem?_cons_zero, List.getElem?_cons_succ, List.set_cons_zero, List.set_cons_succ, Nat.reduceAdd, Nat.reduceSub, if_true, if_false, Bool.false_eq_true, Bool.not_true, Bool.not_false, Dp.v_non, Dp.v_bl, Dp.v_int, Dp.v_str, Dp.v_tup, Dp.v_lst, Dp.v_kls, Dp.v_dK, Dp.v_dT, Dp.v_ins, Dp.f_ins, Dp.da_dKs, Dp.da_dKi, Dp.ix_dKs, Dp.ix_dKi, Dp.ix_lst, Dp.ix_tup, Dp.ix_kls, Dp.lo_lst, Dp.lo_kls, Dp.io_lst, Dp.io_tup, Dp.io_kls, Dp.ki_lst, Dp.ki_tup, Dp.ki_dK, Dp.dd_dK, Dp.e_ii, Dp.e_ss, Dp.e_bb, Dp.inB_dK, Dp.inB_tup, Dp.inB_lst, Dp.dLen, Dp.dAbs, Dp.dInt1, Dp.dStr1, Dp.dIsi, Dp.dListOf, Dp.dTupOf, Dp.dSum, Dp.dAny, Dp.dAll, Dp.dSorted, Dp.dDictP, Dp.dDictD, Dp.dSortMet, Dp.dLenSet, Dp.dSortSet, Dp.dmApp, Dp.dmExt, Dp.dmPop, Dp.dmPopAt, Dp.dmRem, Dp.dmIdx, Dp.dSet, Dp.intOf, Dp.keyOf, Dp.dwipe, Dp.patD, Dp.patDs, Dp.ln_lst, Dp.ln_tup, Dp.ln_kls, Dp.ln_dK, Dp.dFor, Dp.dLc, Dp.dDc, Dp.dLc2, Dp.srcOf, Dp.dFrz, lk_Seats_scene, pa_Seats_scene, pt_Seats_scene, lk_Seats_seating, pa_Seats_seating, pt_Seats_seating, lk_Seats_seated, pa_Seats_seated, pt_Seats_seated, lk_Kept_lot, pa_Kept_lot, pt_Kept_lot, lk_Kept_seating, pa_Kept_seating, pt_Kept_seating, lk_Kept_papers, pa_Kept_papers, pt_Kept_papers, lk_Call_worth, pa_Call_worth, pt_Call_worth, lk_Call_heard, pa_Call_heard, pt_Call_heard, lk_Scene_channels, pa_Scene_channels, pt_Scene_channels, lk_Scene_calls, pa_Scene_calls, pt_Scene_calls, tyOf, Option.bind_some, k1]
  have hlen := str_len s
  refine ⟨szl hl, ?_⟩
  cases hc : s.cps.toList with
  | nil =>
    rw [hc] at hlen
    have e : isName s = false := by unfold isName; rw [hc]
    rw [e] at hR
    have h1 : ¬ (1 : Int) ≤ ((s.length : Nat) : Int) := by rw [hlen]; simp
    simp only [Dp.dSeq, Dp.dAsg, Dp.dgN, Dp.dVar, Dp.dC, Dp.dUn, Dp.dOp, Dp.dFld, Dp.dTst, Dp.dAnd, Dp.dOr, Dp.dNot, Dp.dAndV, Dp.dOrV, Dp.dNotV, Dp.dIf, Dp.dIfS, Dp.dRet, Dp.dRetN, Dp.dExpr, Dp.dPar, Dp.dPar3, Dp.dNext, Dp.dNever, Dp.dBrk, Dp.dCont, Dp.dgTup, Dp.dgCons, Dp.dgNil, Dp.dCall, Dp.dCons, Dp.dNil, Dp.dTup, Dp.dLst, Dp.dLstM, Dp.dNewK, Dp.dCallF, Dp.dMethF, Dp.dMake, Dp.dMakeF, Dp.dFldS, Dp.dPut, Dp.dBM, Dp.dGet1, Dp.dGet2, Dp.dPop1, Dp.dPop2, Dp.dStar, Dp.dIx, Dp.dAdd, Dp.dSub, Dp.dMul, Dp.dMod, Dp.dFdiv, Dp.dPow, Dp.dNeg, Dp.dAugN, Dp.dAugS, Dp.dAugF, Dp.dAugI, Dp.dLtS, Dp.dLe, Dp.dGt, Dp.dGe, Dp.dOrd, Dp.dBetween, Dp.dIsN, Dp.dEq, Dp.dEqK, Dp.dIn, Dp.dstart, List.map_cons, List.map_nil, List.length_cons, List.length_nil, List.cons_append, List.nil_append, List.replicate, List.getElem?_cons_zero, List.getElem?_cons_succ, List.set_cons_zero, List.set_cons_succ, Nat.reduceAdd, Nat.reduceSub, if_true, if_false, Bool.false_eq_true, Bool.not_true, Bool.not_false, Dp.v_non, Dp.v_bl, Dp.v_int, Dp.v_str, Dp.v_tup, Dp.v_lst, Dp.v_kls, Dp.v_dK, Dp.v_dT, Dp.v_ins, Dp.f_ins, Dp.da_dKs, Dp.da_dKi, Dp.ix_dKs, Dp.ix_dKi, Dp.ix_lst, Dp.ix_tup, Dp.ix_kls, Dp.lo_lst, Dp.lo_kls, Dp.io_lst, Dp.io_tup, Dp.io_kls, Dp.ki_lst, Dp.ki_tup, Dp.ki_dK, Dp.dd_dK, Dp.e_ii, Dp.e_ss, Dp.e_bb, Dp.inB_dK, Dp.inB_tup, Dp.inB_lst, Dp.dLen, Dp.dAbs, Dp.dInt1, Dp.dStr1, Dp.dIsi, Dp.dListOf, Dp.dTupOf, Dp.dSum, Dp.dAny, Dp.dAll, Dp.dSorted, Dp.dDictP, Dp.dDictD, Dp.dSortMet, Dp.dLenSet, Dp.dSortSet, Dp.dmApp, Dp.dmExt, Dp.dmPop, Dp.dmPopAt, Dp.dmRem, Dp.dmIdx, Dp.dSet, Dp.intOf, Dp.keyOf, Dp.dwipe, Dp.patD, Dp.patDs, Dp.ln_lst, Dp.ln_tup, Dp.ln_kls, Dp.ln_dK, Dp.dFor, Dp.dLc, Dp.dDc, Dp.dLc2, Dp.srcOf, Dp.dFrz, lk_Seats_scene, pa_Seats_scene, pt_Seats_scene, lk_Seats_seating, pa_Seats_seating, pt_Seats_seating, lk_Seats_seated, pa_Seats_seated, pt_Seats_seated, lk_Kept_lot, pa_Kept_lot, pt_Kept_lot, lk_Kept_seating, pa_Kept_seating, pt_Kept_seating, lk_Kept_papers, pa_Kept_papers, pt_Kept_papers, lk_Call_worth, pa_Call_worth, pt_Call_worth, lk_Call_heard, pa_Call_heard, pt_Call_heard, lk_Scene_channels, pa_Scene_channels, pt_Scene_channels, lk_Scene_calls, pa_Scene_calls, pt_Scene_calls, h1]
    exact ⟨_, _, Fz.refl _ _, hR⟩
  | cons c cs =>
    rw [hc] at hlen
    have h1 : (1 : Int) ≤ ((s.length : Nat) : Int) := by rw [hlen, List.length_cons]; omega
    simp only [Dp.dSeq, Dp.dAsg, Dp.dgN, Dp.dVar, Dp.dC, Dp.dUn, Dp.dOp, Dp.dFld, Dp.dTst, Dp.dAnd, Dp.dOr, Dp.dNot, Dp.dAndV, Dp.dOrV, Dp.dNotV, Dp.dIf, Dp.dIfS, Dp.dRet, Dp.dRetN, Dp.dExpr, Dp.dPar, Dp.dPar3, Dp.dNext, Dp.dNever, Dp.dBrk, Dp.dCont, Dp.dgTup, Dp.dgCons, Dp.dgNil, Dp.dCall, Dp.dCons, Dp.dNil, Dp.dTup, Dp.dLst, Dp.dLstM, Dp.dNewK, Dp.dCallF, Dp.dMethF, Dp.dMake, Dp.dMakeF, Dp.dFldS, Dp.dPut, Dp.dBM, Dp.dGet1, Dp.dGet2, Dp.dPop1, Dp.dPop2, Dp.dStar, Dp.dIx, Dp.dAdd, Dp.dSub, Dp.dMul, Dp.dMod, Dp.dFdiv, Dp.dPow, Dp.dNeg, Dp.dAugN, Dp.dAugS, Dp.dAugF, Dp.dAugI, Dp.dLtS, Dp.dLe, Dp.dGt, Dp.dGe, Dp.dOrd, Dp.dBetween, Dp.dIsN, Dp.dEq, Dp.dEqK, Dp.dIn, Dp.dstart, List.map_cons, List.map_nil, List.length_cons, List.length_nil, List.cons_append, List.nil_append, List.replicate, List.getElem?_cons_zero, List.getElem?_cons_succ, List.set_cons_zero, List.set_cons_succ, Nat.reduceAdd, Nat.reduceSub, if_true, if_false, Bool.false_eq_true, Bool.not_true, Bool.not_false, Dp.v_non, Dp.v_bl, Dp.v_int, Dp.v_str, Dp.v_tup, Dp.v_lst, Dp.v_kls, Dp.v_dK, Dp.v_dT, Dp.v_ins, Dp.f_ins, Dp.da_dKs, Dp.da_dKi, Dp.ix_dKs, Dp.ix_dKi, Dp.ix_lst, Dp.ix_tup, Dp.ix_kls, Dp.lo_lst, Dp.lo_kls, Dp.io_lst, Dp.io_tup, Dp.io_kls, Dp.ki_lst, Dp.ki_tup, Dp.ki_dK, Dp.dd_dK, Dp.e_ii, Dp.e_ss, Dp.e_bb, Dp.inB_dK, Dp.inB_tup, Dp.inB_lst, Dp.dLen, Dp.dAbs, Dp.dInt1, Dp.dStr1, Dp.dIsi, Dp.dListOf, Dp.dTupOf, Dp.dSum, Dp.dAny, Dp.dAll, Dp.dSorted, Dp.dDictP, Dp.dDictD, Dp.dSortMet, Dp.dLenSet, Dp.dSortSet, Dp.dmApp, Dp.dmExt, Dp.dmPop, Dp.dmPopAt, Dp.dmRem, Dp.dmIdx, Dp.dSet, Dp.intOf, Dp.keyOf, Dp.dwipe, Dp.patD, Dp.patDs, Dp.ln_lst, Dp.ln_tup, Dp.ln_kls, Dp.ln_dK, Dp.dFor, Dp.dLc, Dp.dDc, Dp.dLc2, Dp.srcOf, Dp.dFrz, lk_Seats_scene, pa_Seats_scene, pt_Seats_scene, lk_Seats_seating, pa_Seats_seating, pt_Seats_seating, lk_Seats_seated, pa_Seats_seated, pt_Seats_seated, lk_Kept_lot, pa_Kept_lot, pt_Kept_lot, lk_Kept_seating, pa_Kept_seating, pt_Kept_seating, lk_Kept_papers, pa_Kept_papers, pt_Kept_papers, lk_Call_worth, pa_Call_worth, pt_Call_worth, lk_Call_heard, pa_Call_heard, pt_Call_heard, lk_Scene_channels, pa_Scene_channels, pt_Scene_channels, lk_Scene_calls, pa_Scene_calls, pt_Scene_calls, h1]
    by_cases h8 : (c :: cs).length ≤ 8
    · have h8' : ((s.length : Nat) : Int) ≤ 8 := by rw [hlen]; omega
      have ix : ixB M (.str s) (.int 0) = some (.str ⟨#[c]⟩) := by
        unfold ixB
        rw [v_str]
        dsimp only
        rw [hc]
        have e : L2.atI (c :: cs) 0 = some c := by
          unfold L2.atI ixN
          rw [if_pos (by decide), if_pos (by rw [List.length_cons]; omega)]
          rfl
        show (L2.atI (c :: cs) 0).map _ = _
        rw [e]; rfl
      have inb : ∀ (z : Str) (k : Nat), inB M (.str ⟨#[k]⟩) (.str z) = some (decide (k ∈ z.cps.toList)) := fun z k => rfl
      simp only [Dp.dSeq, Dp.dAsg, Dp.dgN, Dp.dVar, Dp.dC, Dp.dUn, Dp.dOp, Dp.dFld, Dp.dTst, Dp.dAnd, Dp.dOr, Dp.dNot, Dp.dAndV, Dp.dOrV, Dp.dNotV, Dp.dIf, Dp.dIfS, Dp.dRet, Dp.dRetN, Dp.dExpr, Dp.dPar, Dp.dPar3, Dp.dNext, Dp.dNever, Dp.dBrk, Dp.dCont, Dp.dgTup, Dp.dgCons, Dp.dgNil, Dp.dCall, Dp.dCons, Dp.dNil, Dp.dTup, Dp.dLst, Dp.dLstM, Dp.dNewK, Dp.dCallF, Dp.dMethF, Dp.dMake, Dp.dMakeF, Dp.dFldS, Dp.dPut, Dp.dBM, Dp.dGet1, Dp.dGet2, Dp.dPop1, Dp.dPop2, Dp.dStar, Dp.dIx, Dp.dAdd, Dp.dSub, Dp.dMul, Dp.dMod, Dp.dFdiv, Dp.dPow, Dp.dNeg, Dp.dAugN, Dp.dAugS, Dp.dAugF, Dp.dAugI, Dp.dLtS, Dp.dLe, Dp.dGt, Dp.dGe, Dp.dOrd, Dp.dBetween, Dp.dIsN, Dp.dEq, Dp.dEqK, Dp.dIn, Dp.dstart, List.map_cons, List.map_nil, List.length_cons, List.length_nil, List.cons_append, List.nil_append, List.replicate, List.getElem?_cons_zero, List.getElem?_cons_succ, List.set_cons_zero, List.set_cons_succ, Nat.reduceAdd, Nat.reduceSub, if_true, if_false, Bool.false_eq_true, Bool.not_true, Bool.not_false, Dp.v_non, Dp.v_bl, Dp.v_int, Dp.v_str, Dp.v_tup, Dp.v_lst, Dp.v_kls, Dp.v_dK, Dp.v_dT, Dp.v_ins, Dp.f_ins, Dp.da_dKs, Dp.da_dKi, Dp.ix_dKs, Dp.ix_dKi, Dp.ix_lst, Dp.ix_tup, Dp.ix_kls, Dp.lo_lst, Dp.lo_kls, Dp.io_lst, Dp.io_tup, Dp.io_kls, Dp.ki_lst, Dp.ki_tup, Dp.ki_dK, Dp.dd_dK, Dp.e_ii, Dp.e_ss, Dp.e_bb, Dp.inB_dK, Dp.inB_tup, Dp.inB_lst, Dp.dLen, Dp.dAbs, Dp.dInt1, Dp.dStr1, Dp.dIsi, Dp.dListOf, Dp.dTupOf, Dp.dSum, Dp.dAny, Dp.dAll, Dp.dSorted, Dp.dDictP, Dp.dDictD, Dp.dSortMet, Dp.dLenSet, Dp.dSortSet, Dp.dmApp, Dp.dmExt, Dp.dmPop, Dp.dmPopAt, Dp.dmRem, Dp.dmIdx, Dp.dSet, Dp.intOf, Dp.keyOf, Dp.dwipe, Dp.patD, Dp.patDs, Dp.ln_lst, Dp.ln_tup, Dp.ln_kls, Dp.ln_dK, Dp.dFor, Dp.dLc, Dp.dDc, Dp.dLc2, Dp.srcOf, Dp.dFrz, lk_Seats_scene, pa_Seats_scene, pt_Seats_scene, lk_Seats_seating, pa_Seats_seating, pt_Seats_seating, lk_Seats_seated, pa_Seats_seated, pt_Seats_seated, lk_Kept_lot, pa_Kept_lot, pt_Kept_lot, lk_Kept_seating, pa_Kept_seating, pt_Kept_seating, lk_Kept_papers, pa_Kept_papers, pt_Kept_papers, lk_Call_worth, pa_Call_worth, pt_Call_worth, lk_Call_heard, pa_Call_heard, pt_Call_heard, lk_Scene_channels, pa_Scene_channels, pt_Scene_channels, lk_Scene_calls, pa_Scene_calls, pt_Scene_calls, h8', decide_true, decide_eq_true, ix, inb]
      have eN : isName s = (LET c && (c :: cs).all LEF) := by
        unfold isName
        rw [hc]
        simp only [h8, decide_true, Bool.true_and]
      have hl1 : LET c = decide (c ∈ ("abcdefghijklmnopqrstuvwxyz" : Str).cps.toList) := rfl
      rw [← hl1]
      refine ⟨szl hl, ?_⟩
      cases hL : LET c with
      | false =>
        simp only [Dp.dSeq, Dp.dAsg, Dp.dgN, Dp.dVar, Dp.dC, Dp.dUn, Dp.dOp, Dp.dFld, Dp.dTst, Dp.dAnd, Dp.dOr, Dp.dNot, Dp.dAndV, Dp.dOrV, Dp.dNotV, Dp.dIf, Dp.dIfS, Dp.dRet, Dp.dRetN, Dp.dExpr, Dp.dPar, Dp.dPar3, Dp.dNext, Dp.dNever, Dp.dBrk, Dp.dCont, Dp.dgTup, Dp.dgCons, Dp.dgNil, Dp.dCall, Dp.dCons, Dp.dNil, Dp.dTup, Dp.dLst, Dp.dLstM, Dp.dNewK, Dp.dCallF, Dp.dMethF, Dp.dMake, Dp.dMakeF, Dp.dFldS, Dp.dPut, Dp.dBM, Dp.dGet1, Dp.dGet2, Dp.dPop1, Dp.dPop2, Dp.dStar, Dp.dIx, Dp.dAdd, Dp.dSub, Dp.dMul, Dp.dMod, Dp.dFdiv, Dp.dPow, Dp.dNeg, Dp.dAugN, Dp.dAugS, Dp.dAugF, Dp.dAugI, Dp.dLtS, Dp.dLe, Dp.dGt, Dp.dGe, Dp.dOrd, Dp.dBetween, Dp.dIsN, Dp.dEq, Dp.dEqK, Dp.dIn, Dp.dstart, List.map_cons, List.map_nil, List.length_cons, List.length_nil, List.cons_append, List.nil_append, List.replicate, List.getElem?_cons_zero, List.getElem?_cons_succ, List.set_cons_zero, List.set_cons_succ, Nat.reduceAdd, Nat.reduceSub, if_true, if_false, Bool.false_eq_true, Bool.not_true, Bool.not_false, Dp.v_non, Dp.v_bl, Dp.v_int, Dp.v_str, Dp.v_tup, Dp.v_lst, Dp.v_kls, Dp.v_dK, Dp.v_dT, Dp.v_ins, Dp.f_ins, Dp.da_dKs, Dp.da_dKi, Dp.ix_dKs, Dp.ix_dKi, Dp.ix_lst, Dp.ix_tup, Dp.ix_kls, Dp.lo_lst, Dp.lo_kls, Dp.io_lst, Dp.io_tup, Dp.io_kls, Dp.ki_lst, Dp.ki_tup, Dp.ki_dK, Dp.dd_dK, Dp.e_ii, Dp.e_ss, Dp.e_bb, Dp.inB_dK, Dp.inB_tup, Dp.inB_lst, Dp.dLen, Dp.dAbs, Dp.dInt1, Dp.dStr1, Dp.dIsi, Dp.dListOf, Dp.dTupOf, Dp.dSum, Dp.dAny, Dp.dAll, Dp.dSorted, Dp.dDictP, Dp.dDictD, Dp.dSortMet, Dp.dLenSet, Dp.dSortSet, Dp.dmApp, Dp.dmExt, Dp.dmPop, Dp.dmPopAt, Dp.dmRem, Dp.dmIdx, Dp.dSet, Dp.intOf, Dp.keyOf, Dp.dwipe, Dp.patD, Dp.patDs, Dp.ln_lst, Dp.ln_tup, Dp.ln_kls, Dp.ln_dK, Dp.dFor, Dp.dLc, Dp.dDc, Dp.dLc2, Dp.srcOf, Dp.dFrz, lk_Seats_scene, pa_Seats_scene, pt_Seats_scene, lk_Seats_seating, pa_Seats_seating, pt_Seats_seating, lk_Seats_seated, pa_Seats_seated, pt_Seats_seated, lk_Kept_lot, pa_Kept_lot, pt_Kept_lot, lk_Kept_seating, pa_Kept_seating, pt_Kept_seating, lk_Kept_papers, pa_Kept_papers, pt_Kept_papers, lk_Call_worth, pa_Call_worth, pt_Call_worth, lk_Call_heard, pa_Call_heard, pt_Call_heard, lk_Scene_channels, pa_Scene_channels, pt_Scene_channels, lk_Scene_calls, pa_Scene_calls, pt_Scene_calls]
        rw [eN, hL] at hR
        exact ⟨_, _, Fz.refl _ _, hR⟩
      | true =>
        simp only [Dp.dSeq, Dp.dAsg, Dp.dgN, Dp.dVar, Dp.dC, Dp.dUn, Dp.dOp, Dp.dFld, Dp.dTst, Dp.dAnd, Dp.dOr, Dp.dNot, Dp.dAndV, Dp.dOrV, Dp.dNotV, Dp.dIf, Dp.dIfS, Dp.dRet, Dp.dRetN, Dp.dExpr, Dp.dPar, Dp.dPar3, Dp.dNext, Dp.dNever, Dp.dBrk, Dp.dCont, Dp.dgTup, Dp.dgCons, Dp.dgNil, Dp.dCall, Dp.dCons, Dp.dNil, Dp.dTup, Dp.dLst, Dp.dLstM, Dp.dNewK, Dp.dCallF, Dp.dMethF, Dp.dMake, Dp.dMakeF, Dp.dFldS, Dp.dPut, Dp.dBM, Dp.dGet1, Dp.dGet2, Dp.dPop1, Dp.dPop2, Dp.dStar, Dp.dIx, Dp.dAdd, Dp.dSub, Dp.dMul, Dp.dMod, Dp.dFdiv, Dp.dPow, Dp.dNeg, Dp.dAugN, Dp.dAugS, Dp.dAugF, Dp.dAugI, Dp.dLtS, Dp.dLe, Dp.dGt, Dp.dGe, Dp.dOrd, Dp.dBetween, Dp.dIsN, Dp.dEq, Dp.dEqK, Dp.dIn, Dp.dstart, List.map_cons, List.map_nil, List.length_cons, List.length_nil, List.cons_append, List.nil_append, List.replicate, List.getElem?_cons_zero, List.getElem?_cons_succ, List.set_cons_zero, List.set_cons_succ, Nat.reduceAdd, Nat.reduceSub, if_true, if_false, Bool.false_eq_true, Bool.not_true, Bool.not_false, Dp.v_non, Dp.v_bl, Dp.v_int, Dp.v_str, Dp.v_tup, Dp.v_lst, Dp.v_kls, Dp.v_dK, Dp.v_dT, Dp.v_ins, Dp.f_ins, Dp.da_dKs, Dp.da_dKi, Dp.ix_dKs, Dp.ix_dKi, Dp.ix_lst, Dp.ix_tup, Dp.ix_kls, Dp.lo_lst, Dp.lo_kls, Dp.io_lst, Dp.io_tup, Dp.io_kls, Dp.ki_lst, Dp.ki_tup, Dp.ki_dK, Dp.dd_dK, Dp.e_ii, Dp.e_ss, Dp.e_bb, Dp.inB_dK, Dp.inB_tup, Dp.inB_lst, Dp.dLen, Dp.dAbs, Dp.dInt1, Dp.dStr1, Dp.dIsi, Dp.dListOf, Dp.dTupOf, Dp.dSum, Dp.dAny, Dp.dAll, Dp.dSorted, Dp.dDictP, Dp.dDictD, Dp.dSortMet, Dp.dLenSet, Dp.dSortSet, Dp.dmApp, Dp.dmExt, Dp.dmPop, Dp.dmPopAt, Dp.dmRem, Dp.dmIdx, Dp.dSet, Dp.intOf, Dp.keyOf, Dp.dwipe, Dp.patD, Dp.patDs, Dp.ln_lst, Dp.ln_tup, Dp.ln_kls, Dp.ln_dK, Dp.dFor, Dp.dLc, Dp.dDc, Dp.dLc2, Dp.srcOf, Dp.dFrz, lk_Seats_scene, pa_Seats_scene, pt_Seats_scene, lk_Seats_seating, pa_Seats_seating, pt_Seats_seating, lk_Seats_seated, pa_Seats_seated, pt_Seats_seated, lk_Kept_lot, pa_Kept_lot, pt_Kept_lot, lk_Kept_seating, pa_Kept_seating, pt_Kept_seating, lk_Kept_papers, pa_Kept_papers, pt_Kept_papers, lk_Call_worth, pa_Call_worth, pt_Call_worth, lk_Call_heard, pa_Call_heard, pt_Call_heard, lk_Scene_channels, pa_Scene_channels, pt_Scene_channels, lk_Scene_calls, pa_Scene_calls, pt_Scene_calls]
        refine ⟨szl hl, lc_map s.cps.toList (fun c => D.str ⟨#[c]⟩) (fun c => .bl (LEF c)) (fun _ _ => trivial) (fun c _ M' le => ⟨_, rfl, fun K' hK' => ?_⟩) fun a ha => ?_⟩
        · simp only [Dp.dSeq, Dp.dAsg, Dp.dgN, Dp.dVar, Dp.dC, Dp.dUn, Dp.dOp, Dp.dFld, Dp.dTst, Dp.dAnd, Dp.dOr, Dp.dNot, Dp.dAndV, Dp.dOrV, Dp.dNotV, Dp.dIf, Dp.dIfS, Dp.dRet, Dp.dRetN, Dp.dExpr, Dp.dPar, Dp.dPar3, Dp.dNext, Dp.dNever, Dp.dBrk, Dp.dCont, Dp.dgTup, Dp.dgCons, Dp.dgNil, Dp.dCall, Dp.dCons, Dp.dNil, Dp.dTup, Dp.dLst, Dp.dLstM, Dp.dNewK, Dp.dCallF, Dp.dMethF, Dp.dMake, Dp.dMakeF, Dp.dFldS, Dp.dPut, Dp.dBM, Dp.dGet1, Dp.dGet2, Dp.dPop1, Dp.dPop2, Dp.dStar, Dp.dIx, Dp.dAdd, Dp.dSub, Dp.dMul, Dp.dMod, Dp.dFdiv, Dp.dPow, Dp.dNeg, Dp.dAugN, Dp.dAugS, Dp.dAugF, Dp.dAugI, Dp.dLtS, Dp.dLe, Dp.dGt, Dp.dGe, Dp.dOrd, Dp.dBetween, Dp.dIsN, Dp.dEq, Dp.dEqK, Dp.dIn, Dp.dstart, List.map_cons, List.map_nil, List.length_cons, List.length_nil, List.cons_append, List.nil_append, List.replicate, List.getElem?_cons_zero, List.getElem?_cons_succ, List.set_cons_zero, List.set_cons_succ, Nat.reduceAdd, Nat.reduceSub, if_true, if_false, Bool.false_eq_true, Bool.not_true, Bool.not_false, Dp.v_non, Dp.v_bl, Dp.v_int, Dp.v_str, Dp.v_tup, Dp.v_lst, Dp.v_kls, Dp.v_dK, Dp.v_dT, Dp.v_ins, Dp.f_ins, Dp.da_dKs, Dp.da_dKi, Dp.ix_dKs, Dp.ix_dKi, Dp.ix_lst, Dp.ix_tup, Dp.ix_kls, Dp.lo_lst, Dp.lo_kls, Dp.io_lst, Dp.io_tup, Dp.io_kls, Dp.ki_lst, Dp.ki_tup, Dp.ki_dK, Dp.dd_dK, Dp.e_ii, Dp.e_ss, Dp.e_bb, Dp.inB_dK, Dp.inB_tup, Dp.inB_lst, Dp.dLen, Dp.dAbs, Dp.dInt1, Dp.dStr1, Dp.dIsi, Dp.dListOf, Dp.dTupOf, Dp.dSum, Dp.dAny, Dp.dAll, Dp.dSorted, Dp.dDictP, Dp.dDictD, Dp.dSortMet, Dp.dLenSet, Dp.dSortSet, Dp.dmApp, Dp.dmExt, Dp.dmPop, Dp.dmPopAt, Dp.dmRem, Dp.dmIdx, Dp.dSet, Dp.intOf, Dp.keyOf, Dp.dwipe, Dp.patD, Dp.patDs, Dp.ln_lst, Dp.ln_tup, Dp.ln_kls, Dp.ln_dK, Dp.dFor, Dp.dLc, Dp.dDc, Dp.dLc2, Dp.srcOf, Dp.dFrz, lk_Seats_scene, pa_Seats_scene, pt_Seats_scene, lk_Seats_seating, pa_Seats_seating, pt_Seats_seating, lk_Seats_seated, pa_Seats_seated, pt_Seats_seated, lk_Kept_lot, pa_Kept_lot, pt_Kept_lot, lk_Kept_seating, pa_Kept_seating, pt_Kept_seating, lk_Kept_papers, pa_Kept_papers, pt_Kept_papers, lk_Call_worth, pa_Call_worth, pt_Call_worth, lk_Call_heard, pa_Call_heard, pt_Call_heard, lk_Scene_channels, pa_Scene_channels, pt_Scene_channels, lk_Scene_calls, pa_Scene_calls, pt_Scene_calls, inb]
          exact ⟨LL, hK'⟩
        · rw [blsOf_mapf]
          rw [eN, hL, Bool.true_and, ← hc] at hR
          refine ⟨_, _, Fz.refl _ _, ?_⟩
          rw [mdel_mup ha]
          have e : (s.cps.toList.map LEF).all id = s.cps.toList.all LEF := by rw [List.all_map]; rfl
          rw [e]
          exact hR
    · have h8' : ¬ ((s.length : Nat) : Int) ≤ 8 := by rw [hlen]; omega
      have e : isName s = false := by unfold isName; rw [hc]; simp only [h8, decide_false, Bool.false_and]
      rw [e] at hR
      simp only [Dp.dSeq, Dp.dAsg, Dp.dgN, Dp.dVar, Dp.dC, Dp.dUn, Dp.dOp, Dp.dFld, Dp.dTst, Dp.dAnd, Dp.dOr, Dp.dNot, Dp.dAndV, Dp.dOrV, Dp.dNotV, Dp.dIf, Dp.dIfS, Dp.dRet, Dp.dRetN, Dp.dExpr, Dp.dPar, Dp.dPar3, Dp.dNext, Dp.dNever, Dp.dBrk, Dp.dCont, Dp.dgTup, Dp.dgCons, Dp.dgNil, Dp.dCall, Dp.dCons, Dp.dNil, Dp.dTup, Dp.dLst, Dp.dLstM, Dp.dNewK, Dp.dCallF, Dp.dMethF, Dp.dMake, Dp.dMakeF, Dp.dFldS, Dp.dPut, Dp.dBM, Dp.dGet1, Dp.dGet2, Dp.dPop1, Dp.dPop2, Dp.dStar, Dp.dIx, Dp.dAdd, Dp.dSub, Dp.dMul, Dp.dMod, Dp.dFdiv, Dp.dPow, Dp.dNeg, Dp.dAugN, Dp.dAugS, Dp.dAugF, Dp.dAugI, Dp.dLtS, Dp.dLe, Dp.dGt, Dp.dGe, Dp.dOrd, Dp.dBetween, Dp.dIsN, Dp.dEq, Dp.dEqK, Dp.dIn, Dp.dstart, List.map_cons, List.map_nil, List.length_cons, List.length_nil, List.cons_append, List.nil_append, List.replicate, List.getElem?_cons_zero, List.getElem?_cons_succ, List.set_cons_zero, List.set_cons_succ, Nat.reduceAdd, Nat.reduceSub, if_true, if_false, Bool.false_eq_true, Bool.not_true, Bool.not_false, Dp.v_non, Dp.v_bl, Dp.v_int, Dp.v_str, Dp.v_tup, Dp.v_lst, Dp.v_kls, Dp.v_dK, Dp.v_dT, Dp.v_ins, Dp.f_ins, Dp.da_dKs, Dp.da_dKi, Dp.ix_dKs, Dp.ix_dKi, Dp.ix_lst, Dp.ix_tup, Dp.ix_kls, Dp.lo_lst, Dp.lo_kls, Dp.io_lst, Dp.io_tup, Dp.io_kls, Dp.ki_lst, Dp.ki_tup, Dp.ki_dK, Dp.dd_dK, Dp.e_ii, Dp.e_ss, Dp.e_bb, Dp.inB_dK, Dp.inB_tup, Dp.inB_lst, Dp.dLen, Dp.dAbs, Dp.dInt1, Dp.dStr1, Dp.dIsi, Dp.dListOf, Dp.dTupOf, Dp.dSum, Dp.dAny, Dp.dAll, Dp.dSorted, Dp.dDictP, Dp.dDictD, Dp.dSortMet, Dp.dLenSet, Dp.dSortSet, Dp.dmApp, Dp.dmExt, Dp.dmPop, Dp.dmPopAt, Dp.dmRem, Dp.dmIdx, Dp.dSet, Dp.intOf, Dp.keyOf, Dp.dwipe, Dp.patD, Dp.patDs, Dp.ln_lst, Dp.ln_tup, Dp.ln_kls, Dp.ln_dK, Dp.dFor, Dp.dLc, Dp.dDc, Dp.dLc2, Dp.srcOf, Dp.dFrz, lk_Seats_scene, pa_Seats_scene, pt_Seats_scene, lk_Seats_seating, pa_Seats_seating, pt_Seats_seating, lk_Seats_seated, pa_Seats_seated, pt_Seats_seated, lk_Kept_lot, pa_Kept_lot, pt_Kept_lot, lk_Kept_seating, pa_Kept_seating, pt_Kept_seating, lk_Kept_papers, pa_Kept_papers, pt_Kept_papers, lk_Call_worth, pa_Call_worth, pt_Call_worth, lk_Call_heard, pa_Call_heard, pt_Call_heard, lk_Scene_channels, pa_Scene_channels, pt_Scene_channels, lk_Scene_calls, pa_Scene_calls, pt_Scene_calls, h8', decide_false]
      exact ⟨_, _, Fz.refl _ _, hR⟩
theorem isName_ok {s : Str} (h : isName s = true) : PyData.strOk s = true ∧ s.length ≤ 8 ∧ s.cps.toList.all LEF = true := by
  unfold isName at h
  have hl := str_len s
  cases hc : s.cps.toList with
  | nil => rw [hc] at h; cases h
  | cons c cs =>
    rw [hc] at h hl
    simp only [Bool.and_eq_true, decide_eq_true_eq] at h
    refine ⟨?_, by rw [hl]; exact h.1.1, h.2⟩
    unfold PyData.strOk
    rw [Array.all_eq_true_iff_forall_mem]
    intro x hx
    have hx' : x ∈ c :: cs := by rw [← hc]; exact Array.mem_toList_iff.mpr hx
    have := List.all_eq_true.mp h.2 x hx'
    have lf : ∀ y ∈ (("abcdefghijklmnopqrstuvwxyz" : Str) ++ ("0123456789" : Str)).cps.toList, decide (y < 0x110000) = true := by decide +kernel
    exact lf x (of_decide_eq_true this)
def sp_Call_init (d : Dat) : DSp := fun ds M R _ => ∃ (a : Addr) (wo : Int) (hs : List Str) (hd : D), ds = [.adr a, .int wo, hd] ∧ M a = some (.ins d.C_Call []) ∧ (hd = .lst (hs.map .str) ∨ hd = .tup (hs.map .str)) ∧ (∀ x ∈ hs, PyData.strOk x = true) ∧ R .non (mup M a (.ins d.C_Call [("worth", .int wo), ("heard", .tup ((ssort hs).map .str))]))
theorem ok_Call_init (T : Tx K mg d) : FnOk P w K mg base (L2.CX P w) 1 d.f_Call_init d.d_Call_init ["self", "worth", "heard"] (LSp K (sp_Call_init d)) := by
  refine dfn_ok (k := 0) T.F_Call_init sc_Call_init (fun ds M R RX h => ?_) (by decide) fun cdv A outer s0 H0 E0 B ds M R RX hr fx h => ?_
  · obtain ⟨a, wo, hs, hd, rfl, hM, hh, hs1, hR⟩ := h; rfl
  obtain ⟨a, wo, hs, hd, rfl, hM, hh, hs1, hR⟩ := h
  have nd := sc_Call_init.nd
  refine ⟨_, (dss_cons (ds_fld (nv 0) (nv 1)) (dss_one (ds_fld (nv 0) (de_callTy call_tuple_of l_tuple (by rfl) T.n_tuple (by rfl) (da_cons (de_callB (cr_sortedD (hu64 hr) rfl) l_sorted (by rfl) T.n_sorted (by rfl) (da_cons (nv 2) da_nil)) da_nil))))), ?_⟩
  have m1 : mup M a (.ins d.C_Call [("worth", .int wo)]) a = some (.ins d.C_Call [("worth", .int wo)]) := mup_same
  rcases hh with rfl | rfl
  · simp only [Dp.dSeq, Dp.dAsg, Dp.dgN, Dp.dVar, Dp.dC, Dp.dUn, Dp.dOp, Dp.dFld, Dp.dTst, Dp.dAnd, Dp.dOr, Dp.dNot, Dp.dAndV, Dp.dOrV, Dp.dNotV, Dp.dIf, Dp.dIfS, Dp.dRet, Dp.dRetN, Dp.dExpr, Dp.dPar, Dp.dPar3, Dp.dNext, Dp.dNever, Dp.dBrk, Dp.dCont, Dp.dgTup, Dp.dgCons, Dp.dgNil, Dp.dCall, Dp.dCons, Dp.dNil, Dp.dTup, Dp.dLst, Dp.dLstM, Dp.dNewK, Dp.dCallF, Dp.dMethF, Dp.dMake, Dp.dMakeF, Dp.dFldS, Dp.dPut, Dp.dBM, Dp.dGet1, Dp.dGet2, Dp.dPop1, Dp.dPop2, Dp.dStar, Dp.dIx, Dp.dAdd, Dp.dSub, Dp.dMul, Dp.dMod, Dp.dFdiv, Dp.dPow, Dp.dNeg, Dp.dAugN, Dp.dAugS, Dp.dAugF, Dp.dAugI, Dp.dLtS, Dp.dLe, Dp.dGt, Dp.dGe, Dp.dOrd, Dp.dBetween, Dp.dIsN, Dp.dEq, Dp.dEqK, Dp.dIn, Dp.dstart, List.map_cons, List.map_nil, List.length_cons, List.length_nil, List.cons_append, List.nil_append, List.replicate, List.getElem?_cons_zero, List.getElem?_cons_succ, List.set_cons_zero, List.set_cons_succ, Nat.reduceAdd, Nat.reduceSub, if_true, if_false, Bool.false_eq_true, Bool.not_true, Bool.not_false, Dp.v_non, Dp.v_bl, Dp.v_int, Dp.v_str, Dp.v_tup, Dp.v_lst, Dp.v_kls, Dp.v_dK, Dp.v_dT, Dp.v_ins, Dp.f_ins, Dp.da_dKs, Dp.da_dKi, Dp.ix_dKs, Dp.ix_dKi, Dp.ix_lst, Dp.ix_tup, Dp.ix_kls, Dp.lo_lst, Dp.lo_kls, Dp.io_lst, Dp.io_tup, Dp.io_kls, Dp.ki_lst, Dp.ki_tup, Dp.ki_dK, Dp.dd_dK, Dp.e_ii, Dp.e_ss, Dp.e_bb, Dp.inB_dK, Dp.inB_tup, Dp.inB_lst, Dp.dLen, Dp.dAbs, Dp.dInt1, Dp.dStr1, Dp.dIsi, Dp.dListOf, Dp.dTupOf, Dp.dSum, Dp.dAny, Dp.dAll, Dp.dSorted, Dp.dDictP, Dp.dDictD, Dp.dSortMet, Dp.dLenSet, Dp.dSortSet, Dp.dmApp, Dp.dmExt, Dp.dmPop, Dp.dmPopAt, Dp.dmRem, Dp.dmIdx, Dp.dSet, Dp.intOf, Dp.keyOf, Dp.dwipe, Dp.patD, Dp.patDs, Dp.ln_lst, Dp.ln_tup, Dp.ln_kls, Dp.ln_dK, Dp.dFor, Dp.dLc, Dp.dDc, Dp.dLc2, Dp.srcOf, Dp.dFrz, lk_Seats_scene, pa_Seats_scene, pt_Seats_scene, lk_Seats_seating, pa_Seats_seating, pt_Seats_seating, lk_Seats_seated, pa_Seats_seated, pt_Seats_seated, lk_Kept_lot, pa_Kept_lot, pt_Kept_lot, lk_Kept_seating, pa_Kept_seating, pt_Kept_seating, lk_Kept_papers, pa_Kept_papers, pt_Kept_papers, lk_Call_worth, pa_Call_worth, pt_Call_worth, lk_Call_heard, pa_Call_heard, pt_Call_heard, lk_Scene_channels, pa_Scene_channels, pt_Scene_channels, lk_Scene_calls, pa_Scene_calls, pt_Scene_calls, hM]
    refine ⟨.inr (T.fok_Call_worth), by decide, keyOk_strs hs1, ?_⟩
    simp only [Dp.dSeq, Dp.dAsg, Dp.dgN, Dp.dVar, Dp.dC, Dp.dUn, Dp.dOp, Dp.dFld, Dp.dTst, Dp.dAnd, Dp.dOr, Dp.dNot, Dp.dAndV, Dp.dOrV, Dp.dNotV, Dp.dIf, Dp.dIfS, Dp.dRet, Dp.dRetN, Dp.dExpr, Dp.dPar, Dp.dPar3, Dp.dNext, Dp.dNever, Dp.dBrk, Dp.dCont, Dp.dgTup, Dp.dgCons, Dp.dgNil, Dp.dCall, Dp.dCons, Dp.dNil, Dp.dTup, Dp.dLst, Dp.dLstM, Dp.dNewK, Dp.dCallF, Dp.dMethF, Dp.dMake, Dp.dMakeF, Dp.dFldS, Dp.dPut, Dp.dBM, Dp.dGet1, Dp.dGet2, Dp.dPop1, Dp.dPop2, Dp.dStar, Dp.dIx, Dp.dAdd, Dp.dSub, Dp.dMul, Dp.dMod, Dp.dFdiv, Dp.dPow, Dp.dNeg, Dp.dAugN, Dp.dAugS, Dp.dAugF, Dp.dAugI, Dp.dLtS, Dp.dLe, Dp.dGt, Dp.dGe, Dp.dOrd, Dp.dBetween, Dp.dIsN, Dp.dEq, Dp.dEqK, Dp.dIn, Dp.dstart, List.map_cons, List.map_nil, List.length_cons, List.length_nil, List.cons_append, List.nil_append, List.replicate, List.getElem?_cons_zero, List.getElem?_cons_succ, List.set_cons_zero, List.set_cons_succ, Nat.reduceAdd, Nat.reduceSub, if_true, if_false, Bool.false_eq_true, Bool.not_true, Bool.not_false, Dp.v_non, Dp.v_bl, Dp.v_int, Dp.v_str, Dp.v_tup, Dp.v_lst, Dp.v_kls, Dp.v_dK, Dp.v_dT, Dp.v_ins, Dp.f_ins, Dp.da_dKs, Dp.da_dKi, Dp.ix_dKs, Dp.ix_dKi, Dp.ix_lst, Dp.ix_tup, Dp.ix_kls, Dp.lo_lst, Dp.lo_kls, Dp.io_lst, Dp.io_tup, Dp.io_kls, Dp.ki_lst, Dp.ki_tup, Dp.ki_dK, Dp.dd_dK, Dp.e_ii, Dp.e_ss, Dp.e_bb, Dp.inB_dK, Dp.inB_tup, Dp.inB_lst, Dp.dLen, Dp.dAbs, Dp.dInt1, Dp.dStr1, Dp.dIsi, Dp.dListOf, Dp.dTupOf, Dp.dSum, Dp.dAny, Dp.dAll, Dp.dSorted, Dp.dDictP, Dp.dDictD, Dp.dSortMet, Dp.dLenSet, Dp.dSortSet, Dp.dmApp, Dp.dmExt, Dp.dmPop, Dp.dmPopAt, Dp.dmRem, Dp.dmIdx, Dp.dSet, Dp.intOf, Dp.keyOf, Dp.dwipe, Dp.patD, Dp.patDs, Dp.ln_lst, Dp.ln_tup, Dp.ln_kls, Dp.ln_dK, Dp.dFor, Dp.dLc, Dp.dDc, Dp.dLc2, Dp.srcOf, Dp.dFrz, lk_Seats_scene, pa_Seats_scene, pt_Seats_scene, lk_Seats_seating, pa_Seats_seating, pt_Seats_seating, lk_Seats_seated, pa_Seats_seated, pt_Seats_seated, lk_Kept_lot, pa_Kept_lot, pt_Kept_lot, lk_Kept_seating, pa_Kept_seating, pt_Kept_seating, lk_Kept_papers, pa_Kept_papers, pt_Kept_papers, lk_Call_worth, pa_Call_worth, pt_Call_worth, lk_Call_heard, pa_Call_heard, pt_Call_heard, lk_Scene_channels, pa_Scene_channels, pt_Scene_channels, lk_Scene_calls, pa_Scene_calls, pt_Scene_calls, srt_strs, m1, mup_mup]
    exact ⟨.inr (T.fok_Call_heard), by decide, _, MLe.refl _, hR⟩
  · simp only [Dp.dSeq, Dp.dAsg, Dp.dgN, Dp.dVar, Dp.dC, Dp.dUn, Dp.dOp, Dp.dFld, Dp.dTst, Dp.dAnd, Dp.dOr, Dp.dNot, Dp.dAndV, Dp.dOrV, Dp.dNotV, Dp.dIf, Dp.dIfS, Dp.dRet, Dp.dRetN, Dp.dExpr, Dp.dPar, Dp.dPar3, Dp.dNext, Dp.dNever, Dp.dBrk, Dp.dCont, Dp.dgTup, Dp.dgCons, Dp.dgNil, Dp.dCall, Dp.dCons, Dp.dNil, Dp.dTup, Dp.dLst, Dp.dLstM, Dp.dNewK, Dp.dCallF, Dp.dMethF, Dp.dMake, Dp.dMakeF, Dp.dFldS, Dp.dPut, Dp.dBM, Dp.dGet1, Dp.dGet2, Dp.dPop1, Dp.dPop2, Dp.dStar, Dp.dIx, Dp.dAdd, Dp.dSub, Dp.dMul, Dp.dMod, Dp.dFdiv, Dp.dPow, Dp.dNeg, Dp.dAugN, Dp.dAugS, Dp.dAugF, Dp.dAugI, Dp.dLtS, Dp.dLe, Dp.dGt, Dp.dGe, Dp.dOrd, Dp.dBetween, Dp.dIsN, Dp.dEq, Dp.dEqK, Dp.dIn, Dp.dstart, List.map_cons, List.map_nil, List.length_cons, List.length_nil, List.cons_append, List.nil_append, List.replicate, List.getElem?_cons_zero, List.getElem?_cons_succ, List.set_cons_zero, List.set_cons_succ, Nat.reduceAdd, Nat.reduceSub, if_true, if_false, Bool.false_eq_true, Bool.not_true, Bool.not_false, Dp.v_non, Dp.v_bl, Dp.v_int, Dp.v_str, Dp.v_tup, Dp.v_lst, Dp.v_kls, Dp.v_dK, Dp.v_dT, Dp.v_ins, Dp.f_ins, Dp.da_dKs, Dp.da_dKi, Dp.ix_dKs, Dp.ix_dKi, Dp.ix_lst, Dp.ix_tup, Dp.ix_kls, Dp.lo_lst, Dp.lo_kls, Dp.io_lst, Dp.io_tup, Dp.io_kls, Dp.ki_lst, Dp.ki_tup, Dp.ki_dK, Dp.dd_dK, Dp.e_ii, Dp.e_ss, Dp.e_bb, Dp.inB_dK, Dp.inB_tup, Dp.inB_lst, Dp.dLen, Dp.dAbs, Dp.dInt1, Dp.dStr1, Dp.dIsi, Dp.dListOf, Dp.dTupOf, Dp.dSum, Dp.dAny, Dp.dAll, Dp.dSorted, Dp.dDictP, Dp.dDictD, Dp.dSortMet, Dp.dLenSet, Dp.dSortSet, Dp.dmApp, Dp.dmExt, Dp.dmPop, Dp.dmPopAt, Dp.dmRem, Dp.dmIdx, Dp.dSet, Dp.intOf, Dp.keyOf, Dp.dwipe, Dp.patD, Dp.patDs, Dp.ln_lst, Dp.ln_tup, Dp.ln_kls, Dp.ln_dK, Dp.dFor, Dp.dLc, Dp.dDc, Dp.dLc2, Dp.srcOf, Dp.dFrz, lk_Seats_scene, pa_Seats_scene, pt_Seats_scene, lk_Seats_seating, pa_Seats_seating, pt_Seats_seating, lk_Seats_seated, pa_Seats_seated, pt_Seats_seated, lk_Kept_lot, pa_Kept_lot, pt_Kept_lot, lk_Kept_seating, pa_Kept_seating, pt_Kept_seating, lk_Kept_papers, pa_Kept_papers, pt_Kept_papers, lk_Call_worth, pa_Call_worth, pt_Call_worth, lk_Call_heard, pa_Call_heard, pt_Call_heard, lk_Scene_channels, pa_Scene_channels, pt_Scene_channels, lk_Scene_calls, pa_Scene_calls, pt_Scene_calls, hM]
    refine ⟨.inr (T.fok_Call_worth), by decide, keyOk_strs hs1, ?_⟩
    simp only [Dp.dSeq, Dp.dAsg, Dp.dgN, Dp.dVar, Dp.dC, Dp.dUn, Dp.dOp, Dp.dFld, Dp.dTst, Dp.dAnd, Dp.dOr, Dp.dNot, Dp.dAndV, Dp.dOrV, Dp.dNotV, Dp.dIf, Dp.dIfS, Dp.dRet, Dp.dRetN, Dp.dExpr, Dp.dPar, Dp.dPar3, Dp.dNext, Dp.dNever, Dp.dBrk, Dp.dCont, Dp.dgTup, Dp.dgCons, Dp.dgNil, Dp.dCall, Dp.dCons, Dp.dNil, Dp.dTup, Dp.dLst, Dp.dLstM, Dp.dNewK, Dp.dCallF, Dp.dMethF, Dp.dMake, Dp.dMakeF, Dp.dFldS, Dp.dPut, Dp.dBM, Dp.dGet1, Dp.dGet2, Dp.dPop1, Dp.dPop2, Dp.dStar, Dp.dIx, Dp.dAdd, Dp.dSub, Dp.dMul, Dp.dMod, Dp.dFdiv, Dp.dPow, Dp.dNeg, Dp.dAugN, Dp.dAugS, Dp.dAugF, Dp.dAugI, Dp.dLtS, Dp.dLe, Dp.dGt, Dp.dGe, Dp.dOrd, Dp.dBetween, Dp.dIsN, Dp.dEq, Dp.dEqK, Dp.dIn, Dp.dstart, List.map_cons, List.map_nil, List.length_cons, List.length_nil, List.cons_append, List.nil_append, List.replicate, List.getElem?_cons_zero, List.getElem?_cons_succ, List.set_cons_zero, List.set_cons_succ, Nat.reduceAdd, Nat.reduceSub, if_true, if_false, Bool.false_eq_true, Bool.not_true, Bool.not_false, Dp.v_non, Dp.v_bl, Dp.v_int, Dp.v_str, Dp.v_tup, Dp.v_lst, Dp.v_kls, Dp.v_dK, Dp.v_dT, Dp.v_ins, Dp.f_ins, Dp.da_dKs, Dp.da_dKi, Dp.ix_dKs, Dp.ix_dKi, Dp.ix_lst, Dp.ix_tup, Dp.ix_kls, Dp.lo_lst, Dp.lo_kls, Dp.io_lst, Dp.io_tup, Dp.io_kls, Dp.ki_lst, Dp.ki_tup, Dp.ki_dK, Dp.dd_dK, Dp.e_ii, Dp.e_ss, Dp.e_bb, Dp.inB_dK, Dp.inB_tup, Dp.inB_lst, Dp.dLen, Dp.dAbs, Dp.dInt1, Dp.dStr1, Dp.dIsi, Dp.dListOf, Dp.dTupOf, Dp.dSum, Dp.dAny, Dp.dAll, Dp.dSorted, Dp.dDictP, Dp.dDictD, Dp.dSortMet, Dp.dLenSet, Dp.dSortSet, Dp.dmApp, Dp.dmExt, Dp.dmPop, Dp.dmPopAt, Dp.dmRem, Dp.dmIdx, Dp.dSet, Dp.intOf, Dp.keyOf, Dp.dwipe, Dp.patD, Dp.patDs, Dp.ln_lst, Dp.ln_tup, Dp.ln_kls, Dp.ln_dK, Dp.dFor, Dp.dLc, Dp.dDc, Dp.dLc2, Dp.srcOf, Dp.dFrz, lk_Seats_scene, pa_Seats_scene, pt_Seats_scene, lk_Seats_seating, pa_Seats_seating, pt_Seats_seating, lk_Seats_seated, pa_Seats_seated, pt_Seats_seated, lk_Kept_lot, pa_Kept_lot, pt_Kept_lot, lk_Kept_seating, pa_Kept_seating, pt_Kept_seating, lk_Kept_papers, pa_Kept_papers, pt_Kept_papers, lk_Call_worth, pa_Call_worth, pt_Call_worth, lk_Call_heard, pa_Call_heard, pt_Call_heard, lk_Scene_channels, pa_Scene_channels, pt_Scene_channels, lk_Scene_calls, pa_Scene_calls, pt_Scene_calls, srt_strs, m1, mup_mup]
    exact ⟨.inr (T.fok_Call_heard), by decide, _, MLe.refl _, hR⟩
/-- what a scene is made of -/
structure ScOk (s : Sc) : Prop where
  nm : ∀ p ∈ s.ch, isName p.1 = true
  nc : ∀ p ∈ s.ch, 0 ≤ p.2 ∧ p.2 ≤ 1000
  dm : (s.ch.map (·.1)).Nodup
  na : ∀ p ∈ s.ca, isName p.1 = true
  wo : ∀ p ∈ s.ca, 0 ≤ p.2.1 ∧ p.2.1 ≤ 1000
  he : ∀ p ∈ s.ca, ∀ x ∈ p.2.2, x ∈ s.ch.map (·.1)
  hn : ∀ p ∈ s.ca, p.2.2.Nodup
  da : (s.ca.map (·.1)).Nodup
  lc : s.ch.length ≤ 500
  la : s.ca.length ≤ 500
def Sc.srt (s : Sc) : Sc := ⟨rsrt s.ch, rsrt s.ca⟩
theorem kd_rows {α : Type} (l : List (Str × α)) (f : α → D) : rowsD (l.map fun p => ((Sum.inr p.1 : Sum Int Str), f p.2)) = l.map fun p => .tup [.str p.1, f p.2] := by
  unfold rowsD; rw [List.map_map]; rfl
theorem keysOf_strs (l : List Str) : keysOf (l.map .str) = some (l.map Sum.inr) := by
  induction l with
  | nil => rfl
  | cons x l ih => simp only [List.map_cons, keysOf, Dp.keyOf, ih]
theorem nodup_sub {l m : List Str} (h : l.Nodup) (hs : ∀ x ∈ l, x ∈ m) : l.length ≤ m.length := by
  induction l generalizing m with
  | nil => simp
  | cons x l ih =>
    rw [List.nodup_cons] at h
    have hx : x ∈ m := hs x List.mem_cons_self
    have := ih (m := m.erase x) h.2 fun y hy => by
      have : y ≠ x := fun q => h.1 (q ▸ hy)
      exact (List.mem_erase_of_ne this).mpr (hs y (List.mem_cons_of_mem _ hy))
    rw [List.length_erase_of_mem hx] at this
    have := List.length_pos_of_mem hx
    rw [List.length_cons]
    omega
def sp_Scene_init (d : Dat) : DSp := fun ds M R _ => ∃ (a : Addr) (s : Sc), ds = [.adr a, .dK (dChs s), .dK (dCas d s)] ∧ M a = some (.ins d.C_Scene []) ∧ ScOk s ∧ R .non (mup M a (.ins d.C_Scene [("channels", .dK (dChs s.srt)), ("calls", .dK (dCas d s.srt))]))
theorem ok_Scene_init (T : Tx K mg d) : FnOk P w K mg base (L2.CX P w) 2 d.f_Scene_init d.d_Scene_init ["self", "channels", "calls"] (LSp K (sp_Scene_init d)) := by
  have G_is_name := ok_is_name (P := P) (w := w) (base := base) T
  have G_is_whole := ok_is_whole (P := P) (w := w) (base := base) T
  refine dfn_ok (k := 1) T.F_Scene_init sc_Scene_init (fun ds M R RX h => ?_) (by decide) fun cdv A outer s0 H0 E0 B ds M R RX hr fx h => ?_
  · obtain ⟨a, s, rfl, hM, hs, hR⟩ := h; rfl
  obtain ⟨a, s, rfl, hM, hs, hR⟩ := h
  have nd := sc_Scene_init.nd
  refine ⟨_, (dss_cons (ds_for (passes_of rfl) rfl (di_items (nv 1)) (pp_tup rfl (pps_cons (pp_name (i := 3) nd rfl (Or.inl rfl)) (pps_cons (pp_name (i := 4) nd rfl (Or.inl rfl)) pps_nil))) (dss_cons (ds_if (dt_not (dt_val (de_call G_is_name (hr.mono (by decide)) (by rfl) T.m_is_name T.F_is_name.kp T.B_is_name (da_cons (nv 3) da_nil)))) (dss_one ds_never) dss_nil) (dss_one (ds_if (dt_not (dt_val (de_call G_is_whole (hr.mono (by decide)) (by rfl) T.m_is_whole T.F_is_whole.kp T.B_is_whole (da_cons (nv 4) (da_cons de_int (da_cons (de_gI (by rfl) T.g_MOST_CHANNELS) da_nil)))))) (dss_one ds_never) dss_nil)))) (dss_cons (ds_for (passes_of rfl) rfl (di_items (nv 2)) (pp_tup rfl (pps_cons (pp_name (i := 5) nd rfl (Or.inl rfl)) (pps_cons (pp_name (i := 6) nd rfl (Or.inl rfl)) pps_nil))) (dss_cons (ds_if (dt_not (dt_val (de_call G_is_name (hr.mono (by decide)) (by rfl) T.m_is_name T.F_is_name.kp T.B_is_name (da_cons (nv 5) da_nil)))) (dss_one ds_never) dss_nil) (dss_cons (ds_if (dt_not (dt_val (de_call G_is_whole (hr.mono (by decide)) (by rfl) T.m_is_whole T.F_is_whole.kp T.B_is_whole (da_cons (de_fld (nv 6)) (da_cons de_int (da_cons (de_gI (by rfl) T.g_MOST_CHANNELS) da_nil)))))) (dss_one ds_never) dss_nil) (dss_one (ds_if (dt_w (dw_or (dt_not (dt_val (de_callB (cr_all rfl) l_all (by rfl) T.n_all (by rfl) (da_cons (de_lc (fz := true) (own := [("mast", 3)]) rfl nd (di_any (de_fld (nv 6))) (blkOk_by (N := N_Scene_init) (sc := defScope s_Scene_init) (own := [("mast", 3)]) (by decide +kernel)) (by decide) (fun _ _ _ _ _ => (pp_name (i := 3) nd rfl (Or.inl rfl))) (fun _ _ _ _ _ => dts_nil) (fun _ _ _ _ _ => (de_in (hu65 hr) (nv 3) (nv 1)))) da_nil)))) (dw_or1 (dt_ne (hu64 hr) (de_lenSet rfl (by rfl) T.n_len (by rfl) T.n_set (de_fld (nv 6))) (de_callB cr_lenAll l_len (by rfl) T.n_len (by rfl) (da_cons (de_fld (nv 6)) da_nil)))))) (dss_one ds_never) dss_nil))))) (dss_cons (ds_fld (nv 0) (de_dc (fz := true) (own := [("mast", 3)]) rfl nd (di_any (de_callB (cr_sortedD (hu64 hr) rfl) l_sorted (by rfl) T.n_sorted (by rfl) (da_cons (nv 1) da_nil))) (blkOk_by (N := N_Scene_init) (sc := defScope s_Scene_init) (own := [("mast", 3)]) (by decide +kernel)) (by decide) (fun _ _ _ _ _ => (pp_name (i := 3) nd rfl (Or.inl rfl))) (fun _ _ _ _ _ => dts_nil) (fun _ _ _ _ _ => (nv 3)) (fun _ _ _ _ _ => (de_ix (hu1 hr) (nv 1) (nv 3))))) (dss_one (ds_fld (nv 0) (de_dc (fz := true) (own := [("name", 5)]) rfl nd (di_any (de_callB (cr_sortedD (hu64 hr) rfl) l_sorted (by rfl) T.n_sorted (by rfl) (da_cons (nv 2) da_nil))) (blkOk_by (N := N_Scene_init) (sc := defScope s_Scene_init) (own := [("name", 5)]) (by decide +kernel)) (by decide) (fun _ _ _ _ _ => (pp_name (i := 5) nd rfl (Or.inl rfl))) (fun _ _ _ _ _ => dts_nil) (fun _ _ _ _ _ => (nv 5)) (fun _ _ _ _ _ => (de_ix (hu1 hr) (nv 2) (nv 5))))))))), ?_⟩
  have hok : ∀ x ∈ s.ch.map (·.1), PyData.strOk x = true := fun x hx => by
    obtain ⟨p, hp, rfl⟩ := List.mem_map.mp hx
    exact (isName_ok (hs.nm p hp)).1
  have hoa : ∀ x ∈ s.ca.map (·.1), PyData.strOk x = true := fun x hx => by
    obtain ⟨p, hp, rfl⟩ := List.mem_map.mp hx
    exact (isName_ok (hs.na p hp)).1
  simp only [Dp.dSeq, Dp.dAsg, Dp.dgN, Dp.dVar, Dp.dC, Dp.dUn, Dp.dOp, Dp.dFld, Dp.dTst, Dp.dAnd, Dp.dOr, Dp.dNot, Dp.dAndV, Dp.dOrV, Dp.dNotV, Dp.dIf, Dp.dIfS, Dp.dRet, Dp.dRetN, Dp.dExpr, Dp.dPar, Dp.dPar3, Dp.dNext, Dp.dNever, Dp.dBrk, Dp.dCont, Dp.dgTup, Dp.dgCons, Dp.dgNil, Dp.dCall, Dp.dCons, Dp.dNil, Dp.dTup, Dp.dLst, Dp.dLstM, Dp.dNewK, Dp.dCallF, Dp.dMethF, Dp.dMake, Dp.dMakeF, Dp.dFldS, Dp.dPut, Dp.dBM, Dp.dGet1, Dp.dGet2, Dp.dPop1, Dp.dPop2, Dp.dStar, Dp.dIx, Dp.dAdd, Dp.dSub, Dp.dMul, Dp.dMod, Dp.dFdiv, Dp.dPow, Dp.dNeg, Dp.dAugN, Dp.dAugS, Dp.dAugF, Dp.dAugI, Dp.dLtS, Dp.dLe, Dp.dGt, Dp.dGe, Dp.dOrd, Dp.dBetween, Dp.dIsN, Dp.dEq, Dp.dEqK, Dp.dIn, Dp.dstart, List.map_cons, List.map_nil, List.length_cons, List.length_nil, List.cons_append, List.nil_append, List.replicate, List.getElem?_cons_zero, List.getElem?_cons_succ, List.set_cons_zero, List.set_cons_succ, Nat.reduceAdd, Nat.reduceSub, if_true, if_false, Bool.false_eq_true, Bool.not_true, Bool.not_false, Dp.v_non, Dp.v_bl, Dp.v_int, Dp.v_str, Dp.v_tup, Dp.v_lst, Dp.v_kls, Dp.v_dK, Dp.v_dT, Dp.v_ins, Dp.f_ins, Dp.da_dKs, Dp.da_dKi, Dp.ix_dKs, Dp.ix_dKi, Dp.ix_lst, Dp.ix_tup, Dp.ix_kls, Dp.lo_lst, Dp.lo_kls, Dp.io_lst, Dp.io_tup, Dp.io_kls, Dp.ki_lst, Dp.ki_tup, Dp.ki_dK, Dp.dd_dK, Dp.e_ii, Dp.e_ss, Dp.e_bb, Dp.inB_dK, Dp.inB_tup, Dp.inB_lst, Dp.dLen, Dp.dAbs, Dp.dInt1, Dp.dStr1, Dp.dIsi, Dp.dListOf, Dp.dTupOf, Dp.dSum, Dp.dAny, Dp.dAll, Dp.dSorted, Dp.dDictP, Dp.dDictD, Dp.dSortMet, Dp.dLenSet, Dp.dSortSet, Dp.dmApp, Dp.dmExt, Dp.dmPop, Dp.dmPopAt, Dp.dmRem, Dp.dmIdx, Dp.dSet, Dp.intOf, Dp.keyOf, Dp.dwipe, Dp.patD, Dp.patDs, Dp.ln_lst, Dp.ln_tup, Dp.ln_kls, Dp.ln_dK, Dp.dFor, Dp.dLc, Dp.dDc, Dp.dLc2, Dp.srcOf, Dp.dFrz, lk_Seats_scene, pa_Seats_scene, pt_Seats_scene, lk_Seats_seating, pa_Seats_seating, pt_Seats_seating, lk_Seats_seated, pa_Seats_seated, pt_Seats_seated, lk_Kept_lot, pa_Kept_lot, pt_Kept_lot, lk_Kept_seating, pa_Kept_seating, pt_Kept_seating, lk_Kept_papers, pa_Kept_papers, pt_Kept_papers, lk_Call_worth, pa_Call_worth, pt_Call_worth, lk_Call_heard, pa_Call_heard, pt_Call_heard, lk_Scene_channels, pa_Scene_channels, pt_Scene_channels, lk_Scene_calls, pa_Scene_calls, pt_Scene_calls, dictRows]
  refine for_i (fun i Γ' M' => M' = M ∧ ∃ o3 o4 o5 o6, Γ' = [some (.adr a), some (.dK (dChs s)), some (.dK (dCas d s)), o3, o4, o5, o6]) ⟨rfl, _, _, _, _, rfl⟩ (fun _ _ _ _ _ => trivial) ?_ ?_
  · rintro i x Γ' M' hx ⟨rfl, o3, o4, o5, o6, rfl⟩
    unfold dChs at hx
    rw [kd_rows, List.getElem?_map] at hx
    obtain ⟨p, hp, rfl⟩ := Option.map_eq_some_iff.mp hx
    have hpm := List.mem_of_getElem? hp
    have hnm := hs.nm p hpm
    refine ⟨_, rfl, fun bk _ => ?_⟩
    simp only [Dp.dSeq, Dp.dAsg, Dp.dgN, Dp.dVar, Dp.dC, Dp.dUn, Dp.dOp, Dp.dFld, Dp.dTst, Dp.dAnd, Dp.dOr, Dp.dNot, Dp.dAndV, Dp.dOrV, Dp.dNotV, Dp.dIf, Dp.dIfS, Dp.dRet, Dp.dRetN, Dp.dExpr, Dp.dPar, Dp.dPar3, Dp.dNext, Dp.dNever, Dp.dBrk, Dp.dCont, Dp.dgTup, Dp.dgCons, Dp.dgNil, Dp.dCall, Dp.dCons, Dp.dNil, Dp.dTup, Dp.dLst, Dp.dLstM, Dp.dNewK, Dp.dCallF, Dp.dMethF, Dp.dMake, Dp.dMakeF, Dp.dFldS, Dp.dPut, Dp.dBM, Dp.dGet1, Dp.dGet2, Dp.dPop1, Dp.dPop2, Dp.dStar, Dp.dIx, Dp.dAdd, Dp.dSub, Dp.dMul, Dp.dMod, Dp.dFdiv, Dp.dPow, Dp.dNeg, Dp.dAugN, Dp.dAugS, Dp.dAugF, Dp.dAugI, Dp.dLtS, Dp.dLe, Dp.dGt, Dp.dGe, Dp.dOrd, Dp.dBetween, Dp.dIsN, Dp.dEq, Dp.dEqK, Dp.dIn, Dp.dstart, List.map_cons, List.map_nil, List.length_cons, List.length_nil, List.cons_append, List.nil_append, List.replicate, List.getElem?_cons_zero, List.getElem?_cons_succ, List.set_cons_zero, List.set_cons_succ, Nat.reduceAdd, Nat.reduceSub, if_true, if_false, Bool.false_eq_true, Bool.not_true, Bool.not_false, Dp.v_non, Dp.v_bl, Dp.v_int, Dp.v_str, Dp.v_tup, Dp.v_lst, Dp.v_kls, Dp.v_dK, Dp.v_dT, Dp.v_ins, Dp.f_ins, Dp.da_dKs, Dp.da_dKi, Dp.ix_dKs, Dp.ix_dKi, Dp.ix_lst, Dp.ix_tup, Dp.ix_kls, Dp.lo_lst, Dp.lo_kls, Dp.io_lst, Dp.io_tup, Dp.io_kls, Dp.ki_lst, Dp.ki_tup, Dp.ki_dK, Dp.dd_dK, Dp.e_ii, Dp.e_ss, Dp.e_bb, Dp.inB_dK, Dp.inB_tup, Dp.inB_lst, Dp.dLen, Dp.dAbs, Dp.dInt1, Dp.dStr1, Dp.dIsi, Dp.dListOf, Dp.dTupOf, Dp.dSum, Dp.dAny, Dp.dAll, Dp.dSorted, Dp.dDictP, Dp.dDictD, Dp.dSortMet, Dp.dLenSet, Dp.dSortSet, Dp.dmApp, Dp.dmExt, Dp.dmPop, Dp.dmPopAt, Dp.dmRem, Dp.dmIdx, Dp.dSet, Dp.intOf, Dp.keyOf, Dp.dwipe, Dp.patD, Dp.patDs, Dp.ln_lst, Dp.ln_tup, Dp.ln_kls, Dp.ln_dK, Dp.dFor, Dp.dLc, Dp.dDc, Dp.dLc2, Dp.srcOf, Dp.dFrz, lk_Seats_scene, pa_Seats_scene, pt_Seats_scene, lk_Seats_seating, pa_Seats_seating, pt_Seats_seating, lk_Seats_seated, pa_Seats_seated, pt_Seats_seated, lk_Kept_lot, pa_Kept_lot, pt_Kept_lot, lk_Kept_seating, pa_Kept_seating, pt_Kept_seating, lk_Kept_papers, pa_Kept_papers, pt_Kept_papers, lk_Call_worth, pa_Call_worth, pt_Call_worth, lk_Call_heard, pa_Call_heard, pt_Call_heard, lk_Scene_channels, pa_Scene_channels, pt_Scene_channels, lk_Scene_calls, pa_Scene_calls, pt_Scene_calls]
    refine ⟨p.1, rfl, by have := (isName_ok hnm).2.1; omega, ?_⟩
    rw [hnm]
    simp only [Dp.dSeq, Dp.dAsg, Dp.dgN, Dp.dVar, Dp.dC, Dp.dUn, Dp.dOp, Dp.dFld, Dp.dTst, Dp.dAnd, Dp.dOr, Dp.dNot, Dp.dAndV, Dp.dOrV, Dp.dNotV, Dp.dIf, Dp.dIfS, Dp.dRet, Dp.dRetN, Dp.dExpr, Dp.dPar, Dp.dPar3, Dp.dNext, Dp.dNever, Dp.dBrk, Dp.dCont, Dp.dgTup, Dp.dgCons, Dp.dgNil, Dp.dCall, Dp.dCons, Dp.dNil, Dp.dTup, Dp.dLst, Dp.dLstM, Dp.dNewK, Dp.dCallF, Dp.dMethF, Dp.dMake, Dp.dMakeF, Dp.dFldS, Dp.dPut, Dp.dBM, Dp.dGet1, Dp.dGet2, Dp.dPop1, Dp.dPop2, Dp.dStar, Dp.dIx, Dp.dAdd, Dp.dSub, Dp.dMul, Dp.dMod, Dp.dFdiv, Dp.dPow, Dp.dNeg, Dp.dAugN, Dp.dAugS, Dp.dAugF, Dp.dAugI, Dp.dLtS, Dp.dLe, Dp.dGt, Dp.dGe, Dp.dOrd, Dp.dBetween, Dp.dIsN, Dp.dEq, Dp.dEqK, Dp.dIn, Dp.dstart, List.map_cons, List.map_nil, List.length_cons, List.length_nil, List.cons_append, List.nil_append, List.replicate, List.getElem?_cons_zero, List.getElem?_cons_succ, List.set_cons_zero, List.set_cons_succ, Nat.reduceAdd, Nat.reduceSub, if_true, if_false, Bool.false_eq_true, Bool.not_true, Bool.not_false, Dp.v_non, Dp.v_bl, Dp.v_int, Dp.v_str, Dp.v_tup, Dp.v_lst, Dp.v_kls, Dp.v_dK, Dp.v_dT, Dp.v_ins, Dp.f_ins, Dp.da_dKs, Dp.da_dKi, Dp.ix_dKs, Dp.ix_dKi, Dp.ix_lst, Dp.ix_tup, Dp.ix_kls, Dp.lo_lst, Dp.lo_kls, Dp.io_lst, Dp.io_tup, Dp.io_kls, Dp.ki_lst, Dp.ki_tup, Dp.ki_dK, Dp.dd_dK, Dp.e_ii, Dp.e_ss, Dp.e_bb, Dp.inB_dK, Dp.inB_tup, Dp.inB_lst, Dp.dLen, Dp.dAbs, Dp.dInt1, Dp.dStr1, Dp.dIsi, Dp.dListOf, Dp.dTupOf, Dp.dSum, Dp.dAny, Dp.dAll, Dp.dSorted, Dp.dDictP, Dp.dDictD, Dp.dSortMet, Dp.dLenSet, Dp.dSortSet, Dp.dmApp, Dp.dmExt, Dp.dmPop, Dp.dmPopAt, Dp.dmRem, Dp.dmIdx, Dp.dSet, Dp.intOf, Dp.keyOf, Dp.dwipe, Dp.patD, Dp.patDs, Dp.ln_lst, Dp.ln_tup, Dp.ln_kls, Dp.ln_dK, Dp.dFor, Dp.dLc, Dp.dDc, Dp.dLc2, Dp.srcOf, Dp.dFrz, lk_Seats_scene, pa_Seats_scene, pt_Seats_scene, lk_Seats_seating, pa_Seats_seating, pt_Seats_seating, lk_Seats_seated, pa_Seats_seated, pt_Seats_seated, lk_Kept_lot, pa_Kept_lot, pt_Kept_lot, lk_Kept_seating, pa_Kept_seating, pt_Kept_seating, lk_Kept_papers, pa_Kept_papers, pt_Kept_papers, lk_Call_worth, pa_Call_worth, pt_Call_worth, lk_Call_heard, pa_Call_heard, pt_Call_heard, lk_Scene_channels, pa_Scene_channels, pt_Scene_channels, lk_Scene_calls, pa_Scene_calls, pt_Scene_calls]
    refine ⟨p.2, 0, 1000, rfl, ?_⟩
    have h2 := hs.nc p hpm
    have e : (decide (0 ≤ p.2) && decide (p.2 ≤ 1000)) = true := by simp [h2.1, h2.2]
    rw [e]
    simp only [Dp.dSeq, Dp.dAsg, Dp.dgN, Dp.dVar, Dp.dC, Dp.dUn, Dp.dOp, Dp.dFld, Dp.dTst, Dp.dAnd, Dp.dOr, Dp.dNot, Dp.dAndV, Dp.dOrV, Dp.dNotV, Dp.dIf, Dp.dIfS, Dp.dRet, Dp.dRetN, Dp.dExpr, Dp.dPar, Dp.dPar3, Dp.dNext, Dp.dNever, Dp.dBrk, Dp.dCont, Dp.dgTup, Dp.dgCons, Dp.dgNil, Dp.dCall, Dp.dCons, Dp.dNil, Dp.dTup, Dp.dLst, Dp.dLstM, Dp.dNewK, Dp.dCallF, Dp.dMethF, Dp.dMake, Dp.dMakeF, Dp.dFldS, Dp.dPut, Dp.dBM, Dp.dGet1, Dp.dGet2, Dp.dPop1, Dp.dPop2, Dp.dStar, Dp.dIx, Dp.dAdd, Dp.dSub, Dp.dMul, Dp.dMod, Dp.dFdiv, Dp.dPow, Dp.dNeg, Dp.dAugN, Dp.dAugS, Dp.dAugF, Dp.dAugI, Dp.dLtS, Dp.dLe, Dp.dGt, Dp.dGe, Dp.dOrd, Dp.dBetween, Dp.dIsN, Dp.dEq, Dp.dEqK, Dp.dIn, Dp.dstart, List.map_cons, List.map_nil, List.length_cons, List.length_nil, List.cons_append, List.nil_append, List.replicate, List.getElem?_cons_zero, List.getElem?_cons_succ, List.set_cons_zero, List.set_cons_succ, Nat.reduceAdd, Nat.reduceSub, if_true, if_false, Bool.false_eq_true, Bool.not_true, Bool.not_false, Dp.v_non, Dp.v_bl, Dp.v_int, Dp.v_str, Dp.v_tup, Dp.v_lst, Dp.v_kls, Dp.v_dK, Dp.v_dT, Dp.v_ins, Dp.f_ins, Dp.da_dKs, Dp.da_dKi, Dp.ix_dKs, Dp.ix_dKi, Dp.ix_lst, Dp.ix_tup, Dp.ix_kls, Dp.lo_lst, Dp.lo_kls, Dp.io_lst, Dp.io_tup, Dp.io_kls, Dp.ki_lst, Dp.ki_tup, Dp.ki_dK, Dp.dd_dK, Dp.e_ii, Dp.e_ss, Dp.e_bb, Dp.inB_dK, Dp.inB_tup, Dp.inB_lst, Dp.dLen, Dp.dAbs, Dp.dInt1, Dp.dStr1, Dp.dIsi, Dp.dListOf, Dp.dTupOf, Dp.dSum, Dp.dAny, Dp.dAll, Dp.dSorted, Dp.dDictP, Dp.dDictD, Dp.dSortMet, Dp.dLenSet, Dp.dSortSet, Dp.dmApp, Dp.dmExt, Dp.dmPop, Dp.dmPopAt, Dp.dmRem, Dp.dmIdx, Dp.dSet, Dp.intOf, Dp.keyOf, Dp.dwipe, Dp.patD, Dp.patDs, Dp.ln_lst, Dp.ln_tup, Dp.ln_kls, Dp.ln_dK, Dp.dFor, Dp.dLc, Dp.dDc, Dp.dLc2, Dp.srcOf, Dp.dFrz, lk_Seats_scene, pa_Seats_scene, pt_Seats_scene, lk_Seats_seating, pa_Seats_seating, pt_Seats_seating, lk_Seats_seated, pa_Seats_seated, pt_Seats_seated, lk_Kept_lot, pa_Kept_lot, pt_Kept_lot, lk_Kept_seating, pa_Kept_seating, pt_Kept_seating, lk_Kept_papers, pa_Kept_papers, pt_Kept_papers, lk_Call_worth, pa_Call_worth, pt_Call_worth, lk_Call_heard, pa_Call_heard, pt_Call_heard, lk_Scene_channels, pa_Scene_channels, pt_Scene_channels, lk_Scene_calls, pa_Scene_calls, pt_Scene_calls]
    exact ⟨trivial, _, _, _, _, rfl⟩
  rintro Γ' M' ⟨rfl, o3, o4, o5, o6, rfl⟩
  simp only [Dp.dSeq, Dp.dAsg, Dp.dgN, Dp.dVar, Dp.dC, Dp.dUn, Dp.dOp, Dp.dFld, Dp.dTst, Dp.dAnd, Dp.dOr, Dp.dNot, Dp.dAndV, Dp.dOrV, Dp.dNotV, Dp.dIf, Dp.dIfS, Dp.dRet, Dp.dRetN, Dp.dExpr, Dp.dPar, Dp.dPar3, Dp.dNext, Dp.dNever, Dp.dBrk, Dp.dCont, Dp.dgTup, Dp.dgCons, Dp.dgNil, Dp.dCall, Dp.dCons, Dp.dNil, Dp.dTup, Dp.dLst, Dp.dLstM, Dp.dNewK, Dp.dCallF, Dp.dMethF, Dp.dMake, Dp.dMakeF, Dp.dFldS, Dp.dPut, Dp.dBM, Dp.dGet1, Dp.dGet2, Dp.dPop1, Dp.dPop2, Dp.dStar, Dp.dIx, Dp.dAdd, Dp.dSub, Dp.dMul, Dp.dMod, Dp.dFdiv, Dp.dPow, Dp.dNeg, Dp.dAugN, Dp.dAugS, Dp.dAugF, Dp.dAugI, Dp.dLtS, Dp.dLe, Dp.dGt, Dp.dGe, Dp.dOrd, Dp.dBetween, Dp.dIsN, Dp.dEq, Dp.dEqK, Dp.dIn, Dp.dstart, List.map_cons, List.map_nil, List.length_cons, List.length_nil, List.cons_append, List.nil_append, List.replicate, List.getElem?_cons_zero, List.getElem?_cons_succ, List.set_cons_zero, List.set_cons_succ, Nat.reduceAdd, Nat.reduceSub, if_true, if_false, Bool.false_eq_true, Bool.not_true, Bool.not_false, Dp.v_non, Dp.v_bl, Dp.v_int, Dp.v_str, Dp.v_tup, Dp.v_lst, Dp.v_kls, Dp.v_dK, Dp.v_dT, Dp.v_ins, Dp.f_ins, Dp.da_dKs, Dp.da_dKi, Dp.ix_dKs, Dp.ix_dKi, Dp.ix_lst, Dp.ix_tup, Dp.ix_kls, Dp.lo_lst, Dp.lo_kls, Dp.io_lst, Dp.io_tup, Dp.io_kls, Dp.ki_lst, Dp.ki_tup, Dp.ki_dK, Dp.dd_dK, Dp.e_ii, Dp.e_ss, Dp.e_bb, Dp.inB_dK, Dp.inB_tup, Dp.inB_lst, Dp.dLen, Dp.dAbs, Dp.dInt1, Dp.dStr1, Dp.dIsi, Dp.dListOf, Dp.dTupOf, Dp.dSum, Dp.dAny, Dp.dAll, Dp.dSorted, Dp.dDictP, Dp.dDictD, Dp.dSortMet, Dp.dLenSet, Dp.dSortSet, Dp.dmApp, Dp.dmExt, Dp.dmPop, Dp.dmPopAt, Dp.dmRem, Dp.dmIdx, Dp.dSet, Dp.intOf, Dp.keyOf, Dp.dwipe, Dp.patD, Dp.patDs, Dp.ln_lst, Dp.ln_tup, Dp.ln_kls, Dp.ln_dK, Dp.dFor, Dp.dLc, Dp.dDc, Dp.dLc2, Dp.srcOf, Dp.dFrz, lk_Seats_scene, pa_Seats_scene, pt_Seats_scene, lk_Seats_seating, pa_Seats_seating, pt_Seats_seating, lk_Seats_seated, pa_Seats_seated, pt_Seats_seated, lk_Kept_lot, pa_Kept_lot, pt_Kept_lot, lk_Kept_seating, pa_Kept_seating, pt_Kept_seating, lk_Kept_papers, pa_Kept_papers, pt_Kept_papers, lk_Call_worth, pa_Call_worth, pt_Call_worth, lk_Call_heard, pa_Call_heard, pt_Call_heard, lk_Scene_channels, pa_Scene_channels, pt_Scene_channels, lk_Scene_calls, pa_Scene_calls, pt_Scene_calls, dictRows]
  refine for_i (fun i Γ' M'' => M'' = M' ∧ ∃ o3 o4 o5 o6, Γ' = [some (.adr a), some (.dK (dChs s)), some (.dK (dCas d s)), o3, o4, o5, o6]) ⟨rfl, _, _, _, _, rfl⟩ (fun _ _ _ _ _ => trivial) ?_ ?_
  · rintro i x Γ' M'' hx ⟨rfl, o3, o4, o5, o6, rfl⟩
    unfold dCas at hx
    rw [kd_rows, List.getElem?_map] at hx
    obtain ⟨p, hp, rfl⟩ := Option.map_eq_some_iff.mp hx
    have hpm := List.mem_of_getElem? hp
    have hna := hs.na p hpm
    refine ⟨_, rfl, fun bk _ => ?_⟩
    simp only [Dp.dSeq, Dp.dAsg, Dp.dgN, Dp.dVar, Dp.dC, Dp.dUn, Dp.dOp, Dp.dFld, Dp.dTst, Dp.dAnd, Dp.dOr, Dp.dNot, Dp.dAndV, Dp.dOrV, Dp.dNotV, Dp.dIf, Dp.dIfS, Dp.dRet, Dp.dRetN, Dp.dExpr, Dp.dPar, Dp.dPar3, Dp.dNext, Dp.dNever, Dp.dBrk, Dp.dCont, Dp.dgTup, Dp.dgCons, Dp.dgNil, Dp.dCall, Dp.dCons, Dp.dNil, Dp.dTup, Dp.dLst, Dp.dLstM, Dp.dNewK, Dp.dCallF, Dp.dMethF, Dp.dMake, Dp.dMakeF, Dp.dFldS, Dp.dPut, Dp.dBM, Dp.dGet1, Dp.dGet2, Dp.dPop1, Dp.dPop2, Dp.dStar, Dp.dIx, Dp.dAdd, Dp.dSub, Dp.dMul, Dp.dMod, Dp.dFdiv, Dp.dPow, Dp.dNeg, Dp.dAugN, Dp.dAugS, Dp.dAugF, Dp.dAugI, Dp.dLtS, Dp.dLe, Dp.dGt, Dp.dGe, Dp.dOrd, Dp.dBetween, Dp.dIsN, Dp.dEq, Dp.dEqK, Dp.dIn, Dp.dstart, List.map_cons, List.map_nil, List.length_cons, List.length_nil, List.cons_append, List.nil_append, List.replicate, List.getElem?_cons_zero, List.getElem?_cons_succ, List.set_cons_zero, List.set_cons_succ, Nat.reduceAdd, Nat.reduceSub, if_true, if_false, Bool.false_eq_true, Bool.not_true, Bool.not_false, Dp.v_non, Dp.v_bl, Dp.v_int, Dp.v_str, Dp.v_tup, Dp.v_lst, Dp.v_kls, Dp.v_dK, Dp.v_dT, Dp.v_ins, Dp.f_ins, Dp.da_dKs, Dp.da_dKi, Dp.ix_dKs, Dp.ix_dKi, Dp.ix_lst, Dp.ix_tup, Dp.ix_kls, Dp.lo_lst, Dp.lo_kls, Dp.io_lst, Dp.io_tup, Dp.io_kls, Dp.ki_lst, Dp.ki_tup, Dp.ki_dK, Dp.dd_dK, Dp.e_ii, Dp.e_ss, Dp.e_bb, Dp.inB_dK, Dp.inB_tup, Dp.inB_lst, Dp.dLen, Dp.dAbs, Dp.dInt1, Dp.dStr1, Dp.dIsi, Dp.dListOf, Dp.dTupOf, Dp.dSum, Dp.dAny, Dp.dAll, Dp.dSorted, Dp.dDictP, Dp.dDictD, Dp.dSortMet, Dp.dLenSet, Dp.dSortSet, Dp.dmApp, Dp.dmExt, Dp.dmPop, Dp.dmPopAt, Dp.dmRem, Dp.dmIdx, Dp.dSet, Dp.intOf, Dp.keyOf, Dp.dwipe, Dp.patD, Dp.patDs, Dp.ln_lst, Dp.ln_tup, Dp.ln_kls, Dp.ln_dK, Dp.dFor, Dp.dLc, Dp.dDc, Dp.dLc2, Dp.srcOf, Dp.dFrz, lk_Seats_scene, pa_Seats_scene, pt_Seats_scene, lk_Seats_seating, pa_Seats_seating, pt_Seats_seating, lk_Seats_seated, pa_Seats_seated, pt_Seats_seated, lk_Kept_lot, pa_Kept_lot, pt_Kept_lot, lk_Kept_seating, pa_Kept_seating, pt_Kept_seating, lk_Kept_papers, pa_Kept_papers, pt_Kept_papers, lk_Call_worth, pa_Call_worth, pt_Call_worth, lk_Call_heard, pa_Call_heard, pt_Call_heard, lk_Scene_channels, pa_Scene_channels, pt_Scene_channels, lk_Scene_calls, pa_Scene_calls, pt_Scene_calls]
    refine ⟨p.1, rfl, by have := (isName_ok hna).2.1; omega, ?_⟩
    rw [hna]
    simp only [Dp.dSeq, Dp.dAsg, Dp.dgN, Dp.dVar, Dp.dC, Dp.dUn, Dp.dOp, Dp.dFld, Dp.dTst, Dp.dAnd, Dp.dOr, Dp.dNot, Dp.dAndV, Dp.dOrV, Dp.dNotV, Dp.dIf, Dp.dIfS, Dp.dRet, Dp.dRetN, Dp.dExpr, Dp.dPar, Dp.dPar3, Dp.dNext, Dp.dNever, Dp.dBrk, Dp.dCont, Dp.dgTup, Dp.dgCons, Dp.dgNil, Dp.dCall, Dp.dCons, Dp.dNil, Dp.dTup, Dp.dLst, Dp.dLstM, Dp.dNewK, Dp.dCallF, Dp.dMethF, Dp.dMake, Dp.dMakeF, Dp.dFldS, Dp.dPut, Dp.dBM, Dp.dGet1, Dp.dGet2, Dp.dPop1, Dp.dPop2, Dp.dStar, Dp.dIx, Dp.dAdd, Dp.dSub, Dp.dMul, Dp.dMod, Dp.dFdiv, Dp.dPow, Dp.dNeg, Dp.dAugN, Dp.dAugS, Dp.dAugF, Dp.dAugI, Dp.dLtS, Dp.dLe, Dp.dGt, Dp.dGe, Dp.dOrd, Dp.dBetween, Dp.dIsN, Dp.dEq, Dp.dEqK, Dp.dIn, Dp.dstart, List.map_cons, List.map_nil, List.length_cons, List.length_nil, List.cons_append, List.nil_append, List.replicate, List.getElem?_cons_zero, List.getElem?_cons_succ, List.set_cons_zero, List.set_cons_succ, Nat.reduceAdd, Nat.reduceSub, if_true, if_false, Bool.false_eq_true, Bool.not_true, Bool.not_false, Dp.v_non, Dp.v_bl, Dp.v_int, Dp.v_str, Dp.v_tup, Dp.v_lst, Dp.v_kls, Dp.v_dK, Dp.v_dT, Dp.v_ins, Dp.f_ins, Dp.da_dKs, Dp.da_dKi, Dp.ix_dKs, Dp.ix_dKi, Dp.ix_lst, Dp.ix_tup, Dp.ix_kls, Dp.lo_lst, Dp.lo_kls, Dp.io_lst, Dp.io_tup, Dp.io_kls, Dp.ki_lst, Dp.ki_tup, Dp.ki_dK, Dp.dd_dK, Dp.e_ii, Dp.e_ss, Dp.e_bb, Dp.inB_dK, Dp.inB_tup, Dp.inB_lst, Dp.dLen, Dp.dAbs, Dp.dInt1, Dp.dStr1, Dp.dIsi, Dp.dListOf, Dp.dTupOf, Dp.dSum, Dp.dAny, Dp.dAll, Dp.dSorted, Dp.dDictP, Dp.dDictD, Dp.dSortMet, Dp.dLenSet, Dp.dSortSet, Dp.dmApp, Dp.dmExt, Dp.dmPop, Dp.dmPopAt, Dp.dmRem, Dp.dmIdx, Dp.dSet, Dp.intOf, Dp.keyOf, Dp.dwipe, Dp.patD, Dp.patDs, Dp.ln_lst, Dp.ln_tup, Dp.ln_kls, Dp.ln_dK, Dp.dFor, Dp.dLc, Dp.dDc, Dp.dLc2, Dp.srcOf, Dp.dFrz, lk_Seats_scene, pa_Seats_scene, pt_Seats_scene, lk_Seats_seating, pa_Seats_seating, pt_Seats_seating, lk_Seats_seated, pa_Seats_seated, pt_Seats_seated, lk_Kept_lot, pa_Kept_lot, pt_Kept_lot, lk_Kept_seating, pa_Kept_seating, pt_Kept_seating, lk_Kept_papers, pa_Kept_papers, pt_Kept_papers, lk_Call_worth, pa_Call_worth, pt_Call_worth, lk_Call_heard, pa_Call_heard, pt_Call_heard, lk_Scene_channels, pa_Scene_channels, pt_Scene_channels, lk_Scene_calls, pa_Scene_calls, pt_Scene_calls, dCal]
    refine ⟨p.2.1, 0, 1000, rfl, ?_⟩
    have h2 := hs.wo p hpm
    have e : (decide (0 ≤ p.2.1) && decide (p.2.1 ≤ 1000)) = true := by simp [h2.1, h2.2]
    rw [e]
    simp only [Dp.dSeq, Dp.dAsg, Dp.dgN, Dp.dVar, Dp.dC, Dp.dUn, Dp.dOp, Dp.dFld, Dp.dTst, Dp.dAnd, Dp.dOr, Dp.dNot, Dp.dAndV, Dp.dOrV, Dp.dNotV, Dp.dIf, Dp.dIfS, Dp.dRet, Dp.dRetN, Dp.dExpr, Dp.dPar, Dp.dPar3, Dp.dNext, Dp.dNever, Dp.dBrk, Dp.dCont, Dp.dgTup, Dp.dgCons, Dp.dgNil, Dp.dCall, Dp.dCons, Dp.dNil, Dp.dTup, Dp.dLst, Dp.dLstM, Dp.dNewK, Dp.dCallF, Dp.dMethF, Dp.dMake, Dp.dMakeF, Dp.dFldS, Dp.dPut, Dp.dBM, Dp.dGet1, Dp.dGet2, Dp.dPop1, Dp.dPop2, Dp.dStar, Dp.dIx, Dp.dAdd, Dp.dSub, Dp.dMul, Dp.dMod, Dp.dFdiv, Dp.dPow, Dp.dNeg, Dp.dAugN, Dp.dAugS, Dp.dAugF, Dp.dAugI, Dp.dLtS, Dp.dLe, Dp.dGt, Dp.dGe, Dp.dOrd, Dp.dBetween, Dp.dIsN, Dp.dEq, Dp.dEqK, Dp.dIn, Dp.dstart, List.map_cons, List.map_nil, List.length_cons, List.length_nil, List.cons_append, List.nil_append, List.replicate, List.getElem?_cons_zero, List.getElem?_cons_succ, List.set_cons_zero, List.set_cons_succ, Nat.reduceAdd, Nat.reduceSub, if_true, if_false, Bool.false_eq_true, Bool.not_true, Bool.not_false, Dp.v_non, Dp.v_bl, Dp.v_int, Dp.v_str, Dp.v_tup, Dp.v_lst, Dp.v_kls, Dp.v_dK, Dp.v_dT, Dp.v_ins, Dp.f_ins, Dp.da_dKs, Dp.da_dKi, Dp.ix_dKs, Dp.ix_dKi, Dp.ix_lst, Dp.ix_tup, Dp.ix_kls, Dp.lo_lst, Dp.lo_kls, Dp.io_lst, Dp.io_tup, Dp.io_kls, Dp.ki_lst, Dp.ki_tup, Dp.ki_dK, Dp.dd_dK, Dp.e_ii, Dp.e_ss, Dp.e_bb, Dp.inB_dK, Dp.inB_tup, Dp.inB_lst, Dp.dLen, Dp.dAbs, Dp.dInt1, Dp.dStr1, Dp.dIsi, Dp.dListOf, Dp.dTupOf, Dp.dSum, Dp.dAny, Dp.dAll, Dp.dSorted, Dp.dDictP, Dp.dDictD, Dp.dSortMet, Dp.dLenSet, Dp.dSortSet, Dp.dmApp, Dp.dmExt, Dp.dmPop, Dp.dmPopAt, Dp.dmRem, Dp.dmIdx, Dp.dSet, Dp.intOf, Dp.keyOf, Dp.dwipe, Dp.patD, Dp.patDs, Dp.ln_lst, Dp.ln_tup, Dp.ln_kls, Dp.ln_dK, Dp.dFor, Dp.dLc, Dp.dDc, Dp.dLc2, Dp.srcOf, Dp.dFrz, lk_Seats_scene, pa_Seats_scene, pt_Seats_scene, lk_Seats_seating, pa_Seats_seating, pt_Seats_seating, lk_Seats_seated, pa_Seats_seated, pt_Seats_seated, lk_Kept_lot, pa_Kept_lot, pt_Kept_lot, lk_Kept_seating, pa_Kept_seating, pt_Kept_seating, lk_Kept_papers, pa_Kept_papers, pt_Kept_papers, lk_Call_worth, pa_Call_worth, pt_Call_worth, lk_Call_heard, pa_Call_heard, pt_Call_heard, lk_Scene_channels, pa_Scene_channels, pt_Scene_channels, lk_Scene_calls, pa_Scene_calls, pt_Scene_calls]
    have hin : ∀ x ∈ p.2.2, (look (dChs s) (Sum.inr x)).isSome = true := fun x hx => by
      rw [look_ch]
      obtain ⟨v, hv⟩ := lookup_of (hs.he p hpm x hx)
      rw [hv]; rfl
    refine lc_map p.2.2 D.str (fun _ => .bl true) (fun _ _ => trivial) (fun x hx M' le => ⟨_, rfl, fun K' hK' => ?_⟩) fun c hc => ?_
    · simp only [Dp.dSeq, Dp.dAsg, Dp.dgN, Dp.dVar, Dp.dC, Dp.dUn, Dp.dOp, Dp.dFld, Dp.dTst, Dp.dAnd, Dp.dOr, Dp.dNot, Dp.dAndV, Dp.dOrV, Dp.dNotV, Dp.dIf, Dp.dIfS, Dp.dRet, Dp.dRetN, Dp.dExpr, Dp.dPar, Dp.dPar3, Dp.dNext, Dp.dNever, Dp.dBrk, Dp.dCont, Dp.dgTup, Dp.dgCons, Dp.dgNil, Dp.dCall, Dp.dCons, Dp.dNil, Dp.dTup, Dp.dLst, Dp.dLstM, Dp.dNewK, Dp.dCallF, Dp.dMethF, Dp.dMake, Dp.dMakeF, Dp.dFldS, Dp.dPut, Dp.dBM, Dp.dGet1, Dp.dGet2, Dp.dPop1, Dp.dPop2, Dp.dStar, Dp.dIx, Dp.dAdd, Dp.dSub, Dp.dMul, Dp.dMod, Dp.dFdiv, Dp.dPow, Dp.dNeg, Dp.dAugN, Dp.dAugS, Dp.dAugF, Dp.dAugI, Dp.dLtS, Dp.dLe, Dp.dGt, Dp.dGe, Dp.dOrd, Dp.dBetween, Dp.dIsN, Dp.dEq, Dp.dEqK, Dp.dIn, Dp.dstart, List.map_cons, List.map_nil, List.length_cons, List.length_nil, List.cons_append, List.nil_append, List.replicate, List.getElem?_cons_zero, List.getElem?_cons_succ, List.set_cons_zero, List.set_cons_succ, Nat.reduceAdd, Nat.reduceSub, if_true, if_false, Bool.false_eq_true, Bool.not_true, Bool.not_false, Dp.v_non, Dp.v_bl, Dp.v_int, Dp.v_str, Dp.v_tup, Dp.v_lst, Dp.v_kls, Dp.v_dK, Dp.v_dT, Dp.v_ins, Dp.f_ins, Dp.da_dKs, Dp.da_dKi, Dp.ix_dKs, Dp.ix_dKi, Dp.ix_lst, Dp.ix_tup, Dp.ix_kls, Dp.lo_lst, Dp.lo_kls, Dp.io_lst, Dp.io_tup, Dp.io_kls, Dp.ki_lst, Dp.ki_tup, Dp.ki_dK, Dp.dd_dK, Dp.e_ii, Dp.e_ss, Dp.e_bb, Dp.inB_dK, Dp.inB_tup, Dp.inB_lst, Dp.dLen, Dp.dAbs, Dp.dInt1, Dp.dStr1, Dp.dIsi, Dp.dListOf, Dp.dTupOf, Dp.dSum, Dp.dAny, Dp.dAll, Dp.dSorted, Dp.dDictP, Dp.dDictD, Dp.dSortMet, Dp.dLenSet, Dp.dSortSet, Dp.dmApp, Dp.dmExt, Dp.dmPop, Dp.dmPopAt, Dp.dmRem, Dp.dmIdx, Dp.dSet, Dp.intOf, Dp.keyOf, Dp.dwipe, Dp.patD, Dp.patDs, Dp.ln_lst, Dp.ln_tup, Dp.ln_kls, Dp.ln_dK, Dp.dFor, Dp.dLc, Dp.dDc, Dp.dLc2, Dp.srcOf, Dp.dFrz, lk_Seats_scene, pa_Seats_scene, pt_Seats_scene, lk_Seats_seating, pa_Seats_seating, pt_Seats_seating, lk_Seats_seated, pa_Seats_seated, pt_Seats_seated, lk_Kept_lot, pa_Kept_lot, pt_Kept_lot, lk_Kept_seating, pa_Kept_seating, pt_Kept_seating, lk_Kept_papers, pa_Kept_papers, pt_Kept_papers, lk_Call_worth, pa_Call_worth, pt_Call_worth, lk_Call_heard, pa_Call_heard, pt_Call_heard, lk_Scene_channels, pa_Scene_channels, pt_Scene_channels, lk_Scene_calls, pa_Scene_calls, pt_Scene_calls, hin x hx]; exact hK'
    · have e1 : (blsOf (p.2.2.map fun _ => D.bl true)) = some (p.2.2.map fun _ => true) := blsOf_mapf _ _
      have e2 : (p.2.2.map fun _ => true).all id = true := by rw [List.all_map, List.all_eq_true]; intro x _; rfl
      have e3 : dedup (p.2.2.map Sum.inr) = p.2.2.map Sum.inr := dedup_id (inr_nodup (hs.hn p hpm))
      have e4 : p.2.2.length ≤ 500 := by
        have := nodup_sub (hs.hn p hpm) (hs.he p hpm)
        rw [List.length_map] at this
        exact Nat.le_trans this hs.lc
      have e5 : scanBound = 4096 := rfl
      simp only [Dp.dSeq, Dp.dAsg, Dp.dgN, Dp.dVar, Dp.dC, Dp.dUn, Dp.dOp, Dp.dFld, Dp.dTst, Dp.dAnd, Dp.dOr, Dp.dNot, Dp.dAndV, Dp.dOrV, Dp.dNotV, Dp.dIf, Dp.dIfS, Dp.dRet, Dp.dRetN, Dp.dExpr, Dp.dPar, Dp.dPar3, Dp.dNext, Dp.dNever, Dp.dBrk, Dp.dCont, Dp.dgTup, Dp.dgCons, Dp.dgNil, Dp.dCall, Dp.dCons, Dp.dNil, Dp.dTup, Dp.dLst, Dp.dLstM, Dp.dNewK, Dp.dCallF, Dp.dMethF, Dp.dMake, Dp.dMakeF, Dp.dFldS, Dp.dPut, Dp.dBM, Dp.dGet1, Dp.dGet2, Dp.dPop1, Dp.dPop2, Dp.dStar, Dp.dIx, Dp.dAdd, Dp.dSub, Dp.dMul, Dp.dMod, Dp.dFdiv, Dp.dPow, Dp.dNeg, Dp.dAugN, Dp.dAugS, Dp.dAugF, Dp.dAugI, Dp.dLtS, Dp.dLe, Dp.dGt, Dp.dGe, Dp.dOrd, Dp.dBetween, Dp.dIsN, Dp.dEq, Dp.dEqK, Dp.dIn, Dp.dstart, List.map_cons, List.map_nil, List.length_cons, List.length_nil, List.cons_append, List.nil_append, List.replicate, List.getElem?_cons_zero, List.getElem?_cons_succ, List.set_cons_zero, List.set_cons_succ, Nat.reduceAdd, Nat.reduceSub, if_true, if_false, Bool.false_eq_true, Bool.not_true, Bool.not_false, Dp.v_non, Dp.v_bl, Dp.v_int, Dp.v_str, Dp.v_tup, Dp.v_lst, Dp.v_kls, Dp.v_dK, Dp.v_dT, Dp.v_ins, Dp.f_ins, Dp.da_dKs, Dp.da_dKi, Dp.ix_dKs, Dp.ix_dKi, Dp.ix_lst, Dp.ix_tup, Dp.ix_kls, Dp.lo_lst, Dp.lo_kls, Dp.io_lst, Dp.io_tup, Dp.io_kls, Dp.ki_lst, Dp.ki_tup, Dp.ki_dK, Dp.dd_dK, Dp.e_ii, Dp.e_ss, Dp.e_bb, Dp.inB_dK, Dp.inB_tup, Dp.inB_lst, Dp.dLen, Dp.dAbs, Dp.dInt1, Dp.dStr1, Dp.dIsi, Dp.dListOf, Dp.dTupOf, Dp.dSum, Dp.dAny, Dp.dAll, Dp.dSorted, Dp.dDictP, Dp.dDictD, Dp.dSortMet, Dp.dLenSet, Dp.dSortSet, Dp.dmApp, Dp.dmExt, Dp.dmPop, Dp.dmPopAt, Dp.dmRem, Dp.dmIdx, Dp.dSet, Dp.intOf, Dp.keyOf, Dp.dwipe, Dp.patD, Dp.patDs, Dp.ln_lst, Dp.ln_tup, Dp.ln_kls, Dp.ln_dK, Dp.dFor, Dp.dLc, Dp.dDc, Dp.dLc2, Dp.srcOf, Dp.dFrz, lk_Seats_scene, pa_Seats_scene, pt_Seats_scene, lk_Seats_seating, pa_Seats_seating, pt_Seats_seating, lk_Seats_seated, pa_Seats_seated, pt_Seats_seated, lk_Kept_lot, pa_Kept_lot, pt_Kept_lot, lk_Kept_seating, pa_Kept_seating, pt_Kept_seating, lk_Kept_papers, pa_Kept_papers, pt_Kept_papers, lk_Call_worth, pa_Call_worth, pt_Call_worth, lk_Call_heard, pa_Call_heard, pt_Call_heard, lk_Scene_channels, pa_Scene_channels, pt_Scene_channels, lk_Scene_calls, pa_Scene_calls, pt_Scene_calls, e1, e2, Option.bind_some, keysOf_strs, e3, List.length_map, decide_true]
      exact ⟨by omega, mdel_mup hc, _, _, _, _, rfl⟩
  rintro Γ' M'' ⟨rfl, o3, o4, o5, o6, rfl⟩
  simp only [Dp.dSeq, Dp.dAsg, Dp.dgN, Dp.dVar, Dp.dC, Dp.dUn, Dp.dOp, Dp.dFld, Dp.dTst, Dp.dAnd, Dp.dOr, Dp.dNot, Dp.dAndV, Dp.dOrV, Dp.dNotV, Dp.dIf, Dp.dIfS, Dp.dRet, Dp.dRetN, Dp.dExpr, Dp.dPar, Dp.dPar3, Dp.dNext, Dp.dNever, Dp.dBrk, Dp.dCont, Dp.dgTup, Dp.dgCons, Dp.dgNil, Dp.dCall, Dp.dCons, Dp.dNil, Dp.dTup, Dp.dLst, Dp.dLstM, Dp.dNewK, Dp.dCallF, Dp.dMethF, Dp.dMake, Dp.dMakeF, Dp.dFldS, Dp.dPut, Dp.dBM, Dp.dGet1, Dp.dGet2, Dp.dPop1, Dp.dPop2, Dp.dStar, Dp.dIx, Dp.dAdd, Dp.dSub, Dp.dMul, Dp.dMod, Dp.dFdiv, Dp.dPow, Dp.dNeg, Dp.dAugN, Dp.dAugS, Dp.dAugF, Dp.dAugI, Dp.dLtS, Dp.dLe, Dp.dGt, Dp.dGe, Dp.dOrd, Dp.dBetween, Dp.dIsN, Dp.dEq, Dp.dEqK, Dp.dIn, Dp.dstart, List.map_cons, List.map_nil, List.length_cons, List.length_nil, List.cons_append, List.nil_append, List.replicate, List.getElem?_cons_zero, List.getElem?_cons_succ, List.set_cons_zero, List.set_cons_succ, Nat.reduceAdd, Nat.reduceSub, if_true, if_false, Bool.false_eq_true, Bool.not_true, Bool.not_false, Dp.v_non, Dp.v_bl, Dp.v_int, Dp.v_str, Dp.v_tup, Dp.v_lst, Dp.v_kls, Dp.v_dK, Dp.v_dT, Dp.v_ins, Dp.f_ins, Dp.da_dKs, Dp.da_dKi, Dp.ix_dKs, Dp.ix_dKi, Dp.ix_lst, Dp.ix_tup, Dp.ix_kls, Dp.lo_lst, Dp.lo_kls, Dp.io_lst, Dp.io_tup, Dp.io_kls, Dp.ki_lst, Dp.ki_tup, Dp.ki_dK, Dp.dd_dK, Dp.e_ii, Dp.e_ss, Dp.e_bb, Dp.inB_dK, Dp.inB_tup, Dp.inB_lst, Dp.dLen, Dp.dAbs, Dp.dInt1, Dp.dStr1, Dp.dIsi, Dp.dListOf, Dp.dTupOf, Dp.dSum, Dp.dAny, Dp.dAll, Dp.dSorted, Dp.dDictP, Dp.dDictD, Dp.dSortMet, Dp.dLenSet, Dp.dSortSet, Dp.dmApp, Dp.dmExt, Dp.dmPop, Dp.dmPopAt, Dp.dmRem, Dp.dmIdx, Dp.dSet, Dp.intOf, Dp.keyOf, Dp.dwipe, Dp.patD, Dp.patDs, Dp.ln_lst, Dp.ln_tup, Dp.ln_kls, Dp.ln_dK, Dp.dFor, Dp.dLc, Dp.dDc, Dp.dLc2, Dp.srcOf, Dp.dFrz, lk_Seats_scene, pa_Seats_scene, pt_Seats_scene, lk_Seats_seating, pa_Seats_seating, pt_Seats_seating, lk_Seats_seated, pa_Seats_seated, pt_Seats_seated, lk_Kept_lot, pa_Kept_lot, pt_Kept_lot, lk_Kept_seating, pa_Kept_seating, pt_Kept_seating, lk_Kept_papers, pa_Kept_papers, pt_Kept_papers, lk_Call_worth, pa_Call_worth, pt_Call_worth, lk_Call_heard, pa_Call_heard, pt_Call_heard, lk_Scene_channels, pa_Scene_channels, pt_Scene_channels, lk_Scene_calls, pa_Scene_calls, pt_Scene_calls, keys_str]
  have kc : ((dChs s).map fun kv => kD kv.1) = (s.ch.map (·.1)).map D.str := keys_str _ _
  have ka : ((dCas d s).map fun kv => kD kv.1) = (s.ca.map (·.1)).map D.str := keys_str _ _
  rw [kc]
  refine ⟨keyOk_strs hok, ?_⟩
  rw [srt_strs]
  refine dc_pure (ssort (s.ch.map (·.1))) D.str (fun _ => true) Sum.inr (fun x => ((s.ch.lookup x).map D.int).getD .non) (fun _ _ => trivial) ?_ fun c hc => ?_
  · intro x hx M' le
    refine ⟨_, rfl, fun K' hK' => hK' fun _ => ⟨fun K2 h2 => ?_, fun K2 h2 => ?_⟩⟩
    · simp only [Dp.dSeq, Dp.dAsg, Dp.dgN, Dp.dVar, Dp.dC, Dp.dUn, Dp.dOp, Dp.dFld, Dp.dTst, Dp.dAnd, Dp.dOr, Dp.dNot, Dp.dAndV, Dp.dOrV, Dp.dNotV, Dp.dIf, Dp.dIfS, Dp.dRet, Dp.dRetN, Dp.dExpr, Dp.dPar, Dp.dPar3, Dp.dNext, Dp.dNever, Dp.dBrk, Dp.dCont, Dp.dgTup, Dp.dgCons, Dp.dgNil, Dp.dCall, Dp.dCons, Dp.dNil, Dp.dTup, Dp.dLst, Dp.dLstM, Dp.dNewK, Dp.dCallF, Dp.dMethF, Dp.dMake, Dp.dMakeF, Dp.dFldS, Dp.dPut, Dp.dBM, Dp.dGet1, Dp.dGet2, Dp.dPop1, Dp.dPop2, Dp.dStar, Dp.dIx, Dp.dAdd, Dp.dSub, Dp.dMul, Dp.dMod, Dp.dFdiv, Dp.dPow, Dp.dNeg, Dp.dAugN, Dp.dAugS, Dp.dAugF, Dp.dAugI, Dp.dLtS, Dp.dLe, Dp.dGt, Dp.dGe, Dp.dOrd, Dp.dBetween, Dp.dIsN, Dp.dEq, Dp.dEqK, Dp.dIn, Dp.dstart, List.map_cons, List.map_nil, List.length_cons, List.length_nil, List.cons_append, List.nil_append, List.replicate, List.getElem?_cons_zero, List.getElem?_cons_succ, List.set_cons_zero, List.set_cons_succ, Nat.reduceAdd, Nat.reduceSub, if_true, if_false, Bool.false_eq_true, Bool.not_true, Bool.not_false, Dp.v_non, Dp.v_bl, Dp.v_int, Dp.v_str, Dp.v_tup, Dp.v_lst, Dp.v_kls, Dp.v_dK, Dp.v_dT, Dp.v_ins, Dp.f_ins, Dp.da_dKs, Dp.da_dKi, Dp.ix_dKs, Dp.ix_dKi, Dp.ix_lst, Dp.ix_tup, Dp.ix_kls, Dp.lo_lst, Dp.lo_kls, Dp.io_lst, Dp.io_tup, Dp.io_kls, Dp.ki_lst, Dp.ki_tup, Dp.ki_dK, Dp.dd_dK, Dp.e_ii, Dp.e_ss, Dp.e_bb, Dp.inB_dK, Dp.inB_tup, Dp.inB_lst, Dp.dLen, Dp.dAbs, Dp.dInt1, Dp.dStr1, Dp.dIsi, Dp.dListOf, Dp.dTupOf, Dp.dSum, Dp.dAny, Dp.dAll, Dp.dSorted, Dp.dDictP, Dp.dDictD, Dp.dSortMet, Dp.dLenSet, Dp.dSortSet, Dp.dmApp, Dp.dmExt, Dp.dmPop, Dp.dmPopAt, Dp.dmRem, Dp.dmIdx, Dp.dSet, Dp.intOf, Dp.keyOf, Dp.dwipe, Dp.patD, Dp.patDs, Dp.ln_lst, Dp.ln_tup, Dp.ln_kls, Dp.ln_dK, Dp.dFor, Dp.dLc, Dp.dDc, Dp.dLc2, Dp.srcOf, Dp.dFrz, lk_Seats_scene, pa_Seats_scene, pt_Seats_scene, lk_Seats_seating, pa_Seats_seating, pt_Seats_seating, lk_Seats_seated, pa_Seats_seated, pt_Seats_seated, lk_Kept_lot, pa_Kept_lot, pt_Kept_lot, lk_Kept_seating, pa_Kept_seating, pt_Kept_seating, lk_Kept_papers, pa_Kept_papers, pt_Kept_papers, lk_Call_worth, pa_Call_worth, pt_Call_worth, lk_Call_heard, pa_Call_heard, pt_Call_heard, lk_Scene_channels, pa_Scene_channels, pt_Scene_channels, lk_Scene_calls, pa_Scene_calls, pt_Scene_calls]; exact h2
    · have hx' : x ∈ s.ch.map (·.1) := (ssort_perm _).mem_iff.mp hx
      obtain ⟨v, hv⟩ := lookup_of hx'
      simp only [Dp.dSeq, Dp.dAsg, Dp.dgN, Dp.dVar, Dp.dC, Dp.dUn, Dp.dOp, Dp.dFld, Dp.dTst, Dp.dAnd, Dp.dOr, Dp.dNot, Dp.dAndV, Dp.dOrV, Dp.dNotV, Dp.dIf, Dp.dIfS, Dp.dRet, Dp.dRetN, Dp.dExpr, Dp.dPar, Dp.dPar3, Dp.dNext, Dp.dNever, Dp.dBrk, Dp.dCont, Dp.dgTup, Dp.dgCons, Dp.dgNil, Dp.dCall, Dp.dCons, Dp.dNil, Dp.dTup, Dp.dLst, Dp.dLstM, Dp.dNewK, Dp.dCallF, Dp.dMethF, Dp.dMake, Dp.dMakeF, Dp.dFldS, Dp.dPut, Dp.dBM, Dp.dGet1, Dp.dGet2, Dp.dPop1, Dp.dPop2, Dp.dStar, Dp.dIx, Dp.dAdd, Dp.dSub, Dp.dMul, Dp.dMod, Dp.dFdiv, Dp.dPow, Dp.dNeg, Dp.dAugN, Dp.dAugS, Dp.dAugF, Dp.dAugI, Dp.dLtS, Dp.dLe, Dp.dGt, Dp.dGe, Dp.dOrd, Dp.dBetween, Dp.dIsN, Dp.dEq, Dp.dEqK, Dp.dIn, Dp.dstart, List.map_cons, List.map_nil, List.length_cons, List.length_nil, List.cons_append, List.nil_append, List.replicate, List.getElem?_cons_zero, List.getElem?_cons_succ, List.set_cons_zero, List.set_cons_succ, Nat.reduceAdd, Nat.reduceSub, if_true, if_false, Bool.false_eq_true, Bool.not_true, Bool.not_false, Dp.v_non, Dp.v_bl, Dp.v_int, Dp.v_str, Dp.v_tup, Dp.v_lst, Dp.v_kls, Dp.v_dK, Dp.v_dT, Dp.v_ins, Dp.f_ins, Dp.da_dKs, Dp.da_dKi, Dp.ix_dKs, Dp.ix_dKi, Dp.ix_lst, Dp.ix_tup, Dp.ix_kls, Dp.lo_lst, Dp.lo_kls, Dp.io_lst, Dp.io_tup, Dp.io_kls, Dp.ki_lst, Dp.ki_tup, Dp.ki_dK, Dp.dd_dK, Dp.e_ii, Dp.e_ss, Dp.e_bb, Dp.inB_dK, Dp.inB_tup, Dp.inB_lst, Dp.dLen, Dp.dAbs, Dp.dInt1, Dp.dStr1, Dp.dIsi, Dp.dListOf, Dp.dTupOf, Dp.dSum, Dp.dAny, Dp.dAll, Dp.dSorted, Dp.dDictP, Dp.dDictD, Dp.dSortMet, Dp.dLenSet, Dp.dSortSet, Dp.dmApp, Dp.dmExt, Dp.dmPop, Dp.dmPopAt, Dp.dmRem, Dp.dmIdx, Dp.dSet, Dp.intOf, Dp.keyOf, Dp.dwipe, Dp.patD, Dp.patDs, Dp.ln_lst, Dp.ln_tup, Dp.ln_kls, Dp.ln_dK, Dp.dFor, Dp.dLc, Dp.dDc, Dp.dLc2, Dp.srcOf, Dp.dFrz, lk_Seats_scene, pa_Seats_scene, pt_Seats_scene, lk_Seats_seating, pa_Seats_seating, pt_Seats_seating, lk_Seats_seated, pa_Seats_seated, pt_Seats_seated, lk_Kept_lot, pa_Kept_lot, pt_Kept_lot, lk_Kept_seating, pa_Kept_seating, pt_Kept_seating, lk_Kept_papers, pa_Kept_papers, pt_Kept_papers, lk_Call_worth, pa_Call_worth, pt_Call_worth, lk_Call_heard, pa_Call_heard, pt_Call_heard, lk_Scene_channels, pa_Scene_channels, pt_Scene_channels, lk_Scene_calls, pa_Scene_calls, pt_Scene_calls, look_ch, hv, Option.map_some]
      rw [hv] at h2
      exact ⟨trivial, h2⟩
  rw [filter_true, merge_rsrt s.ch D.int hs.dm, mdel_mup hc]
  have r1 : (rsrt s.ch).map (fun p => ((Sum.inr p.1 : Sum Int Str), D.int p.2)) = dChs s.srt := rfl
  rw [r1]
  simp only [Dp.dSeq, Dp.dAsg, Dp.dgN, Dp.dVar, Dp.dC, Dp.dUn, Dp.dOp, Dp.dFld, Dp.dTst, Dp.dAnd, Dp.dOr, Dp.dNot, Dp.dAndV, Dp.dOrV, Dp.dNotV, Dp.dIf, Dp.dIfS, Dp.dRet, Dp.dRetN, Dp.dExpr, Dp.dPar, Dp.dPar3, Dp.dNext, Dp.dNever, Dp.dBrk, Dp.dCont, Dp.dgTup, Dp.dgCons, Dp.dgNil, Dp.dCall, Dp.dCons, Dp.dNil, Dp.dTup, Dp.dLst, Dp.dLstM, Dp.dNewK, Dp.dCallF, Dp.dMethF, Dp.dMake, Dp.dMakeF, Dp.dFldS, Dp.dPut, Dp.dBM, Dp.dGet1, Dp.dGet2, Dp.dPop1, Dp.dPop2, Dp.dStar, Dp.dIx, Dp.dAdd, Dp.dSub, Dp.dMul, Dp.dMod, Dp.dFdiv, Dp.dPow, Dp.dNeg, Dp.dAugN, Dp.dAugS, Dp.dAugF, Dp.dAugI, Dp.dLtS, Dp.dLe, Dp.dGt, Dp.dGe, Dp.dOrd, Dp.dBetween, Dp.dIsN, Dp.dEq, Dp.dEqK, Dp.dIn, Dp.dstart, List.map_cons, List.map_nil, List.length_cons, List.length_nil, List.cons_append, List.nil_append, List.replicate, List.getElem?_cons_zero, List.getElem?_cons_succ, List.set_cons_zero, List.set_cons_succ, Nat.reduceAdd, Nat.reduceSub, if_true, if_false, Bool.false_eq_true, Bool.not_true, Bool.not_false, Dp.v_non, Dp.v_bl, Dp.v_int, Dp.v_str, Dp.v_tup, Dp.v_lst, Dp.v_kls, Dp.v_dK, Dp.v_dT, Dp.v_ins, Dp.f_ins, Dp.da_dKs, Dp.da_dKi, Dp.ix_dKs, Dp.ix_dKi, Dp.ix_lst, Dp.ix_tup, Dp.ix_kls, Dp.lo_lst, Dp.lo_kls, Dp.io_lst, Dp.io_tup, Dp.io_kls, Dp.ki_lst, Dp.ki_tup, Dp.ki_dK, Dp.dd_dK, Dp.e_ii, Dp.e_ss, Dp.e_bb, Dp.inB_dK, Dp.inB_tup, Dp.inB_lst, Dp.dLen, Dp.dAbs, Dp.dInt1, Dp.dStr1, Dp.dIsi, Dp.dListOf, Dp.dTupOf, Dp.dSum, Dp.dAny, Dp.dAll, Dp.dSorted, Dp.dDictP, Dp.dDictD, Dp.dSortMet, Dp.dLenSet, Dp.dSortSet, Dp.dmApp, Dp.dmExt, Dp.dmPop, Dp.dmPopAt, Dp.dmRem, Dp.dmIdx, Dp.dSet, Dp.intOf, Dp.keyOf, Dp.dwipe, Dp.patD, Dp.patDs, Dp.ln_lst, Dp.ln_tup, Dp.ln_kls, Dp.ln_dK, Dp.dFor, Dp.dLc, Dp.dDc, Dp.dLc2, Dp.srcOf, Dp.dFrz, lk_Seats_scene, pa_Seats_scene, pt_Seats_scene, lk_Seats_seating, pa_Seats_seating, pt_Seats_seating, lk_Seats_seated, pa_Seats_seated, pt_Seats_seated, lk_Kept_lot, pa_Kept_lot, pt_Kept_lot, lk_Kept_seating, pa_Kept_seating, pt_Kept_seating, lk_Kept_papers, pa_Kept_papers, pt_Kept_papers, lk_Call_worth, pa_Call_worth, pt_Call_worth, lk_Call_heard, pa_Call_heard, pt_Call_heard, lk_Scene_channels, pa_Scene_channels, pt_Scene_channels, lk_Scene_calls, pa_Scene_calls, pt_Scene_calls, hM]
  refine ⟨.inr T.fok_Scene_channels, by decide, ?_⟩
  rw [ka]
  refine ⟨keyOk_strs hoa, ?_⟩
  rw [srt_strs]
  refine dc_pure (ssort (s.ca.map (·.1))) D.str (fun _ => true) Sum.inr (fun x => ((s.ca.lookup x).map (dCal d)).getD .non) (fun _ _ => trivial) ?_ fun c' hc' => ?_
  · intro x hx M' le
    refine ⟨_, rfl, fun K' hK' => hK' fun _ => ⟨fun K2 h2 => ?_, fun K2 h2 => ?_⟩⟩
    · simp only [Dp.dSeq, Dp.dAsg, Dp.dgN, Dp.dVar, Dp.dC, Dp.dUn, Dp.dOp, Dp.dFld, Dp.dTst, Dp.dAnd, Dp.dOr, Dp.dNot, Dp.dAndV, Dp.dOrV, Dp.dNotV, Dp.dIf, Dp.dIfS, Dp.dRet, Dp.dRetN, Dp.dExpr, Dp.dPar, Dp.dPar3, Dp.dNext, Dp.dNever, Dp.dBrk, Dp.dCont, Dp.dgTup, Dp.dgCons, Dp.dgNil, Dp.dCall, Dp.dCons, Dp.dNil, Dp.dTup, Dp.dLst, Dp.dLstM, Dp.dNewK, Dp.dCallF, Dp.dMethF, Dp.dMake, Dp.dMakeF, Dp.dFldS, Dp.dPut, Dp.dBM, Dp.dGet1, Dp.dGet2, Dp.dPop1, Dp.dPop2, Dp.dStar, Dp.dIx, Dp.dAdd, Dp.dSub, Dp.dMul, Dp.dMod, Dp.dFdiv, Dp.dPow, Dp.dNeg, Dp.dAugN, Dp.dAugS, Dp.dAugF, Dp.dAugI, Dp.dLtS, Dp.dLe, Dp.dGt, Dp.dGe, Dp.dOrd, Dp.dBetween, Dp.dIsN, Dp.dEq, Dp.dEqK, Dp.dIn, Dp.dstart, List.map_cons, List.map_nil, List.length_cons, List.length_nil, List.cons_append, List.nil_append, List.replicate, List.getElem?_cons_zero, List.getElem?_cons_succ, List.set_cons_zero, List.set_cons_succ, Nat.reduceAdd, Nat.reduceSub, if_true, if_false, Bool.false_eq_true, Bool.not_true, Bool.not_false, Dp.v_non, Dp.v_bl, Dp.v_int, Dp.v_str, Dp.v_tup, Dp.v_lst, Dp.v_kls, Dp.v_dK, Dp.v_dT, Dp.v_ins, Dp.f_ins, Dp.da_dKs, Dp.da_dKi, Dp.ix_dKs, Dp.ix_dKi, Dp.ix_lst, Dp.ix_tup, Dp.ix_kls, Dp.lo_lst, Dp.lo_kls, Dp.io_lst, Dp.io_tup, Dp.io_kls, Dp.ki_lst, Dp.ki_tup, Dp.ki_dK, Dp.dd_dK, Dp.e_ii, Dp.e_ss, Dp.e_bb, Dp.inB_dK, Dp.inB_tup, Dp.inB_lst, Dp.dLen, Dp.dAbs, Dp.dInt1, Dp.dStr1, Dp.dIsi, Dp.dListOf, Dp.dTupOf, Dp.dSum, Dp.dAny, Dp.dAll, Dp.dSorted, Dp.dDictP, Dp.dDictD, Dp.dSortMet, Dp.dLenSet, Dp.dSortSet, Dp.dmApp, Dp.dmExt, Dp.dmPop, Dp.dmPopAt, Dp.dmRem, Dp.dmIdx, Dp.dSet, Dp.intOf, Dp.keyOf, Dp.dwipe, Dp.patD, Dp.patDs, Dp.ln_lst, Dp.ln_tup, Dp.ln_kls, Dp.ln_dK, Dp.dFor, Dp.dLc, Dp.dDc, Dp.dLc2, Dp.srcOf, Dp.dFrz, lk_Seats_scene, pa_Seats_scene, pt_Seats_scene, lk_Seats_seating, pa_Seats_seating, pt_Seats_seating, lk_Seats_seated, pa_Seats_seated, pt_Seats_seated, lk_Kept_lot, pa_Kept_lot, pt_Kept_lot, lk_Kept_seating, pa_Kept_seating, pt_Kept_seating, lk_Kept_papers, pa_Kept_papers, pt_Kept_papers, lk_Call_worth, pa_Call_worth, pt_Call_worth, lk_Call_heard, pa_Call_heard, pt_Call_heard, lk_Scene_channels, pa_Scene_channels, pt_Scene_channels, lk_Scene_calls, pa_Scene_calls, pt_Scene_calls]; exact h2
    · have hx' : x ∈ s.ca.map (·.1) := (ssort_perm _).mem_iff.mp hx
      obtain ⟨v, hv⟩ := lookup_of hx'
      simp only [Dp.dSeq, Dp.dAsg, Dp.dgN, Dp.dVar, Dp.dC, Dp.dUn, Dp.dOp, Dp.dFld, Dp.dTst, Dp.dAnd, Dp.dOr, Dp.dNot, Dp.dAndV, Dp.dOrV, Dp.dNotV, Dp.dIf, Dp.dIfS, Dp.dRet, Dp.dRetN, Dp.dExpr, Dp.dPar, Dp.dPar3, Dp.dNext, Dp.dNever, Dp.dBrk, Dp.dCont, Dp.dgTup, Dp.dgCons, Dp.dgNil, Dp.dCall, Dp.dCons, Dp.dNil, Dp.dTup, Dp.dLst, Dp.dLstM, Dp.dNewK, Dp.dCallF, Dp.dMethF, Dp.dMake, Dp.dMakeF, Dp.dFldS, Dp.dPut, Dp.dBM, Dp.dGet1, Dp.dGet2, Dp.dPop1, Dp.dPop2, Dp.dStar, Dp.dIx, Dp.dAdd, Dp.dSub, Dp.dMul, Dp.dMod, Dp.dFdiv, Dp.dPow, Dp.dNeg, Dp.dAugN, Dp.dAugS, Dp.dAugF, Dp.dAugI, Dp.dLtS, Dp.dLe, Dp.dGt, Dp.dGe, Dp.dOrd, Dp.dBetween, Dp.dIsN, Dp.dEq, Dp.dEqK, Dp.dIn, Dp.dstart, List.map_cons, List.map_nil, List.length_cons, List.length_nil, List.cons_append, List.nil_append, List.replicate, List.getElem?_cons_zero, List.getElem?_cons_succ, List.set_cons_zero, List.set_cons_succ, Nat.reduceAdd, Nat.reduceSub, if_true, if_false, Bool.false_eq_true, Bool.not_true, Bool.not_false, Dp.v_non, Dp.v_bl, Dp.v_int, Dp.v_str, Dp.v_tup, Dp.v_lst, Dp.v_kls, Dp.v_dK, Dp.v_dT, Dp.v_ins, Dp.f_ins, Dp.da_dKs, Dp.da_dKi, Dp.ix_dKs, Dp.ix_dKi, Dp.ix_lst, Dp.ix_tup, Dp.ix_kls, Dp.lo_lst, Dp.lo_kls, Dp.io_lst, Dp.io_tup, Dp.io_kls, Dp.ki_lst, Dp.ki_tup, Dp.ki_dK, Dp.dd_dK, Dp.e_ii, Dp.e_ss, Dp.e_bb, Dp.inB_dK, Dp.inB_tup, Dp.inB_lst, Dp.dLen, Dp.dAbs, Dp.dInt1, Dp.dStr1, Dp.dIsi, Dp.dListOf, Dp.dTupOf, Dp.dSum, Dp.dAny, Dp.dAll, Dp.dSorted, Dp.dDictP, Dp.dDictD, Dp.dSortMet, Dp.dLenSet, Dp.dSortSet, Dp.dmApp, Dp.dmExt, Dp.dmPop, Dp.dmPopAt, Dp.dmRem, Dp.dmIdx, Dp.dSet, Dp.intOf, Dp.keyOf, Dp.dwipe, Dp.patD, Dp.patDs, Dp.ln_lst, Dp.ln_tup, Dp.ln_kls, Dp.ln_dK, Dp.dFor, Dp.dLc, Dp.dDc, Dp.dLc2, Dp.srcOf, Dp.dFrz, lk_Seats_scene, pa_Seats_scene, pt_Seats_scene, lk_Seats_seating, pa_Seats_seating, pt_Seats_seating, lk_Seats_seated, pa_Seats_seated, pt_Seats_seated, lk_Kept_lot, pa_Kept_lot, pt_Kept_lot, lk_Kept_seating, pa_Kept_seating, pt_Kept_seating, lk_Kept_papers, pa_Kept_papers, pt_Kept_papers, lk_Call_worth, pa_Call_worth, pt_Call_worth, lk_Call_heard, pa_Call_heard, pt_Call_heard, lk_Scene_channels, pa_Scene_channels, pt_Scene_channels, lk_Scene_calls, pa_Scene_calls, pt_Scene_calls, look_ca, hv, Option.map_some]
      rw [hv] at h2
      exact ⟨trivial, h2⟩
  rw [filter_true, merge_rsrt s.ca (dCal d) hs.da, mdel_mup hc']
  have r2 : (rsrt s.ca).map (fun p => ((Sum.inr p.1 : Sum Int Str), dCal d p.2)) = dCas d s.srt := rfl
  rw [r2]
  have m1 : mup M'' a (.ins d.C_Scene [("channels", .dK (dChs s.srt))]) a = some (.ins d.C_Scene [("channels", .dK (dChs s.srt))]) := mup_same
  simp only [Dp.dSeq, Dp.dAsg, Dp.dgN, Dp.dVar, Dp.dC, Dp.dUn, Dp.dOp, Dp.dFld, Dp.dTst, Dp.dAnd, Dp.dOr, Dp.dNot, Dp.dAndV, Dp.dOrV, Dp.dNotV, Dp.dIf, Dp.dIfS, Dp.dRet, Dp.dRetN, Dp.dExpr, Dp.dPar, Dp.dPar3, Dp.dNext, Dp.dNever, Dp.dBrk, Dp.dCont, Dp.dgTup, Dp.dgCons, Dp.dgNil, Dp.dCall, Dp.dCons, Dp.dNil, Dp.dTup, Dp.dLst, Dp.dLstM, Dp.dNewK, Dp.dCallF, Dp.dMethF, Dp.dMake, Dp.dMakeF, Dp.dFldS, Dp.dPut, Dp.dBM, Dp.dGet1, Dp.dGet2, Dp.dPop1, Dp.dPop2, Dp.dStar, Dp.dIx, Dp.dAdd, Dp.dSub, Dp.dMul, Dp.dMod, Dp.dFdiv, Dp.dPow, Dp.dNeg, Dp.dAugN, Dp.dAugS, Dp.dAugF, Dp.dAugI, Dp.dLtS, Dp.dLe, Dp.dGt, Dp.dGe, Dp.dOrd, Dp.dBetween, Dp.dIsN, Dp.dEq, Dp.dEqK, Dp.dIn, Dp.dstart, List.map_cons, List.map_nil, List.length_cons, List.length_nil, List.cons_append, List.nil_append, List.replicate, List.getElem?_cons_zero, List.getElem?_cons_succ, List.set_cons_zero, List.set_cons_succ, Nat.reduceAdd, Nat.reduceSub, if_true, if_false, Bool.false_eq_true, Bool.not_true, Bool.not_false, Dp.v_non, Dp.v_bl, Dp.v_int, Dp.v_str, Dp.v_tup, Dp.v_lst, Dp.v_kls, Dp.v_dK, Dp.v_dT, Dp.v_ins, Dp.f_ins, Dp.da_dKs, Dp.da_dKi, Dp.ix_dKs, Dp.ix_dKi, Dp.ix_lst, Dp.ix_tup, Dp.ix_kls, Dp.lo_lst, Dp.lo_kls, Dp.io_lst, Dp.io_tup, Dp.io_kls, Dp.ki_lst, Dp.ki_tup, Dp.ki_dK, Dp.dd_dK, Dp.e_ii, Dp.e_ss, Dp.e_bb, Dp.inB_dK, Dp.inB_tup, Dp.inB_lst, Dp.dLen, Dp.dAbs, Dp.dInt1, Dp.dStr1, Dp.dIsi, Dp.dListOf, Dp.dTupOf, Dp.dSum, Dp.dAny, Dp.dAll, Dp.dSorted, Dp.dDictP, Dp.dDictD, Dp.dSortMet, Dp.dLenSet, Dp.dSortSet, Dp.dmApp, Dp.dmExt, Dp.dmPop, Dp.dmPopAt, Dp.dmRem, Dp.dmIdx, Dp.dSet, Dp.intOf, Dp.keyOf, Dp.dwipe, Dp.patD, Dp.patDs, Dp.ln_lst, Dp.ln_tup, Dp.ln_kls, Dp.ln_dK, Dp.dFor, Dp.dLc, Dp.dDc, Dp.dLc2, Dp.srcOf, Dp.dFrz, lk_Seats_scene, pa_Seats_scene, pt_Seats_scene, lk_Seats_seating, pa_Seats_seating, pt_Seats_seating, lk_Seats_seated, pa_Seats_seated, pt_Seats_seated, lk_Kept_lot, pa_Kept_lot, pt_Kept_lot, lk_Kept_seating, pa_Kept_seating, pt_Kept_seating, lk_Kept_papers, pa_Kept_papers, pt_Kept_papers, lk_Call_worth, pa_Call_worth, pt_Call_worth, lk_Call_heard, pa_Call_heard, pt_Call_heard, lk_Scene_channels, pa_Scene_channels, pt_Scene_channels, lk_Scene_calls, pa_Scene_calls, pt_Scene_calls, m1, mup_mup]
  exact ⟨.inr T.fok_Scene_calls, by decide, _, MLe.refl _, hR⟩
def sp_Scene_rank (d : Dat) : DSp := fun ds M R _ => ∃ s name c, ds = [dScn d s, .str name] ∧ s.ca.lookup name = some c ∧ R (.tup [.int (-c.1), .str name]) M
theorem ok_Scene_rank (T : Tx K mg d) : FnOk P w K mg base (L2.CX P w) 1 d.f_Scene_rank d.d_Scene_rank ["self", "name"] (LSp K (sp_Scene_rank d)) := by
  refine dfn_ok (k := 0) T.F_Scene_rank sc_Scene_rank (fun ds M R RX h => ?_) (by decide) fun cdv A outer s0 H0 E0 B ds M R RX hr fx h => ?_
  · obtain ⟨s, name, c, rfl, hc, hR⟩ := h; rfl
  obtain ⟨s, name, c, rfl, hc, hR⟩ := h
  have nd := sc_Scene_rank.nd
  refine ⟨_, (dss_one (ds_ret (de_tup (da_cons (de_neg (de_fld (de_ix (hu1 hr) (de_fld (nv 0)) (nv 1)))) (da_cons (nv 1) da_nil))))), ?_⟩
  simp only [Dp.dSeq, Dp.dAsg, Dp.dgN, Dp.dVar, Dp.dC, Dp.dUn, Dp.dOp, Dp.dFld, Dp.dTst, Dp.dAnd, Dp.dOr, Dp.dNot, Dp.dAndV, Dp.dOrV, Dp.dNotV, Dp.dIf, Dp.dIfS, Dp.dRet, Dp.dRetN, Dp.dExpr, Dp.dPar, Dp.dPar3, Dp.dNext, Dp.dNever, Dp.dBrk, Dp.dCont, Dp.dgTup, Dp.dgCons, Dp.dgNil, Dp.dCall, Dp.dCons, Dp.dNil, Dp.dTup, Dp.dLst, Dp.dLstM, Dp.dNewK, Dp.dCallF, Dp.dMethF, Dp.dMake, Dp.dMakeF, Dp.dFldS, Dp.dPut, Dp.dBM, Dp.dGet1, Dp.dGet2, Dp.dPop1, Dp.dPop2, Dp.dStar, Dp.dIx, Dp.dAdd, Dp.dSub, Dp.dMul, Dp.dMod, Dp.dFdiv, Dp.dPow, Dp.dNeg, Dp.dAugN, Dp.dAugS, Dp.dAugF, Dp.dAugI, Dp.dLtS, Dp.dLe, Dp.dGt, Dp.dGe, Dp.dOrd, Dp.dBetween, Dp.dIsN, Dp.dEq, Dp.dEqK, Dp.dIn, Dp.dstart, List.map_cons, List.map_nil, List.length_cons, List.length_nil, List.cons_append, List.nil_append, List.replicate, List.getElem?_cons_zero, List.getElem?_cons_succ, List.set_cons_zero, List.set_cons_succ, Nat.reduceAdd, Nat.reduceSub, if_true, if_false, Bool.false_eq_true, Bool.not_true, Bool.not_false, Dp.v_non, Dp.v_bl, Dp.v_int, Dp.v_str, Dp.v_tup, Dp.v_lst, Dp.v_kls, Dp.v_dK, Dp.v_dT, Dp.v_ins, Dp.f_ins, Dp.da_dKs, Dp.da_dKi, Dp.ix_dKs, Dp.ix_dKi, Dp.ix_lst, Dp.ix_tup, Dp.ix_kls, Dp.lo_lst, Dp.lo_kls, Dp.io_lst, Dp.io_tup, Dp.io_kls, Dp.ki_lst, Dp.ki_tup, Dp.ki_dK, Dp.dd_dK, Dp.e_ii, Dp.e_ss, Dp.e_bb, Dp.inB_dK, Dp.inB_tup, Dp.inB_lst, Dp.dLen, Dp.dAbs, Dp.dInt1, Dp.dStr1, Dp.dIsi, Dp.dListOf, Dp.dTupOf, Dp.dSum, Dp.dAny, Dp.dAll, Dp.dSorted, Dp.dDictP, Dp.dDictD, Dp.dSortMet, Dp.dLenSet, Dp.dSortSet, Dp.dmApp, Dp.dmExt, Dp.dmPop, Dp.dmPopAt, Dp.dmRem, Dp.dmIdx, Dp.dSet, Dp.intOf, Dp.keyOf, Dp.dwipe, Dp.patD, Dp.patDs, Dp.ln_lst, Dp.ln_tup, Dp.ln_kls, Dp.ln_dK, Dp.dFor, Dp.dLc, Dp.dDc, Dp.dLc2, Dp.srcOf, Dp.dFrz, lk_Seats_scene, pa_Seats_scene, pt_Seats_scene, lk_Seats_seating, pa_Seats_seating, pt_Seats_seating, lk_Seats_seated, pa_Seats_seated, pt_Seats_seated, lk_Kept_lot, pa_Kept_lot, pt_Kept_lot, lk_Kept_seating, pa_Kept_seating, pt_Kept_seating, lk_Kept_papers, pa_Kept_papers, pt_Kept_papers, lk_Call_worth, pa_Call_worth, pt_Call_worth, lk_Call_heard, pa_Call_heard, pt_Call_heard, lk_Scene_channels, pa_Scene_channels, pt_Scene_channels, lk_Scene_calls, pa_Scene_calls, pt_Scene_calls, dScn, look_ca, hc, Option.map_some, dCal]
  exact ⟨trivial, szl (by decide), _, _, Fz.refl _ _, hR⟩
/-- the order of a scene's calls -/
def ordR (s : Sc) : List (Str × Int × List Str) := s.ca.mergeSort fun p q => isLe (-p.2.1, p.1) (-q.2.1, q.1)
def ord (s : Sc) : List Str := (ordR s).map (·.1)
def sp_Scene_order (d : Dat) : DSp := fun ds M R _ => ∃ s, ds = [dScn d s] ∧ (s.ca.map (·.1)).Nodup ∧ (∀ p ∈ s.ca, PyData.strOk p.1 = true) ∧ R (.lst ((ord s).map .str)) M
theorem ok_Scene_order (T : Tx K mg d) : FnOk P w K mg base (L2.CX P w) 4 d.f_Scene_order d.d_Scene_order ["self"] (LSp K (sp_Scene_order d)) := by
  have G_Scene_rank := ok_Scene_rank (P := P) (w := w) (base := base) T
  refine dfn_ok (k := 3) T.F_Scene_order sc_Scene_order (fun ds M R RX h => ?_) (by decide) fun cdv A outer s0 H0 E0 B ds M R RX hr fx h => ?_
  · obtain ⟨s, rfl, hn, hok, hR⟩ := h; rfl
  obtain ⟨s, rfl, hn, hok, hR⟩ := h
  have nd := sc_Scene_order.nd
  refine ⟨_, (dss_one (ds_ret (de_sortMet G_Scene_rank T.B_Scene_rank (hr.mono (by decide)) rfl T.c_Scene T.bm_Scene_rank (by rfl) T.n_sorted (de_fld (nv 0)) (nv 0)))), ?_⟩
  have ka : ((dCas d s).map fun kv => kD kv.1) = s.ca.map fun p => D.str p.1 := by unfold dCas; rw [List.map_map]; rfl
  have hk : ∀ p ∈ s.ca, (fun x : D => match x with | .str y => (match s.ca.lookup y with | some c => D.tup [.int (-c.1), .str y] | none => .non) | _ => .non) (D.str p.1) = .tup [.int (-p.2.1), .str p.1] := fun p hp => by
    dsimp only
    rw [lookup_nodup hn hp]
  simp only [Dp.dSeq, Dp.dAsg, Dp.dgN, Dp.dVar, Dp.dC, Dp.dUn, Dp.dOp, Dp.dFld, Dp.dTst, Dp.dAnd, Dp.dOr, Dp.dNot, Dp.dAndV, Dp.dOrV, Dp.dNotV, Dp.dIf, Dp.dIfS, Dp.dRet, Dp.dRetN, Dp.dExpr, Dp.dPar, Dp.dPar3, Dp.dNext, Dp.dNever, Dp.dBrk, Dp.dCont, Dp.dgTup, Dp.dgCons, Dp.dgNil, Dp.dCall, Dp.dCons, Dp.dNil, Dp.dTup, Dp.dLst, Dp.dLstM, Dp.dNewK, Dp.dCallF, Dp.dMethF, Dp.dMake, Dp.dMakeF, Dp.dFldS, Dp.dPut, Dp.dBM, Dp.dGet1, Dp.dGet2, Dp.dPop1, Dp.dPop2, Dp.dStar, Dp.dIx, Dp.dAdd, Dp.dSub, Dp.dMul, Dp.dMod, Dp.dFdiv, Dp.dPow, Dp.dNeg, Dp.dAugN, Dp.dAugS, Dp.dAugF, Dp.dAugI, Dp.dLtS, Dp.dLe, Dp.dGt, Dp.dGe, Dp.dOrd, Dp.dBetween, Dp.dIsN, Dp.dEq, Dp.dEqK, Dp.dIn, Dp.dstart, List.map_cons, List.map_nil, List.length_cons, List.length_nil, List.cons_append, List.nil_append, List.replicate, List.getElem?_cons_zero, List.getElem?_cons_succ, List.set_cons_zero, List.set_cons_succ, Nat.reduceAdd, Nat.reduceSub, if_true, if_false, Bool.false_eq_true, Bool.not_true, Bool.not_false, Dp.v_non, Dp.v_bl, Dp.v_int, Dp.v_str, Dp.v_tup, Dp.v_lst, Dp.v_kls, Dp.v_dK, Dp.v_dT, Dp.v_ins, Dp.f_ins, Dp.da_dKs, Dp.da_dKi, Dp.ix_dKs, Dp.ix_dKi, Dp.ix_lst, Dp.ix_tup, Dp.ix_kls, Dp.lo_lst, Dp.lo_kls, Dp.io_lst, Dp.io_tup, Dp.io_kls, Dp.ki_lst, Dp.ki_tup, Dp.ki_dK, Dp.dd_dK, Dp.e_ii, Dp.e_ss, Dp.e_bb, Dp.inB_dK, Dp.inB_tup, Dp.inB_lst, Dp.dLen, Dp.dAbs, Dp.dInt1, Dp.dStr1, Dp.dIsi, Dp.dListOf, Dp.dTupOf, Dp.dSum, Dp.dAny, Dp.dAll, Dp.dSorted, Dp.dDictP, Dp.dDictD, Dp.dSortMet, Dp.dLenSet, Dp.dSortSet, Dp.dmApp, Dp.dmExt, Dp.dmPop, Dp.dmPopAt, Dp.dmRem, Dp.dmIdx, Dp.dSet, Dp.intOf, Dp.keyOf, Dp.dwipe, Dp.patD, Dp.patDs, Dp.ln_lst, Dp.ln_tup, Dp.ln_kls, Dp.ln_dK, Dp.dFor, Dp.dLc, Dp.dDc, Dp.dLc2, Dp.srcOf, Dp.dFrz, lk_Seats_scene, pa_Seats_scene, pt_Seats_scene, lk_Seats_seating, pa_Seats_seating, pt_Seats_seating, lk_Seats_seated, pa_Seats_seated, pt_Seats_seated, lk_Kept_lot, pa_Kept_lot, pt_Kept_lot, lk_Kept_seating, pa_Kept_seating, pt_Kept_seating, lk_Kept_papers, pa_Kept_papers, pt_Kept_papers, lk_Call_worth, pa_Call_worth, pt_Call_worth, lk_Call_heard, pa_Call_heard, pt_Call_heard, lk_Scene_channels, pa_Scene_channels, pt_Scene_channels, lk_Scene_calls, pa_Scene_calls, pt_Scene_calls, dScn, ka]
  refine ⟨_, _, rfl, ⟨_, rfl⟩, (?_ : KeyOk (List.map (fun x : D => match x with | .str y => (match s.ca.lookup y with | some c => D.tup [.int (-c.1), .str y] | none => .non) | _ => .non) (s.ca.map fun p => D.str p.1))), ?_, ?_⟩
  · rw [List.map_map]
    have e : List.map ((fun x : D => match x with | .str y => (match s.ca.lookup y with | some c => D.tup [.int (-c.1), .str y] | none => .non) | _ => .non) ∘ fun p => D.str p.1) s.ca = s.ca.map fun p => D.tup [.int (-p.2.1), .str p.1] :=
      List.map_congr_left fun p hp => hk p hp
    rw [e]
    exact keyOk_is (fun p : Str × Int × List Str => -p.2.1) (fun p => p.1) hok
  · intro it hit M3 le R' hR'
    obtain ⟨p, hp, rfl⟩ := List.mem_map.mp hit
    refine ⟨s, p.1, p.2, rfl, lookup_nodup hn hp, ?_⟩
    have := hk p hp
    dsimp only at this hR'
    rw [this] at hR'
    exact hR'
  · refine ⟨_, _, Fz.refl _ _, ?_⟩
    rw [srtK_is s.ca (fun p => D.str p.1) (fun p => -p.2.1) (fun p => p.1) _ hk]
    have e : ((ord s).map D.str) = (s.ca.mergeSort fun p q => isLe (-p.2.1, p.1) (-q.2.1, q.1)).map fun p => D.str p.1 := by unfold ord ordR; rw [List.map_map]; rfl
    rw [← e]
    exact hR

end
end K20
namespace K20
open PySem PySem.Spec L2 Dp
section
variable {P : Program} {w : World} {K : PySem.W.Frag} {mg : Str → Option Value} {base : Heap} {d : Dat}
/-! the channels of masts -/
def dSta (S : List (Str × Str)) : List (Sum Int Str × D) := S.map fun p => (Sum.inr p.1, .str p.2)
def dRws (rs : List (Str × Addr)) : List (Sum Int Str × D) := rs.map fun p => (Sum.inr p.1, .adr p.2)
theorem look_sta {S : List (Str × Str)} {x : Str} : look (dSta S) (Sum.inr x) = (S.lookup x).map .str := look_str S .str x
theorem look_rws {rs : List (Str × Addr)} {x : Str} : look (dRws rs) (Sum.inr x) = (rs.lookup x).map .adr := look_str rs .adr x
structure SeatsAt (d : Dat) (M : Mem) (s : Sc) (a p q : Addr) (rs : List (Str × Addr)) (S : List (Str × Str)) (at_ : Str → List Str) : Prop where
  ma : M a = some (.ins d.C_Seats [("scene", dScn d s), ("seating", .adr p), ("seated", .adr q)])
  mp : M p = some (.dK (dSta S))
  mq : M q = some (.dK (dRws rs))
  mr : ∀ x ∈ rs, M x.2 = some (.lst ((at_ x.1).map .str))
  ks : rs.map (·.1) = s.ch.map (·.1)
  nd : (a :: p :: q :: rs.map (·.2)).Nodup
  kd : (rs.map (·.1)).Nodup
def Keeps (own : List Addr) (M M' : Mem) : Prop := ∀ b m, b ∉ own → M b = some m → M' b = some m
def own (a p q : Addr) (rs : List (Str × Addr)) : List Addr := a :: p :: q :: rs.map (·.2)
theorem Keeps.refl (o : List Addr) (M : Mem) : Keeps o M M := fun _ _ _ h => h
theorem Keeps.trans {o : List Addr} {M M1 M2 : Mem} (h : Keeps o M M1) (g : Keeps o M1 M2) : Keeps o M M2 := fun b m hb e => g b m hb (h b m hb e)
theorem SeatsAt.le {d : Dat} {M M' : Mem} {s : Sc} {a p q : Addr} {rs : List (Str × Addr)} {S : List (Str × Str)} {at_ : Str → List Str} (h : SeatsAt d M s a p q rs S at_) (l : ∀ b ∈ own a p q rs, ∀ m, M b = some m → M' b = some m) : SeatsAt d M' s a p q rs S at_ :=
  ⟨l a (by simp [own]) _ h.ma, l p (by simp [own]) _ h.mp, l q (by simp [own]) _ h.mq, fun x hx => l x.2 (by
    have : x.2 ∈ rs.map (·.2) := List.mem_map_of_mem hx
    simp only [own, List.mem_cons]; exact .inr (.inr (.inr this))) _ (h.mr x hx), h.ks, h.nd, h.kd⟩
theorem SeatsAt.row {d : Dat} {M : Mem} {s : Sc} {a p q : Addr} {rs : List (Str × Addr)} {S : List (Str × Str)} {at_ : Str → List Str} (h : SeatsAt d M s a p q rs S at_) {m : Str} (hm : m ∈ s.ch.map (·.1)) : ∃ r, rs.lookup m = some r ∧ (m, r) ∈ rs ∧ M r = some (.lst ((at_ m).map .str)) := by
  obtain ⟨r, hr⟩ := lookup_of (l := rs) (x := m) (by rw [h.ks]; exact hm)
  exact ⟨r, hr, lookup_mem hr, h.mr _ (lookup_mem hr)⟩
def sp_Seats_has_room (d : Dat) : DSp := fun ds M R _ => ∃ a p q rs S at_ s m c, ds = [.adr a, .str m] ∧ SeatsAt d M s a p q rs S at_ ∧ s.ch.lookup m = some c ∧ R (.bl (decide (((at_ m).length : Int) < c))) M
theorem ok_Seats_has_room (T : Tx K mg d) : FnOk P w K mg base (L2.CX P w) 1 d.f_Seats_has_room d.d_Seats_has_room ["self", "mast"] (LSp K (sp_Seats_has_room d)) := by
  refine dfn_ok (k := 0) T.F_Seats_has_room sc_Seats_has_room (fun ds M R RX h => ?_) (by decide) fun cdv A outer s0 H0 E0 B ds M R RX hr fx h => ?_
  · obtain ⟨a, p, q, rs, S, at_, s, m, c, rfl, hS, hc, hR⟩ := h; rfl
  obtain ⟨a, p, q, rs, S, at_, s, m, c, rfl, hS, hc, hR⟩ := h
  have nd := sc_Seats_has_room.nd
  refine ⟨_, (dss_one (ds_ret (de_lt (de_callB cr_lenAll l_len (by rfl) T.n_len (by rfl) (da_cons (de_ix (hu1 hr) (de_fld (nv 0)) (nv 1)) da_nil)) (de_ix (hu1 hr) (de_fld (de_fld (nv 0))) (nv 1))))), ?_⟩
  obtain ⟨r, hr, _, hM⟩ := hS.row (m := m) (List.mem_map_of_mem (lookup_mem hc) : (m, c).1 ∈ _)
  simp only [Dp.dSeq, Dp.dAsg, Dp.dgN, Dp.dVar, Dp.dC, Dp.dUn, Dp.dOp, Dp.dFld, Dp.dTst, Dp.dAnd, Dp.dOr, Dp.dNot, Dp.dAndV, Dp.dOrV, Dp.dNotV, Dp.dIf, Dp.dIfS, Dp.dRet, Dp.dRetN, Dp.dExpr, Dp.dPar, Dp.dPar3, Dp.dNext, Dp.dNever, Dp.dBrk, Dp.dCont, Dp.dgTup, Dp.dgCons, Dp.dgNil, Dp.dCall, Dp.dCons, Dp.dNil, Dp.dTup, Dp.dLst, Dp.dLstM, Dp.dNewK, Dp.dCallF, Dp.dMethF, Dp.dMake, Dp.dMakeF, Dp.dFldS, Dp.dPut, Dp.dBM, Dp.dGet1, Dp.dGet2, Dp.dPop1, Dp.dPop2, Dp.dStar, Dp.dIx, Dp.dAdd, Dp.dSub, Dp.dMul, Dp.dMod, Dp.dFdiv, Dp.dPow, Dp.dNeg, Dp.dAugN, Dp.dAugS, Dp.dAugF, Dp.dAugI, Dp.dLtS, Dp.dLe, Dp.dGt, Dp.dGe, Dp.dOrd, Dp.dBetween, Dp.dIsN, Dp.dEq, Dp.dEqK, Dp.dIn, Dp.dstart, List.map_cons, List.map_nil, List.length_cons, List.length_nil, List.cons_append, List.nil_append, List.replicate, List.getElem?_cons_zero, List.getElem?_cons_succ, List.set_cons_zero, List.set_cons_succ, Nat.reduceAdd, Nat.reduceSub, if_true, if_false, Bool.false_eq_true, Bool.not_true, Bool.not_false, Dp.v_non, Dp.v_bl, Dp.v_int, Dp.v_str, Dp.v_tup, Dp.v_lst, Dp.v_kls, Dp.v_dK, Dp.v_dT, Dp.v_ins, Dp.f_ins, Dp.da_dKs, Dp.da_dKi, Dp.ix_dKs, Dp.ix_dKi, Dp.ix_lst, Dp.ix_tup, Dp.ix_kls, Dp.lo_lst, Dp.lo_kls, Dp.io_lst, Dp.io_tup, Dp.io_kls, Dp.ki_lst, Dp.ki_tup, Dp.ki_dK, Dp.dd_dK, Dp.e_ii, Dp.e_ss, Dp.e_bb, Dp.inB_dK, Dp.inB_tup, Dp.inB_lst, Dp.dLen, Dp.dAbs, Dp.dInt1, Dp.dStr1, Dp.dIsi, Dp.dListOf, Dp.dTupOf, Dp.dSum, Dp.dAny, Dp.dAll, Dp.dSorted, Dp.dDictP, Dp.dDictD, Dp.dSortMet, Dp.dLenSet, Dp.dSortSet, Dp.dmApp, Dp.dmExt, Dp.dmPop, Dp.dmPopAt, Dp.dmRem, Dp.dmIdx, Dp.dSet, Dp.intOf, Dp.keyOf, Dp.dwipe, Dp.patD, Dp.patDs, Dp.ln_lst, Dp.ln_tup, Dp.ln_kls, Dp.ln_dK, Dp.dFor, Dp.dLc, Dp.dDc, Dp.dLc2, Dp.srcOf, Dp.dFrz, lk_Seats_scene, pa_Seats_scene, pt_Seats_scene, lk_Seats_seating, pa_Seats_seating, pt_Seats_seating, lk_Seats_seated, pa_Seats_seated, pt_Seats_seated, lk_Kept_lot, pa_Kept_lot, pt_Kept_lot, lk_Kept_seating, pa_Kept_seating, pt_Kept_seating, lk_Kept_papers, pa_Kept_papers, pt_Kept_papers, lk_Call_worth, pa_Call_worth, pt_Call_worth, lk_Call_heard, pa_Call_heard, pt_Call_heard, lk_Scene_channels, pa_Scene_channels, pt_Scene_channels, lk_Scene_calls, pa_Scene_calls, pt_Scene_calls, f_cI hS.ma, ix_cKs hS.mq, look_rws, hr, Option.map_some, v_cK hS.mq, ln_cl hM, List.length_map, dScn, look_ch, hc]
  exact ⟨trivial, trivial, _, _, Fz.refl _ _, hR⟩
section
variable {M : Mem} {s : Sc} {a p q : Addr} {rs : List (Str × Addr)} {S S' : List (Str × Str)} {at_ : Str → List Str}
theorem SeatsAt.nea (h : SeatsAt d M s a p q rs S at_) : a ≠ p ∧ a ≠ q ∧ p ≠ q ∧ (∀ x ∈ rs, x.2 ≠ a ∧ x.2 ≠ p ∧ x.2 ≠ q) := by
  have n := h.nd
  simp only [List.nodup_cons, List.mem_cons, not_or] at n
  obtain ⟨⟨n1, n2, n3⟩, ⟨n4, n5⟩, n6, n7⟩ := n
  refine ⟨n1, n2, n4, fun x hx => ?_⟩
  have hm : x.2 ∈ rs.map (·.2) := List.mem_map_of_mem hx
  exact ⟨fun e => n3 (e ▸ hm), fun e => n5 (e ▸ hm), fun e => n6 (e ▸ hm)⟩
theorem SeatsAt.rnd (h : SeatsAt d M s a p q rs S at_) : (rs.map (·.2)).Nodup := by
  have n := h.nd
  simp only [List.nodup_cons] at n
  exact n.2.2.2
theorem snd_inj {l : List (Str × Addr)} (h : (l.map (·.2)).Nodup) {x y : Str × Addr} (hx : x ∈ l) (hy : y ∈ l) (e : x.2 = y.2) : x = y := by
  induction l with
  | nil => cases hx
  | cons z l ih =>
    rw [List.map_cons, List.nodup_cons] at h
    rcases List.mem_cons.mp hx with rfl | hx1 <;> rcases List.mem_cons.mp hy with rfl | hy1
    · rfl
    · exact absurd (e ▸ (List.mem_map_of_mem (f := (·.2)) hy1 : y.2 ∈ _)) h.1
    · exact absurd (e.symm ▸ (List.mem_map_of_mem (f := (·.2)) hx1 : x.2 ∈ _)) h.1
    · exact ih h.2 hx1 hy1
theorem SeatsAt.sta_set (h : SeatsAt d M s a p q rs S at_) : SeatsAt d (mup M p (.dK (dSta S'))) s a p q rs S' at_ := by
  obtain ⟨n1, n2, n3, n4⟩ := h.nea
  exact ⟨(mup_ne n1).trans h.ma, mup_same, (mup_ne (Ne.symm n3)).trans h.mq, fun x hx => (mup_ne (n4 x hx).2.1).trans (h.mr x hx), h.ks, h.nd, h.kd⟩
theorem SeatsAt.row_set (h : SeatsAt d M s a p q rs S at_) {m : Str} {r : Addr} (hr : (m, r) ∈ rs) {xs : List Str} : SeatsAt d (mup M r (.lst (xs.map .str))) s a p q rs S (fun x => if x = m then xs else at_ x) := by
  obtain ⟨n1, n2, n3, n4⟩ := h.nea
  have n5 := n4 _ hr
  refine ⟨(mup_ne (Ne.symm n5.1)).trans h.ma, (mup_ne (Ne.symm n5.2.1)).trans h.mp, (mup_ne (Ne.symm n5.2.2)).trans h.mq, fun x hx => ?_, h.ks, h.nd, h.kd⟩
  by_cases e : x.1 = m
  · have e2 : x.2 = r := by
      have h1 := lookup_nodup h.kd (x := x.1) (v := x.2) hx
      have h2 := lookup_nodup h.kd hr
      rw [e, h2] at h1
      exact (Option.some.inj h1).symm
    rw [e2, mup_same, if_pos e]
  · have e2 : x.2 ≠ r := fun q => e (congrArg Prod.fst (snd_inj h.rnd hx hr q))
    rw [mup_ne e2, if_neg e]
    exact h.mr x hx
theorem own_p : p ∈ own a p q rs := by simp [own]
theorem own_r {x : Str × Addr} (h : x ∈ rs) : x.2 ∈ own a p q rs := by
  have : x.2 ∈ rs.map (·.2) := List.mem_map_of_mem h
  simp only [own, List.mem_cons]; exact .inr (.inr (.inr this))
theorem keeps_mup {o : List Addr} {b : Addr} {m : MO} (h : b ∈ o) : Keeps o M (mup M b m) := fun c n hc e => by
  have q : c ≠ b := fun q => hc (by rw [q]; exact h)
  rw [mup_ne q]; exact e
end
def offAt (S : List (Str × Str)) (at_ : Str → List Str) (n : Str) : Str → List Str := fun x => if S.lookup n = some x then (at_ x).erase n else at_ x
def sitAt (S : List (Str × Str)) (at_ : Str → List Str) (n m : Str) : Str → List Str := fun x => if x = m then offAt S at_ n x ++ [n] else offAt S at_ n x
def sp_Seats_sit (d : Dat) : DSp := fun ds M R _ => ∃ a p q rs S at_ s n m, ds = [.adr a, .str n, .str m] ∧ SeatsAt d M s a p q rs S at_ ∧ m ∈ s.ch.map (·.1) ∧ (∀ o, S.lookup n = some o → o ∈ s.ch.map (·.1) ∧ n ∈ at_ o) ∧ S.length ≤ 5000 ∧ (∀ x, (at_ x).length ≤ 5000) ∧
  ∀ M', SeatsAt d M' s a p q rs (put S n m) (sitAt S at_ n m) → Keeps (own a p q rs) M M' → R .non M'
theorem ok_Seats_sit (T : Tx K mg d) : FnOk P w K mg base (L2.CX P w) 1 d.f_Seats_sit d.d_Seats_sit ["self", "name", "mast"] (LSp K (sp_Seats_sit d)) := by
  refine dfn_ok (k := 0) T.F_Seats_sit sc_Seats_sit (fun ds M R RX h => ?_) (by decide) fun cdv A outer s0 H0 E0 B ds M R RX hr fx h => ?_
  · obtain ⟨a, p, q, rs, S, at_, s, n, m, rfl, hS, hm, ho, hl, hla, hR⟩ := h; rfl
  obtain ⟨a, p, q, rs, S, at_, s, n, m, rfl, hS, hm, ho, hl, hla, hR⟩ := h
  have nd := sc_Seats_sit.nd
  refine ⟨_, (dss_cons (ds_set (i := 3) nd rfl (Or.inl rfl) (de_get1 (hu1 hr) (de_fld (nv 0)) (nv 1))) (dss_cons (ds_if (dt_isnot (nv 3) de_non) (dss_one (ds_expr (de_remove (de_ix (hu1 hr) (de_fld (nv 0)) (nv 3)) (nv 1)))) dss_nil) (dss_cons (ds_put (hu1 hr) (de_fld (nv 0)) (nv 1) (nv 2)) (dss_one (ds_expr (de_app (de_ix (hu1 hr) (de_fld (nv 0)) (nv 2)) (nv 1))))))), ?_⟩
  simp only [Dp.dSeq, Dp.dAsg, Dp.dgN, Dp.dVar, Dp.dC, Dp.dUn, Dp.dOp, Dp.dFld, Dp.dTst, Dp.dAnd, Dp.dOr, Dp.dNot, Dp.dAndV, Dp.dOrV, Dp.dNotV, Dp.dIf, Dp.dIfS, Dp.dRet, Dp.dRetN, Dp.dExpr, Dp.dPar, Dp.dPar3, Dp.dNext, Dp.dNever, Dp.dBrk, Dp.dCont, Dp.dgTup, Dp.dgCons, Dp.dgNil, Dp.dCall, Dp.dCons, Dp.dNil, Dp.dTup, Dp.dLst, Dp.dLstM, Dp.dNewK, Dp.dCallF, Dp.dMethF, Dp.dMake, Dp.dMakeF, Dp.dFldS, Dp.dPut, Dp.dBM, Dp.dGet1, Dp.dGet2, Dp.dPop1, Dp.dPop2, Dp.dStar, Dp.dIx, Dp.dAdd, Dp.dSub, Dp.dMul, Dp.dMod, Dp.dFdiv, Dp.dPow, Dp.dNeg, Dp.dAugN, Dp.dAugS, Dp.dAugF, Dp.dAugI, Dp.dLtS, Dp.dLe, Dp.dGt, Dp.dGe, Dp.dOrd, Dp.dBetween, Dp.dIsN, Dp.dEq, Dp.dEqK, Dp.dIn, Dp.dstart, List.map_cons, List.map_nil, List.length_cons, List.length_nil, List.cons_append, List.nil_append, List.replicate, List.getElem?_cons_zero, List.getElem?_cons_succ, List.set_cons_zero, List.set_cons_succ, Nat.reduceAdd, Nat.reduceSub, if_true, if_false, Bool.false_eq_true, Bool.not_true, Bool.not_false, Dp.v_non, Dp.v_bl, Dp.v_int, Dp.v_str, Dp.v_tup, Dp.v_lst, Dp.v_kls, Dp.v_dK, Dp.v_dT, Dp.v_ins, Dp.f_ins, Dp.da_dKs, Dp.da_dKi, Dp.ix_dKs, Dp.ix_dKi, Dp.ix_lst, Dp.ix_tup, Dp.ix_kls, Dp.lo_lst, Dp.lo_kls, Dp.io_lst, Dp.io_tup, Dp.io_kls, Dp.ki_lst, Dp.ki_tup, Dp.ki_dK, Dp.dd_dK, Dp.e_ii, Dp.e_ss, Dp.e_bb, Dp.inB_dK, Dp.inB_tup, Dp.inB_lst, Dp.dLen, Dp.dAbs, Dp.dInt1, Dp.dStr1, Dp.dIsi, Dp.dListOf, Dp.dTupOf, Dp.dSum, Dp.dAny, Dp.dAll, Dp.dSorted, Dp.dDictP, Dp.dDictD, Dp.dSortMet, Dp.dLenSet, Dp.dSortSet, Dp.dmApp, Dp.dmExt, Dp.dmPop, Dp.dmPopAt, Dp.dmRem, Dp.dmIdx, Dp.dSet, Dp.intOf, Dp.keyOf, Dp.dwipe, Dp.patD, Dp.patDs, Dp.ln_lst, Dp.ln_tup, Dp.ln_kls, Dp.ln_dK, Dp.dFor, Dp.dLc, Dp.dDc, Dp.dLc2, Dp.srcOf, Dp.dFrz, lk_Seats_scene, pa_Seats_scene, pt_Seats_scene, lk_Seats_seating, pa_Seats_seating, pt_Seats_seating, lk_Seats_seated, pa_Seats_seated, pt_Seats_seated, lk_Kept_lot, pa_Kept_lot, pt_Kept_lot, lk_Kept_seating, pa_Kept_seating, pt_Kept_seating, lk_Kept_papers, pa_Kept_papers, pt_Kept_papers, lk_Call_worth, pa_Call_worth, pt_Call_worth, lk_Call_heard, pa_Call_heard, pt_Call_heard, lk_Scene_channels, pa_Scene_channels, pt_Scene_channels, lk_Scene_calls, pa_Scene_calls, pt_Scene_calls, f_cI hS.ma, da_cKs hS.mp, dd_cK hS.mp, look_sta]
  have fin : ∀ (o : Option D) (M1 : Mem) (at1 : Str → List Str), SeatsAt d M1 s a p q rs S at1 → at1 = offAt S at_ n → Keeps (own a p q rs) M M1 → (∀ x, (at1 x).length ≤ 5000) →
      dSeq (dPut (dUn (dFld "seating") (dVar 0)) (dVar 1) (dVar 2)) (dExpr (dBM dmApp (dOp dIx (dUn (dFld "seated") (dVar 0)) (dVar 2)) (dCons (dVar 1) dNil))) { nx := fun _ M' => ∃ M'', MLe M'' M' ∧ R .non M'', rt := R } [some (.adr a), some (.str n), some (.str m), o] M1 := by
    intro o M1 at1 h1 e1 k1 l1
    have hl' : (dSta S).length < sizeLine := by unfold dSta; rw [List.length_map]; exact szlt (by omega)
    simp only [Dp.dSeq, Dp.dAsg, Dp.dgN, Dp.dVar, Dp.dC, Dp.dUn, Dp.dOp, Dp.dFld, Dp.dTst, Dp.dAnd, Dp.dOr, Dp.dNot, Dp.dAndV, Dp.dOrV, Dp.dNotV, Dp.dIf, Dp.dIfS, Dp.dRet, Dp.dRetN, Dp.dExpr, Dp.dPar, Dp.dPar3, Dp.dNext, Dp.dNever, Dp.dBrk, Dp.dCont, Dp.dgTup, Dp.dgCons, Dp.dgNil, Dp.dCall, Dp.dCons, Dp.dNil, Dp.dTup, Dp.dLst, Dp.dLstM, Dp.dNewK, Dp.dCallF, Dp.dMethF, Dp.dMake, Dp.dMakeF, Dp.dFldS, Dp.dPut, Dp.dBM, Dp.dGet1, Dp.dGet2, Dp.dPop1, Dp.dPop2, Dp.dStar, Dp.dIx, Dp.dAdd, Dp.dSub, Dp.dMul, Dp.dMod, Dp.dFdiv, Dp.dPow, Dp.dNeg, Dp.dAugN, Dp.dAugS, Dp.dAugF, Dp.dAugI, Dp.dLtS, Dp.dLe, Dp.dGt, Dp.dGe, Dp.dOrd, Dp.dBetween, Dp.dIsN, Dp.dEq, Dp.dEqK, Dp.dIn, Dp.dstart, List.map_cons, List.map_nil, List.length_cons, List.length_nil, List.cons_append, List.nil_append, List.replicate, List.getElem?_cons_zero, List.getElem?_cons_succ, List.set_cons_zero, List.set_cons_succ, Nat.reduceAdd, Nat.reduceSub, if_true, if_false, Bool.false_eq_true, Bool.not_true, Bool.not_false, Dp.v_non, Dp.v_bl, Dp.v_int, Dp.v_str, Dp.v_tup, Dp.v_lst, Dp.v_kls, Dp.v_dK, Dp.v_dT, Dp.v_ins, Dp.f_ins, Dp.da_dKs, Dp.da_dKi, Dp.ix_dKs, Dp.ix_dKi, Dp.ix_lst, Dp.ix_tup, Dp.ix_kls, Dp.lo_lst, Dp.lo_kls, Dp.io_lst, Dp.io_tup, Dp.io_kls, Dp.ki_lst, Dp.ki_tup, Dp.ki_dK, Dp.dd_dK, Dp.e_ii, Dp.e_ss, Dp.e_bb, Dp.inB_dK, Dp.inB_tup, Dp.inB_lst, Dp.dLen, Dp.dAbs, Dp.dInt1, Dp.dStr1, Dp.dIsi, Dp.dListOf, Dp.dTupOf, Dp.dSum, Dp.dAny, Dp.dAll, Dp.dSorted, Dp.dDictP, Dp.dDictD, Dp.dSortMet, Dp.dLenSet, Dp.dSortSet, Dp.dmApp, Dp.dmExt, Dp.dmPop, Dp.dmPopAt, Dp.dmRem, Dp.dmIdx, Dp.dSet, Dp.intOf, Dp.keyOf, Dp.dwipe, Dp.patD, Dp.patDs, Dp.ln_lst, Dp.ln_tup, Dp.ln_kls, Dp.ln_dK, Dp.dFor, Dp.dLc, Dp.dDc, Dp.dLc2, Dp.srcOf, Dp.dFrz, lk_Seats_scene, pa_Seats_scene, pt_Seats_scene, lk_Seats_seating, pa_Seats_seating, pt_Seats_seating, lk_Seats_seated, pa_Seats_seated, pt_Seats_seated, lk_Kept_lot, pa_Kept_lot, pt_Kept_lot, lk_Kept_seating, pa_Kept_seating, pt_Kept_seating, lk_Kept_papers, pa_Kept_papers, pt_Kept_papers, lk_Call_worth, pa_Call_worth, pt_Call_worth, lk_Call_heard, pa_Call_heard, pt_Call_heard, lk_Scene_channels, pa_Scene_channels, pt_Scene_channels, lk_Scene_calls, pa_Scene_calls, pt_Scene_calls, f_cI h1.ma, h1.mp]
    have e2 : put (dSta S) (Sum.inr n) (.str m) = dSta (put S n m) := put_rows S .str n m
    rw [e2]
    have h2 := h1.sta_set (S' := put S n m)
    obtain ⟨r, hr, hrm, hM⟩ := h2.row hm
    simp only [Dp.dSeq, Dp.dAsg, Dp.dgN, Dp.dVar, Dp.dC, Dp.dUn, Dp.dOp, Dp.dFld, Dp.dTst, Dp.dAnd, Dp.dOr, Dp.dNot, Dp.dAndV, Dp.dOrV, Dp.dNotV, Dp.dIf, Dp.dIfS, Dp.dRet, Dp.dRetN, Dp.dExpr, Dp.dPar, Dp.dPar3, Dp.dNext, Dp.dNever, Dp.dBrk, Dp.dCont, Dp.dgTup, Dp.dgCons, Dp.dgNil, Dp.dCall, Dp.dCons, Dp.dNil, Dp.dTup, Dp.dLst, Dp.dLstM, Dp.dNewK, Dp.dCallF, Dp.dMethF, Dp.dMake, Dp.dMakeF, Dp.dFldS, Dp.dPut, Dp.dBM, Dp.dGet1, Dp.dGet2, Dp.dPop1, Dp.dPop2, Dp.dStar, Dp.dIx, Dp.dAdd, Dp.dSub, Dp.dMul, Dp.dMod, Dp.dFdiv, Dp.dPow, Dp.dNeg, Dp.dAugN, Dp.dAugS, Dp.dAugF, Dp.dAugI, Dp.dLtS, Dp.dLe, Dp.dGt, Dp.dGe, Dp.dOrd, Dp.dBetween, Dp.dIsN, Dp.dEq, Dp.dEqK, Dp.dIn, Dp.dstart, List.map_cons, List.map_nil, List.length_cons, List.length_nil, List.cons_append, List.nil_append, List.replicate, List.getElem?_cons_zero, List.getElem?_cons_succ, List.set_cons_zero, List.set_cons_succ, Nat.reduceAdd, Nat.reduceSub, if_true, if_false, Bool.false_eq_true, Bool.not_true, Bool.not_false, Dp.v_non, Dp.v_bl, Dp.v_int, Dp.v_str, Dp.v_tup, Dp.v_lst, Dp.v_kls, Dp.v_dK, Dp.v_dT, Dp.v_ins, Dp.f_ins, Dp.da_dKs, Dp.da_dKi, Dp.ix_dKs, Dp.ix_dKi, Dp.ix_lst, Dp.ix_tup, Dp.ix_kls, Dp.lo_lst, Dp.lo_kls, Dp.io_lst, Dp.io_tup, Dp.io_kls, Dp.ki_lst, Dp.ki_tup, Dp.ki_dK, Dp.dd_dK, Dp.e_ii, Dp.e_ss, Dp.e_bb, Dp.inB_dK, Dp.inB_tup, Dp.inB_lst, Dp.dLen, Dp.dAbs, Dp.dInt1, Dp.dStr1, Dp.dIsi, Dp.dListOf, Dp.dTupOf, Dp.dSum, Dp.dAny, Dp.dAll, Dp.dSorted, Dp.dDictP, Dp.dDictD, Dp.dSortMet, Dp.dLenSet, Dp.dSortSet, Dp.dmApp, Dp.dmExt, Dp.dmPop, Dp.dmPopAt, Dp.dmRem, Dp.dmIdx, Dp.dSet, Dp.intOf, Dp.keyOf, Dp.dwipe, Dp.patD, Dp.patDs, Dp.ln_lst, Dp.ln_tup, Dp.ln_kls, Dp.ln_dK, Dp.dFor, Dp.dLc, Dp.dDc, Dp.dLc2, Dp.srcOf, Dp.dFrz, lk_Seats_scene, pa_Seats_scene, pt_Seats_scene, lk_Seats_seating, pa_Seats_seating, pt_Seats_seating, lk_Seats_seated, pa_Seats_seated, pt_Seats_seated, lk_Kept_lot, pa_Kept_lot, pt_Kept_lot, lk_Kept_seating, pa_Kept_seating, pt_Kept_seating, lk_Kept_papers, pa_Kept_papers, pt_Kept_papers, lk_Call_worth, pa_Call_worth, pt_Call_worth, lk_Call_heard, pa_Call_heard, pt_Call_heard, lk_Scene_channels, pa_Scene_channels, pt_Scene_channels, lk_Scene_calls, pa_Scene_calls, pt_Scene_calls, f_cI h2.ma, ix_cKs h2.mq, look_rws, hr, Option.map_some, v_cK h2.mq, lo_cl hM, hM]
    have e3 : (at1 m).map D.str ++ [.str n] = (at1 m ++ [n]).map .str := by simp
    rw [e3]
    refine ⟨hl', trivial, rfl, szlt (by rw [List.length_map]; have := l1 m; omega), _, MLe.refl _, hR _ ?_ ?_⟩
    · have h3 := h2.row_set hrm (xs := at1 m ++ [n])
      have e4 : (fun x => if x = m then at1 m ++ [n] else at1 x) = sitAt S at_ n m := by
        funext x
        unfold sitAt
        rw [← e1]
        by_cases hx : x = m
        · rw [if_pos hx, if_pos hx, hx]
        · rw [if_neg hx, if_neg hx]
      rw [e4] at h3
      exact h3
    · exact k1.trans ((keeps_mup own_p).trans (keeps_mup (own_r hrm)))
  cases hS' : S.lookup n with
  | none =>
    simp only [Dp.dSeq, Dp.dAsg, Dp.dgN, Dp.dVar, Dp.dC, Dp.dUn, Dp.dOp, Dp.dFld, Dp.dTst, Dp.dAnd, Dp.dOr, Dp.dNot, Dp.dAndV, Dp.dOrV, Dp.dNotV, Dp.dIf, Dp.dIfS, Dp.dRet, Dp.dRetN, Dp.dExpr, Dp.dPar, Dp.dPar3, Dp.dNext, Dp.dNever, Dp.dBrk, Dp.dCont, Dp.dgTup, Dp.dgCons, Dp.dgNil, Dp.dCall, Dp.dCons, Dp.dNil, Dp.dTup, Dp.dLst, Dp.dLstM, Dp.dNewK, Dp.dCallF, Dp.dMethF, Dp.dMake, Dp.dMakeF, Dp.dFldS, Dp.dPut, Dp.dBM, Dp.dGet1, Dp.dGet2, Dp.dPop1, Dp.dPop2, Dp.dStar, Dp.dIx, Dp.dAdd, Dp.dSub, Dp.dMul, Dp.dMod, Dp.dFdiv, Dp.dPow, Dp.dNeg, Dp.dAugN, Dp.dAugS, Dp.dAugF, Dp.dAugI, Dp.dLtS, Dp.dLe, Dp.dGt, Dp.dGe, Dp.dOrd, Dp.dBetween, Dp.dIsN, Dp.dEq, Dp.dEqK, Dp.dIn, Dp.dstart, List.map_cons, List.map_nil, List.length_cons, List.length_nil, List.cons_append, List.nil_append, List.replicate, List.getElem?_cons_zero, List.getElem?_cons_succ, List.set_cons_zero, List.set_cons_succ, Nat.reduceAdd, Nat.reduceSub, if_true, if_false, Bool.false_eq_true, Bool.not_true, Bool.not_false, Dp.v_non, Dp.v_bl, Dp.v_int, Dp.v_str, Dp.v_tup, Dp.v_lst, Dp.v_kls, Dp.v_dK, Dp.v_dT, Dp.v_ins, Dp.f_ins, Dp.da_dKs, Dp.da_dKi, Dp.ix_dKs, Dp.ix_dKi, Dp.ix_lst, Dp.ix_tup, Dp.ix_kls, Dp.lo_lst, Dp.lo_kls, Dp.io_lst, Dp.io_tup, Dp.io_kls, Dp.ki_lst, Dp.ki_tup, Dp.ki_dK, Dp.dd_dK, Dp.e_ii, Dp.e_ss, Dp.e_bb, Dp.inB_dK, Dp.inB_tup, Dp.inB_lst, Dp.dLen, Dp.dAbs, Dp.dInt1, Dp.dStr1, Dp.dIsi, Dp.dListOf, Dp.dTupOf, Dp.dSum, Dp.dAny, Dp.dAll, Dp.dSorted, Dp.dDictP, Dp.dDictD, Dp.dSortMet, Dp.dLenSet, Dp.dSortSet, Dp.dmApp, Dp.dmExt, Dp.dmPop, Dp.dmPopAt, Dp.dmRem, Dp.dmIdx, Dp.dSet, Dp.intOf, Dp.keyOf, Dp.dwipe, Dp.patD, Dp.patDs, Dp.ln_lst, Dp.ln_tup, Dp.ln_kls, Dp.ln_dK, Dp.dFor, Dp.dLc, Dp.dDc, Dp.dLc2, Dp.srcOf, Dp.dFrz, lk_Seats_scene, pa_Seats_scene, pt_Seats_scene, lk_Seats_seating, pa_Seats_seating, pt_Seats_seating, lk_Seats_seated, pa_Seats_seated, pt_Seats_seated, lk_Kept_lot, pa_Kept_lot, pt_Kept_lot, lk_Kept_seating, pa_Kept_seating, pt_Kept_seating, lk_Kept_papers, pa_Kept_papers, pt_Kept_papers, lk_Call_worth, pa_Call_worth, pt_Call_worth, lk_Call_heard, pa_Call_heard, pt_Call_heard, lk_Scene_channels, pa_Scene_channels, pt_Scene_channels, lk_Scene_calls, pa_Scene_calls, pt_Scene_calls, Option.map_none, Option.getD_none]
    have f := fin (some .non) M at_ hS (by funext x; unfold offAt; rw [hS', if_neg (fun q => nomatch q)]) (Keeps.refl _ _) hla
    simp only [Dp.dSeq, Dp.dAsg, Dp.dgN, Dp.dVar, Dp.dC, Dp.dUn, Dp.dOp, Dp.dFld, Dp.dTst, Dp.dAnd, Dp.dOr, Dp.dNot, Dp.dAndV, Dp.dOrV, Dp.dNotV, Dp.dIf, Dp.dIfS, Dp.dRet, Dp.dRetN, Dp.dExpr, Dp.dPar, Dp.dPar3, Dp.dNext, Dp.dNever, Dp.dBrk, Dp.dCont, Dp.dgTup, Dp.dgCons, Dp.dgNil, Dp.dCall, Dp.dCons, Dp.dNil, Dp.dTup, Dp.dLst, Dp.dLstM, Dp.dNewK, Dp.dCallF, Dp.dMethF, Dp.dMake, Dp.dMakeF, Dp.dFldS, Dp.dPut, Dp.dBM, Dp.dGet1, Dp.dGet2, Dp.dPop1, Dp.dPop2, Dp.dStar, Dp.dIx, Dp.dAdd, Dp.dSub, Dp.dMul, Dp.dMod, Dp.dFdiv, Dp.dPow, Dp.dNeg, Dp.dAugN, Dp.dAugS, Dp.dAugF, Dp.dAugI, Dp.dLtS, Dp.dLe, Dp.dGt, Dp.dGe, Dp.dOrd, Dp.dBetween, Dp.dIsN, Dp.dEq, Dp.dEqK, Dp.dIn, Dp.dstart, List.map_cons, List.map_nil, List.length_cons, List.length_nil, List.cons_append, List.nil_append, List.replicate, List.getElem?_cons_zero, List.getElem?_cons_succ, List.set_cons_zero, List.set_cons_succ, Nat.reduceAdd, Nat.reduceSub, if_true, if_false, Bool.false_eq_true, Bool.not_true, Bool.not_false, Dp.v_non, Dp.v_bl, Dp.v_int, Dp.v_str, Dp.v_tup, Dp.v_lst, Dp.v_kls, Dp.v_dK, Dp.v_dT, Dp.v_ins, Dp.f_ins, Dp.da_dKs, Dp.da_dKi, Dp.ix_dKs, Dp.ix_dKi, Dp.ix_lst, Dp.ix_tup, Dp.ix_kls, Dp.lo_lst, Dp.lo_kls, Dp.io_lst, Dp.io_tup, Dp.io_kls, Dp.ki_lst, Dp.ki_tup, Dp.ki_dK, Dp.dd_dK, Dp.e_ii, Dp.e_ss, Dp.e_bb, Dp.inB_dK, Dp.inB_tup, Dp.inB_lst, Dp.dLen, Dp.dAbs, Dp.dInt1, Dp.dStr1, Dp.dIsi, Dp.dListOf, Dp.dTupOf, Dp.dSum, Dp.dAny, Dp.dAll, Dp.dSorted, Dp.dDictP, Dp.dDictD, Dp.dSortMet, Dp.dLenSet, Dp.dSortSet, Dp.dmApp, Dp.dmExt, Dp.dmPop, Dp.dmPopAt, Dp.dmRem, Dp.dmIdx, Dp.dSet, Dp.intOf, Dp.keyOf, Dp.dwipe, Dp.patD, Dp.patDs, Dp.ln_lst, Dp.ln_tup, Dp.ln_kls, Dp.ln_dK, Dp.dFor, Dp.dLc, Dp.dDc, Dp.dLc2, Dp.srcOf, Dp.dFrz, lk_Seats_scene, pa_Seats_scene, pt_Seats_scene, lk_Seats_seating, pa_Seats_seating, pt_Seats_seating, lk_Seats_seated, pa_Seats_seated, pt_Seats_seated, lk_Kept_lot, pa_Kept_lot, pt_Kept_lot, lk_Kept_seating, pa_Kept_seating, pt_Kept_seating, lk_Kept_papers, pa_Kept_papers, pt_Kept_papers, lk_Call_worth, pa_Call_worth, pt_Call_worth, lk_Call_heard, pa_Call_heard, pt_Call_heard, lk_Scene_channels, pa_Scene_channels, pt_Scene_channels, lk_Scene_calls, pa_Scene_calls, pt_Scene_calls, f_cI hS.ma, da_cKs hS.mp, dd_cK hS.mp, look_sta, Option.map_none, Option.getD_none] at f
    exact ⟨trivial, f⟩
  | some o =>
    obtain ⟨hok, hno⟩ := ho o hS'
    obtain ⟨r, hr, hrm, hM⟩ := hS.row hok
    obtain ⟨j, z, j1, j2, j3, j4⟩ := str_place hno
    simp only [Dp.dSeq, Dp.dAsg, Dp.dgN, Dp.dVar, Dp.dC, Dp.dUn, Dp.dOp, Dp.dFld, Dp.dTst, Dp.dAnd, Dp.dOr, Dp.dNot, Dp.dAndV, Dp.dOrV, Dp.dNotV, Dp.dIf, Dp.dIfS, Dp.dRet, Dp.dRetN, Dp.dExpr, Dp.dPar, Dp.dPar3, Dp.dNext, Dp.dNever, Dp.dBrk, Dp.dCont, Dp.dgTup, Dp.dgCons, Dp.dgNil, Dp.dCall, Dp.dCons, Dp.dNil, Dp.dTup, Dp.dLst, Dp.dLstM, Dp.dNewK, Dp.dCallF, Dp.dMethF, Dp.dMake, Dp.dMakeF, Dp.dFldS, Dp.dPut, Dp.dBM, Dp.dGet1, Dp.dGet2, Dp.dPop1, Dp.dPop2, Dp.dStar, Dp.dIx, Dp.dAdd, Dp.dSub, Dp.dMul, Dp.dMod, Dp.dFdiv, Dp.dPow, Dp.dNeg, Dp.dAugN, Dp.dAugS, Dp.dAugF, Dp.dAugI, Dp.dLtS, Dp.dLe, Dp.dGt, Dp.dGe, Dp.dOrd, Dp.dBetween, Dp.dIsN, Dp.dEq, Dp.dEqK, Dp.dIn, Dp.dstart, List.map_cons, List.map_nil, List.length_cons, List.length_nil, List.cons_append, List.nil_append, List.replicate, List.getElem?_cons_zero, List.getElem?_cons_succ, List.set_cons_zero, List.set_cons_succ, Nat.reduceAdd, Nat.reduceSub, if_true, if_false, Bool.false_eq_true, Bool.not_true, Bool.not_false, Dp.v_non, Dp.v_bl, Dp.v_int, Dp.v_str, Dp.v_tup, Dp.v_lst, Dp.v_kls, Dp.v_dK, Dp.v_dT, Dp.v_ins, Dp.f_ins, Dp.da_dKs, Dp.da_dKi, Dp.ix_dKs, Dp.ix_dKi, Dp.ix_lst, Dp.ix_tup, Dp.ix_kls, Dp.lo_lst, Dp.lo_kls, Dp.io_lst, Dp.io_tup, Dp.io_kls, Dp.ki_lst, Dp.ki_tup, Dp.ki_dK, Dp.dd_dK, Dp.e_ii, Dp.e_ss, Dp.e_bb, Dp.inB_dK, Dp.inB_tup, Dp.inB_lst, Dp.dLen, Dp.dAbs, Dp.dInt1, Dp.dStr1, Dp.dIsi, Dp.dListOf, Dp.dTupOf, Dp.dSum, Dp.dAny, Dp.dAll, Dp.dSorted, Dp.dDictP, Dp.dDictD, Dp.dSortMet, Dp.dLenSet, Dp.dSortSet, Dp.dmApp, Dp.dmExt, Dp.dmPop, Dp.dmPopAt, Dp.dmRem, Dp.dmIdx, Dp.dSet, Dp.intOf, Dp.keyOf, Dp.dwipe, Dp.patD, Dp.patDs, Dp.ln_lst, Dp.ln_tup, Dp.ln_kls, Dp.ln_dK, Dp.dFor, Dp.dLc, Dp.dDc, Dp.dLc2, Dp.srcOf, Dp.dFrz, lk_Seats_scene, pa_Seats_scene, pt_Seats_scene, lk_Seats_seating, pa_Seats_seating, pt_Seats_seating, lk_Seats_seated, pa_Seats_seated, pt_Seats_seated, lk_Kept_lot, pa_Kept_lot, pt_Kept_lot, lk_Kept_seating, pa_Kept_seating, pt_Kept_seating, lk_Kept_papers, pa_Kept_papers, pt_Kept_papers, lk_Call_worth, pa_Call_worth, pt_Call_worth, lk_Call_heard, pa_Call_heard, pt_Call_heard, lk_Scene_channels, pa_Scene_channels, pt_Scene_channels, lk_Scene_calls, pa_Scene_calls, pt_Scene_calls, Option.map_some, Option.getD_some, f_cI hS.ma, ix_cKs hS.mq, look_rws, hr, v_cK hS.mq, lo_cl hM, hM]
    refine ⟨trivial, trivial, rfl, rfl, strs_sc _, j, z, j1, j2, j3, ?_⟩
    rw [j4]
    have h1 := hS.row_set hrm (xs := (at_ o).erase n)
    have e1 : (fun x => if x = o then (at_ o).erase n else at_ x) = offAt S at_ n := by
      funext x
      unfold offAt
      rw [hS']
      by_cases hx : x = o
      · rw [if_pos hx, if_pos (by rw [hx]), hx]
      · rw [if_neg hx, if_neg fun q => hx (Option.some.inj q).symm]
    have f := fin (some (.str o)) _ _ h1 e1 (keeps_mup (own_r hrm)) fun x => by
      split
      · exact Nat.le_trans (List.erase_sublist.length_le) (hla o)
      · exact hla x
    simp only [Dp.dSeq, Dp.dAsg, Dp.dgN, Dp.dVar, Dp.dC, Dp.dUn, Dp.dOp, Dp.dFld, Dp.dTst, Dp.dAnd, Dp.dOr, Dp.dNot, Dp.dAndV, Dp.dOrV, Dp.dNotV, Dp.dIf, Dp.dIfS, Dp.dRet, Dp.dRetN, Dp.dExpr, Dp.dPar, Dp.dPar3, Dp.dNext, Dp.dNever, Dp.dBrk, Dp.dCont, Dp.dgTup, Dp.dgCons, Dp.dgNil, Dp.dCall, Dp.dCons, Dp.dNil, Dp.dTup, Dp.dLst, Dp.dLstM, Dp.dNewK, Dp.dCallF, Dp.dMethF, Dp.dMake, Dp.dMakeF, Dp.dFldS, Dp.dPut, Dp.dBM, Dp.dGet1, Dp.dGet2, Dp.dPop1, Dp.dPop2, Dp.dStar, Dp.dIx, Dp.dAdd, Dp.dSub, Dp.dMul, Dp.dMod, Dp.dFdiv, Dp.dPow, Dp.dNeg, Dp.dAugN, Dp.dAugS, Dp.dAugF, Dp.dAugI, Dp.dLtS, Dp.dLe, Dp.dGt, Dp.dGe, Dp.dOrd, Dp.dBetween, Dp.dIsN, Dp.dEq, Dp.dEqK, Dp.dIn, Dp.dstart, List.map_cons, List.map_nil, List.length_cons, List.length_nil, List.cons_append, List.nil_append, List.replicate, List.getElem?_cons_zero, List.getElem?_cons_succ, List.set_cons_zero, List.set_cons_succ, Nat.reduceAdd, Nat.reduceSub, if_true, if_false, Bool.false_eq_true, Bool.not_true, Bool.not_false, Dp.v_non, Dp.v_bl, Dp.v_int, Dp.v_str, Dp.v_tup, Dp.v_lst, Dp.v_kls, Dp.v_dK, Dp.v_dT, Dp.v_ins, Dp.f_ins, Dp.da_dKs, Dp.da_dKi, Dp.ix_dKs, Dp.ix_dKi, Dp.ix_lst, Dp.ix_tup, Dp.ix_kls, Dp.lo_lst, Dp.lo_kls, Dp.io_lst, Dp.io_tup, Dp.io_kls, Dp.ki_lst, Dp.ki_tup, Dp.ki_dK, Dp.dd_dK, Dp.e_ii, Dp.e_ss, Dp.e_bb, Dp.inB_dK, Dp.inB_tup, Dp.inB_lst, Dp.dLen, Dp.dAbs, Dp.dInt1, Dp.dStr1, Dp.dIsi, Dp.dListOf, Dp.dTupOf, Dp.dSum, Dp.dAny, Dp.dAll, Dp.dSorted, Dp.dDictP, Dp.dDictD, Dp.dSortMet, Dp.dLenSet, Dp.dSortSet, Dp.dmApp, Dp.dmExt, Dp.dmPop, Dp.dmPopAt, Dp.dmRem, Dp.dmIdx, Dp.dSet, Dp.intOf, Dp.keyOf, Dp.dwipe, Dp.patD, Dp.patDs, Dp.ln_lst, Dp.ln_tup, Dp.ln_kls, Dp.ln_dK, Dp.dFor, Dp.dLc, Dp.dDc, Dp.dLc2, Dp.srcOf, Dp.dFrz, lk_Seats_scene, pa_Seats_scene, pt_Seats_scene, lk_Seats_seating, pa_Seats_seating, pt_Seats_seating, lk_Seats_seated, pa_Seats_seated, pt_Seats_seated, lk_Kept_lot, pa_Kept_lot, pt_Kept_lot, lk_Kept_seating, pa_Kept_seating, pt_Kept_seating, lk_Kept_papers, pa_Kept_papers, pt_Kept_papers, lk_Call_worth, pa_Call_worth, pt_Call_worth, lk_Call_heard, pa_Call_heard, pt_Call_heard, lk_Scene_channels, pa_Scene_channels, pt_Scene_channels, lk_Scene_calls, pa_Scene_calls, pt_Scene_calls, Option.map_some, Option.getD_some] at f
    exact f
def sp_Seats_init (d : Dat) : DSp := fun ds M R _ => ∃ a s, ds = [.adr a, dScn d s] ∧ M a = some (.ins d.C_Seats []) ∧ (s.ch.map (·.1)).Nodup ∧ ∀ M' p q rs, SeatsAt d M' s a p q rs [] (fun _ => []) → (∀ b ∈ p :: q :: rs.map (·.2), M b = none) → (∀ b m, b ≠ a → M b = some m → M' b = some m) → R .non M'
theorem ok_Seats_init (T : Tx K mg d) : FnOk P w K mg base (L2.CX P w) 1 d.f_Seats_init d.d_Seats_init ["self", "scene"] (LSp K (sp_Seats_init d)) := by
  refine dfn_ok (k := 0) T.F_Seats_init sc_Seats_init (fun ds M R RX h => ?_) (by decide) fun cdv A outer s0 H0 E0 B ds M R RX hr fx h => ?_
  · obtain ⟨a, s, rfl, hM, hn, hR⟩ := h; rfl
  obtain ⟨a, s, rfl, hM, hn, hR⟩ := h
  have nd := sc_Seats_init.nd
  refine ⟨_, (dss_cons (ds_fld (nv 0) (nv 1)) (dss_cons (ds_fld (nv 0) (de_newK)) (dss_one (ds_fld (nv 0) (de_dc (fz := false) (own := [("mast", 2)]) rfl nd (di_any (de_fld (nv 1))) (blkOk_by (N := N_Seats_init) (sc := defScope s_Seats_init) (own := [("mast", 2)]) (by decide +kernel)) (by decide) (fun _ _ _ _ _ => (pp_name (i := 2) nd rfl (Or.inl rfl))) (fun _ _ _ _ _ => dts_nil) (fun _ _ _ _ _ => (nv 2)) (fun _ _ _ _ _ => (de_lstM da_nil))))))), ?_⟩
  simp only [Dp.dSeq, Dp.dAsg, Dp.dgN, Dp.dVar, Dp.dC, Dp.dUn, Dp.dOp, Dp.dFld, Dp.dTst, Dp.dAnd, Dp.dOr, Dp.dNot, Dp.dAndV, Dp.dOrV, Dp.dNotV, Dp.dIf, Dp.dIfS, Dp.dRet, Dp.dRetN, Dp.dExpr, Dp.dPar, Dp.dPar3, Dp.dNext, Dp.dNever, Dp.dBrk, Dp.dCont, Dp.dgTup, Dp.dgCons, Dp.dgNil, Dp.dCall, Dp.dCons, Dp.dNil, Dp.dTup, Dp.dLst, Dp.dLstM, Dp.dNewK, Dp.dCallF, Dp.dMethF, Dp.dMake, Dp.dMakeF, Dp.dFldS, Dp.dPut, Dp.dBM, Dp.dGet1, Dp.dGet2, Dp.dPop1, Dp.dPop2, Dp.dStar, Dp.dIx, Dp.dAdd, Dp.dSub, Dp.dMul, Dp.dMod, Dp.dFdiv, Dp.dPow, Dp.dNeg, Dp.dAugN, Dp.dAugS, Dp.dAugF, Dp.dAugI, Dp.dLtS, Dp.dLe, Dp.dGt, Dp.dGe, Dp.dOrd, Dp.dBetween, Dp.dIsN, Dp.dEq, Dp.dEqK, Dp.dIn, Dp.dstart, List.map_cons, List.map_nil, List.length_cons, List.length_nil, List.cons_append, List.nil_append, List.replicate, List.getElem?_cons_zero, List.getElem?_cons_succ, List.set_cons_zero, List.set_cons_succ, Nat.reduceAdd, Nat.reduceSub, if_true, if_false, Bool.false_eq_true, Bool.not_true, Bool.not_false, Dp.v_non, Dp.v_bl, Dp.v_int, Dp.v_str, Dp.v_tup, Dp.v_lst, Dp.v_kls, Dp.v_dK, Dp.v_dT, Dp.v_ins, Dp.f_ins, Dp.da_dKs, Dp.da_dKi, Dp.ix_dKs, Dp.ix_dKi, Dp.ix_lst, Dp.ix_tup, Dp.ix_kls, Dp.lo_lst, Dp.lo_kls, Dp.io_lst, Dp.io_tup, Dp.io_kls, Dp.ki_lst, Dp.ki_tup, Dp.ki_dK, Dp.dd_dK, Dp.e_ii, Dp.e_ss, Dp.e_bb, Dp.inB_dK, Dp.inB_tup, Dp.inB_lst, Dp.dLen, Dp.dAbs, Dp.dInt1, Dp.dStr1, Dp.dIsi, Dp.dListOf, Dp.dTupOf, Dp.dSum, Dp.dAny, Dp.dAll, Dp.dSorted, Dp.dDictP, Dp.dDictD, Dp.dSortMet, Dp.dLenSet, Dp.dSortSet, Dp.dmApp, Dp.dmExt, Dp.dmPop, Dp.dmPopAt, Dp.dmRem, Dp.dmIdx, Dp.dSet, Dp.intOf, Dp.keyOf, Dp.dwipe, Dp.patD, Dp.patDs, Dp.ln_lst, Dp.ln_tup, Dp.ln_kls, Dp.ln_dK, Dp.dFor, Dp.dLc, Dp.dDc, Dp.dLc2, Dp.srcOf, Dp.dFrz, lk_Seats_scene, pa_Seats_scene, pt_Seats_scene, lk_Seats_seating, pa_Seats_seating, pt_Seats_seating, lk_Seats_seated, pa_Seats_seated, pt_Seats_seated, lk_Kept_lot, pa_Kept_lot, pt_Kept_lot, lk_Kept_seating, pa_Kept_seating, pt_Kept_seating, lk_Kept_papers, pa_Kept_papers, pt_Kept_papers, lk_Call_worth, pa_Call_worth, pt_Call_worth, lk_Call_heard, pa_Call_heard, pt_Call_heard, lk_Scene_channels, pa_Scene_channels, pt_Scene_channels, lk_Scene_calls, pa_Scene_calls, pt_Scene_calls, hM, dScn]
  refine ⟨.inr T.fok_Seats_scene, by decide, fun p hp => ?_⟩
  have hpa : p ≠ a := fun q => by rw [q, mup_same] at hp; cases hp
  have hp0 : M p = none := by rw [mup_ne hpa] at hp; exact hp
  have m1 : mup (mup M a (.ins d.C_Seats [("scene", dScn d s)])) p (.dK []) a = some (.ins d.C_Seats [("scene", dScn d s)]) := by rw [mup_ne (Ne.symm hpa), mup_same]
  unfold dScn at m1
  simp only [Dp.dSeq, Dp.dAsg, Dp.dgN, Dp.dVar, Dp.dC, Dp.dUn, Dp.dOp, Dp.dFld, Dp.dTst, Dp.dAnd, Dp.dOr, Dp.dNot, Dp.dAndV, Dp.dOrV, Dp.dNotV, Dp.dIf, Dp.dIfS, Dp.dRet, Dp.dRetN, Dp.dExpr, Dp.dPar, Dp.dPar3, Dp.dNext, Dp.dNever, Dp.dBrk, Dp.dCont, Dp.dgTup, Dp.dgCons, Dp.dgNil, Dp.dCall, Dp.dCons, Dp.dNil, Dp.dTup, Dp.dLst, Dp.dLstM, Dp.dNewK, Dp.dCallF, Dp.dMethF, Dp.dMake, Dp.dMakeF, Dp.dFldS, Dp.dPut, Dp.dBM, Dp.dGet1, Dp.dGet2, Dp.dPop1, Dp.dPop2, Dp.dStar, Dp.dIx, Dp.dAdd, Dp.dSub, Dp.dMul, Dp.dMod, Dp.dFdiv, Dp.dPow, Dp.dNeg, Dp.dAugN, Dp.dAugS, Dp.dAugF, Dp.dAugI, Dp.dLtS, Dp.dLe, Dp.dGt, Dp.dGe, Dp.dOrd, Dp.dBetween, Dp.dIsN, Dp.dEq, Dp.dEqK, Dp.dIn, Dp.dstart, List.map_cons, List.map_nil, List.length_cons, List.length_nil, List.cons_append, List.nil_append, List.replicate, List.getElem?_cons_zero, List.getElem?_cons_succ, List.set_cons_zero, List.set_cons_succ, Nat.reduceAdd, Nat.reduceSub, if_true, if_false, Bool.false_eq_true, Bool.not_true, Bool.not_false, Dp.v_non, Dp.v_bl, Dp.v_int, Dp.v_str, Dp.v_tup, Dp.v_lst, Dp.v_kls, Dp.v_dK, Dp.v_dT, Dp.v_ins, Dp.f_ins, Dp.da_dKs, Dp.da_dKi, Dp.ix_dKs, Dp.ix_dKi, Dp.ix_lst, Dp.ix_tup, Dp.ix_kls, Dp.lo_lst, Dp.lo_kls, Dp.io_lst, Dp.io_tup, Dp.io_kls, Dp.ki_lst, Dp.ki_tup, Dp.ki_dK, Dp.dd_dK, Dp.e_ii, Dp.e_ss, Dp.e_bb, Dp.inB_dK, Dp.inB_tup, Dp.inB_lst, Dp.dLen, Dp.dAbs, Dp.dInt1, Dp.dStr1, Dp.dIsi, Dp.dListOf, Dp.dTupOf, Dp.dSum, Dp.dAny, Dp.dAll, Dp.dSorted, Dp.dDictP, Dp.dDictD, Dp.dSortMet, Dp.dLenSet, Dp.dSortSet, Dp.dmApp, Dp.dmExt, Dp.dmPop, Dp.dmPopAt, Dp.dmRem, Dp.dmIdx, Dp.dSet, Dp.intOf, Dp.keyOf, Dp.dwipe, Dp.patD, Dp.patDs, Dp.ln_lst, Dp.ln_tup, Dp.ln_kls, Dp.ln_dK, Dp.dFor, Dp.dLc, Dp.dDc, Dp.dLc2, Dp.srcOf, Dp.dFrz, lk_Seats_scene, pa_Seats_scene, pt_Seats_scene, lk_Seats_seating, pa_Seats_seating, pt_Seats_seating, lk_Seats_seated, pa_Seats_seated, pt_Seats_seated, lk_Kept_lot, pa_Kept_lot, pt_Kept_lot, lk_Kept_seating, pa_Kept_seating, pt_Kept_seating, lk_Kept_papers, pa_Kept_papers, pt_Kept_papers, lk_Call_worth, pa_Call_worth, pt_Call_worth, lk_Call_heard, pa_Call_heard, pt_Call_heard, lk_Scene_channels, pa_Scene_channels, pt_Scene_channels, lk_Scene_calls, pa_Scene_calls, pt_Scene_calls, m1]
  refine ⟨.inr T.fok_Seats_seating, by decide, ?_⟩
  have kc : ((dChs s).map fun kv => kD kv.1) = (s.ch.map (·.1)).map D.str := keys_str _ _
  rw [kc]
  obtain ⟨M1, hM1⟩ : ∃ M1, M1 = mup (mup (mup M a (.ins d.C_Seats [("scene", dScn d s)])) p (.dK [])) a (.ins d.C_Seats [("scene", dScn d s), ("seating", .adr p)]) := ⟨_, rfl⟩
  unfold dScn at hM1
  rw [← hM1]
  have a1 : M1 a = some (.ins d.C_Seats [("scene", dScn d s), ("seating", .adr p)]) := by rw [hM1, mup_same]; rfl
  have p1 : M1 p = some (.dK []) := by rw [hM1, mup_ne hpa, mup_same]
  have o1 : ∀ b, b ≠ a → b ≠ p → M1 b = M b := fun b hb hb2 => by rw [hM1, mup_ne hb, mup_ne hb2, mup_ne hb]
  intro c hc
  have hca : c ≠ a := fun q => by rw [q, a1] at hc; cases hc
  have hcp : c ≠ p := fun q => by rw [q, p1] at hc; cases hc
  refine ⟨fun i acc M' => ∃ rs : List (Str × Addr), acc = dRws rs ∧ rs.map (·.1) = (s.ch.map (·.1)).take i ∧ (rs.map (·.2)).Nodup ∧ (∀ x ∈ rs, M1 x.2 = none ∧ x.2 ≠ c ∧ M' x.2 = some (.lst [])) ∧ M' c = some (.dK acc) ∧ (∀ b, b ≠ c → b ∉ rs.map (·.2) → M' b = M1 b),
    ⟨[], rfl, by simp, by simp, by simp, mup_same, fun b hb _ => mup_ne hb⟩, ?_, ?_, ?_⟩
  · rintro i acc M' hi ⟨rs, rfl, _, _, _, hc', _⟩
    exact ⟨trivial, hc'⟩
  · rintro i x acc M' hx ⟨rs, rfl, hk, hnd, hr, hc', ho⟩
    rw [List.getElem?_map] at hx
    obtain ⟨y, hy, rfl⟩ := Option.map_eq_some_iff.mp hx
    have ht : (s.ch.map (·.1)).take (i + 1) = (s.ch.map (·.1)).take i ++ [y] := by rw [List.take_succ, hy]; rfl
    have hyn : y ∉ rs.map (·.1) := by
      rw [hk]
      have : ((s.ch.map (·.1)).take (i + 1)).Nodup := hn.sublist (List.take_sublist _ _)
      rw [ht, List.nodup_append] at this
      exact fun q => this.2.2 y q y (by simp) rfl
    refine ⟨_, rfl, ?_⟩
    simp only [Dp.dSeq, Dp.dAsg, Dp.dgN, Dp.dVar, Dp.dC, Dp.dUn, Dp.dOp, Dp.dFld, Dp.dTst, Dp.dAnd, Dp.dOr, Dp.dNot, Dp.dAndV, Dp.dOrV, Dp.dNotV, Dp.dIf, Dp.dIfS, Dp.dRet, Dp.dRetN, Dp.dExpr, Dp.dPar, Dp.dPar3, Dp.dNext, Dp.dNever, Dp.dBrk, Dp.dCont, Dp.dgTup, Dp.dgCons, Dp.dgNil, Dp.dCall, Dp.dCons, Dp.dNil, Dp.dTup, Dp.dLst, Dp.dLstM, Dp.dNewK, Dp.dCallF, Dp.dMethF, Dp.dMake, Dp.dMakeF, Dp.dFldS, Dp.dPut, Dp.dBM, Dp.dGet1, Dp.dGet2, Dp.dPop1, Dp.dPop2, Dp.dStar, Dp.dIx, Dp.dAdd, Dp.dSub, Dp.dMul, Dp.dMod, Dp.dFdiv, Dp.dPow, Dp.dNeg, Dp.dAugN, Dp.dAugS, Dp.dAugF, Dp.dAugI, Dp.dLtS, Dp.dLe, Dp.dGt, Dp.dGe, Dp.dOrd, Dp.dBetween, Dp.dIsN, Dp.dEq, Dp.dEqK, Dp.dIn, Dp.dstart, List.map_cons, List.map_nil, List.length_cons, List.length_nil, List.cons_append, List.nil_append, List.replicate, List.getElem?_cons_zero, List.getElem?_cons_succ, List.set_cons_zero, List.set_cons_succ, Nat.reduceAdd, Nat.reduceSub, if_true, if_false, Bool.false_eq_true, Bool.not_true, Bool.not_false, Dp.v_non, Dp.v_bl, Dp.v_int, Dp.v_str, Dp.v_tup, Dp.v_lst, Dp.v_kls, Dp.v_dK, Dp.v_dT, Dp.v_ins, Dp.f_ins, Dp.da_dKs, Dp.da_dKi, Dp.ix_dKs, Dp.ix_dKi, Dp.ix_lst, Dp.ix_tup, Dp.ix_kls, Dp.lo_lst, Dp.lo_kls, Dp.io_lst, Dp.io_tup, Dp.io_kls, Dp.ki_lst, Dp.ki_tup, Dp.ki_dK, Dp.dd_dK, Dp.e_ii, Dp.e_ss, Dp.e_bb, Dp.inB_dK, Dp.inB_tup, Dp.inB_lst, Dp.dLen, Dp.dAbs, Dp.dInt1, Dp.dStr1, Dp.dIsi, Dp.dListOf, Dp.dTupOf, Dp.dSum, Dp.dAny, Dp.dAll, Dp.dSorted, Dp.dDictP, Dp.dDictD, Dp.dSortMet, Dp.dLenSet, Dp.dSortSet, Dp.dmApp, Dp.dmExt, Dp.dmPop, Dp.dmPopAt, Dp.dmRem, Dp.dmIdx, Dp.dSet, Dp.intOf, Dp.keyOf, Dp.dwipe, Dp.patD, Dp.patDs, Dp.ln_lst, Dp.ln_tup, Dp.ln_kls, Dp.ln_dK, Dp.dFor, Dp.dLc, Dp.dDc, Dp.dLc2, Dp.srcOf, Dp.dFrz, lk_Seats_scene, pa_Seats_scene, pt_Seats_scene, lk_Seats_seating, pa_Seats_seating, pt_Seats_seating, lk_Seats_seated, pa_Seats_seated, pt_Seats_seated, lk_Kept_lot, pa_Kept_lot, pt_Kept_lot, lk_Kept_seating, pa_Kept_seating, pt_Kept_seating, lk_Kept_papers, pa_Kept_papers, pt_Kept_papers, lk_Call_worth, pa_Call_worth, pt_Call_worth, lk_Call_heard, pa_Call_heard, pt_Call_heard, lk_Scene_channels, pa_Scene_channels, pt_Scene_channels, lk_Scene_calls, pa_Scene_calls, pt_Scene_calls]
    refine ⟨szl (by decide), fun r hr0 => ?_⟩
    have hrc : r ≠ c := fun q => by rw [q, hc'] at hr0; cases hr0
    have hrn : r ∉ rs.map (·.2) := fun q => by
      obtain ⟨z, hz, e⟩ := List.mem_map.mp q
      rw [← e, (hr z hz).2.2] at hr0; cases hr0
    have hr1 : M1 r = none := by rw [← ho r hrc hrn]; exact hr0
    have ep : put (dRws rs) (Sum.inr y) (.adr r) = dRws (rs ++ [(y, r)]) := by
      rw [put_new _ (by unfold dRws; rw [List.map_map]; intro q; obtain ⟨z, hz, e⟩ := List.mem_map.mp q; exact hyn (Sum.inr.inj e ▸ List.mem_map_of_mem hz))]
      unfold dRws; rw [List.map_append]; rfl
    rw [ep]
    refine ⟨by rw [mup_ne (Ne.symm hrc)]; exact hc', rs ++ [(y, r)], rfl, by rw [List.map_append, hk, ht]; rfl, ?_, ?_, mup_same, ?_⟩
    · rw [List.map_append, List.nodup_append]
      exact ⟨hnd, by simp, fun u hu v hv e => hrn (by
        have e2 : v = r := List.mem_singleton.mp hv
        rw [← e2, ← e]; exact hu)⟩
    · intro z hz
      rcases List.mem_append.mp hz with hz | hz
      · have h3 := hr z hz
        refine ⟨h3.1, h3.2.1, ?_⟩
        have : z.2 ≠ r := fun q => hrn (q ▸ List.mem_map_of_mem hz)
        rw [mup_ne h3.2.1, mup_ne this]; exact h3.2.2
      · rw [List.mem_singleton.mp hz]
        exact ⟨hr1, hrc, by rw [mup_ne hrc, mup_same]⟩
    · intro b hb hb2
      rw [List.map_append, List.mem_append, not_or] at hb2
      have : b ≠ r := fun q => hb2.2 (by simp [q])
      rw [mup_ne hb, mup_ne this]; exact ho b hb hb2.1
  · rintro acc M' ⟨rs, rfl, hk, hnd, hr, hc', ho⟩
    have ek : rs.map (·.1) = s.ch.map (·.1) := by rw [hk, List.length_map, List.take_length]
    have hna : ∀ x ∈ rs, x.2 ≠ a ∧ x.2 ≠ p := fun x hx => ⟨fun q => (by have := (hr x hx).1; rw [q, a1] at this; cases this), fun q => (by have := (hr x hx).1; rw [q, p1] at this; cases this)⟩
    have nin : ∀ b, (∀ x ∈ rs, x.2 ≠ b) → b ∉ rs.map (·.2) := fun b h q => by obtain ⟨z, hz, e⟩ := List.mem_map.mp q; exact h z hz e
    have am : M' a = some (.ins d.C_Seats [("scene", dScn d s), ("seating", .adr p)]) := by rw [ho a (Ne.symm hca) (nin a fun x hx => (hna x hx).1)]; exact a1
    have pm : M' p = some (.dK []) := by rw [ho p (Ne.symm hcp) (nin p fun x hx => (hna x hx).2)]; exact p1
    unfold dScn at am
    simp only [Dp.dSeq, Dp.dAsg, Dp.dgN, Dp.dVar, Dp.dC, Dp.dUn, Dp.dOp, Dp.dFld, Dp.dTst, Dp.dAnd, Dp.dOr, Dp.dNot, Dp.dAndV, Dp.dOrV, Dp.dNotV, Dp.dIf, Dp.dIfS, Dp.dRet, Dp.dRetN, Dp.dExpr, Dp.dPar, Dp.dPar3, Dp.dNext, Dp.dNever, Dp.dBrk, Dp.dCont, Dp.dgTup, Dp.dgCons, Dp.dgNil, Dp.dCall, Dp.dCons, Dp.dNil, Dp.dTup, Dp.dLst, Dp.dLstM, Dp.dNewK, Dp.dCallF, Dp.dMethF, Dp.dMake, Dp.dMakeF, Dp.dFldS, Dp.dPut, Dp.dBM, Dp.dGet1, Dp.dGet2, Dp.dPop1, Dp.dPop2, Dp.dStar, Dp.dIx, Dp.dAdd, Dp.dSub, Dp.dMul, Dp.dMod, Dp.dFdiv, Dp.dPow, Dp.dNeg, Dp.dAugN, Dp.dAugS, Dp.dAugF, Dp.dAugI, Dp.dLtS, Dp.dLe, Dp.dGt, Dp.dGe, Dp.dOrd, Dp.dBetween, Dp.dIsN, Dp.dEq, Dp.dEqK, Dp.dIn, Dp.dstart, List.map_cons, List.map_nil, List.length_cons, List.length_nil, List.cons_append, List.nil_append, List.replicate, List.getElem?_cons_zero, List.getElem?_cons_succ, List.set_cons_zero, List.set_cons_succ, Nat.reduceAdd, Nat.reduceSub, if_true, if_false, Bool.false_eq_true, Bool.not_true, Bool.not_false, Dp.v_non, Dp.v_bl, Dp.v_int, Dp.v_str, Dp.v_tup, Dp.v_lst, Dp.v_kls, Dp.v_dK, Dp.v_dT, Dp.v_ins, Dp.f_ins, Dp.da_dKs, Dp.da_dKi, Dp.ix_dKs, Dp.ix_dKi, Dp.ix_lst, Dp.ix_tup, Dp.ix_kls, Dp.lo_lst, Dp.lo_kls, Dp.io_lst, Dp.io_tup, Dp.io_kls, Dp.ki_lst, Dp.ki_tup, Dp.ki_dK, Dp.dd_dK, Dp.e_ii, Dp.e_ss, Dp.e_bb, Dp.inB_dK, Dp.inB_tup, Dp.inB_lst, Dp.dLen, Dp.dAbs, Dp.dInt1, Dp.dStr1, Dp.dIsi, Dp.dListOf, Dp.dTupOf, Dp.dSum, Dp.dAny, Dp.dAll, Dp.dSorted, Dp.dDictP, Dp.dDictD, Dp.dSortMet, Dp.dLenSet, Dp.dSortSet, Dp.dmApp, Dp.dmExt, Dp.dmPop, Dp.dmPopAt, Dp.dmRem, Dp.dmIdx, Dp.dSet, Dp.intOf, Dp.keyOf, Dp.dwipe, Dp.patD, Dp.patDs, Dp.ln_lst, Dp.ln_tup, Dp.ln_kls, Dp.ln_dK, Dp.dFor, Dp.dLc, Dp.dDc, Dp.dLc2, Dp.srcOf, Dp.dFrz, lk_Seats_scene, pa_Seats_scene, pt_Seats_scene, lk_Seats_seating, pa_Seats_seating, pt_Seats_seating, lk_Seats_seated, pa_Seats_seated, pt_Seats_seated, lk_Kept_lot, pa_Kept_lot, pt_Kept_lot, lk_Kept_seating, pa_Kept_seating, pt_Kept_seating, lk_Kept_papers, pa_Kept_papers, pt_Kept_papers, lk_Call_worth, pa_Call_worth, pt_Call_worth, lk_Call_heard, pa_Call_heard, pt_Call_heard, lk_Scene_channels, pa_Scene_channels, pt_Scene_channels, lk_Scene_calls, pa_Scene_calls, pt_Scene_calls, am]
    refine ⟨.inr T.fok_Seats_seated, by decide, _, MLe.refl _, hR _ p c rs ⟨mup_same, ?_, ?_, ?_, ek, ?_, by rw [ek]; exact hn⟩ ?_ ?_⟩
    · rw [mup_ne hpa]; exact pm
    · rw [mup_ne hca]; exact hc'
    · intro x hx; rw [mup_ne (hna x hx).1]; exact (hr x hx).2.2
    · simp only [List.nodup_cons, List.mem_cons, not_or]
      exact ⟨⟨Ne.symm hpa, Ne.symm hca, nin a fun x hx => (hna x hx).1⟩, ⟨Ne.symm hcp, nin p fun x hx => (hna x hx).2⟩, nin c fun x hx => (hr x hx).2.1, hnd⟩
    · intro b hb
      have hc0 : M c = none := by rw [← o1 c hca hcp]; exact hc
      rcases List.mem_cons.mp hb with rfl | hb
      · exact hp0
      rcases List.mem_cons.mp hb with rfl | hb
      · exact hc0
      obtain ⟨z, hz, rfl⟩ := List.mem_map.mp hb
      rw [← o1 _ (hna z hz).1 (hna z hz).2]; exact (hr z hz).1
    · intro b m hb hm
      have hbp : b ≠ p := fun q => by rw [q, hp0] at hm; cases hm
      have hb1 : M1 b = some m := by rw [o1 b hb hbp]; exact hm
      have hbc : b ≠ c := fun q => by rw [q, hc] at hb1; cases hb1
      have hbr : b ∉ rs.map (·.2) := nin b fun x hx q => by have := (hr x hx).1; rw [q, hb1] at this; cases this
      rw [mup_ne hb, ho b hbc hbr]; exact hb1

end
end K20
namespace K20
open PySem PySem.Spec L2 Dp
section
variable {P : Program} {w : World} {K : PySem.W.Frag} {mg : Str → Option Value} {base : Heap} {d : Dat}
/-! from whom a channel can be handed on -/
def heardOf (s : Sc) (x : Str) : List Str := match s.ca.lookup x with
  | some c => c.2
  | none => []
def Full (s : Sc) (at_ : Str → List Str) (m : Str) : Prop := ∃ c, s.ch.lookup m = some c ∧ ¬ ((at_ m).length : Int) < c
def Met (at_ : Str → List Str) (n : Str) (came : List (Str × Str)) (x : Str) : Prop := x = n ∨ ∃ m ∈ came.map (·.1), x ∈ at_ m
structure WOk (s : Sc) (at_ : Str → List Str) (n : Str) (came : List (Str × Str)) : Prop where
  kd : (came.map (·.1)).Nodup
  km : ∀ p ∈ came, p.1 ∈ s.ch.map (·.1)
  pr : ∀ pre m x post, came = pre ++ (m, x) :: post → m ∈ heardOf s x ∧ Met at_ n pre x
/-- what comes out -/
def WaysOk (s : Sc) (at_ : Str → List Str) (n : Str) (came : List (Str × Str)) (res : Option Str) : Prop := WOk s at_ n came ∧ match res with
  | some m => (∃ pre x, came = pre ++ [(m, x)]) ∧ ∃ c, s.ch.lookup m = some c ∧ ((at_ m).length : Int) < c
  | none => (∀ m ∈ came.map (·.1), Full s at_ m) ∧ ∀ x, Met at_ n came x → ∀ m ∈ heardOf s x, m ∈ came.map (·.1)
def pot (s : Sc) (at_ : Str → List Str) (came : List (Str × Str)) : Nat := (((s.ch.map (·.1)).filter fun m => decide (m ∉ came.map (·.1))).map fun m => (at_ m).length).sum
theorem sum_filter {l : List Str} (f : Str → Nat) (p : Str → Bool) (m : Str) (hn : l.Nodup) (hm : m ∈ l) (hp : p m = true) : ((l.filter p).map f).sum = ((l.filter fun x => p x && decide (x ≠ m)).map f).sum + f m := by
  induction l with
  | nil => cases hm
  | cons x l ih =>
    rw [List.nodup_cons] at hn
    by_cases hx : x = m
    · subst hx
      have e : l.filter (fun y => p y && decide (y ≠ x)) = l.filter p := List.filter_congr fun y hy => by
        have : y ≠ x := fun q => hn.1 (q ▸ hy)
        simp [this]
      rw [List.filter_cons, if_pos hp, List.filter_cons, if_neg (by simp), e, List.map_cons, List.sum_cons]
      omega
    · have hm' : m ∈ l := (List.mem_cons.mp hm).resolve_left fun q => hx q.symm
      have := ih hn.2 hm'
      rw [List.filter_cons, List.filter_cons]
      by_cases hpx : p x = true
      · rw [if_pos hpx, if_pos (by simp [hpx, hx]), List.map_cons, List.map_cons, List.sum_cons, List.sum_cons, this]
        omega
      · rw [if_neg hpx, if_neg (by simp [hpx]), this]
theorem pot_add {s : Sc} {at_ : Str → List Str} {came : List (Str × Str)} {m x : Str} (hn : (s.ch.map (·.1)).Nodup) (hm : m ∈ s.ch.map (·.1)) (hc : m ∉ came.map (·.1)) : pot s at_ came = pot s at_ (came ++ [(m, x)]) + (at_ m).length := by
  unfold pot
  rw [sum_filter (fun m => (at_ m).length) (fun m => decide (m ∉ came.map (·.1))) m hn hm (decide_eq_true hc)]
  congr 3
  refine List.filter_congr fun y _ => ?_
  rw [List.map_append, Bool.eq_iff_iff]
  simp only [Bool.and_eq_true, decide_eq_true_eq, List.mem_append, not_or, List.map_cons, List.map_nil, List.mem_singleton]
theorem Met.mono {at_ : Str → List Str} {n : Str} {came : List (Str × Str)} {x : Str} (h : Met at_ n came x) (p : Str × Str) : Met at_ n (came ++ [p]) x := by
  rcases h with h | ⟨m, hm, hx⟩
  · exact .inl h
  · exact .inr ⟨m, by rw [List.map_append]; exact List.mem_append_left _ hm, hx⟩
theorem WOk.add {s : Sc} {at_ : Str → List Str} {n : Str} {came : List (Str × Str)} (h : WOk s at_ n came) {m x : Str} (hm : m ∈ s.ch.map (·.1)) (hc : m ∉ came.map (·.1)) (hx : Met at_ n came x) (hh : m ∈ heardOf s x) : WOk s at_ n (came ++ [(m, x)]) where
  kd := by
    rw [List.map_append, List.nodup_append]
    exact ⟨h.kd, by simp, fun a ha b hb e => hc (by
      have e2 : b = m := by simpa using hb
      rw [← e2, ← e]; exact ha)⟩
  km := fun p hp => by
    rcases List.mem_append.mp hp with hp | hp
    · exact h.km p hp
    · rw [List.mem_singleton.mp hp]; exact hm
  pr := fun pre m' x' post e => by
    rcases List.eq_nil_or_concat post with rfl | ⟨post', last, rfl⟩
    · obtain ⟨e1, e2⟩ := List.append_inj' e rfl
      cases e2
      subst e1
      exact ⟨hh, hx⟩
    · have e' : came ++ [(m, x)] = (pre ++ (m', x') :: post') ++ [last] := by rw [e]; simp
      obtain ⟨e1, e2⟩ := List.append_inj' e' rfl
      exact h.pr pre m' x' post' e1
/-- the state of the search -/
structure WSt (s : Sc) (at_ : Str → List Str) (n : Str) (came : List (Str × Str)) (rest : List Str) : Prop where
  ok : WOk s at_ n came
  fu : ∀ m ∈ came.map (·.1), Full s at_ m
  re : ∀ x ∈ rest, Met at_ n came x
def optD : Option Str → D
  | some m => .str m
  | none => .non
def sp_Seats_ways_from (d : Dat) : DSp := fun ds M R _ => ∃ a p q rs S at_ s n, ds = [.adr a, .str n] ∧ SeatsAt d M s a p q rs S at_ ∧ ScOk s ∧ (∀ x, (x = n ∨ ∃ m ∈ s.ch.map (·.1), x ∈ at_ m) → x ∈ s.ca.map (·.1)) ∧ pot s at_ [] ≤ 600000 ∧
  ∀ came res M', WaysOk s at_ n came res → MLe M M' → R (.tup [.dK (dSta came), optD res]) M'
theorem met_all {s : Sc} {at_ : Str → List Str} {n : Str} {came : List (Str × Str)} (h : WOk s at_ n came) {x : Str} (hm : Met at_ n came x) : x = n ∨ ∃ m ∈ s.ch.map (·.1), x ∈ at_ m := by
  rcases hm with h1 | ⟨m, hm, hx⟩
  · exact .inl h1
  · obtain ⟨p, hp, rfl⟩ := List.mem_map.mp hm
    exact .inr ⟨p.1, h.km p hp, hx⟩
theorem came_len {s : Sc} {at_ : Str → List Str} {n : Str} {came : List (Str × Str)} (h : WOk s at_ n came) (hs : ScOk s) : came.length ≤ 500 := by
  have := nodup_sub h.kd (m := s.ch.map (·.1)) fun x hx => by
    obtain ⟨p, hp, rfl⟩ := List.mem_map.mp hx
    exact h.km p hp
  rw [List.length_map, List.length_map] at this
  exact Nat.le_trans this hs.lc
theorem ok_Seats_ways_from (T : Tx K mg d) : FnOk P w K mg base (L2.CX P w) 2 d.f_Seats_ways_from d.d_Seats_ways_from ["self", "name"] (LSp K (sp_Seats_ways_from d)) := by
  have G_Seats_has_room := ok_Seats_has_room (P := P) (w := w) (base := base) T
  refine dfn_ok (k := 1) T.F_Seats_ways_from sc_Seats_ways_from (fun ds M R RX h => ?_) (by decide) fun cdv A outer s0 H0 E0 B ds M R RX hr fx h => ?_
  · obtain ⟨a, p, q, rs, S, at_, s, n, rfl, hS, hs, hx, hpot, hR⟩ := h; rfl
  obtain ⟨a, p, q, rs, S, at_, s, n, rfl, hS, hs, hx, hpot, hR⟩ := h
  have nd := sc_Seats_ways_from.nd
  refine ⟨_, (dss_cons (ds_par (i := 2) (j := 3) rfl nd rfl rfl (by decide) rfl rfl (da_cons (de_newK) (da_cons (de_lstM (da_cons (nv 1) da_nil)) da_nil)) rfl) (dss_cons (ds_while (passes_of rfl) (dt_ne (hu64 hr) (nv 3) (de_lst da_nil)) (dss_cons (ds_set (i := 4) nd rfl (Or.inl rfl) (de_popAt (nv 3) de_int)) (dss_one (ds_for (passes_of rfl) rfl (di_any (de_fld (de_ix (hu1 hr) (de_fld (de_fld (nv 0))) (nv 4)))) (pp_name (i := 5) nd rfl (Or.inl rfl)) (dss_one (ds_if (dt_notin (hu65 hr) (nv 5) (nv 2)) (dss_cons (ds_put (hu1 hr) (nv 2) (nv 5) (nv 4)) (dss_cons (ds_if (dt_val (de_meth (nv 0) T.c_Seats T.M_Seats_has_room G_Seats_has_room (hr.mono (by decide)) T.B_Seats_has_room (da_cons (nv 5) da_nil))) (dss_one (ds_ret (de_tup (da_cons (nv 2) (da_cons (nv 5) da_nil))))) dss_nil) (dss_one (ds_expr (de_extend (nv 3) (de_ix (hu1 hr) (de_fld (nv 0)) (nv 5))))))) dss_nil)))))) (dss_one (ds_ret (de_tup (da_cons (nv 2) (da_cons de_non da_nil))))))), ?_⟩
  simp only [Dp.dSeq, Dp.dAsg, Dp.dgN, Dp.dVar, Dp.dC, Dp.dUn, Dp.dOp, Dp.dFld, Dp.dTst, Dp.dAnd, Dp.dOr, Dp.dNot, Dp.dAndV, Dp.dOrV, Dp.dNotV, Dp.dIf, Dp.dIfS, Dp.dRet, Dp.dRetN, Dp.dExpr, Dp.dPar, Dp.dPar3, Dp.dNext, Dp.dNever, Dp.dBrk, Dp.dCont, Dp.dgTup, Dp.dgCons, Dp.dgNil, Dp.dCall, Dp.dCons, Dp.dNil, Dp.dTup, Dp.dLst, Dp.dLstM, Dp.dNewK, Dp.dCallF, Dp.dMethF, Dp.dMake, Dp.dMakeF, Dp.dFldS, Dp.dPut, Dp.dBM, Dp.dGet1, Dp.dGet2, Dp.dPop1, Dp.dPop2, Dp.dStar, Dp.dIx, Dp.dAdd, Dp.dSub, Dp.dMul, Dp.dMod, Dp.dFdiv, Dp.dPow, Dp.dNeg, Dp.dAugN, Dp.dAugS, Dp.dAugF, Dp.dAugI, Dp.dLtS, Dp.dLe, Dp.dGt, Dp.dGe, Dp.dOrd, Dp.dBetween, Dp.dIsN, Dp.dEq, Dp.dEqK, Dp.dIn, Dp.dstart, List.map_cons, List.map_nil, List.length_cons, List.length_nil, List.cons_append, List.nil_append, List.replicate, List.getElem?_cons_zero, List.getElem?_cons_succ, List.set_cons_zero, List.set_cons_succ, Nat.reduceAdd, Nat.reduceSub, if_true, if_false, Bool.false_eq_true, Bool.not_true, Bool.not_false, Dp.v_non, Dp.v_bl, Dp.v_int, Dp.v_str, Dp.v_tup, Dp.v_lst, Dp.v_kls, Dp.v_dK, Dp.v_dT, Dp.v_ins, Dp.f_ins, Dp.da_dKs, Dp.da_dKi, Dp.ix_dKs, Dp.ix_dKi, Dp.ix_lst, Dp.ix_tup, Dp.ix_kls, Dp.lo_lst, Dp.lo_kls, Dp.io_lst, Dp.io_tup, Dp.io_kls, Dp.ki_lst, Dp.ki_tup, Dp.ki_dK, Dp.dd_dK, Dp.e_ii, Dp.e_ss, Dp.e_bb, Dp.inB_dK, Dp.inB_tup, Dp.inB_lst, Dp.dLen, Dp.dAbs, Dp.dInt1, Dp.dStr1, Dp.dIsi, Dp.dListOf, Dp.dTupOf, Dp.dSum, Dp.dAny, Dp.dAll, Dp.dSorted, Dp.dDictP, Dp.dDictD, Dp.dSortMet, Dp.dLenSet, Dp.dSortSet, Dp.dmApp, Dp.dmExt, Dp.dmPop, Dp.dmPopAt, Dp.dmRem, Dp.dmIdx, Dp.dSet, Dp.intOf, Dp.keyOf, Dp.dwipe, Dp.patD, Dp.patDs, Dp.ln_lst, Dp.ln_tup, Dp.ln_kls, Dp.ln_dK, Dp.dFor, Dp.dLc, Dp.dDc, Dp.dLc2, Dp.srcOf, Dp.dFrz, lk_Seats_scene, pa_Seats_scene, pt_Seats_scene, lk_Seats_seating, pa_Seats_seating, pt_Seats_seating, lk_Seats_seated, pa_Seats_seated, pt_Seats_seated, lk_Kept_lot, pa_Kept_lot, pt_Kept_lot, lk_Kept_seating, pa_Kept_seating, pt_Kept_seating, lk_Kept_papers, pa_Kept_papers, pt_Kept_papers, lk_Call_worth, pa_Call_worth, pt_Call_worth, lk_Call_heard, pa_Call_heard, pt_Call_heard, lk_Scene_channels, pa_Scene_channels, pt_Scene_channels, lk_Scene_calls, pa_Scene_calls, pt_Scene_calls]
  refine fun c hc => ⟨szl (by decide), fun r hr => ?_⟩
  have hrc : r ≠ c := fun q => by rw [q, mup_same] at hr; cases hr
  have hr0 : M r = none := by rw [mup_ne hrc] at hr; exact hr
  have okx : ∀ {came : List (Str × Str)}, WOk s at_ n came → ∀ x, Met at_ n came x → ∃ cc, s.ca.lookup x = some cc ∧ PyData.strOk x = true := fun h x hm => by
    obtain ⟨cc, e⟩ := lookup_of (hx x (met_all h hm))
    exact ⟨cc, e, (isName_ok (hs.na _ (lookup_mem e))).1⟩
  refine ⟨fun m Γ' M' => ∃ came rest o4 o5, Γ' = [some (.adr a), some (.str n), some (.adr c), some (.adr r), o4, o5] ∧ MLe M M' ∧ M' c = some (.dK (dSta came)) ∧ M' r = some (.lst (rest.map .str)) ∧ WSt s at_ n came rest ∧ (∀ x, Met at_ n came x → x ∈ rest ∨ ∀ m' ∈ heardOf s x, m' ∈ came.map (·.1)) ∧ m = rest.length + pot s at_ came ∧ m ≤ 600001, ⟨_, [], [n], none, none, rfl, ?_, ?_, mup_same, ?_, ?_, rfl, ?_⟩, ?_⟩
  · exact mle_mup (mle_mup (MLe.refl _) hc) hr0
  · rw [mup_ne (Ne.symm hrc), mup_same]; rfl
  · exact ⟨⟨by simp, by simp, fun pre m x post e => by simp at e⟩, by simp, fun x hx => .inl (List.mem_singleton.mp hx)⟩
  · rintro x (rfl | ⟨m, hm, _⟩)
    · exact .inl (by simp)
    · simp at hm
  · simp only [List.length_cons, List.length_nil]; omega
  rintro m Γ' M' ⟨came, rest, o4, o5, rfl, le, hMc, hMr, hW, hD, hm, hmb⟩
  have flat : (rest.map D.str).all (flatN 8) = true := strs_flat fun x hx => by
    obtain ⟨_, _, h⟩ := okx hW.ok x (hW.re x hx)
    exact h
  simp only [Dp.dSeq, Dp.dAsg, Dp.dgN, Dp.dVar, Dp.dC, Dp.dUn, Dp.dOp, Dp.dFld, Dp.dTst, Dp.dAnd, Dp.dOr, Dp.dNot, Dp.dAndV, Dp.dOrV, Dp.dNotV, Dp.dIf, Dp.dIfS, Dp.dRet, Dp.dRetN, Dp.dExpr, Dp.dPar, Dp.dPar3, Dp.dNext, Dp.dNever, Dp.dBrk, Dp.dCont, Dp.dgTup, Dp.dgCons, Dp.dgNil, Dp.dCall, Dp.dCons, Dp.dNil, Dp.dTup, Dp.dLst, Dp.dLstM, Dp.dNewK, Dp.dCallF, Dp.dMethF, Dp.dMake, Dp.dMakeF, Dp.dFldS, Dp.dPut, Dp.dBM, Dp.dGet1, Dp.dGet2, Dp.dPop1, Dp.dPop2, Dp.dStar, Dp.dIx, Dp.dAdd, Dp.dSub, Dp.dMul, Dp.dMod, Dp.dFdiv, Dp.dPow, Dp.dNeg, Dp.dAugN, Dp.dAugS, Dp.dAugF, Dp.dAugI, Dp.dLtS, Dp.dLe, Dp.dGt, Dp.dGe, Dp.dOrd, Dp.dBetween, Dp.dIsN, Dp.dEq, Dp.dEqK, Dp.dIn, Dp.dstart, List.map_cons, List.map_nil, List.length_cons, List.length_nil, List.cons_append, List.nil_append, List.replicate, List.getElem?_cons_zero, List.getElem?_cons_succ, List.set_cons_zero, List.set_cons_succ, Nat.reduceAdd, Nat.reduceSub, if_true, if_false, Bool.false_eq_true, Bool.not_true, Bool.not_false, Dp.v_non, Dp.v_bl, Dp.v_int, Dp.v_str, Dp.v_tup, Dp.v_lst, Dp.v_kls, Dp.v_dK, Dp.v_dT, Dp.v_ins, Dp.f_ins, Dp.da_dKs, Dp.da_dKi, Dp.ix_dKs, Dp.ix_dKi, Dp.ix_lst, Dp.ix_tup, Dp.ix_kls, Dp.lo_lst, Dp.lo_kls, Dp.io_lst, Dp.io_tup, Dp.io_kls, Dp.ki_lst, Dp.ki_tup, Dp.ki_dK, Dp.dd_dK, Dp.e_ii, Dp.e_ss, Dp.e_bb, Dp.inB_dK, Dp.inB_tup, Dp.inB_lst, Dp.dLen, Dp.dAbs, Dp.dInt1, Dp.dStr1, Dp.dIsi, Dp.dListOf, Dp.dTupOf, Dp.dSum, Dp.dAny, Dp.dAll, Dp.dSorted, Dp.dDictP, Dp.dDictD, Dp.dSortMet, Dp.dLenSet, Dp.dSortSet, Dp.dmApp, Dp.dmExt, Dp.dmPop, Dp.dmPopAt, Dp.dmRem, Dp.dmIdx, Dp.dSet, Dp.intOf, Dp.keyOf, Dp.dwipe, Dp.patD, Dp.patDs, Dp.ln_lst, Dp.ln_tup, Dp.ln_kls, Dp.ln_dK, Dp.dFor, Dp.dLc, Dp.dDc, Dp.dLc2, Dp.srcOf, Dp.dFrz, lk_Seats_scene, pa_Seats_scene, pt_Seats_scene, lk_Seats_seating, pa_Seats_seating, pt_Seats_seating, lk_Seats_seated, pa_Seats_seated, pt_Seats_seated, lk_Kept_lot, pa_Kept_lot, pt_Kept_lot, lk_Kept_seating, pa_Kept_seating, pt_Kept_seating, lk_Kept_papers, pa_Kept_papers, pt_Kept_papers, lk_Call_worth, pa_Call_worth, pt_Call_worth, lk_Call_heard, pa_Call_heard, pt_Call_heard, lk_Scene_channels, pa_Scene_channels, pt_Scene_channels, lk_Scene_calls, pa_Scene_calls, pt_Scene_calls, v_cl hMr, eq_lst_nil flat, map_isEmpty]
  refine ⟨szl (by decide), ?_⟩
  cases rest with
  | nil =>
    simp only [Dp.dSeq, Dp.dAsg, Dp.dgN, Dp.dVar, Dp.dC, Dp.dUn, Dp.dOp, Dp.dFld, Dp.dTst, Dp.dAnd, Dp.dOr, Dp.dNot, Dp.dAndV, Dp.dOrV, Dp.dNotV, Dp.dIf, Dp.dIfS, Dp.dRet, Dp.dRetN, Dp.dExpr, Dp.dPar, Dp.dPar3, Dp.dNext, Dp.dNever, Dp.dBrk, Dp.dCont, Dp.dgTup, Dp.dgCons, Dp.dgNil, Dp.dCall, Dp.dCons, Dp.dNil, Dp.dTup, Dp.dLst, Dp.dLstM, Dp.dNewK, Dp.dCallF, Dp.dMethF, Dp.dMake, Dp.dMakeF, Dp.dFldS, Dp.dPut, Dp.dBM, Dp.dGet1, Dp.dGet2, Dp.dPop1, Dp.dPop2, Dp.dStar, Dp.dIx, Dp.dAdd, Dp.dSub, Dp.dMul, Dp.dMod, Dp.dFdiv, Dp.dPow, Dp.dNeg, Dp.dAugN, Dp.dAugS, Dp.dAugF, Dp.dAugI, Dp.dLtS, Dp.dLe, Dp.dGt, Dp.dGe, Dp.dOrd, Dp.dBetween, Dp.dIsN, Dp.dEq, Dp.dEqK, Dp.dIn, Dp.dstart, List.map_cons, List.map_nil, List.length_cons, List.length_nil, List.cons_append, List.nil_append, List.replicate, List.getElem?_cons_zero, List.getElem?_cons_succ, List.set_cons_zero, List.set_cons_succ, Nat.reduceAdd, Nat.reduceSub, if_true, if_false, Bool.false_eq_true, Bool.not_true, Bool.not_false, Dp.v_non, Dp.v_bl, Dp.v_int, Dp.v_str, Dp.v_tup, Dp.v_lst, Dp.v_kls, Dp.v_dK, Dp.v_dT, Dp.v_ins, Dp.f_ins, Dp.da_dKs, Dp.da_dKi, Dp.ix_dKs, Dp.ix_dKi, Dp.ix_lst, Dp.ix_tup, Dp.ix_kls, Dp.lo_lst, Dp.lo_kls, Dp.io_lst, Dp.io_tup, Dp.io_kls, Dp.ki_lst, Dp.ki_tup, Dp.ki_dK, Dp.dd_dK, Dp.e_ii, Dp.e_ss, Dp.e_bb, Dp.inB_dK, Dp.inB_tup, Dp.inB_lst, Dp.dLen, Dp.dAbs, Dp.dInt1, Dp.dStr1, Dp.dIsi, Dp.dListOf, Dp.dTupOf, Dp.dSum, Dp.dAny, Dp.dAll, Dp.dSorted, Dp.dDictP, Dp.dDictD, Dp.dSortMet, Dp.dLenSet, Dp.dSortSet, Dp.dmApp, Dp.dmExt, Dp.dmPop, Dp.dmPopAt, Dp.dmRem, Dp.dmIdx, Dp.dSet, Dp.intOf, Dp.keyOf, Dp.dwipe, Dp.patD, Dp.patDs, Dp.ln_lst, Dp.ln_tup, Dp.ln_kls, Dp.ln_dK, Dp.dFor, Dp.dLc, Dp.dDc, Dp.dLc2, Dp.srcOf, Dp.dFrz, lk_Seats_scene, pa_Seats_scene, pt_Seats_scene, lk_Seats_seating, pa_Seats_seating, pt_Seats_seating, lk_Seats_seated, pa_Seats_seated, pt_Seats_seated, lk_Kept_lot, pa_Kept_lot, pt_Kept_lot, lk_Kept_seating, pa_Kept_seating, pt_Kept_seating, lk_Kept_papers, pa_Kept_papers, pt_Kept_papers, lk_Call_worth, pa_Call_worth, pt_Call_worth, lk_Call_heard, pa_Call_heard, pt_Call_heard, lk_Scene_channels, pa_Scene_channels, pt_Scene_channels, lk_Scene_calls, pa_Scene_calls, pt_Scene_calls, List.isEmpty_nil]
    refine ⟨szl (by decide), _, _, Fz.fst (fz_dK hMc), hR came none _ ⟨hW.ok, hW.fu, fun x hx => ?_⟩ (mle_mdel le hc)⟩
    rcases hD x hx with h | h
    · cases h
    · exact h
  | cons one rest =>
    have hl0 : (one :: rest).length = rest.length + 1 := rfl
    have hS' : SeatsAt d M' s a p q rs S at_ := hS.le fun b _ m e => le b m e
    obtain ⟨cc, hcc, _⟩ := okx hW.ok one (hW.re one List.mem_cons_self)
    have hho : heardOf s one = cc.2 := by unfold heardOf; rw [hcc]
    have six : seqIndex? 0 ((one :: rest).map D.str).length = some 0 := by
      unfold seqIndex?
      simp
    simp only [Dp.dSeq, Dp.dAsg, Dp.dgN, Dp.dVar, Dp.dC, Dp.dUn, Dp.dOp, Dp.dFld, Dp.dTst, Dp.dAnd, Dp.dOr, Dp.dNot, Dp.dAndV, Dp.dOrV, Dp.dNotV, Dp.dIf, Dp.dIfS, Dp.dRet, Dp.dRetN, Dp.dExpr, Dp.dPar, Dp.dPar3, Dp.dNext, Dp.dNever, Dp.dBrk, Dp.dCont, Dp.dgTup, Dp.dgCons, Dp.dgNil, Dp.dCall, Dp.dCons, Dp.dNil, Dp.dTup, Dp.dLst, Dp.dLstM, Dp.dNewK, Dp.dCallF, Dp.dMethF, Dp.dMake, Dp.dMakeF, Dp.dFldS, Dp.dPut, Dp.dBM, Dp.dGet1, Dp.dGet2, Dp.dPop1, Dp.dPop2, Dp.dStar, Dp.dIx, Dp.dAdd, Dp.dSub, Dp.dMul, Dp.dMod, Dp.dFdiv, Dp.dPow, Dp.dNeg, Dp.dAugN, Dp.dAugS, Dp.dAugF, Dp.dAugI, Dp.dLtS, Dp.dLe, Dp.dGt, Dp.dGe, Dp.dOrd, Dp.dBetween, Dp.dIsN, Dp.dEq, Dp.dEqK, Dp.dIn, Dp.dstart, List.map_cons, List.map_nil, List.length_cons, List.length_nil, List.cons_append, List.nil_append, List.replicate, List.getElem?_cons_zero, List.getElem?_cons_succ, List.set_cons_zero, List.set_cons_succ, Nat.reduceAdd, Nat.reduceSub, if_true, if_false, Bool.false_eq_true, Bool.not_true, Bool.not_false, Dp.v_non, Dp.v_bl, Dp.v_int, Dp.v_str, Dp.v_tup, Dp.v_lst, Dp.v_kls, Dp.v_dK, Dp.v_dT, Dp.v_ins, Dp.f_ins, Dp.da_dKs, Dp.da_dKi, Dp.ix_dKs, Dp.ix_dKi, Dp.ix_lst, Dp.ix_tup, Dp.ix_kls, Dp.lo_lst, Dp.lo_kls, Dp.io_lst, Dp.io_tup, Dp.io_kls, Dp.ki_lst, Dp.ki_tup, Dp.ki_dK, Dp.dd_dK, Dp.e_ii, Dp.e_ss, Dp.e_bb, Dp.inB_dK, Dp.inB_tup, Dp.inB_lst, Dp.dLen, Dp.dAbs, Dp.dInt1, Dp.dStr1, Dp.dIsi, Dp.dListOf, Dp.dTupOf, Dp.dSum, Dp.dAny, Dp.dAll, Dp.dSorted, Dp.dDictP, Dp.dDictD, Dp.dSortMet, Dp.dLenSet, Dp.dSortSet, Dp.dmApp, Dp.dmExt, Dp.dmPop, Dp.dmPopAt, Dp.dmRem, Dp.dmIdx, Dp.dSet, Dp.intOf, Dp.keyOf, Dp.dwipe, Dp.patD, Dp.patDs, Dp.ln_lst, Dp.ln_tup, Dp.ln_kls, Dp.ln_dK, Dp.dFor, Dp.dLc, Dp.dDc, Dp.dLc2, Dp.srcOf, Dp.dFrz, lk_Seats_scene, pa_Seats_scene, pt_Seats_scene, lk_Seats_seating, pa_Seats_seating, pt_Seats_seating, lk_Seats_seated, pa_Seats_seated, pt_Seats_seated, lk_Kept_lot, pa_Kept_lot, pt_Kept_lot, lk_Kept_seating, pa_Kept_seating, pt_Kept_seating, lk_Kept_papers, pa_Kept_papers, pt_Kept_papers, lk_Call_worth, pa_Call_worth, pt_Call_worth, lk_Call_heard, pa_Call_heard, pt_Call_heard, lk_Scene_channels, pa_Scene_channels, pt_Scene_channels, lk_Scene_calls, pa_Scene_calls, pt_Scene_calls, List.isEmpty_cons, lo_cl hMr, hMr]
    refine ⟨rfl, by decide, by decide, 0, .str one, six, rfl, ?_⟩
    have hca : c ≠ a := fun q => by rw [q, hS.ma] at hc; cases hc
    have hra : r ≠ a := fun q => by rw [q, hS.ma] at hr0; cases hr0
    obtain ⟨M1, hM1⟩ : ∃ M1, M1 = mup M' r (.lst (rest.map D.str)) := ⟨_, rfl⟩
    have le1 : MLe M M1 := by rw [hM1]; exact mle_mup le hr0
    have hS1 : SeatsAt d M1 s a p q rs S at_ := hS.le fun b _ m e => le1 b m e
    have hM1c : M1 c = some (.dK (dSta came)) := by rw [hM1, mup_ne (Ne.symm hrc)]; exact hMc
    have hM1r : M1 r = some (.lst (rest.map D.str)) := by rw [hM1, mup_same]
    have ee : (D.str one :: rest.map D.str).eraseIdx 0 = rest.map D.str := rfl
    rw [ee, ← hM1]
    simp only [Dp.dSeq, Dp.dAsg, Dp.dgN, Dp.dVar, Dp.dC, Dp.dUn, Dp.dOp, Dp.dFld, Dp.dTst, Dp.dAnd, Dp.dOr, Dp.dNot, Dp.dAndV, Dp.dOrV, Dp.dNotV, Dp.dIf, Dp.dIfS, Dp.dRet, Dp.dRetN, Dp.dExpr, Dp.dPar, Dp.dPar3, Dp.dNext, Dp.dNever, Dp.dBrk, Dp.dCont, Dp.dgTup, Dp.dgCons, Dp.dgNil, Dp.dCall, Dp.dCons, Dp.dNil, Dp.dTup, Dp.dLst, Dp.dLstM, Dp.dNewK, Dp.dCallF, Dp.dMethF, Dp.dMake, Dp.dMakeF, Dp.dFldS, Dp.dPut, Dp.dBM, Dp.dGet1, Dp.dGet2, Dp.dPop1, Dp.dPop2, Dp.dStar, Dp.dIx, Dp.dAdd, Dp.dSub, Dp.dMul, Dp.dMod, Dp.dFdiv, Dp.dPow, Dp.dNeg, Dp.dAugN, Dp.dAugS, Dp.dAugF, Dp.dAugI, Dp.dLtS, Dp.dLe, Dp.dGt, Dp.dGe, Dp.dOrd, Dp.dBetween, Dp.dIsN, Dp.dEq, Dp.dEqK, Dp.dIn, Dp.dstart, List.map_cons, List.map_nil, List.length_cons, List.length_nil, List.cons_append, List.nil_append, List.replicate, List.getElem?_cons_zero, List.getElem?_cons_succ, List.set_cons_zero, List.set_cons_succ, Nat.reduceAdd, Nat.reduceSub, if_true, if_false, Bool.false_eq_true, Bool.not_true, Bool.not_false, Dp.v_non, Dp.v_bl, Dp.v_int, Dp.v_str, Dp.v_tup, Dp.v_lst, Dp.v_kls, Dp.v_dK, Dp.v_dT, Dp.v_ins, Dp.f_ins, Dp.da_dKs, Dp.da_dKi, Dp.ix_dKs, Dp.ix_dKi, Dp.ix_lst, Dp.ix_tup, Dp.ix_kls, Dp.lo_lst, Dp.lo_kls, Dp.io_lst, Dp.io_tup, Dp.io_kls, Dp.ki_lst, Dp.ki_tup, Dp.ki_dK, Dp.dd_dK, Dp.e_ii, Dp.e_ss, Dp.e_bb, Dp.inB_dK, Dp.inB_tup, Dp.inB_lst, Dp.dLen, Dp.dAbs, Dp.dInt1, Dp.dStr1, Dp.dIsi, Dp.dListOf, Dp.dTupOf, Dp.dSum, Dp.dAny, Dp.dAll, Dp.dSorted, Dp.dDictP, Dp.dDictD, Dp.dSortMet, Dp.dLenSet, Dp.dSortSet, Dp.dmApp, Dp.dmExt, Dp.dmPop, Dp.dmPopAt, Dp.dmRem, Dp.dmIdx, Dp.dSet, Dp.intOf, Dp.keyOf, Dp.dwipe, Dp.patD, Dp.patDs, Dp.ln_lst, Dp.ln_tup, Dp.ln_kls, Dp.ln_dK, Dp.dFor, Dp.dLc, Dp.dDc, Dp.dLc2, Dp.srcOf, Dp.dFrz, lk_Seats_scene, pa_Seats_scene, pt_Seats_scene, lk_Seats_seating, pa_Seats_seating, pt_Seats_seating, lk_Seats_seated, pa_Seats_seated, pt_Seats_seated, lk_Kept_lot, pa_Kept_lot, pt_Kept_lot, lk_Kept_seating, pa_Kept_seating, pt_Kept_seating, lk_Kept_papers, pa_Kept_papers, pt_Kept_papers, lk_Call_worth, pa_Call_worth, pt_Call_worth, lk_Call_heard, pa_Call_heard, pt_Call_heard, lk_Scene_channels, pa_Scene_channels, pt_Scene_channels, lk_Scene_calls, pa_Scene_calls, pt_Scene_calls, f_cI hS1.ma, dScn, look_ca, hcc, Option.map_some, dCal]
    refine ⟨trivial, ?_⟩
    refine for_i (fun j Γ' M' => ∃ came' rest' o5, Γ' = [some (.adr a), some (.str n), some (.adr c), some (.adr r), some (.str one), o5] ∧ MLe M M' ∧ M' c = some (.dK (dSta came')) ∧ M' r = some (.lst (rest'.map .str)) ∧ WSt s at_ n came' rest' ∧ Met at_ n came' one ∧
      (∀ m' ∈ cc.2.take j, m' ∈ came'.map (·.1)) ∧ (∀ x, Met at_ n came' x → x = one ∨ x ∈ rest' ∨ ∀ m' ∈ heardOf s x, m' ∈ came'.map (·.1)) ∧ rest'.length + pot s at_ came' = rest.length + pot s at_ came) ?_ (fun _ _ _ _ _ => trivial) ?_ ?_
    · refine ⟨came, rest, o5, rfl, le1, hM1c, hM1r, ⟨hW.ok, hW.fu, fun x hx => hW.re x (List.mem_cons_of_mem _ hx)⟩, hW.re one List.mem_cons_self, by simp, fun x hx => ?_, rfl⟩
      rcases hD x hx with h | h
      · exact (List.mem_cons.mp h).imp id .inl
      · exact .inr (.inr h)
    · rintro j x Γ' M2 hjx ⟨came', rest', o5', rfl, le2, hc2, hr2, hW2, hm2, ht2, hD2, hp2⟩
      rw [List.getElem?_map] at hjx
      obtain ⟨mast, hmast, rfl⟩ := Option.map_eq_some_iff.mp hjx
      have ht : cc.2.take (j + 1) = cc.2.take j ++ [mast] := by rw [List.take_succ, hmast]; rfl
      have hmk : mast ∈ s.ch.map (·.1) := hs.he _ (lookup_mem hcc) mast (List.mem_of_getElem? hmast)
      have hmh : mast ∈ heardOf s one := by rw [hho]; exact List.mem_of_getElem? hmast
      refine ⟨_, rfl, fun bk _ => ?_⟩
      simp only [Dp.dSeq, Dp.dAsg, Dp.dgN, Dp.dVar, Dp.dC, Dp.dUn, Dp.dOp, Dp.dFld, Dp.dTst, Dp.dAnd, Dp.dOr, Dp.dNot, Dp.dAndV, Dp.dOrV, Dp.dNotV, Dp.dIf, Dp.dIfS, Dp.dRet, Dp.dRetN, Dp.dExpr, Dp.dPar, Dp.dPar3, Dp.dNext, Dp.dNever, Dp.dBrk, Dp.dCont, Dp.dgTup, Dp.dgCons, Dp.dgNil, Dp.dCall, Dp.dCons, Dp.dNil, Dp.dTup, Dp.dLst, Dp.dLstM, Dp.dNewK, Dp.dCallF, Dp.dMethF, Dp.dMake, Dp.dMakeF, Dp.dFldS, Dp.dPut, Dp.dBM, Dp.dGet1, Dp.dGet2, Dp.dPop1, Dp.dPop2, Dp.dStar, Dp.dIx, Dp.dAdd, Dp.dSub, Dp.dMul, Dp.dMod, Dp.dFdiv, Dp.dPow, Dp.dNeg, Dp.dAugN, Dp.dAugS, Dp.dAugF, Dp.dAugI, Dp.dLtS, Dp.dLe, Dp.dGt, Dp.dGe, Dp.dOrd, Dp.dBetween, Dp.dIsN, Dp.dEq, Dp.dEqK, Dp.dIn, Dp.dstart, List.map_cons, List.map_nil, List.length_cons, List.length_nil, List.cons_append, List.nil_append, List.replicate, List.getElem?_cons_zero, List.getElem?_cons_succ, List.set_cons_zero, List.set_cons_succ, Nat.reduceAdd, Nat.reduceSub, if_true, if_false, Bool.false_eq_true, Bool.not_true, Bool.not_false, Dp.v_non, Dp.v_bl, Dp.v_int, Dp.v_str, Dp.v_tup, Dp.v_lst, Dp.v_kls, Dp.v_dK, Dp.v_dT, Dp.v_ins, Dp.f_ins, Dp.da_dKs, Dp.da_dKi, Dp.ix_dKs, Dp.ix_dKi, Dp.ix_lst, Dp.ix_tup, Dp.ix_kls, Dp.lo_lst, Dp.lo_kls, Dp.io_lst, Dp.io_tup, Dp.io_kls, Dp.ki_lst, Dp.ki_tup, Dp.ki_dK, Dp.dd_dK, Dp.e_ii, Dp.e_ss, Dp.e_bb, Dp.inB_dK, Dp.inB_tup, Dp.inB_lst, Dp.dLen, Dp.dAbs, Dp.dInt1, Dp.dStr1, Dp.dIsi, Dp.dListOf, Dp.dTupOf, Dp.dSum, Dp.dAny, Dp.dAll, Dp.dSorted, Dp.dDictP, Dp.dDictD, Dp.dSortMet, Dp.dLenSet, Dp.dSortSet, Dp.dmApp, Dp.dmExt, Dp.dmPop, Dp.dmPopAt, Dp.dmRem, Dp.dmIdx, Dp.dSet, Dp.intOf, Dp.keyOf, Dp.dwipe, Dp.patD, Dp.patDs, Dp.ln_lst, Dp.ln_tup, Dp.ln_kls, Dp.ln_dK, Dp.dFor, Dp.dLc, Dp.dDc, Dp.dLc2, Dp.srcOf, Dp.dFrz, lk_Seats_scene, pa_Seats_scene, pt_Seats_scene, lk_Seats_seating, pa_Seats_seating, pt_Seats_seating, lk_Seats_seated, pa_Seats_seated, pt_Seats_seated, lk_Kept_lot, pa_Kept_lot, pt_Kept_lot, lk_Kept_seating, pa_Kept_seating, pt_Kept_seating, lk_Kept_papers, pa_Kept_papers, pt_Kept_papers, lk_Call_worth, pa_Call_worth, pt_Call_worth, lk_Call_heard, pa_Call_heard, pt_Call_heard, lk_Scene_channels, pa_Scene_channels, pt_Scene_channels, lk_Scene_calls, pa_Scene_calls, pt_Scene_calls, inB_cK hc2, look_sta]
      cases hlk : came'.lookup mast with
      | some v =>
        simp only [Dp.dSeq, Dp.dAsg, Dp.dgN, Dp.dVar, Dp.dC, Dp.dUn, Dp.dOp, Dp.dFld, Dp.dTst, Dp.dAnd, Dp.dOr, Dp.dNot, Dp.dAndV, Dp.dOrV, Dp.dNotV, Dp.dIf, Dp.dIfS, Dp.dRet, Dp.dRetN, Dp.dExpr, Dp.dPar, Dp.dPar3, Dp.dNext, Dp.dNever, Dp.dBrk, Dp.dCont, Dp.dgTup, Dp.dgCons, Dp.dgNil, Dp.dCall, Dp.dCons, Dp.dNil, Dp.dTup, Dp.dLst, Dp.dLstM, Dp.dNewK, Dp.dCallF, Dp.dMethF, Dp.dMake, Dp.dMakeF, Dp.dFldS, Dp.dPut, Dp.dBM, Dp.dGet1, Dp.dGet2, Dp.dPop1, Dp.dPop2, Dp.dStar, Dp.dIx, Dp.dAdd, Dp.dSub, Dp.dMul, Dp.dMod, Dp.dFdiv, Dp.dPow, Dp.dNeg, Dp.dAugN, Dp.dAugS, Dp.dAugF, Dp.dAugI, Dp.dLtS, Dp.dLe, Dp.dGt, Dp.dGe, Dp.dOrd, Dp.dBetween, Dp.dIsN, Dp.dEq, Dp.dEqK, Dp.dIn, Dp.dstart, List.map_cons, List.map_nil, List.length_cons, List.length_nil, List.cons_append, List.nil_append, List.replicate, List.getElem?_cons_zero, List.getElem?_cons_succ, List.set_cons_zero, List.set_cons_succ, Nat.reduceAdd, Nat.reduceSub, if_true, if_false, Bool.false_eq_true, Bool.not_true, Bool.not_false, Dp.v_non, Dp.v_bl, Dp.v_int, Dp.v_str, Dp.v_tup, Dp.v_lst, Dp.v_kls, Dp.v_dK, Dp.v_dT, Dp.v_ins, Dp.f_ins, Dp.da_dKs, Dp.da_dKi, Dp.ix_dKs, Dp.ix_dKi, Dp.ix_lst, Dp.ix_tup, Dp.ix_kls, Dp.lo_lst, Dp.lo_kls, Dp.io_lst, Dp.io_tup, Dp.io_kls, Dp.ki_lst, Dp.ki_tup, Dp.ki_dK, Dp.dd_dK, Dp.e_ii, Dp.e_ss, Dp.e_bb, Dp.inB_dK, Dp.inB_tup, Dp.inB_lst, Dp.dLen, Dp.dAbs, Dp.dInt1, Dp.dStr1, Dp.dIsi, Dp.dListOf, Dp.dTupOf, Dp.dSum, Dp.dAny, Dp.dAll, Dp.dSorted, Dp.dDictP, Dp.dDictD, Dp.dSortMet, Dp.dLenSet, Dp.dSortSet, Dp.dmApp, Dp.dmExt, Dp.dmPop, Dp.dmPopAt, Dp.dmRem, Dp.dmIdx, Dp.dSet, Dp.intOf, Dp.keyOf, Dp.dwipe, Dp.patD, Dp.patDs, Dp.ln_lst, Dp.ln_tup, Dp.ln_kls, Dp.ln_dK, Dp.dFor, Dp.dLc, Dp.dDc, Dp.dLc2, Dp.srcOf, Dp.dFrz, lk_Seats_scene, pa_Seats_scene, pt_Seats_scene, lk_Seats_seating, pa_Seats_seating, pt_Seats_seating, lk_Seats_seated, pa_Seats_seated, pt_Seats_seated, lk_Kept_lot, pa_Kept_lot, pt_Kept_lot, lk_Kept_seating, pa_Kept_seating, pt_Kept_seating, lk_Kept_papers, pa_Kept_papers, pt_Kept_papers, lk_Call_worth, pa_Call_worth, pt_Call_worth, lk_Call_heard, pa_Call_heard, pt_Call_heard, lk_Scene_channels, pa_Scene_channels, pt_Scene_channels, lk_Scene_calls, pa_Scene_calls, pt_Scene_calls, Option.map_some, Option.isSome_some]
        refine ⟨came', rest', _, rfl, le2, hc2, hr2, hW2, hm2, fun m' hm' => ?_, hD2, hp2⟩
        rw [ht] at hm'
        rcases List.mem_append.mp hm' with h | h
        · exact ht2 m' h
        · rw [List.mem_singleton.mp h]; exact List.mem_map_of_mem (lookup_mem hlk)
      | none =>
        have hnew : mast ∉ came'.map (·.1) := fun q => by
          obtain ⟨v, hv⟩ := lookup_of q
          rw [hlk] at hv; cases hv
        have hlen := came_len hW2.ok hs
        have ep : put (dSta came') (Sum.inr mast) (.str one) = dSta (came' ++ [(mast, one)]) := by
          have := put_rows came' D.str mast one
          rw [put_new _ hnew] at this
          exact this
        have hl3 : (dSta came').length < sizeLine := by unfold dSta; rw [List.length_map]; exact szlt (by omega)
        simp only [Dp.dSeq, Dp.dAsg, Dp.dgN, Dp.dVar, Dp.dC, Dp.dUn, Dp.dOp, Dp.dFld, Dp.dTst, Dp.dAnd, Dp.dOr, Dp.dNot, Dp.dAndV, Dp.dOrV, Dp.dNotV, Dp.dIf, Dp.dIfS, Dp.dRet, Dp.dRetN, Dp.dExpr, Dp.dPar, Dp.dPar3, Dp.dNext, Dp.dNever, Dp.dBrk, Dp.dCont, Dp.dgTup, Dp.dgCons, Dp.dgNil, Dp.dCall, Dp.dCons, Dp.dNil, Dp.dTup, Dp.dLst, Dp.dLstM, Dp.dNewK, Dp.dCallF, Dp.dMethF, Dp.dMake, Dp.dMakeF, Dp.dFldS, Dp.dPut, Dp.dBM, Dp.dGet1, Dp.dGet2, Dp.dPop1, Dp.dPop2, Dp.dStar, Dp.dIx, Dp.dAdd, Dp.dSub, Dp.dMul, Dp.dMod, Dp.dFdiv, Dp.dPow, Dp.dNeg, Dp.dAugN, Dp.dAugS, Dp.dAugF, Dp.dAugI, Dp.dLtS, Dp.dLe, Dp.dGt, Dp.dGe, Dp.dOrd, Dp.dBetween, Dp.dIsN, Dp.dEq, Dp.dEqK, Dp.dIn, Dp.dstart, List.map_cons, List.map_nil, List.length_cons, List.length_nil, List.cons_append, List.nil_append, List.replicate, List.getElem?_cons_zero, List.getElem?_cons_succ, List.set_cons_zero, List.set_cons_succ, Nat.reduceAdd, Nat.reduceSub, if_true, if_false, Bool.false_eq_true, Bool.not_true, Bool.not_false, Dp.v_non, Dp.v_bl, Dp.v_int, Dp.v_str, Dp.v_tup, Dp.v_lst, Dp.v_kls, Dp.v_dK, Dp.v_dT, Dp.v_ins, Dp.f_ins, Dp.da_dKs, Dp.da_dKi, Dp.ix_dKs, Dp.ix_dKi, Dp.ix_lst, Dp.ix_tup, Dp.ix_kls, Dp.lo_lst, Dp.lo_kls, Dp.io_lst, Dp.io_tup, Dp.io_kls, Dp.ki_lst, Dp.ki_tup, Dp.ki_dK, Dp.dd_dK, Dp.e_ii, Dp.e_ss, Dp.e_bb, Dp.inB_dK, Dp.inB_tup, Dp.inB_lst, Dp.dLen, Dp.dAbs, Dp.dInt1, Dp.dStr1, Dp.dIsi, Dp.dListOf, Dp.dTupOf, Dp.dSum, Dp.dAny, Dp.dAll, Dp.dSorted, Dp.dDictP, Dp.dDictD, Dp.dSortMet, Dp.dLenSet, Dp.dSortSet, Dp.dmApp, Dp.dmExt, Dp.dmPop, Dp.dmPopAt, Dp.dmRem, Dp.dmIdx, Dp.dSet, Dp.intOf, Dp.keyOf, Dp.dwipe, Dp.patD, Dp.patDs, Dp.ln_lst, Dp.ln_tup, Dp.ln_kls, Dp.ln_dK, Dp.dFor, Dp.dLc, Dp.dDc, Dp.dLc2, Dp.srcOf, Dp.dFrz, lk_Seats_scene, pa_Seats_scene, pt_Seats_scene, lk_Seats_seating, pa_Seats_seating, pt_Seats_seating, lk_Seats_seated, pa_Seats_seated, pt_Seats_seated, lk_Kept_lot, pa_Kept_lot, pt_Kept_lot, lk_Kept_seating, pa_Kept_seating, pt_Kept_seating, lk_Kept_papers, pa_Kept_papers, pt_Kept_papers, lk_Call_worth, pa_Call_worth, pt_Call_worth, lk_Call_heard, pa_Call_heard, pt_Call_heard, lk_Scene_channels, pa_Scene_channels, pt_Scene_channels, lk_Scene_calls, pa_Scene_calls, pt_Scene_calls, Option.map_none, Option.isSome_none, hc2, ep]
        refine ⟨hl3, ?_⟩
        obtain ⟨M3, hM3⟩ : ∃ M3, M3 = mup M2 c (.dK (dSta (came' ++ [(mast, one)]))) := ⟨_, rfl⟩
        rw [← hM3]
        have le3 : MLe M M3 := by rw [hM3]; exact mle_mup le2 hc
        have hS3 : SeatsAt d M3 s a p q rs S at_ := hS.le fun b _ m e => le3 b m e
        have hc3 : M3 c = some (.dK (dSta (came' ++ [(mast, one)]))) := by rw [hM3, mup_same]
        have hr3 : M3 r = some (.lst (rest'.map D.str)) := by rw [hM3, mup_ne hrc]; exact hr2
        have hW3 := hW2.ok.add hmk hnew hm2 hmh
        obtain ⟨cap, hcap⟩ := lookup_of hmk
        obtain ⟨row, hrow, hrowm, hMrow⟩ := hS3.row hmk
        simp only [Dp.dSeq, Dp.dAsg, Dp.dgN, Dp.dVar, Dp.dC, Dp.dUn, Dp.dOp, Dp.dFld, Dp.dTst, Dp.dAnd, Dp.dOr, Dp.dNot, Dp.dAndV, Dp.dOrV, Dp.dNotV, Dp.dIf, Dp.dIfS, Dp.dRet, Dp.dRetN, Dp.dExpr, Dp.dPar, Dp.dPar3, Dp.dNext, Dp.dNever, Dp.dBrk, Dp.dCont, Dp.dgTup, Dp.dgCons, Dp.dgNil, Dp.dCall, Dp.dCons, Dp.dNil, Dp.dTup, Dp.dLst, Dp.dLstM, Dp.dNewK, Dp.dCallF, Dp.dMethF, Dp.dMake, Dp.dMakeF, Dp.dFldS, Dp.dPut, Dp.dBM, Dp.dGet1, Dp.dGet2, Dp.dPop1, Dp.dPop2, Dp.dStar, Dp.dIx, Dp.dAdd, Dp.dSub, Dp.dMul, Dp.dMod, Dp.dFdiv, Dp.dPow, Dp.dNeg, Dp.dAugN, Dp.dAugS, Dp.dAugF, Dp.dAugI, Dp.dLtS, Dp.dLe, Dp.dGt, Dp.dGe, Dp.dOrd, Dp.dBetween, Dp.dIsN, Dp.dEq, Dp.dEqK, Dp.dIn, Dp.dstart, List.map_cons, List.map_nil, List.length_cons, List.length_nil, List.cons_append, List.nil_append, List.replicate, List.getElem?_cons_zero, List.getElem?_cons_succ, List.set_cons_zero, List.set_cons_succ, Nat.reduceAdd, Nat.reduceSub, if_true, if_false, Bool.false_eq_true, Bool.not_true, Bool.not_false, Dp.v_non, Dp.v_bl, Dp.v_int, Dp.v_str, Dp.v_tup, Dp.v_lst, Dp.v_kls, Dp.v_dK, Dp.v_dT, Dp.v_ins, Dp.f_ins, Dp.da_dKs, Dp.da_dKi, Dp.ix_dKs, Dp.ix_dKi, Dp.ix_lst, Dp.ix_tup, Dp.ix_kls, Dp.lo_lst, Dp.lo_kls, Dp.io_lst, Dp.io_tup, Dp.io_kls, Dp.ki_lst, Dp.ki_tup, Dp.ki_dK, Dp.dd_dK, Dp.e_ii, Dp.e_ss, Dp.e_bb, Dp.inB_dK, Dp.inB_tup, Dp.inB_lst, Dp.dLen, Dp.dAbs, Dp.dInt1, Dp.dStr1, Dp.dIsi, Dp.dListOf, Dp.dTupOf, Dp.dSum, Dp.dAny, Dp.dAll, Dp.dSorted, Dp.dDictP, Dp.dDictD, Dp.dSortMet, Dp.dLenSet, Dp.dSortSet, Dp.dmApp, Dp.dmExt, Dp.dmPop, Dp.dmPopAt, Dp.dmRem, Dp.dmIdx, Dp.dSet, Dp.intOf, Dp.keyOf, Dp.dwipe, Dp.patD, Dp.patDs, Dp.ln_lst, Dp.ln_tup, Dp.ln_kls, Dp.ln_dK, Dp.dFor, Dp.dLc, Dp.dDc, Dp.dLc2, Dp.srcOf, Dp.dFrz, lk_Seats_scene, pa_Seats_scene, pt_Seats_scene, lk_Seats_seating, pa_Seats_seating, pt_Seats_seating, lk_Seats_seated, pa_Seats_seated, pt_Seats_seated, lk_Kept_lot, pa_Kept_lot, pt_Kept_lot, lk_Kept_seating, pa_Kept_seating, pt_Kept_seating, lk_Kept_papers, pa_Kept_papers, pt_Kept_papers, lk_Call_worth, pa_Call_worth, pt_Call_worth, lk_Call_heard, pa_Call_heard, pt_Call_heard, lk_Scene_channels, pa_Scene_channels, pt_Scene_channels, lk_Scene_calls, pa_Scene_calls, pt_Scene_calls, v_cI hS3.ma]
        refine ⟨trivial, a, p, q, rs, S, at_, s, mast, cap, rfl, hS3, hcap, ?_⟩
        simp only [Dp.dSeq, Dp.dAsg, Dp.dgN, Dp.dVar, Dp.dC, Dp.dUn, Dp.dOp, Dp.dFld, Dp.dTst, Dp.dAnd, Dp.dOr, Dp.dNot, Dp.dAndV, Dp.dOrV, Dp.dNotV, Dp.dIf, Dp.dIfS, Dp.dRet, Dp.dRetN, Dp.dExpr, Dp.dPar, Dp.dPar3, Dp.dNext, Dp.dNever, Dp.dBrk, Dp.dCont, Dp.dgTup, Dp.dgCons, Dp.dgNil, Dp.dCall, Dp.dCons, Dp.dNil, Dp.dTup, Dp.dLst, Dp.dLstM, Dp.dNewK, Dp.dCallF, Dp.dMethF, Dp.dMake, Dp.dMakeF, Dp.dFldS, Dp.dPut, Dp.dBM, Dp.dGet1, Dp.dGet2, Dp.dPop1, Dp.dPop2, Dp.dStar, Dp.dIx, Dp.dAdd, Dp.dSub, Dp.dMul, Dp.dMod, Dp.dFdiv, Dp.dPow, Dp.dNeg, Dp.dAugN, Dp.dAugS, Dp.dAugF, Dp.dAugI, Dp.dLtS, Dp.dLe, Dp.dGt, Dp.dGe, Dp.dOrd, Dp.dBetween, Dp.dIsN, Dp.dEq, Dp.dEqK, Dp.dIn, Dp.dstart, List.map_cons, List.map_nil, List.length_cons, List.length_nil, List.cons_append, List.nil_append, List.replicate, List.getElem?_cons_zero, List.getElem?_cons_succ, List.set_cons_zero, List.set_cons_succ, Nat.reduceAdd, Nat.reduceSub, if_true, if_false, Bool.false_eq_true, Bool.not_true, Bool.not_false, Dp.v_non, Dp.v_bl, Dp.v_int, Dp.v_str, Dp.v_tup, Dp.v_lst, Dp.v_kls, Dp.v_dK, Dp.v_dT, Dp.v_ins, Dp.f_ins, Dp.da_dKs, Dp.da_dKi, Dp.ix_dKs, Dp.ix_dKi, Dp.ix_lst, Dp.ix_tup, Dp.ix_kls, Dp.lo_lst, Dp.lo_kls, Dp.io_lst, Dp.io_tup, Dp.io_kls, Dp.ki_lst, Dp.ki_tup, Dp.ki_dK, Dp.dd_dK, Dp.e_ii, Dp.e_ss, Dp.e_bb, Dp.inB_dK, Dp.inB_tup, Dp.inB_lst, Dp.dLen, Dp.dAbs, Dp.dInt1, Dp.dStr1, Dp.dIsi, Dp.dListOf, Dp.dTupOf, Dp.dSum, Dp.dAny, Dp.dAll, Dp.dSorted, Dp.dDictP, Dp.dDictD, Dp.dSortMet, Dp.dLenSet, Dp.dSortSet, Dp.dmApp, Dp.dmExt, Dp.dmPop, Dp.dmPopAt, Dp.dmRem, Dp.dmIdx, Dp.dSet, Dp.intOf, Dp.keyOf, Dp.dwipe, Dp.patD, Dp.patDs, Dp.ln_lst, Dp.ln_tup, Dp.ln_kls, Dp.ln_dK, Dp.dFor, Dp.dLc, Dp.dDc, Dp.dLc2, Dp.srcOf, Dp.dFrz, lk_Seats_scene, pa_Seats_scene, pt_Seats_scene, lk_Seats_seating, pa_Seats_seating, pt_Seats_seating, lk_Seats_seated, pa_Seats_seated, pt_Seats_seated, lk_Kept_lot, pa_Kept_lot, pt_Kept_lot, lk_Kept_seating, pa_Kept_seating, pt_Kept_seating, lk_Kept_papers, pa_Kept_papers, pt_Kept_papers, lk_Call_worth, pa_Call_worth, pt_Call_worth, lk_Call_heard, pa_Call_heard, pt_Call_heard, lk_Scene_channels, pa_Scene_channels, pt_Scene_channels, lk_Scene_calls, pa_Scene_calls, pt_Scene_calls]
        by_cases hroom : ((at_ mast).length : Int) < cap
        · rw [if_pos (decide_eq_true hroom)]
          refine ⟨szl (by decide), _, _, Fz.fst (fz_dK hc3), hR (came' ++ [(mast, one)]) (some mast) _ ⟨hW3, ⟨came', one, rfl⟩, cap, hcap, hroom⟩ (mle_mdel le3 hc)⟩
        · rw [if_neg (by simpa using hroom)]
          simp only [Dp.dSeq, Dp.dAsg, Dp.dgN, Dp.dVar, Dp.dC, Dp.dUn, Dp.dOp, Dp.dFld, Dp.dTst, Dp.dAnd, Dp.dOr, Dp.dNot, Dp.dAndV, Dp.dOrV, Dp.dNotV, Dp.dIf, Dp.dIfS, Dp.dRet, Dp.dRetN, Dp.dExpr, Dp.dPar, Dp.dPar3, Dp.dNext, Dp.dNever, Dp.dBrk, Dp.dCont, Dp.dgTup, Dp.dgCons, Dp.dgNil, Dp.dCall, Dp.dCons, Dp.dNil, Dp.dTup, Dp.dLst, Dp.dLstM, Dp.dNewK, Dp.dCallF, Dp.dMethF, Dp.dMake, Dp.dMakeF, Dp.dFldS, Dp.dPut, Dp.dBM, Dp.dGet1, Dp.dGet2, Dp.dPop1, Dp.dPop2, Dp.dStar, Dp.dIx, Dp.dAdd, Dp.dSub, Dp.dMul, Dp.dMod, Dp.dFdiv, Dp.dPow, Dp.dNeg, Dp.dAugN, Dp.dAugS, Dp.dAugF, Dp.dAugI, Dp.dLtS, Dp.dLe, Dp.dGt, Dp.dGe, Dp.dOrd, Dp.dBetween, Dp.dIsN, Dp.dEq, Dp.dEqK, Dp.dIn, Dp.dstart, List.map_cons, List.map_nil, List.length_cons, List.length_nil, List.cons_append, List.nil_append, List.replicate, List.getElem?_cons_zero, List.getElem?_cons_succ, List.set_cons_zero, List.set_cons_succ, Nat.reduceAdd, Nat.reduceSub, if_true, if_false, Bool.false_eq_true, Bool.not_true, Bool.not_false, Dp.v_non, Dp.v_bl, Dp.v_int, Dp.v_str, Dp.v_tup, Dp.v_lst, Dp.v_kls, Dp.v_dK, Dp.v_dT, Dp.v_ins, Dp.f_ins, Dp.da_dKs, Dp.da_dKi, Dp.ix_dKs, Dp.ix_dKi, Dp.ix_lst, Dp.ix_tup, Dp.ix_kls, Dp.lo_lst, Dp.lo_kls, Dp.io_lst, Dp.io_tup, Dp.io_kls, Dp.ki_lst, Dp.ki_tup, Dp.ki_dK, Dp.dd_dK, Dp.e_ii, Dp.e_ss, Dp.e_bb, Dp.inB_dK, Dp.inB_tup, Dp.inB_lst, Dp.dLen, Dp.dAbs, Dp.dInt1, Dp.dStr1, Dp.dIsi, Dp.dListOf, Dp.dTupOf, Dp.dSum, Dp.dAny, Dp.dAll, Dp.dSorted, Dp.dDictP, Dp.dDictD, Dp.dSortMet, Dp.dLenSet, Dp.dSortSet, Dp.dmApp, Dp.dmExt, Dp.dmPop, Dp.dmPopAt, Dp.dmRem, Dp.dmIdx, Dp.dSet, Dp.intOf, Dp.keyOf, Dp.dwipe, Dp.patD, Dp.patDs, Dp.ln_lst, Dp.ln_tup, Dp.ln_kls, Dp.ln_dK, Dp.dFor, Dp.dLc, Dp.dDc, Dp.dLc2, Dp.srcOf, Dp.dFrz, lk_Seats_scene, pa_Seats_scene, pt_Seats_scene, lk_Seats_seating, pa_Seats_seating, pt_Seats_seating, lk_Seats_seated, pa_Seats_seated, pt_Seats_seated, lk_Kept_lot, pa_Kept_lot, pt_Kept_lot, lk_Kept_seating, pa_Kept_seating, pt_Kept_seating, lk_Kept_papers, pa_Kept_papers, pt_Kept_papers, lk_Call_worth, pa_Call_worth, pt_Call_worth, lk_Call_heard, pa_Call_heard, pt_Call_heard, lk_Scene_channels, pa_Scene_channels, pt_Scene_channels, lk_Scene_calls, pa_Scene_calls, pt_Scene_calls, lo_cl hr3, f_cI hS3.ma, ix_cKs hS3.mq, look_rws, hrow, Option.map_some, v_cK hS3.mq, hr3, v_cl hMrow, List.length_map]
          have hpa := pot_add (at_ := at_) (x := one) hs.dm hmk hnew
          have e4 : rest'.map D.str ++ (at_ mast).map D.str = (rest' ++ at_ mast).map D.str := by rw [List.map_append]
          rw [e4]
          have hmin : mast ∈ (came' ++ [(mast, one)]).map (·.1) := by rw [List.map_append]; exact List.mem_append_right _ (by simp)
          refine ⟨rfl, trivial, szl (by omega), came' ++ [(mast, one)], rest' ++ at_ mast, _, rfl, mle_mup le3 hr0, by rw [mup_ne (Ne.symm hrc)]; exact hc3, mup_same, ⟨hW3, ?_, ?_⟩, hm2.mono _, ?_, ?_, ?_⟩
          · intro m' hm'
            rw [List.map_append] at hm'
            rcases List.mem_append.mp hm' with h | h
            · exact hW2.fu m' h
            · have : m' = mast := by simpa using h
              rw [this]; exact ⟨cap, hcap, hroom⟩
          · intro x hx
            rcases List.mem_append.mp hx with h | h
            · exact (hW2.re x h).mono _
            · exact .inr ⟨mast, hmin, h⟩
          · intro m' hm'
            rw [ht] at hm'
            rcases List.mem_append.mp hm' with h | h
            · rw [List.map_append]; exact List.mem_append_left _ (ht2 m' h)
            · rw [List.mem_singleton.mp h]; exact hmin
          · intro x hx
            have old : Met at_ n came' x → x = one ∨ x ∈ rest' ++ at_ mast ∨ ∀ m' ∈ heardOf s x, m' ∈ (came' ++ [(mast, one)]).map (·.1) := fun h => by
              rcases hD2 x h with h | h | h
              · exact .inl h
              · exact .inr (.inl (List.mem_append_left _ h))
              · exact .inr (.inr fun m' hm' => by rw [List.map_append]; exact List.mem_append_left _ (h m' hm'))
            rcases hx with h | ⟨m', hm', hx⟩
            · exact old (.inl h)
            · rw [List.map_append] at hm'
              rcases List.mem_append.mp hm' with h | h
              · exact old (.inr ⟨m', h, hx⟩)
              · have : m' = mast := by simpa using h
                rw [this] at hx
                exact .inr (.inl (List.mem_append_right _ hx))
          · rw [List.length_append]; omega
    · rintro Γ' M2 ⟨came', rest', o5', rfl, le2, hc2, hr2, hW2, hm2, ht2, hD2, hp2⟩
      rw [List.length_map, List.take_length] at ht2
      refine ⟨rest'.length + pot s at_ came', ?_, came', rest', _, _, rfl, le2, hc2, hr2, hW2, fun x hx => ?_, rfl, ?_⟩
      · rw [hm, List.length_cons]; omega
      · rcases hD2 x hx with h | h | h
        · right; rw [h, hho]; exact ht2
        · exact .inl h
        · exact .inr h
      · rw [List.length_cons] at hm; omega

end
end K20
namespace K20
open PySem PySem.Spec L2 Dp
section
variable {P : Program} {w : World} {K : PySem.W.Frag} {mg : Str → Option Value} {base : Heap} {d : Dat}
/-! a seating that stands -/
structure StOk (s : Sc) (S : List (Str × Str)) (at_ : Str → List Str) : Prop where
  sk : (S.map (·.1)).Nodup
  sm : ∀ n m, S.lookup n = some m ↔ (m ∈ s.ch.map (·.1) ∧ n ∈ at_ m)
  an : ∀ m, (at_ m).Nodup
  cp : ∀ m c, s.ch.lookup m = some c → ((at_ m).length : Int) ≤ c
  he : ∀ n m, S.lookup n = some m → m ∈ heardOf s n
  out : ∀ m, m ∉ s.ch.map (·.1) → at_ m = []
theorem heard_in {s : Sc} {n m : Str} (h : m ∈ heardOf s n) : n ∈ s.ca.map (·.1) := by
  unfold heardOf at h
  cases e : s.ca.lookup n with
  | none => rw [e] at h; cases h
  | some c => exact List.mem_map_of_mem (lookup_mem e)
theorem StOk.len {s : Sc} {S : List (Str × Str)} {at_ : Str → List Str} (h : StOk s S at_) (hs : ScOk s) (m : Str) : (at_ m).length ≤ 1000 := by
  by_cases hm : m ∈ s.ch.map (·.1)
  · obtain ⟨c, hc⟩ := lookup_of hm
    have h1 := h.cp m c hc
    have h2 := (hs.nc _ (lookup_mem hc)).2
    dsimp only at h2
    omega
  · rw [h.out m hm]; simp
theorem StOk.slen {s : Sc} {S : List (Str × Str)} {at_ : Str → List Str} (h : StOk s S at_) (hs : ScOk s) : S.length ≤ 500 := by
  have := nodup_sub h.sk (m := s.ca.map (·.1)) fun x hx => by
    obtain ⟨m, hm⟩ := lookup_of hx
    exact heard_in (h.he x m hm)
  rw [List.length_map, List.length_map] at this
  exact Nat.le_trans this hs.la
theorem sum_le {l : List Str} (f : Str → Nat) (b : Nat) (h : ∀ x, f x ≤ b) : (l.map f).sum ≤ l.length * b := by
  induction l with
  | nil => simp
  | cons x l ih =>
    rw [List.map_cons, List.sum_cons, List.length_cons, Nat.succ_mul]
    have := h x
    omega
theorem StOk.pot {s : Sc} {S : List (Str × Str)} {at_ : Str → List Str} (h : StOk s S at_) (hs : ScOk s) : pot s at_ [] ≤ 600000 := by
  unfold K20.pot
  have h1 := sum_le (l := (s.ch.map (·.1)).filter fun m => decide (m ∉ ([] : List (Str × Str)).map (·.1))) (fun m => (at_ m).length) 1000 (h.len hs)
  have h2 := List.length_filter_le (fun m => decide (m ∉ ([] : List (Str × Str)).map (·.1))) (s.ch.map (·.1))
  have h3 := hs.lc
  rw [List.length_map] at h2
  have : ((s.ch.map (·.1)).filter fun m => decide (m ∉ ([] : List (Str × Str)).map (·.1))).length * 1000 ≤ 500 * 1000 := Nat.mul_le_mul_right _ (by omega)
  omega
theorem sit_ok {s : Sc} {S : List (Str × Str)} {at_ : Str → List Str} (h : StOk s S at_) {x mast : Str} (hm : mast ∈ s.ch.map (·.1)) {c : Int} (hc : s.ch.lookup mast = some c) (hr : ((at_ mast).length : Int) < c) (hh : mast ∈ heardOf s x) (hx : S.lookup x ≠ some mast) : StOk s (put S x mast) (sitAt S at_ x mast) := by
  have off : ∀ m, (offAt S at_ x m).length ≤ (at_ m).length := fun m => by
    unfold offAt; split
    · exact List.erase_sublist.length_le
    · exact Nat.le_refl _
  have offm : ∀ y m, y ∈ offAt S at_ x m ↔ y ∈ at_ m ∧ (S.lookup x = some m → y ≠ x) := fun y m => by
    unfold offAt
    split
    · rename_i e
      rw [(h.an m).mem_erase_iff]
      exact ⟨fun ⟨a, b⟩ => ⟨b, fun _ => a⟩, fun ⟨a, b⟩ => ⟨b e, a⟩⟩
    · rename_i e
      exact ⟨fun a => ⟨a, fun q => absurd q e⟩, fun a => a.1⟩
  have offn : ∀ m, (offAt S at_ x m).Nodup := fun m => by
    unfold offAt; split
    · exact (h.an m).erase x
    · exact h.an m
  have xoff : ∀ m, m ∈ s.ch.map (·.1) → x ∉ offAt S at_ x m := fun m hmk q => by
    have := (offm x m).mp q
    exact this.2 ((h.sm x m).mpr ⟨hmk, this.1⟩) rfl
  refine ⟨put_nodup h.sk _ _, fun n m => ?_, fun m => ?_, fun m c' hc' => ?_, fun n m hn => ?_, fun m hmo => ?_⟩
  · rw [lookup_put]
    unfold sitAt
    by_cases hn : x = n
    · subst hn
      rw [if_pos rfl]
      by_cases hmm : m = mast
      · subst hmm; simp [hm]
      · rw [if_neg hmm]
        constructor
        · intro e; cases e; exact absurd rfl hmm
        · intro ⟨a, b⟩; exact absurd b (xoff m a)
    · rw [if_neg hn, h.sm n m]
      by_cases hmm : m = mast
      · subst hmm
        rw [if_pos rfl, List.mem_append, offm]
        constructor
        · intro ⟨a, b⟩; exact ⟨a, .inl ⟨b, fun _ => fun q => hn q.symm⟩⟩
        · rintro ⟨a, b | b⟩
          · exact ⟨a, b.1⟩
          · exact absurd (List.mem_singleton.mp b).symm hn
      · rw [if_neg hmm, offm]
        constructor
        · intro ⟨a, b⟩; exact ⟨a, b, fun _ => fun q => hn q.symm⟩
        · intro ⟨a, b⟩; exact ⟨a, b.1⟩
  · unfold sitAt
    split
    · rename_i e
      subst e
      rw [List.nodup_append]
      exact ⟨offn m, by simp, fun a ha b hb e => xoff m hm (by rw [List.mem_singleton.mp hb] at e; exact e ▸ ha)⟩
    · exact offn m
  · unfold sitAt
    have h1 := h.cp m c' hc'
    have h2 := off m
    split
    · rename_i e
      subst e
      rw [hc] at hc'
      cases hc'
      rw [List.length_append, List.length_singleton]
      omega
    · omega
  · rw [lookup_put] at hn
    by_cases hx' : x = n
    · subst hx'; rw [if_pos rfl] at hn; cases hn; exact hh
    · rw [if_neg hx'] at hn; exact h.he n m hn
  · unfold sitAt
    have : m ≠ mast := fun q => hmo (q ▸ hm)
    rw [if_neg this]
    unfold offAt
    split
    · rw [h.out m hmo]; rfl
    · exact h.out m hmo
def sp_Seats_add (d : Dat) : DSp := fun ds M R _ => ∃ a p q rs S at_ s n, ds = [.adr a, .str n] ∧ SeatsAt d M s a p q rs S at_ ∧ ScOk s ∧ StOk s S at_ ∧ n ∈ s.ca.map (·.1) ∧ n ∉ S.map (·.1) ∧
  (∀ M' S' at', SeatsAt d M' s a p q rs S' at' → StOk s S' at' → S'.map (·.1) = S.map (·.1) ++ [n] → Keeps (own a p q rs) M M' → R (.bl true) M') ∧
  ∀ M' came, WaysOk s at_ n came none → SeatsAt d M' s a p q rs S at_ → Keeps (own a p q rs) M M' → R (.bl false) M'
theorem met_look {s : Sc} {S : List (Str × Str)} {at_ : Str → List Str} (h : StOk s S at_) {n x : Str} {came pre : List (Str × Str)} (hk : ∀ p ∈ pre, p.1 ∈ s.ch.map (·.1)) (hm : Met at_ n pre x) (hn : S.lookup n = none) : (x = n ∧ S.lookup x = none) ∨ ∃ m' ∈ pre.map (·.1), S.lookup x = some m' := by
  rcases hm with rfl | ⟨m', hm', hx⟩
  · exact .inl ⟨rfl, hn⟩
  · obtain ⟨p, hp, rfl⟩ := List.mem_map.mp hm'
    exact .inr ⟨p.1, hm', (h.sm x p.1).mpr ⟨hk p hp, hx⟩⟩
theorem ok_Seats_add (T : Tx K mg d) : FnOk P w K mg base (L2.CX P w) 3 d.f_Seats_add d.d_Seats_add ["self", "name"] (LSp K (sp_Seats_add d)) := by
  have G_Seats_ways_from := ok_Seats_ways_from (P := P) (w := w) (base := base) T
  have G_Seats_sit := ok_Seats_sit (P := P) (w := w) (base := base) T
  refine dfn_ok (k := 2) T.F_Seats_add sc_Seats_add (fun ds M R RX h => ?_) (by decide) fun cdv A outer s0 H0 E0 B ds M R RX hr fx h => ?_
  · obtain ⟨a, p, q, rs, S, at_, s, n, rfl, hS, hs, hst, hn, hnS, hT, hF⟩ := h; rfl
  obtain ⟨a, p, q, rs, S, at_, s, n, rfl, hS, hs, hst, hn, hnS, hT, hF⟩ := h
  have nd := sc_Seats_add.nd
  refine ⟨_, (dss_cons (ds_asg (de_meth (nv 0) T.c_Seats T.M_Seats_ways_from G_Seats_ways_from (hr.mono (by decide)) T.B_Seats_ways_from (da_cons (nv 1) da_nil)) (dg_tup rfl (dgs_cons (dg_name (i := 2) nd rfl (Or.inl rfl)) (dgs_cons (dg_name (i := 3) nd rfl (Or.inl rfl)) dgs_nil)))) (dss_cons (ds_if (dt_is (nv 3) de_non) (dss_one (ds_ret de_bl)) dss_nil) (dss_cons (ds_while (passes_of rfl) (dt_isnot (nv 3) de_non) (dss_cons (ds_set (i := 4) nd rfl (Or.inl rfl) (de_ix (hu1 hr) (nv 2) (nv 3))) (dss_cons (ds_set (i := 5) nd rfl (Or.inl rfl) (de_get1 (hu1 hr) (de_fld (nv 0)) (nv 4))) (dss_cons (ds_expr (de_meth (nv 0) T.c_Seats T.M_Seats_sit G_Seats_sit (hr.mono (by decide)) T.B_Seats_sit (da_cons (nv 4) (da_cons (nv 3) da_nil)))) (dss_one (ds_set (i := 3) nd rfl (Or.inl rfl) (nv 5))))))) (dss_one (ds_ret de_bl))))), ?_⟩
  simp only [Dp.dSeq, Dp.dAsg, Dp.dgN, Dp.dVar, Dp.dC, Dp.dUn, Dp.dOp, Dp.dFld, Dp.dTst, Dp.dAnd, Dp.dOr, Dp.dNot, Dp.dAndV, Dp.dOrV, Dp.dNotV, Dp.dIf, Dp.dIfS, Dp.dRet, Dp.dRetN, Dp.dExpr, Dp.dPar, Dp.dPar3, Dp.dNext, Dp.dNever, Dp.dBrk, Dp.dCont, Dp.dgTup, Dp.dgCons, Dp.dgNil, Dp.dCall, Dp.dCons, Dp.dNil, Dp.dTup, Dp.dLst, Dp.dLstM, Dp.dNewK, Dp.dCallF, Dp.dMethF, Dp.dMake, Dp.dMakeF, Dp.dFldS, Dp.dPut, Dp.dBM, Dp.dGet1, Dp.dGet2, Dp.dPop1, Dp.dPop2, Dp.dStar, Dp.dIx, Dp.dAdd, Dp.dSub, Dp.dMul, Dp.dMod, Dp.dFdiv, Dp.dPow, Dp.dNeg, Dp.dAugN, Dp.dAugS, Dp.dAugF, Dp.dAugI, Dp.dLtS, Dp.dLe, Dp.dGt, Dp.dGe, Dp.dOrd, Dp.dBetween, Dp.dIsN, Dp.dEq, Dp.dEqK, Dp.dIn, Dp.dstart, List.map_cons, List.map_nil, List.length_cons, List.length_nil, List.cons_append, List.nil_append, List.replicate, List.getElem?_cons_zero, List.getElem?_cons_succ, List.set_cons_zero, List.set_cons_succ, Nat.reduceAdd, Nat.reduceSub, if_true, if_false, Bool.false_eq_true, Bool.not_true, Bool.not_false, Dp.v_non, Dp.v_bl, Dp.v_int, Dp.v_str, Dp.v_tup, Dp.v_lst, Dp.v_kls, Dp.v_dK, Dp.v_dT, Dp.v_ins, Dp.f_ins, Dp.da_dKs, Dp.da_dKi, Dp.ix_dKs, Dp.ix_dKi, Dp.ix_lst, Dp.ix_tup, Dp.ix_kls, Dp.lo_lst, Dp.lo_kls, Dp.io_lst, Dp.io_tup, Dp.io_kls, Dp.ki_lst, Dp.ki_tup, Dp.ki_dK, Dp.dd_dK, Dp.e_ii, Dp.e_ss, Dp.e_bb, Dp.inB_dK, Dp.inB_tup, Dp.inB_lst, Dp.dLen, Dp.dAbs, Dp.dInt1, Dp.dStr1, Dp.dIsi, Dp.dListOf, Dp.dTupOf, Dp.dSum, Dp.dAny, Dp.dAll, Dp.dSorted, Dp.dDictP, Dp.dDictD, Dp.dSortMet, Dp.dLenSet, Dp.dSortSet, Dp.dmApp, Dp.dmExt, Dp.dmPop, Dp.dmPopAt, Dp.dmRem, Dp.dmIdx, Dp.dSet, Dp.intOf, Dp.keyOf, Dp.dwipe, Dp.patD, Dp.patDs, Dp.ln_lst, Dp.ln_tup, Dp.ln_kls, Dp.ln_dK, Dp.dFor, Dp.dLc, Dp.dDc, Dp.dLc2, Dp.srcOf, Dp.dFrz, lk_Seats_scene, pa_Seats_scene, pt_Seats_scene, lk_Seats_seating, pa_Seats_seating, pt_Seats_seating, lk_Seats_seated, pa_Seats_seated, pt_Seats_seated, lk_Kept_lot, pa_Kept_lot, pt_Kept_lot, lk_Kept_seating, pa_Kept_seating, pt_Kept_seating, lk_Kept_papers, pa_Kept_papers, pt_Kept_papers, lk_Call_worth, pa_Call_worth, pt_Call_worth, lk_Call_heard, pa_Call_heard, pt_Call_heard, lk_Scene_channels, pa_Scene_channels, pt_Scene_channels, lk_Scene_calls, pa_Scene_calls, pt_Scene_calls, v_cI hS.ma]
  have hnl : S.lookup n = none := lookup_non hnS
  refine ⟨trivial, a, p, q, rs, S, at_, s, n, rfl, hS, hs, fun x hx => ?_, hst.pot hs, fun came res M1 hw le => ?_⟩
  · rcases hx with rfl | ⟨m, hm, hx⟩
    · exact hn
    · exact heard_in (hst.he x m ((hst.sm x m).mpr ⟨hm, hx⟩))
  have hS1 : SeatsAt d M1 s a p q rs S at_ := hS.le fun b _ m e => le b m e
  have k1 : Keeps (own a p q rs) M M1 := fun b m _ e => le b m e
  cases res with
  | none =>
    simp only [Dp.dSeq, Dp.dAsg, Dp.dgN, Dp.dVar, Dp.dC, Dp.dUn, Dp.dOp, Dp.dFld, Dp.dTst, Dp.dAnd, Dp.dOr, Dp.dNot, Dp.dAndV, Dp.dOrV, Dp.dNotV, Dp.dIf, Dp.dIfS, Dp.dRet, Dp.dRetN, Dp.dExpr, Dp.dPar, Dp.dPar3, Dp.dNext, Dp.dNever, Dp.dBrk, Dp.dCont, Dp.dgTup, Dp.dgCons, Dp.dgNil, Dp.dCall, Dp.dCons, Dp.dNil, Dp.dTup, Dp.dLst, Dp.dLstM, Dp.dNewK, Dp.dCallF, Dp.dMethF, Dp.dMake, Dp.dMakeF, Dp.dFldS, Dp.dPut, Dp.dBM, Dp.dGet1, Dp.dGet2, Dp.dPop1, Dp.dPop2, Dp.dStar, Dp.dIx, Dp.dAdd, Dp.dSub, Dp.dMul, Dp.dMod, Dp.dFdiv, Dp.dPow, Dp.dNeg, Dp.dAugN, Dp.dAugS, Dp.dAugF, Dp.dAugI, Dp.dLtS, Dp.dLe, Dp.dGt, Dp.dGe, Dp.dOrd, Dp.dBetween, Dp.dIsN, Dp.dEq, Dp.dEqK, Dp.dIn, Dp.dstart, List.map_cons, List.map_nil, List.length_cons, List.length_nil, List.cons_append, List.nil_append, List.replicate, List.getElem?_cons_zero, List.getElem?_cons_succ, List.set_cons_zero, List.set_cons_succ, Nat.reduceAdd, Nat.reduceSub, if_true, if_false, Bool.false_eq_true, Bool.not_true, Bool.not_false, Dp.v_non, Dp.v_bl, Dp.v_int, Dp.v_str, Dp.v_tup, Dp.v_lst, Dp.v_kls, Dp.v_dK, Dp.v_dT, Dp.v_ins, Dp.f_ins, Dp.da_dKs, Dp.da_dKi, Dp.ix_dKs, Dp.ix_dKi, Dp.ix_lst, Dp.ix_tup, Dp.ix_kls, Dp.lo_lst, Dp.lo_kls, Dp.io_lst, Dp.io_tup, Dp.io_kls, Dp.ki_lst, Dp.ki_tup, Dp.ki_dK, Dp.dd_dK, Dp.e_ii, Dp.e_ss, Dp.e_bb, Dp.inB_dK, Dp.inB_tup, Dp.inB_lst, Dp.dLen, Dp.dAbs, Dp.dInt1, Dp.dStr1, Dp.dIsi, Dp.dListOf, Dp.dTupOf, Dp.dSum, Dp.dAny, Dp.dAll, Dp.dSorted, Dp.dDictP, Dp.dDictD, Dp.dSortMet, Dp.dLenSet, Dp.dSortSet, Dp.dmApp, Dp.dmExt, Dp.dmPop, Dp.dmPopAt, Dp.dmRem, Dp.dmIdx, Dp.dSet, Dp.intOf, Dp.keyOf, Dp.dwipe, Dp.patD, Dp.patDs, Dp.ln_lst, Dp.ln_tup, Dp.ln_kls, Dp.ln_dK, Dp.dFor, Dp.dLc, Dp.dDc, Dp.dLc2, Dp.srcOf, Dp.dFrz, lk_Seats_scene, pa_Seats_scene, pt_Seats_scene, lk_Seats_seating, pa_Seats_seating, pt_Seats_seating, lk_Seats_seated, pa_Seats_seated, pt_Seats_seated, lk_Kept_lot, pa_Kept_lot, pt_Kept_lot, lk_Kept_seating, pa_Kept_seating, pt_Kept_seating, lk_Kept_papers, pa_Kept_papers, pt_Kept_papers, lk_Call_worth, pa_Call_worth, pt_Call_worth, lk_Call_heard, pa_Call_heard, pt_Call_heard, lk_Scene_channels, pa_Scene_channels, pt_Scene_channels, lk_Scene_calls, pa_Scene_calls, pt_Scene_calls, optD]
    exact ⟨rfl, trivial, _, _, Fz.refl _ _, hF M1 came hw hS1 k1⟩
  | some mast =>
    simp only [Dp.dSeq, Dp.dAsg, Dp.dgN, Dp.dVar, Dp.dC, Dp.dUn, Dp.dOp, Dp.dFld, Dp.dTst, Dp.dAnd, Dp.dOr, Dp.dNot, Dp.dAndV, Dp.dOrV, Dp.dNotV, Dp.dIf, Dp.dIfS, Dp.dRet, Dp.dRetN, Dp.dExpr, Dp.dPar, Dp.dPar3, Dp.dNext, Dp.dNever, Dp.dBrk, Dp.dCont, Dp.dgTup, Dp.dgCons, Dp.dgNil, Dp.dCall, Dp.dCons, Dp.dNil, Dp.dTup, Dp.dLst, Dp.dLstM, Dp.dNewK, Dp.dCallF, Dp.dMethF, Dp.dMake, Dp.dMakeF, Dp.dFldS, Dp.dPut, Dp.dBM, Dp.dGet1, Dp.dGet2, Dp.dPop1, Dp.dPop2, Dp.dStar, Dp.dIx, Dp.dAdd, Dp.dSub, Dp.dMul, Dp.dMod, Dp.dFdiv, Dp.dPow, Dp.dNeg, Dp.dAugN, Dp.dAugS, Dp.dAugF, Dp.dAugI, Dp.dLtS, Dp.dLe, Dp.dGt, Dp.dGe, Dp.dOrd, Dp.dBetween, Dp.dIsN, Dp.dEq, Dp.dEqK, Dp.dIn, Dp.dstart, List.map_cons, List.map_nil, List.length_cons, List.length_nil, List.cons_append, List.nil_append, List.replicate, List.getElem?_cons_zero, List.getElem?_cons_succ, List.set_cons_zero, List.set_cons_succ, Nat.reduceAdd, Nat.reduceSub, if_true, if_false, Bool.false_eq_true, Bool.not_true, Bool.not_false, Dp.v_non, Dp.v_bl, Dp.v_int, Dp.v_str, Dp.v_tup, Dp.v_lst, Dp.v_kls, Dp.v_dK, Dp.v_dT, Dp.v_ins, Dp.f_ins, Dp.da_dKs, Dp.da_dKi, Dp.ix_dKs, Dp.ix_dKi, Dp.ix_lst, Dp.ix_tup, Dp.ix_kls, Dp.lo_lst, Dp.lo_kls, Dp.io_lst, Dp.io_tup, Dp.io_kls, Dp.ki_lst, Dp.ki_tup, Dp.ki_dK, Dp.dd_dK, Dp.e_ii, Dp.e_ss, Dp.e_bb, Dp.inB_dK, Dp.inB_tup, Dp.inB_lst, Dp.dLen, Dp.dAbs, Dp.dInt1, Dp.dStr1, Dp.dIsi, Dp.dListOf, Dp.dTupOf, Dp.dSum, Dp.dAny, Dp.dAll, Dp.dSorted, Dp.dDictP, Dp.dDictD, Dp.dSortMet, Dp.dLenSet, Dp.dSortSet, Dp.dmApp, Dp.dmExt, Dp.dmPop, Dp.dmPopAt, Dp.dmRem, Dp.dmIdx, Dp.dSet, Dp.intOf, Dp.keyOf, Dp.dwipe, Dp.patD, Dp.patDs, Dp.ln_lst, Dp.ln_tup, Dp.ln_kls, Dp.ln_dK, Dp.dFor, Dp.dLc, Dp.dDc, Dp.dLc2, Dp.srcOf, Dp.dFrz, lk_Seats_scene, pa_Seats_scene, pt_Seats_scene, lk_Seats_seating, pa_Seats_seating, pt_Seats_seating, lk_Seats_seated, pa_Seats_seated, pt_Seats_seated, lk_Kept_lot, pa_Kept_lot, pt_Kept_lot, lk_Kept_seating, pa_Kept_seating, pt_Kept_seating, lk_Kept_papers, pa_Kept_papers, pt_Kept_papers, lk_Call_worth, pa_Call_worth, pt_Call_worth, lk_Call_heard, pa_Call_heard, pt_Call_heard, lk_Scene_channels, pa_Scene_channels, pt_Scene_channels, lk_Scene_calls, pa_Scene_calls, pt_Scene_calls, optD]
    refine ⟨rfl, trivial, ?_⟩
    obtain ⟨hwo, ⟨pre, x, rfl⟩, c, hc, hroom⟩ := hw
    refine ⟨fun m Γ' M' => (∃ pre mast x post S1 at1 o4 o5, Γ' = [some (.adr a), some (.str n), some (.dK (dSta (pre ++ (mast, x) :: post))), some (.str mast), o4, o5] ∧ m = pre.length + 1 ∧ WOk s at_ n (pre ++ (mast, x) :: post) ∧ SeatsAt d M' s a p q rs S1 at1 ∧ StOk s S1 at1 ∧ S1.map (·.1) = S.map (·.1) ∧
        (∃ c, s.ch.lookup mast = some c ∧ ((at1 mast).length : Int) < c) ∧ (∀ y, S1.lookup y = S.lookup y ∨ ∃ m', S.lookup y = some m' ∧ m' ∉ pre.map (·.1)) ∧ Keeps (own a p q rs) M M') ∨
      (∃ cm S1 at1 o4 o5, Γ' = [some (.adr a), some (.str n), cm, some .non, o4, o5] ∧ m = 0 ∧ SeatsAt d M' s a p q rs S1 at1 ∧ StOk s S1 at1 ∧ S1.map (·.1) = S.map (·.1) ++ [n] ∧ Keeps (own a p q rs) M M'), ⟨_, .inl ⟨pre, mast, x, [], S, at_, none, none, rfl, rfl, hwo, hS1, hst, rfl, ⟨c, hc, hroom⟩, fun y => .inl rfl, k1⟩⟩, ?_⟩
    rintro m Γ' M' (⟨pre, mast, x, post, S1, at1, o4, o5, rfl, rfl, hwo, hS', hst', hk', ⟨c, hc, hroom⟩, hmv, kp⟩ | ⟨cm, S1, at1, o4, o5, rfl, rfl, hS', hst', hk', kp⟩)
    · have hkd := hwo.kd
      have hlk : (pre ++ (mast, x) :: post).lookup mast = some x := lookup_nodup hkd (by simp)
      obtain ⟨hmh, hmet⟩ := hwo.pr pre mast x post rfl
      have hkp : ∀ p ∈ pre, p.1 ∈ s.ch.map (·.1) := fun p hp => hwo.km p (List.mem_append_left _ hp)
      have hmk : mast ∈ s.ch.map (·.1) := hwo.km (mast, x) (by simp)
      have hmp : mast ∉ pre.map (·.1) := fun q => by
        rw [List.map_append, List.map_cons, List.nodup_append] at hkd
        exact hkd.2.2 mast q mast List.mem_cons_self rfl
      have hb := met_look hst (came := pre) hkp hmet hnl
      have hx1 : S1.lookup x = S.lookup x := by
        rcases hmv x with h | ⟨m'', h1, h2⟩
        · exact h
        · rcases hb with ⟨_, h3⟩ | ⟨m', h3, h4⟩
          · rw [h3] at h1; cases h1
          · rw [h4] at h1; cases h1; exact absurd h3 h2
      have hne : S1.lookup x ≠ some mast := by
        rw [hx1]
        rcases hb with ⟨_, h3⟩ | ⟨m', h3, h4⟩
        · rw [h3]; exact fun q => nomatch q
        · rw [h4]; intro q; cases q; exact hmp h3
      have hso := sit_ok hst' hmk hc hroom hmh hne
      have hka : x ∈ S1.map (·.1) ∨ x = n := by
        rcases hb with ⟨h, _⟩ | ⟨m', _, h4⟩
        · exact .inr h
        · left
          have : x ∈ S.map (·.1) := List.mem_map_of_mem (lookup_mem h4)
          rw [hk']; exact this
      simp only [Dp.dSeq, Dp.dAsg, Dp.dgN, Dp.dVar, Dp.dC, Dp.dUn, Dp.dOp, Dp.dFld, Dp.dTst, Dp.dAnd, Dp.dOr, Dp.dNot, Dp.dAndV, Dp.dOrV, Dp.dNotV, Dp.dIf, Dp.dIfS, Dp.dRet, Dp.dRetN, Dp.dExpr, Dp.dPar, Dp.dPar3, Dp.dNext, Dp.dNever, Dp.dBrk, Dp.dCont, Dp.dgTup, Dp.dgCons, Dp.dgNil, Dp.dCall, Dp.dCons, Dp.dNil, Dp.dTup, Dp.dLst, Dp.dLstM, Dp.dNewK, Dp.dCallF, Dp.dMethF, Dp.dMake, Dp.dMakeF, Dp.dFldS, Dp.dPut, Dp.dBM, Dp.dGet1, Dp.dGet2, Dp.dPop1, Dp.dPop2, Dp.dStar, Dp.dIx, Dp.dAdd, Dp.dSub, Dp.dMul, Dp.dMod, Dp.dFdiv, Dp.dPow, Dp.dNeg, Dp.dAugN, Dp.dAugS, Dp.dAugF, Dp.dAugI, Dp.dLtS, Dp.dLe, Dp.dGt, Dp.dGe, Dp.dOrd, Dp.dBetween, Dp.dIsN, Dp.dEq, Dp.dEqK, Dp.dIn, Dp.dstart, List.map_cons, List.map_nil, List.length_cons, List.length_nil, List.cons_append, List.nil_append, List.replicate, List.getElem?_cons_zero, List.getElem?_cons_succ, List.set_cons_zero, List.set_cons_succ, Nat.reduceAdd, Nat.reduceSub, if_true, if_false, Bool.false_eq_true, Bool.not_true, Bool.not_false, Dp.v_non, Dp.v_bl, Dp.v_int, Dp.v_str, Dp.v_tup, Dp.v_lst, Dp.v_kls, Dp.v_dK, Dp.v_dT, Dp.v_ins, Dp.f_ins, Dp.da_dKs, Dp.da_dKi, Dp.ix_dKs, Dp.ix_dKi, Dp.ix_lst, Dp.ix_tup, Dp.ix_kls, Dp.lo_lst, Dp.lo_kls, Dp.io_lst, Dp.io_tup, Dp.io_kls, Dp.ki_lst, Dp.ki_tup, Dp.ki_dK, Dp.dd_dK, Dp.e_ii, Dp.e_ss, Dp.e_bb, Dp.inB_dK, Dp.inB_tup, Dp.inB_lst, Dp.dLen, Dp.dAbs, Dp.dInt1, Dp.dStr1, Dp.dIsi, Dp.dListOf, Dp.dTupOf, Dp.dSum, Dp.dAny, Dp.dAll, Dp.dSorted, Dp.dDictP, Dp.dDictD, Dp.dSortMet, Dp.dLenSet, Dp.dSortSet, Dp.dmApp, Dp.dmExt, Dp.dmPop, Dp.dmPopAt, Dp.dmRem, Dp.dmIdx, Dp.dSet, Dp.intOf, Dp.keyOf, Dp.dwipe, Dp.patD, Dp.patDs, Dp.ln_lst, Dp.ln_tup, Dp.ln_kls, Dp.ln_dK, Dp.dFor, Dp.dLc, Dp.dDc, Dp.dLc2, Dp.srcOf, Dp.dFrz, lk_Seats_scene, pa_Seats_scene, pt_Seats_scene, lk_Seats_seating, pa_Seats_seating, pt_Seats_seating, lk_Seats_seated, pa_Seats_seated, pt_Seats_seated, lk_Kept_lot, pa_Kept_lot, pt_Kept_lot, lk_Kept_seating, pa_Kept_seating, pt_Kept_seating, lk_Kept_papers, pa_Kept_papers, pt_Kept_papers, lk_Call_worth, pa_Call_worth, pt_Call_worth, lk_Call_heard, pa_Call_heard, pt_Call_heard, lk_Scene_channels, pa_Scene_channels, pt_Scene_channels, lk_Scene_calls, pa_Scene_calls, pt_Scene_calls, look_sta, hlk, Option.map_some, f_cI hS'.ma, da_cKs hS'.mp, dd_cK hS'.mp, v_cI hS'.ma]
      refine ⟨trivial, trivial, trivial, a, p, q, rs, S1, at1, s, x, mast, rfl, hS', hmk, fun o ho => (hst'.sm x o).mp ho, by have := hst'.slen hs; omega, fun y => by have := hst'.len hs y; omega, fun M2 hS2 k2 => ?_⟩
      rw [hx1]
      rcases hb with ⟨hxn, hb⟩ | ⟨m', hm', hb⟩
      · rw [hb]
        simp only [Dp.dSeq, Dp.dAsg, Dp.dgN, Dp.dVar, Dp.dC, Dp.dUn, Dp.dOp, Dp.dFld, Dp.dTst, Dp.dAnd, Dp.dOr, Dp.dNot, Dp.dAndV, Dp.dOrV, Dp.dNotV, Dp.dIf, Dp.dIfS, Dp.dRet, Dp.dRetN, Dp.dExpr, Dp.dPar, Dp.dPar3, Dp.dNext, Dp.dNever, Dp.dBrk, Dp.dCont, Dp.dgTup, Dp.dgCons, Dp.dgNil, Dp.dCall, Dp.dCons, Dp.dNil, Dp.dTup, Dp.dLst, Dp.dLstM, Dp.dNewK, Dp.dCallF, Dp.dMethF, Dp.dMake, Dp.dMakeF, Dp.dFldS, Dp.dPut, Dp.dBM, Dp.dGet1, Dp.dGet2, Dp.dPop1, Dp.dPop2, Dp.dStar, Dp.dIx, Dp.dAdd, Dp.dSub, Dp.dMul, Dp.dMod, Dp.dFdiv, Dp.dPow, Dp.dNeg, Dp.dAugN, Dp.dAugS, Dp.dAugF, Dp.dAugI, Dp.dLtS, Dp.dLe, Dp.dGt, Dp.dGe, Dp.dOrd, Dp.dBetween, Dp.dIsN, Dp.dEq, Dp.dEqK, Dp.dIn, Dp.dstart, List.map_cons, List.map_nil, List.length_cons, List.length_nil, List.cons_append, List.nil_append, List.replicate, List.getElem?_cons_zero, List.getElem?_cons_succ, List.set_cons_zero, List.set_cons_succ, Nat.reduceAdd, Nat.reduceSub, if_true, if_false, Bool.false_eq_true, Bool.not_true, Bool.not_false, Dp.v_non, Dp.v_bl, Dp.v_int, Dp.v_str, Dp.v_tup, Dp.v_lst, Dp.v_kls, Dp.v_dK, Dp.v_dT, Dp.v_ins, Dp.f_ins, Dp.da_dKs, Dp.da_dKi, Dp.ix_dKs, Dp.ix_dKi, Dp.ix_lst, Dp.ix_tup, Dp.ix_kls, Dp.lo_lst, Dp.lo_kls, Dp.io_lst, Dp.io_tup, Dp.io_kls, Dp.ki_lst, Dp.ki_tup, Dp.ki_dK, Dp.dd_dK, Dp.e_ii, Dp.e_ss, Dp.e_bb, Dp.inB_dK, Dp.inB_tup, Dp.inB_lst, Dp.dLen, Dp.dAbs, Dp.dInt1, Dp.dStr1, Dp.dIsi, Dp.dListOf, Dp.dTupOf, Dp.dSum, Dp.dAny, Dp.dAll, Dp.dSorted, Dp.dDictP, Dp.dDictD, Dp.dSortMet, Dp.dLenSet, Dp.dSortSet, Dp.dmApp, Dp.dmExt, Dp.dmPop, Dp.dmPopAt, Dp.dmRem, Dp.dmIdx, Dp.dSet, Dp.intOf, Dp.keyOf, Dp.dwipe, Dp.patD, Dp.patDs, Dp.ln_lst, Dp.ln_tup, Dp.ln_kls, Dp.ln_dK, Dp.dFor, Dp.dLc, Dp.dDc, Dp.dLc2, Dp.srcOf, Dp.dFrz, lk_Seats_scene, pa_Seats_scene, pt_Seats_scene, lk_Seats_seating, pa_Seats_seating, pt_Seats_seating, lk_Seats_seated, pa_Seats_seated, pt_Seats_seated, lk_Kept_lot, pa_Kept_lot, pt_Kept_lot, lk_Kept_seating, pa_Kept_seating, pt_Kept_seating, lk_Kept_papers, pa_Kept_papers, pt_Kept_papers, lk_Call_worth, pa_Call_worth, pt_Call_worth, lk_Call_heard, pa_Call_heard, pt_Call_heard, lk_Scene_channels, pa_Scene_channels, pt_Scene_channels, lk_Scene_calls, pa_Scene_calls, pt_Scene_calls, Option.map_none, Option.getD_none]
        refine ⟨0, by omega, .inr ⟨_, _, _, _, _, rfl, rfl, hS2, hso, ?_, kp.trans k2⟩⟩
        rw [put_keys, if_neg (by rw [hk', hxn]; exact hnS), hk', hxn]
      · rw [hb]
        simp only [Dp.dSeq, Dp.dAsg, Dp.dgN, Dp.dVar, Dp.dC, Dp.dUn, Dp.dOp, Dp.dFld, Dp.dTst, Dp.dAnd, Dp.dOr, Dp.dNot, Dp.dAndV, Dp.dOrV, Dp.dNotV, Dp.dIf, Dp.dIfS, Dp.dRet, Dp.dRetN, Dp.dExpr, Dp.dPar, Dp.dPar3, Dp.dNext, Dp.dNever, Dp.dBrk, Dp.dCont, Dp.dgTup, Dp.dgCons, Dp.dgNil, Dp.dCall, Dp.dCons, Dp.dNil, Dp.dTup, Dp.dLst, Dp.dLstM, Dp.dNewK, Dp.dCallF, Dp.dMethF, Dp.dMake, Dp.dMakeF, Dp.dFldS, Dp.dPut, Dp.dBM, Dp.dGet1, Dp.dGet2, Dp.dPop1, Dp.dPop2, Dp.dStar, Dp.dIx, Dp.dAdd, Dp.dSub, Dp.dMul, Dp.dMod, Dp.dFdiv, Dp.dPow, Dp.dNeg, Dp.dAugN, Dp.dAugS, Dp.dAugF, Dp.dAugI, Dp.dLtS, Dp.dLe, Dp.dGt, Dp.dGe, Dp.dOrd, Dp.dBetween, Dp.dIsN, Dp.dEq, Dp.dEqK, Dp.dIn, Dp.dstart, List.map_cons, List.map_nil, List.length_cons, List.length_nil, List.cons_append, List.nil_append, List.replicate, List.getElem?_cons_zero, List.getElem?_cons_succ, List.set_cons_zero, List.set_cons_succ, Nat.reduceAdd, Nat.reduceSub, if_true, if_false, Bool.false_eq_true, Bool.not_true, Bool.not_false, Dp.v_non, Dp.v_bl, Dp.v_int, Dp.v_str, Dp.v_tup, Dp.v_lst, Dp.v_kls, Dp.v_dK, Dp.v_dT, Dp.v_ins, Dp.f_ins, Dp.da_dKs, Dp.da_dKi, Dp.ix_dKs, Dp.ix_dKi, Dp.ix_lst, Dp.ix_tup, Dp.ix_kls, Dp.lo_lst, Dp.lo_kls, Dp.io_lst, Dp.io_tup, Dp.io_kls, Dp.ki_lst, Dp.ki_tup, Dp.ki_dK, Dp.dd_dK, Dp.e_ii, Dp.e_ss, Dp.e_bb, Dp.inB_dK, Dp.inB_tup, Dp.inB_lst, Dp.dLen, Dp.dAbs, Dp.dInt1, Dp.dStr1, Dp.dIsi, Dp.dListOf, Dp.dTupOf, Dp.dSum, Dp.dAny, Dp.dAll, Dp.dSorted, Dp.dDictP, Dp.dDictD, Dp.dSortMet, Dp.dLenSet, Dp.dSortSet, Dp.dmApp, Dp.dmExt, Dp.dmPop, Dp.dmPopAt, Dp.dmRem, Dp.dmIdx, Dp.dSet, Dp.intOf, Dp.keyOf, Dp.dwipe, Dp.patD, Dp.patDs, Dp.ln_lst, Dp.ln_tup, Dp.ln_kls, Dp.ln_dK, Dp.dFor, Dp.dLc, Dp.dDc, Dp.dLc2, Dp.srcOf, Dp.dFrz, lk_Seats_scene, pa_Seats_scene, pt_Seats_scene, lk_Seats_seating, pa_Seats_seating, pt_Seats_seating, lk_Seats_seated, pa_Seats_seated, pt_Seats_seated, lk_Kept_lot, pa_Kept_lot, pt_Kept_lot, lk_Kept_seating, pa_Kept_seating, pt_Kept_seating, lk_Kept_papers, pa_Kept_papers, pt_Kept_papers, lk_Call_worth, pa_Call_worth, pt_Call_worth, lk_Call_heard, pa_Call_heard, pt_Call_heard, lk_Scene_channels, pa_Scene_channels, pt_Scene_channels, lk_Scene_calls, pa_Scene_calls, pt_Scene_calls, Option.map_some, Option.getD_some]
        obtain ⟨⟨m1, x'⟩, hp1, e1⟩ := List.mem_map.mp hm'
        dsimp only at e1
        subst e1
        obtain ⟨pre', post', rfl⟩ := List.append_of_mem hp1
        have hx1k : x ∈ S1.map (·.1) := by
          rcases hka with h | h
          · exact h
          · rw [h, hnl] at hb; cases hb
        have hm1k : m1 ∈ s.ch.map (·.1) := hkp _ hp1
        have hne2 : m1 ≠ mast := fun q => hmp (q ▸ hm')
        have hin1 : x ∈ at1 m1 := ((hst'.sm x m1).mp (by rw [hx1]; exact hb)).2
        refine ⟨pre'.length + 1, by simp, .inl ⟨pre', m1, x', post' ++ (mast, x) :: post, _, _, some (.str x), some (.str m1), ?_, rfl, ?_, hS2, hso, ?_, ?_, ?_, kp.trans k2⟩⟩
        · simp
        · have : (pre' ++ (m1, x') :: post') ++ (mast, x) :: post = pre' ++ (m1, x') :: (post' ++ (mast, x) :: post) := by simp
          rw [← this]; exact hwo
        · rw [put_keys, if_pos hx1k]; exact hk'
        · obtain ⟨c1, hc1⟩ := lookup_of hm1k
          refine ⟨c1, hc1, ?_⟩
          unfold sitAt offAt
          rw [if_neg hne2, if_pos (by rw [hx1]; exact hb), List.length_erase_of_mem hin1]
          have h1 := hst'.cp m1 c1 hc1
          have h2 := List.length_pos_of_mem hin1
          omega
        · intro y
          rw [lookup_put]
          by_cases hy : x = y
          · subst hy
            right
            refine ⟨m1, hb, fun q => ?_⟩
            rw [List.map_append, List.map_append, List.map_cons, List.nodup_append] at hkd
            rw [List.nodup_append] at hkd
            exact hkd.1.2.2 m1 q m1 List.mem_cons_self rfl
          · rw [if_neg hy]
            rcases hmv y with h | ⟨m'', h1, h2⟩
            · exact .inl h
            · exact .inr ⟨m'', h1, fun q => h2 (by rw [List.map_append]; exact List.mem_append_left _ q)⟩
    · simp only [Dp.dSeq, Dp.dAsg, Dp.dgN, Dp.dVar, Dp.dC, Dp.dUn, Dp.dOp, Dp.dFld, Dp.dTst, Dp.dAnd, Dp.dOr, Dp.dNot, Dp.dAndV, Dp.dOrV, Dp.dNotV, Dp.dIf, Dp.dIfS, Dp.dRet, Dp.dRetN, Dp.dExpr, Dp.dPar, Dp.dPar3, Dp.dNext, Dp.dNever, Dp.dBrk, Dp.dCont, Dp.dgTup, Dp.dgCons, Dp.dgNil, Dp.dCall, Dp.dCons, Dp.dNil, Dp.dTup, Dp.dLst, Dp.dLstM, Dp.dNewK, Dp.dCallF, Dp.dMethF, Dp.dMake, Dp.dMakeF, Dp.dFldS, Dp.dPut, Dp.dBM, Dp.dGet1, Dp.dGet2, Dp.dPop1, Dp.dPop2, Dp.dStar, Dp.dIx, Dp.dAdd, Dp.dSub, Dp.dMul, Dp.dMod, Dp.dFdiv, Dp.dPow, Dp.dNeg, Dp.dAugN, Dp.dAugS, Dp.dAugF, Dp.dAugI, Dp.dLtS, Dp.dLe, Dp.dGt, Dp.dGe, Dp.dOrd, Dp.dBetween, Dp.dIsN, Dp.dEq, Dp.dEqK, Dp.dIn, Dp.dstart, List.map_cons, List.map_nil, List.length_cons, List.length_nil, List.cons_append, List.nil_append, List.replicate, List.getElem?_cons_zero, List.getElem?_cons_succ, List.set_cons_zero, List.set_cons_succ, Nat.reduceAdd, Nat.reduceSub, if_true, if_false, Bool.false_eq_true, Bool.not_true, Bool.not_false, Dp.v_non, Dp.v_bl, Dp.v_int, Dp.v_str, Dp.v_tup, Dp.v_lst, Dp.v_kls, Dp.v_dK, Dp.v_dT, Dp.v_ins, Dp.f_ins, Dp.da_dKs, Dp.da_dKi, Dp.ix_dKs, Dp.ix_dKi, Dp.ix_lst, Dp.ix_tup, Dp.ix_kls, Dp.lo_lst, Dp.lo_kls, Dp.io_lst, Dp.io_tup, Dp.io_kls, Dp.ki_lst, Dp.ki_tup, Dp.ki_dK, Dp.dd_dK, Dp.e_ii, Dp.e_ss, Dp.e_bb, Dp.inB_dK, Dp.inB_tup, Dp.inB_lst, Dp.dLen, Dp.dAbs, Dp.dInt1, Dp.dStr1, Dp.dIsi, Dp.dListOf, Dp.dTupOf, Dp.dSum, Dp.dAny, Dp.dAll, Dp.dSorted, Dp.dDictP, Dp.dDictD, Dp.dSortMet, Dp.dLenSet, Dp.dSortSet, Dp.dmApp, Dp.dmExt, Dp.dmPop, Dp.dmPopAt, Dp.dmRem, Dp.dmIdx, Dp.dSet, Dp.intOf, Dp.keyOf, Dp.dwipe, Dp.patD, Dp.patDs, Dp.ln_lst, Dp.ln_tup, Dp.ln_kls, Dp.ln_dK, Dp.dFor, Dp.dLc, Dp.dDc, Dp.dLc2, Dp.srcOf, Dp.dFrz, lk_Seats_scene, pa_Seats_scene, pt_Seats_scene, lk_Seats_seating, pa_Seats_seating, pt_Seats_seating, lk_Seats_seated, pa_Seats_seated, pt_Seats_seated, lk_Kept_lot, pa_Kept_lot, pt_Kept_lot, lk_Kept_seating, pa_Kept_seating, pt_Kept_seating, lk_Kept_papers, pa_Kept_papers, pt_Kept_papers, lk_Call_worth, pa_Call_worth, pt_Call_worth, lk_Call_heard, pa_Call_heard, pt_Call_heard, lk_Scene_channels, pa_Scene_channels, pt_Scene_channels, lk_Scene_calls, pa_Scene_calls, pt_Scene_calls]
      exact ⟨_, _, Fz.refl _ _, hT M' S1 at1 hS' hst' hk' kp⟩

end
end K20
namespace K20
open PySem PySem.Spec L2 Dp
section
variable {P : Program} {w : World} {K : PySem.W.Frag} {mg : Str → Option Value} {base : Heap} {d : Dat}
/-- the lot of a refused call -/
def lotOf (at_ : Str → List Str) (n : Str) (came : List (Str × Str)) : List Str := ssort (n :: came.flatMap fun p => at_ p.1)
def sp_Seats_lot_against (d : Dat) : DSp := fun ds M R _ => ∃ a p q rs S at_ s n, ds = [.adr a, .str n] ∧ SeatsAt d M s a p q rs S at_ ∧ ScOk s ∧ StOk s S at_ ∧ n ∈ s.ca.map (·.1) ∧ ∀ came res M', WaysOk s at_ n came res → MLe M M' → R (.tup ((lotOf at_ n came).map .str)) M'
theorem flat_len (at_ : Str → List Str) (h : ∀ m, (at_ m).length ≤ 1000) (l : List (Str × Str)) : (l.flatMap fun p => at_ p.1).length ≤ l.length * 1000 := by
  induction l with
  | nil => simp
  | cons x l ih =>
    rw [List.flatMap_cons, List.length_append, List.length_cons, Nat.succ_mul]
    have := h x.1
    omega
theorem ok_Seats_lot_against (T : Tx K mg d) : FnOk P w K mg base (L2.CX P w) 3 d.f_Seats_lot_against d.d_Seats_lot_against ["self", "name"] (LSp K (sp_Seats_lot_against d)) := by
  have G_Seats_ways_from := ok_Seats_ways_from (P := P) (w := w) (base := base) T
  refine dfn_ok (k := 2) T.F_Seats_lot_against sc_Seats_lot_against (fun ds M R RX h => ?_) (by decide) fun cdv A outer s0 H0 E0 B ds M R RX hr fx h => ?_
  · obtain ⟨a, p, q, rs, S, at_, s, n, rfl, hS, hs, hst, hn, hR⟩ := h; rfl
  obtain ⟨a, p, q, rs, S, at_, s, n, rfl, hS, hs, hst, hn, hR⟩ := h
  have nd := sc_Seats_lot_against.nd
  refine ⟨_, (dss_cons (ds_set (i := 2) nd rfl (Or.inl rfl) (de_ix (hu1 hr) (de_meth (nv 0) T.c_Seats T.M_Seats_ways_from G_Seats_ways_from (hr.mono (by decide)) T.B_Seats_ways_from (da_cons (nv 1) da_nil)) de_int)) (dss_cons (ds_setLc2 (i := 3) (fz := true) (own := [("mast", 4), ("one", 5)]) (vs1 := [5]) rfl nd rfl rfl (sw_true rfl rfl rfl (by decide +kernel)) (di_any (nv 2)) (blkOk_by (N := N_Seats_lot_against) (sc := defScope s_Seats_lot_against) (own := [("mast", 4), ("one", 5)]) (by decide +kernel)) (by decide) (by decide) (by decide) (fun _ _ _ _ _ => (pp_name (i := 4) nd rfl (Or.inl rfl))) (fun _ _ _ _ _ => dts_nil) (fun _ _ _ _ _ => (di_any (de_ix (hu1 hr) (de_fld (nv 0)) (nv 4)))) (fun _ _ _ _ _ => (pp_name (i := 5) nd rfl (Or.inl rfl))) (fun _ _ _ _ _ => dts_nil) (fun _ _ _ _ _ => (nv 5))) (dss_one (ds_ret (de_callTy call_tuple_of l_tuple (by rfl) T.n_tuple (by rfl) (da_cons (de_callB (cr_sortedD (hu64 hr) rfl) l_sorted (by rfl) T.n_sorted (by rfl) (da_cons (de_lst (da_cons (nv 1) (da_star (nv 3) da_nil))) da_nil)) da_nil)))))), ?_⟩
  simp only [Dp.dSeq, Dp.dAsg, Dp.dgN, Dp.dVar, Dp.dC, Dp.dUn, Dp.dOp, Dp.dFld, Dp.dTst, Dp.dAnd, Dp.dOr, Dp.dNot, Dp.dAndV, Dp.dOrV, Dp.dNotV, Dp.dIf, Dp.dIfS, Dp.dRet, Dp.dRetN, Dp.dExpr, Dp.dPar, Dp.dPar3, Dp.dNext, Dp.dNever, Dp.dBrk, Dp.dCont, Dp.dgTup, Dp.dgCons, Dp.dgNil, Dp.dCall, Dp.dCons, Dp.dNil, Dp.dTup, Dp.dLst, Dp.dLstM, Dp.dNewK, Dp.dCallF, Dp.dMethF, Dp.dMake, Dp.dMakeF, Dp.dFldS, Dp.dPut, Dp.dBM, Dp.dGet1, Dp.dGet2, Dp.dPop1, Dp.dPop2, Dp.dStar, Dp.dIx, Dp.dAdd, Dp.dSub, Dp.dMul, Dp.dMod, Dp.dFdiv, Dp.dPow, Dp.dNeg, Dp.dAugN, Dp.dAugS, Dp.dAugF, Dp.dAugI, Dp.dLtS, Dp.dLe, Dp.dGt, Dp.dGe, Dp.dOrd, Dp.dBetween, Dp.dIsN, Dp.dEq, Dp.dEqK, Dp.dIn, Dp.dstart, List.map_cons, List.map_nil, List.length_cons, List.length_nil, List.cons_append, List.nil_append, List.replicate, List.getElem?_cons_zero, List.getElem?_cons_succ, List.set_cons_zero, List.set_cons_succ, Nat.reduceAdd, Nat.reduceSub, if_true, if_false, Bool.false_eq_true, Bool.not_true, Bool.not_false, Dp.v_non, Dp.v_bl, Dp.v_int, Dp.v_str, Dp.v_tup, Dp.v_lst, Dp.v_kls, Dp.v_dK, Dp.v_dT, Dp.v_ins, Dp.f_ins, Dp.da_dKs, Dp.da_dKi, Dp.ix_dKs, Dp.ix_dKi, Dp.ix_lst, Dp.ix_tup, Dp.ix_kls, Dp.lo_lst, Dp.lo_kls, Dp.io_lst, Dp.io_tup, Dp.io_kls, Dp.ki_lst, Dp.ki_tup, Dp.ki_dK, Dp.dd_dK, Dp.e_ii, Dp.e_ss, Dp.e_bb, Dp.inB_dK, Dp.inB_tup, Dp.inB_lst, Dp.dLen, Dp.dAbs, Dp.dInt1, Dp.dStr1, Dp.dIsi, Dp.dListOf, Dp.dTupOf, Dp.dSum, Dp.dAny, Dp.dAll, Dp.dSorted, Dp.dDictP, Dp.dDictD, Dp.dSortMet, Dp.dLenSet, Dp.dSortSet, Dp.dmApp, Dp.dmExt, Dp.dmPop, Dp.dmPopAt, Dp.dmRem, Dp.dmIdx, Dp.dSet, Dp.intOf, Dp.keyOf, Dp.dwipe, Dp.patD, Dp.patDs, Dp.ln_lst, Dp.ln_tup, Dp.ln_kls, Dp.ln_dK, Dp.dFor, Dp.dLc, Dp.dDc, Dp.dLc2, Dp.srcOf, Dp.dFrz, lk_Seats_scene, pa_Seats_scene, pt_Seats_scene, lk_Seats_seating, pa_Seats_seating, pt_Seats_seating, lk_Seats_seated, pa_Seats_seated, pt_Seats_seated, lk_Kept_lot, pa_Kept_lot, pt_Kept_lot, lk_Kept_seating, pa_Kept_seating, pt_Kept_seating, lk_Kept_papers, pa_Kept_papers, pt_Kept_papers, lk_Call_worth, pa_Call_worth, pt_Call_worth, lk_Call_heard, pa_Call_heard, pt_Call_heard, lk_Scene_channels, pa_Scene_channels, pt_Scene_channels, lk_Scene_calls, pa_Scene_calls, pt_Scene_calls, v_cI hS.ma]
  refine ⟨trivial, a, p, q, rs, S, at_, s, n, rfl, hS, hs, fun x hx => ?_, hst.pot hs, fun came res M1 hw le => ?_⟩
  · rcases hx with rfl | ⟨m, hm, hx⟩
    · exact hn
    · exact heard_in (hst.he x m ((hst.sm x m).mpr ⟨hm, hx⟩))
  have hS1 : SeatsAt d M1 s a p q rs S at_ := hS.le fun b _ m e => le b m e
  have i0 : L2.atI [D.dK (dSta came), optD res] 0 = some (.dK (dSta came)) := rfl
  have ec : ((dSta came).map fun kv => kD kv.1) = came.map fun p => D.str p.1 := by unfold dSta; rw [List.map_map]; rfl
  simp only [Dp.dSeq, Dp.dAsg, Dp.dgN, Dp.dVar, Dp.dC, Dp.dUn, Dp.dOp, Dp.dFld, Dp.dTst, Dp.dAnd, Dp.dOr, Dp.dNot, Dp.dAndV, Dp.dOrV, Dp.dNotV, Dp.dIf, Dp.dIfS, Dp.dRet, Dp.dRetN, Dp.dExpr, Dp.dPar, Dp.dPar3, Dp.dNext, Dp.dNever, Dp.dBrk, Dp.dCont, Dp.dgTup, Dp.dgCons, Dp.dgNil, Dp.dCall, Dp.dCons, Dp.dNil, Dp.dTup, Dp.dLst, Dp.dLstM, Dp.dNewK, Dp.dCallF, Dp.dMethF, Dp.dMake, Dp.dMakeF, Dp.dFldS, Dp.dPut, Dp.dBM, Dp.dGet1, Dp.dGet2, Dp.dPop1, Dp.dPop2, Dp.dStar, Dp.dIx, Dp.dAdd, Dp.dSub, Dp.dMul, Dp.dMod, Dp.dFdiv, Dp.dPow, Dp.dNeg, Dp.dAugN, Dp.dAugS, Dp.dAugF, Dp.dAugI, Dp.dLtS, Dp.dLe, Dp.dGt, Dp.dGe, Dp.dOrd, Dp.dBetween, Dp.dIsN, Dp.dEq, Dp.dEqK, Dp.dIn, Dp.dstart, List.map_cons, List.map_nil, List.length_cons, List.length_nil, List.cons_append, List.nil_append, List.replicate, List.getElem?_cons_zero, List.getElem?_cons_succ, List.set_cons_zero, List.set_cons_succ, Nat.reduceAdd, Nat.reduceSub, if_true, if_false, Bool.false_eq_true, Bool.not_true, Bool.not_false, Dp.v_non, Dp.v_bl, Dp.v_int, Dp.v_str, Dp.v_tup, Dp.v_lst, Dp.v_kls, Dp.v_dK, Dp.v_dT, Dp.v_ins, Dp.f_ins, Dp.da_dKs, Dp.da_dKi, Dp.ix_dKs, Dp.ix_dKi, Dp.ix_lst, Dp.ix_tup, Dp.ix_kls, Dp.lo_lst, Dp.lo_kls, Dp.io_lst, Dp.io_tup, Dp.io_kls, Dp.ki_lst, Dp.ki_tup, Dp.ki_dK, Dp.dd_dK, Dp.e_ii, Dp.e_ss, Dp.e_bb, Dp.inB_dK, Dp.inB_tup, Dp.inB_lst, Dp.dLen, Dp.dAbs, Dp.dInt1, Dp.dStr1, Dp.dIsi, Dp.dListOf, Dp.dTupOf, Dp.dSum, Dp.dAny, Dp.dAll, Dp.dSorted, Dp.dDictP, Dp.dDictD, Dp.dSortMet, Dp.dLenSet, Dp.dSortSet, Dp.dmApp, Dp.dmExt, Dp.dmPop, Dp.dmPopAt, Dp.dmRem, Dp.dmIdx, Dp.dSet, Dp.intOf, Dp.keyOf, Dp.dwipe, Dp.patD, Dp.patDs, Dp.ln_lst, Dp.ln_tup, Dp.ln_kls, Dp.ln_dK, Dp.dFor, Dp.dLc, Dp.dDc, Dp.dLc2, Dp.srcOf, Dp.dFrz, lk_Seats_scene, pa_Seats_scene, pt_Seats_scene, lk_Seats_seating, pa_Seats_seating, pt_Seats_seating, lk_Seats_seated, pa_Seats_seated, pt_Seats_seated, lk_Kept_lot, pa_Kept_lot, pt_Kept_lot, lk_Kept_seating, pa_Kept_seating, pt_Kept_seating, lk_Kept_papers, pa_Kept_papers, pt_Kept_papers, lk_Call_worth, pa_Call_worth, pt_Call_worth, lk_Call_heard, pa_Call_heard, pt_Call_heard, lk_Scene_channels, pa_Scene_channels, pt_Scene_channels, lk_Scene_calls, pa_Scene_calls, pt_Scene_calls, i0, ec]
  refine ⟨trivial, ?_⟩
  intro c hc
  have hl : ∀ m, (at_ m).length ≤ 1000 := hst.len hs
  have hcl := came_len hw.1 hs
  have okat : ∀ m x, x ∈ at_ m → PyData.strOk x = true := fun m x hx => by
    by_cases hm : m ∈ s.ch.map (·.1)
    · obtain ⟨cc, e⟩ := lookup_of (heard_in (hst.he x m ((hst.sm x m).mpr ⟨hm, hx⟩)))
      exact (isName_ok (hs.na _ (lookup_mem e))).1
    · rw [hst.out m hm] at hx; cases hx
  refine ⟨fun i acc M' => acc = ((came.take i).flatMap fun p => at_ p.1).map D.str ∧ M' = mup M1 c (.lst acc), ⟨rfl, rfl⟩, ?_, ?_, ?_⟩
  · rintro i acc M' hi ⟨rfl, rfl⟩
    exact ⟨trivial, mup_same⟩
  · rintro i x acc M' hx ⟨rfl, rfl⟩
    rw [List.getElem?_map] at hx
    obtain ⟨y, hy, rfl⟩ := Option.map_eq_some_iff.mp hx
    have hi := (List.getElem?_eq_some_iff.mp hy).1
    have ht : came.take (i + 1) = came.take i ++ [y] := by rw [List.take_succ, hy]; rfl
    have hyk : y.1 ∈ s.ch.map (·.1) := hw.1.km y (List.mem_of_getElem? hy)
    refine ⟨_, rfl, ?_⟩
    have hS2 : ∀ xs, SeatsAt d (mup M1 c (.lst xs)) s a p q rs S at_ := fun xs => hS1.le fun b _ m e => by
      have : b ≠ c := fun q => by rw [q, hc] at e; cases e
      rw [mup_ne this]; exact e
    obtain ⟨row, hrow, hrowm, hMrow⟩ := (hS2 (((came.take i).flatMap fun p => at_ p.1).map D.str)).row hyk
    have hrc : row ≠ c := fun q => by
      have := (hS1.row hyk)
      obtain ⟨row', h1, _, h3⟩ := this
      rw [hrow] at h1; cases h1
      rw [q, hc] at h3; cases h3
    simp only [Dp.dSeq, Dp.dAsg, Dp.dgN, Dp.dVar, Dp.dC, Dp.dUn, Dp.dOp, Dp.dFld, Dp.dTst, Dp.dAnd, Dp.dOr, Dp.dNot, Dp.dAndV, Dp.dOrV, Dp.dNotV, Dp.dIf, Dp.dIfS, Dp.dRet, Dp.dRetN, Dp.dExpr, Dp.dPar, Dp.dPar3, Dp.dNext, Dp.dNever, Dp.dBrk, Dp.dCont, Dp.dgTup, Dp.dgCons, Dp.dgNil, Dp.dCall, Dp.dCons, Dp.dNil, Dp.dTup, Dp.dLst, Dp.dLstM, Dp.dNewK, Dp.dCallF, Dp.dMethF, Dp.dMake, Dp.dMakeF, Dp.dFldS, Dp.dPut, Dp.dBM, Dp.dGet1, Dp.dGet2, Dp.dPop1, Dp.dPop2, Dp.dStar, Dp.dIx, Dp.dAdd, Dp.dSub, Dp.dMul, Dp.dMod, Dp.dFdiv, Dp.dPow, Dp.dNeg, Dp.dAugN, Dp.dAugS, Dp.dAugF, Dp.dAugI, Dp.dLtS, Dp.dLe, Dp.dGt, Dp.dGe, Dp.dOrd, Dp.dBetween, Dp.dIsN, Dp.dEq, Dp.dEqK, Dp.dIn, Dp.dstart, List.map_cons, List.map_nil, List.length_cons, List.length_nil, List.cons_append, List.nil_append, List.replicate, List.getElem?_cons_zero, List.getElem?_cons_succ, List.set_cons_zero, List.set_cons_succ, Nat.reduceAdd, Nat.reduceSub, if_true, if_false, Bool.false_eq_true, Bool.not_true, Bool.not_false, Dp.v_non, Dp.v_bl, Dp.v_int, Dp.v_str, Dp.v_tup, Dp.v_lst, Dp.v_kls, Dp.v_dK, Dp.v_dT, Dp.v_ins, Dp.f_ins, Dp.da_dKs, Dp.da_dKi, Dp.ix_dKs, Dp.ix_dKi, Dp.ix_lst, Dp.ix_tup, Dp.ix_kls, Dp.lo_lst, Dp.lo_kls, Dp.io_lst, Dp.io_tup, Dp.io_kls, Dp.ki_lst, Dp.ki_tup, Dp.ki_dK, Dp.dd_dK, Dp.e_ii, Dp.e_ss, Dp.e_bb, Dp.inB_dK, Dp.inB_tup, Dp.inB_lst, Dp.dLen, Dp.dAbs, Dp.dInt1, Dp.dStr1, Dp.dIsi, Dp.dListOf, Dp.dTupOf, Dp.dSum, Dp.dAny, Dp.dAll, Dp.dSorted, Dp.dDictP, Dp.dDictD, Dp.dSortMet, Dp.dLenSet, Dp.dSortSet, Dp.dmApp, Dp.dmExt, Dp.dmPop, Dp.dmPopAt, Dp.dmRem, Dp.dmIdx, Dp.dSet, Dp.intOf, Dp.keyOf, Dp.dwipe, Dp.patD, Dp.patDs, Dp.ln_lst, Dp.ln_tup, Dp.ln_kls, Dp.ln_dK, Dp.dFor, Dp.dLc, Dp.dDc, Dp.dLc2, Dp.srcOf, Dp.dFrz, lk_Seats_scene, pa_Seats_scene, pt_Seats_scene, lk_Seats_seating, pa_Seats_seating, pt_Seats_seating, lk_Seats_seated, pa_Seats_seated, pt_Seats_seated, lk_Kept_lot, pa_Kept_lot, pt_Kept_lot, lk_Kept_seating, pa_Kept_seating, pt_Kept_seating, lk_Kept_papers, pa_Kept_papers, pt_Kept_papers, lk_Call_worth, pa_Call_worth, pt_Call_worth, lk_Call_heard, pa_Call_heard, pt_Call_heard, lk_Scene_channels, pa_Scene_channels, pt_Scene_channels, lk_Scene_calls, pa_Scene_calls, pt_Scene_calls, dYes, f_cI (hS2 _).ma, ix_cKs (hS2 _).mq, look_rws, hrow, Option.map_some, v_cK (hS2 _).mq, hMrow]
    refine ⟨trivial, fun j acc M' => acc = (((came.take i).flatMap fun p => at_ p.1) ++ (at_ y.1).take j).map D.str ∧ M' = mup M1 c (.lst acc), ⟨by simp, rfl⟩, ?_, ?_, ?_⟩
    · rintro j acc M' hj ⟨rfl, rfl⟩
      show mup M1 c _ row = mup M1 c _ row
      rw [mup_ne hrc, mup_ne hrc]
    · rintro j x acc M' hx ⟨rfl, rfl⟩
      rw [List.getElem?_map] at hx
      obtain ⟨z, hz, rfl⟩ := Option.map_eq_some_iff.mp hx
      have hj := (List.getElem?_eq_some_iff.mp hz).1
      have ht2 : (at_ y.1).take (j + 1) = (at_ y.1).take j ++ [z] := by rw [List.take_succ, hz]; rfl
      refine ⟨_, rfl, ?_⟩
      simp only [Dp.dSeq, Dp.dAsg, Dp.dgN, Dp.dVar, Dp.dC, Dp.dUn, Dp.dOp, Dp.dFld, Dp.dTst, Dp.dAnd, Dp.dOr, Dp.dNot, Dp.dAndV, Dp.dOrV, Dp.dNotV, Dp.dIf, Dp.dIfS, Dp.dRet, Dp.dRetN, Dp.dExpr, Dp.dPar, Dp.dPar3, Dp.dNext, Dp.dNever, Dp.dBrk, Dp.dCont, Dp.dgTup, Dp.dgCons, Dp.dgNil, Dp.dCall, Dp.dCons, Dp.dNil, Dp.dTup, Dp.dLst, Dp.dLstM, Dp.dNewK, Dp.dCallF, Dp.dMethF, Dp.dMake, Dp.dMakeF, Dp.dFldS, Dp.dPut, Dp.dBM, Dp.dGet1, Dp.dGet2, Dp.dPop1, Dp.dPop2, Dp.dStar, Dp.dIx, Dp.dAdd, Dp.dSub, Dp.dMul, Dp.dMod, Dp.dFdiv, Dp.dPow, Dp.dNeg, Dp.dAugN, Dp.dAugS, Dp.dAugF, Dp.dAugI, Dp.dLtS, Dp.dLe, Dp.dGt, Dp.dGe, Dp.dOrd, Dp.dBetween, Dp.dIsN, Dp.dEq, Dp.dEqK, Dp.dIn, Dp.dstart, List.map_cons, List.map_nil, List.length_cons, List.length_nil, List.cons_append, List.nil_append, List.replicate, List.getElem?_cons_zero, List.getElem?_cons_succ, List.set_cons_zero, List.set_cons_succ, Nat.reduceAdd, Nat.reduceSub, if_true, if_false, Bool.false_eq_true, Bool.not_true, Bool.not_false, Dp.v_non, Dp.v_bl, Dp.v_int, Dp.v_str, Dp.v_tup, Dp.v_lst, Dp.v_kls, Dp.v_dK, Dp.v_dT, Dp.v_ins, Dp.f_ins, Dp.da_dKs, Dp.da_dKi, Dp.ix_dKs, Dp.ix_dKi, Dp.ix_lst, Dp.ix_tup, Dp.ix_kls, Dp.lo_lst, Dp.lo_kls, Dp.io_lst, Dp.io_tup, Dp.io_kls, Dp.ki_lst, Dp.ki_tup, Dp.ki_dK, Dp.dd_dK, Dp.e_ii, Dp.e_ss, Dp.e_bb, Dp.inB_dK, Dp.inB_tup, Dp.inB_lst, Dp.dLen, Dp.dAbs, Dp.dInt1, Dp.dStr1, Dp.dIsi, Dp.dListOf, Dp.dTupOf, Dp.dSum, Dp.dAny, Dp.dAll, Dp.dSorted, Dp.dDictP, Dp.dDictD, Dp.dSortMet, Dp.dLenSet, Dp.dSortSet, Dp.dmApp, Dp.dmExt, Dp.dmPop, Dp.dmPopAt, Dp.dmRem, Dp.dmIdx, Dp.dSet, Dp.intOf, Dp.keyOf, Dp.dwipe, Dp.patD, Dp.patDs, Dp.ln_lst, Dp.ln_tup, Dp.ln_kls, Dp.ln_dK, Dp.dFor, Dp.dLc, Dp.dDc, Dp.dLc2, Dp.srcOf, Dp.dFrz, lk_Seats_scene, pa_Seats_scene, pt_Seats_scene, lk_Seats_seating, pa_Seats_seating, pt_Seats_seating, lk_Seats_seated, pa_Seats_seated, pt_Seats_seated, lk_Kept_lot, pa_Kept_lot, pt_Kept_lot, lk_Kept_seating, pa_Kept_seating, pt_Kept_seating, lk_Kept_papers, pa_Kept_papers, pt_Kept_papers, lk_Call_worth, pa_Call_worth, pt_Call_worth, lk_Call_heard, pa_Call_heard, pt_Call_heard, lk_Scene_channels, pa_Scene_channels, pt_Scene_channels, lk_Scene_calls, pa_Scene_calls, pt_Scene_calls, dYes]
      have hb := flat_len at_ hl (came.take i)
      have hb2 : (came.take i).length ≤ 500 := by rw [List.length_take]; omega
      have hb3 : (came.take i).length * 1000 ≤ 500 * 1000 := Nat.mul_le_mul_right _ hb2
      have hb4 := hl y.1
      refine ⟨mup_same, szlt ?_, ?_, by rw [mup_mup]⟩
      · rw [List.length_map, List.length_append, List.length_take]; omega
      · rw [ht2]; simp
    · rintro acc M' ⟨rfl, rfl⟩
      rw [List.length_map, List.take_length, ht]
      exact ⟨by simp, rfl⟩
  · rintro acc M' ⟨rfl, rfl⟩
    rw [List.length_map, List.take_length]
    simp only [Dp.dSeq, Dp.dAsg, Dp.dgN, Dp.dVar, Dp.dC, Dp.dUn, Dp.dOp, Dp.dFld, Dp.dTst, Dp.dAnd, Dp.dOr, Dp.dNot, Dp.dAndV, Dp.dOrV, Dp.dNotV, Dp.dIf, Dp.dIfS, Dp.dRet, Dp.dRetN, Dp.dExpr, Dp.dPar, Dp.dPar3, Dp.dNext, Dp.dNever, Dp.dBrk, Dp.dCont, Dp.dgTup, Dp.dgCons, Dp.dgNil, Dp.dCall, Dp.dCons, Dp.dNil, Dp.dTup, Dp.dLst, Dp.dLstM, Dp.dNewK, Dp.dCallF, Dp.dMethF, Dp.dMake, Dp.dMakeF, Dp.dFldS, Dp.dPut, Dp.dBM, Dp.dGet1, Dp.dGet2, Dp.dPop1, Dp.dPop2, Dp.dStar, Dp.dIx, Dp.dAdd, Dp.dSub, Dp.dMul, Dp.dMod, Dp.dFdiv, Dp.dPow, Dp.dNeg, Dp.dAugN, Dp.dAugS, Dp.dAugF, Dp.dAugI, Dp.dLtS, Dp.dLe, Dp.dGt, Dp.dGe, Dp.dOrd, Dp.dBetween, Dp.dIsN, Dp.dEq, Dp.dEqK, Dp.dIn, Dp.dstart, List.map_cons, List.map_nil, List.length_cons, List.length_nil, List.cons_append, List.nil_append, List.replicate, List.getElem?_cons_zero, List.getElem?_cons_succ, List.set_cons_zero, List.set_cons_succ, Nat.reduceAdd, Nat.reduceSub, if_true, if_false, Bool.false_eq_true, Bool.not_true, Bool.not_false, Dp.v_non, Dp.v_bl, Dp.v_int, Dp.v_str, Dp.v_tup, Dp.v_lst, Dp.v_kls, Dp.v_dK, Dp.v_dT, Dp.v_ins, Dp.f_ins, Dp.da_dKs, Dp.da_dKi, Dp.ix_dKs, Dp.ix_dKi, Dp.ix_lst, Dp.ix_tup, Dp.ix_kls, Dp.lo_lst, Dp.lo_kls, Dp.io_lst, Dp.io_tup, Dp.io_kls, Dp.ki_lst, Dp.ki_tup, Dp.ki_dK, Dp.dd_dK, Dp.e_ii, Dp.e_ss, Dp.e_bb, Dp.inB_dK, Dp.inB_tup, Dp.inB_lst, Dp.dLen, Dp.dAbs, Dp.dInt1, Dp.dStr1, Dp.dIsi, Dp.dListOf, Dp.dTupOf, Dp.dSum, Dp.dAny, Dp.dAll, Dp.dSorted, Dp.dDictP, Dp.dDictD, Dp.dSortMet, Dp.dLenSet, Dp.dSortSet, Dp.dmApp, Dp.dmExt, Dp.dmPop, Dp.dmPopAt, Dp.dmRem, Dp.dmIdx, Dp.dSet, Dp.intOf, Dp.keyOf, Dp.dwipe, Dp.patD, Dp.patDs, Dp.ln_lst, Dp.ln_tup, Dp.ln_kls, Dp.ln_dK, Dp.dFor, Dp.dLc, Dp.dDc, Dp.dLc2, Dp.srcOf, Dp.dFrz, lk_Seats_scene, pa_Seats_scene, pt_Seats_scene, lk_Seats_seating, pa_Seats_seating, pt_Seats_seating, lk_Seats_seated, pa_Seats_seated, pt_Seats_seated, lk_Kept_lot, pa_Kept_lot, pt_Kept_lot, lk_Kept_seating, pa_Kept_seating, pt_Kept_seating, lk_Kept_papers, pa_Kept_papers, pt_Kept_papers, lk_Call_worth, pa_Call_worth, pt_Call_worth, lk_Call_heard, pa_Call_heard, pt_Call_heard, lk_Scene_channels, pa_Scene_channels, pt_Scene_channels, lk_Scene_calls, pa_Scene_calls, pt_Scene_calls, mdel_mup hc, List.append_nil]
    have hb := flat_len at_ hl came
    have hb3 : came.length * 1000 ≤ 500 * 1000 := Nat.mul_le_mul_right _ hcl
    have hok : ∀ x ∈ n :: (came.flatMap fun p => at_ p.1), PyData.strOk x = true := fun x hx => by
      rcases List.mem_cons.mp hx with rfl | hx
      · obtain ⟨cc, e⟩ := lookup_of hn
        exact (isName_ok (hs.na _ (lookup_mem e))).1
      · obtain ⟨p, _, hp⟩ := List.mem_flatMap.mp hx
        exact okat _ _ hp
    have e1 : D.str n :: (came.flatMap fun p => at_ p.1).map D.str = (n :: (came.flatMap fun p => at_ p.1)).map D.str := rfl
    rw [e1]
    refine ⟨szl (by rw [List.length_map]; omega), keyOk_strs hok, _, _, Fz.refl _ _, ?_⟩
    rw [srt_strs]
    exact hR came res M1 hw le
/-- the calls, one by one -/
inductive GRun (s : Sc) : List Str → List (Str × Str) → (Str → List Str) → List (Str × List Str) → Prop
  | nil : GRun s [] [] (fun _ => []) []
  | kept {l S at_ pp n S' at'} (h : GRun s l S at_ pp) (o : StOk s S at_) (o' : StOk s S' at') (k : S'.map (·.1) = S.map (·.1) ++ [n]) : GRun s (l ++ [n]) S' at' pp
  | gone {l S at_ pp n came came' res'} (h : GRun s l S at_ pp) (o : StOk s S at_) (hn : n ∉ S.map (·.1)) (w : WaysOk s at_ n came none) (w' : WaysOk s at_ n came' res') : GRun s (l ++ [n]) S at_ (pp ++ [(n, lotOf at_ n came')])
theorem GRun.keys {s : Sc} {l : List Str} {S : List (Str × Str)} {at_ : Str → List Str} {pp : List (Str × List Str)} (h : GRun s l S at_ pp) : (∀ x ∈ S.map (·.1), x ∈ l) ∧ (∀ x ∈ pp.map (·.1), x ∈ l) := by
  induction h with
  | nil => simp
  | kept h o o' k ih =>
    refine ⟨fun x hx => ?_, fun x hx => List.mem_append_left _ (ih.2 x hx)⟩
    rw [k] at hx
    rcases List.mem_append.mp hx with h | h
    · exact List.mem_append_left _ (ih.1 x h)
    · exact List.mem_append_right _ h
  | gone h o hn w w' ih =>
    refine ⟨fun x hx => List.mem_append_left _ (ih.1 x hx), fun x hx => ?_⟩
    rw [List.map_append] at hx
    rcases List.mem_append.mp hx with h | h
    · exact List.mem_append_left _ (ih.2 x h)
    · exact List.mem_append_right _ (by simpa using h)
theorem GRun.pnd {s : Sc} {l : List Str} {S : List (Str × Str)} {at_ : Str → List Str} {pp : List (Str × List Str)} (h : GRun s l S at_ pp) (hl : l.Nodup) : (pp.map (·.1)).Nodup := by
  induction h with
  | nil => simp
  | kept h o o' k ih => exact ih (List.nodup_append.mp hl).1
  | gone h o hn w w' ih =>
    have h1 := List.nodup_append.mp hl
    rw [List.map_append, List.nodup_append]
    exact ⟨ih h1.1, by simp, fun a ha b hb e => h1.2.2 a (h.keys.2 a ha) b (by simpa using hb) e⟩
theorem stOk_nil {s : Sc} (hs : ScOk s) : StOk s [] (fun _ => []) :=
  ⟨by simp, fun n m => by simp, fun _ => by simp, fun m c hc => by simpa using (hs.nc _ (lookup_mem hc)).1, fun n m h => (nomatch h), fun _ _ => rfl⟩
theorem ord_perm (s : Sc) : (ord s).Perm (s.ca.map (·.1)) := (List.mergeSort_perm _ _).map _
def dPps (pp : List (Str × List Str)) : List (Sum Int Str × D) := pp.map fun p => (Sum.inr p.1, .tup (p.2.map .str))
/-- what is kept, and where; the papers -/
def KeptOk (s : Sc) (S : List (Str × Str)) (pp : List (Str × List Str)) : Prop := ∃ at_, GRun s (ord s) S at_ pp ∧ StOk s S at_
def dKpt (d : Dat) (S : List (Str × Str)) (pp : List (Str × List Str)) : List (Str × D) := [("lot", .tup ((ssort (S.map (·.1))).map .str)), ("seating", .dK (dSta (rsrt S))), ("papers", .dK (dPps (rsrt pp)))]
def sp_Kept_init (d : Dat) : DSp := fun ds M R _ => ∃ a s, ds = [.adr a, dScn d s] ∧ M a = some (.ins d.C_Kept []) ∧ ScOk s ∧ ∀ M' S pp, KeptOk s S pp → M' a = some (.ins d.C_Kept (dKpt d S pp)) → (∀ b m, b ≠ a → M b = some m → M' b = some m) → R .non M'
theorem ok_Kept_init (T : Tx K mg d) : FnOk P w K mg base (L2.CX P w) 5 d.f_Kept_init d.d_Kept_init ["self", "scene"] (LSp K (sp_Kept_init d)) := by
  have G_Scene_order := ok_Scene_order (P := P) (w := w) (base := base) T
  have G_Seats_init := ok_Seats_init (P := P) (w := w) (base := base) T
  have G_Seats_add := ok_Seats_add (P := P) (w := w) (base := base) T
  have G_Seats_lot_against := ok_Seats_lot_against (P := P) (w := w) (base := base) T
  refine dfn_ok (k := 4) T.F_Kept_init sc_Kept_init (fun ds M R RX h => ?_) (by decide) fun cdv A outer s0 H0 E0 B ds M R RX hr fx h => ?_
  · obtain ⟨a, s, rfl, hM, hs, hR⟩ := h; rfl
  obtain ⟨a, s, rfl, hM, hs, hR⟩ := h
  have nd := sc_Kept_init.nd
  refine ⟨_, (dss_cons (ds_asg (de_tup (da_cons (de_make T.k_Seats G_Seats_init (hr.mono (by decide)) (by rfl) T.m_Seats T.B_Seats_init (da_cons (nv 1) da_nil)) (da_cons (de_newK) da_nil))) (dg_tup rfl (dgs_cons (dg_name (i := 2) nd rfl (Or.inr rfl)) (dgs_cons (dg_name (i := 3) nd rfl (Or.inr rfl)) dgs_nil)))) (dss_cons (ds_for (passes_of rfl) rfl (di_any (de_meth0 (nv 1) T.c_Scene T.M_Scene_order G_Scene_order (hr.mono (by decide)) T.B_Scene_order)) (pp_name (i := 4) nd rfl (Or.inl rfl)) (dss_one (ds_if (dt_not (dt_val (de_meth (nv 2) T.c_Seats T.M_Seats_add G_Seats_add (hr.mono (by decide)) T.B_Seats_add (da_cons (nv 4) da_nil)))) (dss_one (ds_put (hu1 hr) (nv 3) (nv 4) (de_meth (nv 2) T.c_Seats T.M_Seats_lot_against G_Seats_lot_against (hr.mono (by decide)) T.B_Seats_lot_against (da_cons (nv 4) da_nil)))) dss_nil))) (dss_cons (ds_fld (nv 0) (de_callTy call_tuple_of l_tuple (by rfl) T.n_tuple (by rfl) (da_cons (de_callB (cr_sortedD (hu64 hr) rfl) l_sorted (by rfl) T.n_sorted (by rfl) (da_cons (de_fld (nv 2)) da_nil)) da_nil))) (dss_cons (ds_fld (nv 0) (de_dc (fz := true) (own := [("name", 4)]) rfl nd (di_any (de_fld (nv 0))) (blkOk_by (N := N_Kept_init) (sc := defScope s_Kept_init) (own := [("name", 4)]) (by decide +kernel)) (by decide) (fun _ _ _ _ _ => (pp_name (i := 4) nd rfl (Or.inl rfl))) (fun _ _ _ _ _ => dts_nil) (fun _ _ _ _ _ => (nv 4)) (fun _ _ _ _ _ => (de_ix (hu1 hr) (de_fld (nv 2)) (nv 4))))) (dss_one (ds_fld (nv 0) (de_dc (fz := true) (own := [("name", 4)]) rfl nd (di_any (de_callB (cr_sortedD (hu64 hr) rfl) l_sorted (by rfl) T.n_sorted (by rfl) (da_cons (nv 3) da_nil))) (blkOk_by (N := N_Kept_init) (sc := defScope s_Kept_init) (own := [("name", 4)]) (by decide +kernel)) (by decide) (fun _ _ _ _ _ => (pp_name (i := 4) nd rfl (Or.inl rfl))) (fun _ _ _ _ _ => dts_nil) (fun _ _ _ _ _ => (nv 4)) (fun _ _ _ _ _ => (de_ix (hu1 hr) (nv 3) (nv 4)))))))))), ?_⟩
  simp only [Dp.dSeq, Dp.dAsg, Dp.dgN, Dp.dVar, Dp.dC, Dp.dUn, Dp.dOp, Dp.dFld, Dp.dTst, Dp.dAnd, Dp.dOr, Dp.dNot, Dp.dAndV, Dp.dOrV, Dp.dNotV, Dp.dIf, Dp.dIfS, Dp.dRet, Dp.dRetN, Dp.dExpr, Dp.dPar, Dp.dPar3, Dp.dNext, Dp.dNever, Dp.dBrk, Dp.dCont, Dp.dgTup, Dp.dgCons, Dp.dgNil, Dp.dCall, Dp.dCons, Dp.dNil, Dp.dTup, Dp.dLst, Dp.dLstM, Dp.dNewK, Dp.dCallF, Dp.dMethF, Dp.dMake, Dp.dMakeF, Dp.dFldS, Dp.dPut, Dp.dBM, Dp.dGet1, Dp.dGet2, Dp.dPop1, Dp.dPop2, Dp.dStar, Dp.dIx, Dp.dAdd, Dp.dSub, Dp.dMul, Dp.dMod, Dp.dFdiv, Dp.dPow, Dp.dNeg, Dp.dAugN, Dp.dAugS, Dp.dAugF, Dp.dAugI, Dp.dLtS, Dp.dLe, Dp.dGt, Dp.dGe, Dp.dOrd, Dp.dBetween, Dp.dIsN, Dp.dEq, Dp.dEqK, Dp.dIn, Dp.dstart, List.map_cons, List.map_nil, List.length_cons, List.length_nil, List.cons_append, List.nil_append, List.replicate, List.getElem?_cons_zero, List.getElem?_cons_succ, List.set_cons_zero, List.set_cons_succ, Nat.reduceAdd, Nat.reduceSub, if_true, if_false, Bool.false_eq_true, Bool.not_true, Bool.not_false, Dp.v_non, Dp.v_bl, Dp.v_int, Dp.v_str, Dp.v_tup, Dp.v_lst, Dp.v_kls, Dp.v_dK, Dp.v_dT, Dp.v_ins, Dp.f_ins, Dp.da_dKs, Dp.da_dKi, Dp.ix_dKs, Dp.ix_dKi, Dp.ix_lst, Dp.ix_tup, Dp.ix_kls, Dp.lo_lst, Dp.lo_kls, Dp.io_lst, Dp.io_tup, Dp.io_kls, Dp.ki_lst, Dp.ki_tup, Dp.ki_dK, Dp.dd_dK, Dp.e_ii, Dp.e_ss, Dp.e_bb, Dp.inB_dK, Dp.inB_tup, Dp.inB_lst, Dp.dLen, Dp.dAbs, Dp.dInt1, Dp.dStr1, Dp.dIsi, Dp.dListOf, Dp.dTupOf, Dp.dSum, Dp.dAny, Dp.dAll, Dp.dSorted, Dp.dDictP, Dp.dDictD, Dp.dSortMet, Dp.dLenSet, Dp.dSortSet, Dp.dmApp, Dp.dmExt, Dp.dmPop, Dp.dmPopAt, Dp.dmRem, Dp.dmIdx, Dp.dSet, Dp.intOf, Dp.keyOf, Dp.dwipe, Dp.patD, Dp.patDs, Dp.ln_lst, Dp.ln_tup, Dp.ln_kls, Dp.ln_dK, Dp.dFor, Dp.dLc, Dp.dDc, Dp.dLc2, Dp.srcOf, Dp.dFrz, lk_Seats_scene, pa_Seats_scene, pt_Seats_scene, lk_Seats_seating, pa_Seats_seating, pt_Seats_seating, lk_Seats_seated, pa_Seats_seated, pt_Seats_seated, lk_Kept_lot, pa_Kept_lot, pt_Kept_lot, lk_Kept_seating, pa_Kept_seating, pt_Kept_seating, lk_Kept_papers, pa_Kept_papers, pt_Kept_papers, lk_Call_worth, pa_Call_worth, pt_Call_worth, lk_Call_heard, pa_Call_heard, pt_Call_heard, lk_Scene_channels, pa_Scene_channels, pt_Scene_channels, lk_Scene_calls, pa_Scene_calls, pt_Scene_calls]
  refine fun b hb => ⟨b, s, rfl, mup_same, hs.dm, fun M1 p q rs hS1 hfr hkp => ⟨rfl, fun c hc => ⟨szl (by decide), rfl, ?_⟩⟩⟩
  have hab : a ≠ b := fun q => by rw [← q, hM] at hb; cases hb
  have hMa1 : M1 a = some (.ins d.C_Kept []) := hkp a _ hab (by rw [mup_ne hab]; exact hM)
  have hac : a ≠ c := fun q => by rw [← q, hMa1] at hc; cases hc
  have hown : ∀ x ∈ own b p q rs, x ≠ a ∧ x ≠ c ∧ M x = none := fun x hx => by
    rcases List.mem_cons.mp hx with rfl | hx'
    · exact ⟨Ne.symm hab, (fun q => by rw [← q, hS1.ma] at hc; cases hc), hb⟩
    · have h1 := hfr x hx'
      have hxb : x ≠ b := fun q => by rw [q, mup_same] at h1; cases h1
      have h2 : M x = none := by rw [mup_ne hxb] at h1; exact h1
      refine ⟨(fun q => by rw [q, hM] at h2; cases h2), fun q => ?_, h2⟩
      have hex : ∃ m, M1 x = some m := by
        rcases List.mem_cons.mp hx' with rfl | hx'
        · exact ⟨_, hS1.mp⟩
        rcases List.mem_cons.mp hx' with rfl | hx'
        · exact ⟨_, hS1.mq⟩
        obtain ⟨z, hz, rfl⟩ := List.mem_map.mp hx'
        exact ⟨_, hS1.mr z hz⟩
      obtain ⟨m, hm⟩ := hex
      rw [q, hc] at hm; cases hm
  obtain ⟨M2, hM2⟩ : ∃ M2, M2 = mup M1 c (.dK []) := ⟨_, rfl⟩
  rw [← hM2]
  have hnd : (s.ca.map (·.1)).Nodup := hs.da
  have hok : ∀ x ∈ s.ca.map (·.1), PyData.strOk x = true := fun x hx => by
    obtain ⟨p, hp, rfl⟩ := List.mem_map.mp hx
    exact (isName_ok (hs.na p hp)).1
  have hMa2 : M2 a = some (.ins d.C_Kept []) := by rw [hM2, mup_ne hac]; exact hMa1
  have hMc2 : M2 c = some (.dK (dPps [])) := by rw [hM2, mup_same]; rfl
  have hS2 : SeatsAt d M2 s b p q rs [] (fun _ => []) := hS1.le fun x hx m e => by rw [hM2, mup_ne (hown x hx).2.1]; exact e
  have hc0 : M c = none := by
    cases e : M c with
    | none => rfl
    | some m =>
      have hcb : c ≠ b := fun q => by rw [q, hb] at e; cases e
      have := hkp c m hcb (by rw [mup_ne hcb]; exact e)
      rw [hc] at this; cases this
  have hkp2 : ∀ x m, x ≠ a → M x = some m → M2 x = some m := fun x m hx e => by
    have h1 : x ≠ b := fun q => by rw [q, hb] at e; cases e
    have h2 : x ≠ c := fun q => by rw [q, hc0] at e; cases e
    rw [hM2, mup_ne h2]
    exact hkp x m h1 (by rw [mup_ne h1]; exact e)
  refine ⟨trivial, rfl, s, rfl, hnd, fun p hp => hok _ (List.mem_map_of_mem hp), ?_⟩
  simp only [Dp.dSeq, Dp.dAsg, Dp.dgN, Dp.dVar, Dp.dC, Dp.dUn, Dp.dOp, Dp.dFld, Dp.dTst, Dp.dAnd, Dp.dOr, Dp.dNot, Dp.dAndV, Dp.dOrV, Dp.dNotV, Dp.dIf, Dp.dIfS, Dp.dRet, Dp.dRetN, Dp.dExpr, Dp.dPar, Dp.dPar3, Dp.dNext, Dp.dNever, Dp.dBrk, Dp.dCont, Dp.dgTup, Dp.dgCons, Dp.dgNil, Dp.dCall, Dp.dCons, Dp.dNil, Dp.dTup, Dp.dLst, Dp.dLstM, Dp.dNewK, Dp.dCallF, Dp.dMethF, Dp.dMake, Dp.dMakeF, Dp.dFldS, Dp.dPut, Dp.dBM, Dp.dGet1, Dp.dGet2, Dp.dPop1, Dp.dPop2, Dp.dStar, Dp.dIx, Dp.dAdd, Dp.dSub, Dp.dMul, Dp.dMod, Dp.dFdiv, Dp.dPow, Dp.dNeg, Dp.dAugN, Dp.dAugS, Dp.dAugF, Dp.dAugI, Dp.dLtS, Dp.dLe, Dp.dGt, Dp.dGe, Dp.dOrd, Dp.dBetween, Dp.dIsN, Dp.dEq, Dp.dEqK, Dp.dIn, Dp.dstart, List.map_cons, List.map_nil, List.length_cons, List.length_nil, List.cons_append, List.nil_append, List.replicate, List.getElem?_cons_zero, List.getElem?_cons_succ, List.set_cons_zero, List.set_cons_succ, Nat.reduceAdd, Nat.reduceSub, if_true, if_false, Bool.false_eq_true, Bool.not_true, Bool.not_false, Dp.v_non, Dp.v_bl, Dp.v_int, Dp.v_str, Dp.v_tup, Dp.v_lst, Dp.v_kls, Dp.v_dK, Dp.v_dT, Dp.v_ins, Dp.f_ins, Dp.da_dKs, Dp.da_dKi, Dp.ix_dKs, Dp.ix_dKi, Dp.ix_lst, Dp.ix_tup, Dp.ix_kls, Dp.lo_lst, Dp.lo_kls, Dp.io_lst, Dp.io_tup, Dp.io_kls, Dp.ki_lst, Dp.ki_tup, Dp.ki_dK, Dp.dd_dK, Dp.e_ii, Dp.e_ss, Dp.e_bb, Dp.inB_dK, Dp.inB_tup, Dp.inB_lst, Dp.dLen, Dp.dAbs, Dp.dInt1, Dp.dStr1, Dp.dIsi, Dp.dListOf, Dp.dTupOf, Dp.dSum, Dp.dAny, Dp.dAll, Dp.dSorted, Dp.dDictP, Dp.dDictD, Dp.dSortMet, Dp.dLenSet, Dp.dSortSet, Dp.dmApp, Dp.dmExt, Dp.dmPop, Dp.dmPopAt, Dp.dmRem, Dp.dmIdx, Dp.dSet, Dp.intOf, Dp.keyOf, Dp.dwipe, Dp.patD, Dp.patDs, Dp.ln_lst, Dp.ln_tup, Dp.ln_kls, Dp.ln_dK, Dp.dFor, Dp.dLc, Dp.dDc, Dp.dLc2, Dp.srcOf, Dp.dFrz, lk_Seats_scene, pa_Seats_scene, pt_Seats_scene, lk_Seats_seating, pa_Seats_seating, pt_Seats_seating, lk_Seats_seated, pa_Seats_seated, pt_Seats_seated, lk_Kept_lot, pa_Kept_lot, pt_Kept_lot, lk_Kept_seating, pa_Kept_seating, pt_Kept_seating, lk_Kept_papers, pa_Kept_papers, pt_Kept_papers, lk_Call_worth, pa_Call_worth, pt_Call_worth, lk_Call_heard, pa_Call_heard, pt_Call_heard, lk_Scene_channels, pa_Scene_channels, pt_Scene_channels, lk_Scene_calls, pa_Scene_calls, pt_Scene_calls]
  have onot : a ∉ own b p q rs ∧ c ∉ own b p q rs := ⟨fun h => (hown a h).1 rfl, fun h => (hown c h).2.1 rfl⟩
  have honod : (ord s).Nodup := (ord_perm s).nodup_iff.mpr hnd
  refine for_i (fun i Γ' M' => ∃ o4 S at_ pp, Γ' = [some (.adr a), some (dScn d s), some (.adr b), some (.adr c), o4] ∧ SeatsAt d M' s b p q rs S at_ ∧ StOk s S at_ ∧ GRun s ((ord s).take i) S at_ pp ∧ M' c = some (.dK (dPps pp)) ∧ M' a = some (.ins d.C_Kept []) ∧ ∀ x m, x ≠ a → M x = some m → M' x = some m)
    ⟨none, [], _, [], rfl, hS2, stOk_nil hs, by simpa using GRun.nil, hMc2, hMa2, hkp2⟩ (fun _ _ _ _ _ => trivial) ?_ ?_
  · rintro i x Γ' M' hx ⟨o4, S, at_, pp, rfl, hS', hst', hg, hMc, hMa, hk⟩
    rw [List.getElem?_map] at hx
    obtain ⟨n, hn, rfl⟩ := Option.map_eq_some_iff.mp hx
    have hi := (List.getElem?_eq_some_iff.mp hn).1
    have ht : (ord s).take (i + 1) = (ord s).take i ++ [n] := by rw [List.take_succ, hn]; rfl
    have hnca : n ∈ s.ca.map (·.1) := (ord_perm s).mem_iff.mp (List.mem_of_getElem? hn)
    have hnl : n ∉ (ord s).take i := by
      have : ((ord s).take (i + 1)).Nodup := honod.sublist (List.take_sublist _ _)
      rw [ht, List.nodup_append] at this
      exact fun q => this.2.2 n q n (by simp) rfl
    have hnS : n ∉ S.map (·.1) := fun q => hnl (hg.keys.1 n q)
    have kk : ∀ M3, Keeps (own b p q rs) M' M3 → M3 c = some (.dK (dPps pp)) ∧ M3 a = some (.ins d.C_Kept []) ∧ ∀ x m, x ≠ a → M x = some m → M3 x = some m := fun M3 h =>
      ⟨h c _ onot.2 hMc, h a _ onot.1 hMa, fun x m hx e => h x m (fun q => by rw [(hown x q).2.2] at e; cases e) (hk x m hx e)⟩
    refine ⟨_, rfl, fun bk _ => ?_⟩
    simp only [Dp.dSeq, Dp.dAsg, Dp.dgN, Dp.dVar, Dp.dC, Dp.dUn, Dp.dOp, Dp.dFld, Dp.dTst, Dp.dAnd, Dp.dOr, Dp.dNot, Dp.dAndV, Dp.dOrV, Dp.dNotV, Dp.dIf, Dp.dIfS, Dp.dRet, Dp.dRetN, Dp.dExpr, Dp.dPar, Dp.dPar3, Dp.dNext, Dp.dNever, Dp.dBrk, Dp.dCont, Dp.dgTup, Dp.dgCons, Dp.dgNil, Dp.dCall, Dp.dCons, Dp.dNil, Dp.dTup, Dp.dLst, Dp.dLstM, Dp.dNewK, Dp.dCallF, Dp.dMethF, Dp.dMake, Dp.dMakeF, Dp.dFldS, Dp.dPut, Dp.dBM, Dp.dGet1, Dp.dGet2, Dp.dPop1, Dp.dPop2, Dp.dStar, Dp.dIx, Dp.dAdd, Dp.dSub, Dp.dMul, Dp.dMod, Dp.dFdiv, Dp.dPow, Dp.dNeg, Dp.dAugN, Dp.dAugS, Dp.dAugF, Dp.dAugI, Dp.dLtS, Dp.dLe, Dp.dGt, Dp.dGe, Dp.dOrd, Dp.dBetween, Dp.dIsN, Dp.dEq, Dp.dEqK, Dp.dIn, Dp.dstart, List.map_cons, List.map_nil, List.length_cons, List.length_nil, List.cons_append, List.nil_append, List.replicate, List.getElem?_cons_zero, List.getElem?_cons_succ, List.set_cons_zero, List.set_cons_succ, Nat.reduceAdd, Nat.reduceSub, if_true, if_false, Bool.false_eq_true, Bool.not_true, Bool.not_false, Dp.v_non, Dp.v_bl, Dp.v_int, Dp.v_str, Dp.v_tup, Dp.v_lst, Dp.v_kls, Dp.v_dK, Dp.v_dT, Dp.v_ins, Dp.f_ins, Dp.da_dKs, Dp.da_dKi, Dp.ix_dKs, Dp.ix_dKi, Dp.ix_lst, Dp.ix_tup, Dp.ix_kls, Dp.lo_lst, Dp.lo_kls, Dp.io_lst, Dp.io_tup, Dp.io_kls, Dp.ki_lst, Dp.ki_tup, Dp.ki_dK, Dp.dd_dK, Dp.e_ii, Dp.e_ss, Dp.e_bb, Dp.inB_dK, Dp.inB_tup, Dp.inB_lst, Dp.dLen, Dp.dAbs, Dp.dInt1, Dp.dStr1, Dp.dIsi, Dp.dListOf, Dp.dTupOf, Dp.dSum, Dp.dAny, Dp.dAll, Dp.dSorted, Dp.dDictP, Dp.dDictD, Dp.dSortMet, Dp.dLenSet, Dp.dSortSet, Dp.dmApp, Dp.dmExt, Dp.dmPop, Dp.dmPopAt, Dp.dmRem, Dp.dmIdx, Dp.dSet, Dp.intOf, Dp.keyOf, Dp.dwipe, Dp.patD, Dp.patDs, Dp.ln_lst, Dp.ln_tup, Dp.ln_kls, Dp.ln_dK, Dp.dFor, Dp.dLc, Dp.dDc, Dp.dLc2, Dp.srcOf, Dp.dFrz, lk_Seats_scene, pa_Seats_scene, pt_Seats_scene, lk_Seats_seating, pa_Seats_seating, pt_Seats_seating, lk_Seats_seated, pa_Seats_seated, pt_Seats_seated, lk_Kept_lot, pa_Kept_lot, pt_Kept_lot, lk_Kept_seating, pa_Kept_seating, pt_Kept_seating, lk_Kept_papers, pa_Kept_papers, pt_Kept_papers, lk_Call_worth, pa_Call_worth, pt_Call_worth, lk_Call_heard, pa_Call_heard, pt_Call_heard, lk_Scene_channels, pa_Scene_channels, pt_Scene_channels, lk_Scene_calls, pa_Scene_calls, pt_Scene_calls, v_cI hS'.ma]
    refine ⟨trivial, b, p, q, rs, S, at_, s, n, rfl, hS', hs, hst', hnca, hnS, fun M3 S' at' hS3 hst3 hk3 kp3 => ?_, fun M3 came hw hS3 kp3 => ?_⟩
    · simp only [Dp.dSeq, Dp.dAsg, Dp.dgN, Dp.dVar, Dp.dC, Dp.dUn, Dp.dOp, Dp.dFld, Dp.dTst, Dp.dAnd, Dp.dOr, Dp.dNot, Dp.dAndV, Dp.dOrV, Dp.dNotV, Dp.dIf, Dp.dIfS, Dp.dRet, Dp.dRetN, Dp.dExpr, Dp.dPar, Dp.dPar3, Dp.dNext, Dp.dNever, Dp.dBrk, Dp.dCont, Dp.dgTup, Dp.dgCons, Dp.dgNil, Dp.dCall, Dp.dCons, Dp.dNil, Dp.dTup, Dp.dLst, Dp.dLstM, Dp.dNewK, Dp.dCallF, Dp.dMethF, Dp.dMake, Dp.dMakeF, Dp.dFldS, Dp.dPut, Dp.dBM, Dp.dGet1, Dp.dGet2, Dp.dPop1, Dp.dPop2, Dp.dStar, Dp.dIx, Dp.dAdd, Dp.dSub, Dp.dMul, Dp.dMod, Dp.dFdiv, Dp.dPow, Dp.dNeg, Dp.dAugN, Dp.dAugS, Dp.dAugF, Dp.dAugI, Dp.dLtS, Dp.dLe, Dp.dGt, Dp.dGe, Dp.dOrd, Dp.dBetween, Dp.dIsN, Dp.dEq, Dp.dEqK, Dp.dIn, Dp.dstart, List.map_cons, List.map_nil, List.length_cons, List.length_nil, List.cons_append, List.nil_append, List.replicate, List.getElem?_cons_zero, List.getElem?_cons_succ, List.set_cons_zero, List.set_cons_succ, Nat.reduceAdd, Nat.reduceSub, if_true, if_false, Bool.false_eq_true, Bool.not_true, Bool.not_false, Dp.v_non, Dp.v_bl, Dp.v_int, Dp.v_str, Dp.v_tup, Dp.v_lst, Dp.v_kls, Dp.v_dK, Dp.v_dT, Dp.v_ins, Dp.f_ins, Dp.da_dKs, Dp.da_dKi, Dp.ix_dKs, Dp.ix_dKi, Dp.ix_lst, Dp.ix_tup, Dp.ix_kls, Dp.lo_lst, Dp.lo_kls, Dp.io_lst, Dp.io_tup, Dp.io_kls, Dp.ki_lst, Dp.ki_tup, Dp.ki_dK, Dp.dd_dK, Dp.e_ii, Dp.e_ss, Dp.e_bb, Dp.inB_dK, Dp.inB_tup, Dp.inB_lst, Dp.dLen, Dp.dAbs, Dp.dInt1, Dp.dStr1, Dp.dIsi, Dp.dListOf, Dp.dTupOf, Dp.dSum, Dp.dAny, Dp.dAll, Dp.dSorted, Dp.dDictP, Dp.dDictD, Dp.dSortMet, Dp.dLenSet, Dp.dSortSet, Dp.dmApp, Dp.dmExt, Dp.dmPop, Dp.dmPopAt, Dp.dmRem, Dp.dmIdx, Dp.dSet, Dp.intOf, Dp.keyOf, Dp.dwipe, Dp.patD, Dp.patDs, Dp.ln_lst, Dp.ln_tup, Dp.ln_kls, Dp.ln_dK, Dp.dFor, Dp.dLc, Dp.dDc, Dp.dLc2, Dp.srcOf, Dp.dFrz, lk_Seats_scene, pa_Seats_scene, pt_Seats_scene, lk_Seats_seating, pa_Seats_seating, pt_Seats_seating, lk_Seats_seated, pa_Seats_seated, pt_Seats_seated, lk_Kept_lot, pa_Kept_lot, pt_Kept_lot, lk_Kept_seating, pa_Kept_seating, pt_Kept_seating, lk_Kept_papers, pa_Kept_papers, pt_Kept_papers, lk_Call_worth, pa_Call_worth, pt_Call_worth, lk_Call_heard, pa_Call_heard, pt_Call_heard, lk_Scene_channels, pa_Scene_channels, pt_Scene_channels, lk_Scene_calls, pa_Scene_calls, pt_Scene_calls]
      obtain ⟨k1, k2, k3⟩ := kk M3 kp3
      exact ⟨_, S', at', pp, rfl, hS3, hst3, by rw [ht]; exact .kept hg hst' hst3 hk3, k1, k2, k3⟩
    · simp only [Dp.dSeq, Dp.dAsg, Dp.dgN, Dp.dVar, Dp.dC, Dp.dUn, Dp.dOp, Dp.dFld, Dp.dTst, Dp.dAnd, Dp.dOr, Dp.dNot, Dp.dAndV, Dp.dOrV, Dp.dNotV, Dp.dIf, Dp.dIfS, Dp.dRet, Dp.dRetN, Dp.dExpr, Dp.dPar, Dp.dPar3, Dp.dNext, Dp.dNever, Dp.dBrk, Dp.dCont, Dp.dgTup, Dp.dgCons, Dp.dgNil, Dp.dCall, Dp.dCons, Dp.dNil, Dp.dTup, Dp.dLst, Dp.dLstM, Dp.dNewK, Dp.dCallF, Dp.dMethF, Dp.dMake, Dp.dMakeF, Dp.dFldS, Dp.dPut, Dp.dBM, Dp.dGet1, Dp.dGet2, Dp.dPop1, Dp.dPop2, Dp.dStar, Dp.dIx, Dp.dAdd, Dp.dSub, Dp.dMul, Dp.dMod, Dp.dFdiv, Dp.dPow, Dp.dNeg, Dp.dAugN, Dp.dAugS, Dp.dAugF, Dp.dAugI, Dp.dLtS, Dp.dLe, Dp.dGt, Dp.dGe, Dp.dOrd, Dp.dBetween, Dp.dIsN, Dp.dEq, Dp.dEqK, Dp.dIn, Dp.dstart, List.map_cons, List.map_nil, List.length_cons, List.length_nil, List.cons_append, List.nil_append, List.replicate, List.getElem?_cons_zero, List.getElem?_cons_succ, List.set_cons_zero, List.set_cons_succ, Nat.reduceAdd, Nat.reduceSub, if_true, if_false, Bool.false_eq_true, Bool.not_true, Bool.not_false, Dp.v_non, Dp.v_bl, Dp.v_int, Dp.v_str, Dp.v_tup, Dp.v_lst, Dp.v_kls, Dp.v_dK, Dp.v_dT, Dp.v_ins, Dp.f_ins, Dp.da_dKs, Dp.da_dKi, Dp.ix_dKs, Dp.ix_dKi, Dp.ix_lst, Dp.ix_tup, Dp.ix_kls, Dp.lo_lst, Dp.lo_kls, Dp.io_lst, Dp.io_tup, Dp.io_kls, Dp.ki_lst, Dp.ki_tup, Dp.ki_dK, Dp.dd_dK, Dp.e_ii, Dp.e_ss, Dp.e_bb, Dp.inB_dK, Dp.inB_tup, Dp.inB_lst, Dp.dLen, Dp.dAbs, Dp.dInt1, Dp.dStr1, Dp.dIsi, Dp.dListOf, Dp.dTupOf, Dp.dSum, Dp.dAny, Dp.dAll, Dp.dSorted, Dp.dDictP, Dp.dDictD, Dp.dSortMet, Dp.dLenSet, Dp.dSortSet, Dp.dmApp, Dp.dmExt, Dp.dmPop, Dp.dmPopAt, Dp.dmRem, Dp.dmIdx, Dp.dSet, Dp.intOf, Dp.keyOf, Dp.dwipe, Dp.patD, Dp.patDs, Dp.ln_lst, Dp.ln_tup, Dp.ln_kls, Dp.ln_dK, Dp.dFor, Dp.dLc, Dp.dDc, Dp.dLc2, Dp.srcOf, Dp.dFrz, lk_Seats_scene, pa_Seats_scene, pt_Seats_scene, lk_Seats_seating, pa_Seats_seating, pt_Seats_seating, lk_Seats_seated, pa_Seats_seated, pt_Seats_seated, lk_Kept_lot, pa_Kept_lot, pt_Kept_lot, lk_Kept_seating, pa_Kept_seating, pt_Kept_seating, lk_Kept_papers, pa_Kept_papers, pt_Kept_papers, lk_Call_worth, pa_Call_worth, pt_Call_worth, lk_Call_heard, pa_Call_heard, pt_Call_heard, lk_Scene_channels, pa_Scene_channels, pt_Scene_channels, lk_Scene_calls, pa_Scene_calls, pt_Scene_calls, v_cI hS3.ma]
      obtain ⟨k1, k2, k3⟩ := kk M3 kp3
      refine ⟨trivial, b, p, q, rs, S, at_, s, n, rfl, hS3, hs, hst', hnca, fun came' res' M4 hw' le => ?_⟩
      have hppn : n ∉ pp.map (·.1) := fun q => hnl (hg.keys.2 n q)
      have ep : put (dPps pp) (Sum.inr n) (.tup ((lotOf at_ n came').map .str)) = dPps (pp ++ [(n, lotOf at_ n came')]) := by
        have := put_rows pp (fun l : List Str => D.tup (l.map .str)) n (lotOf at_ n came')
        rw [put_new _ hppn] at this
        exact this
      simp only [Dp.dSeq, Dp.dAsg, Dp.dgN, Dp.dVar, Dp.dC, Dp.dUn, Dp.dOp, Dp.dFld, Dp.dTst, Dp.dAnd, Dp.dOr, Dp.dNot, Dp.dAndV, Dp.dOrV, Dp.dNotV, Dp.dIf, Dp.dIfS, Dp.dRet, Dp.dRetN, Dp.dExpr, Dp.dPar, Dp.dPar3, Dp.dNext, Dp.dNever, Dp.dBrk, Dp.dCont, Dp.dgTup, Dp.dgCons, Dp.dgNil, Dp.dCall, Dp.dCons, Dp.dNil, Dp.dTup, Dp.dLst, Dp.dLstM, Dp.dNewK, Dp.dCallF, Dp.dMethF, Dp.dMake, Dp.dMakeF, Dp.dFldS, Dp.dPut, Dp.dBM, Dp.dGet1, Dp.dGet2, Dp.dPop1, Dp.dPop2, Dp.dStar, Dp.dIx, Dp.dAdd, Dp.dSub, Dp.dMul, Dp.dMod, Dp.dFdiv, Dp.dPow, Dp.dNeg, Dp.dAugN, Dp.dAugS, Dp.dAugF, Dp.dAugI, Dp.dLtS, Dp.dLe, Dp.dGt, Dp.dGe, Dp.dOrd, Dp.dBetween, Dp.dIsN, Dp.dEq, Dp.dEqK, Dp.dIn, Dp.dstart, List.map_cons, List.map_nil, List.length_cons, List.length_nil, List.cons_append, List.nil_append, List.replicate, List.getElem?_cons_zero, List.getElem?_cons_succ, List.set_cons_zero, List.set_cons_succ, Nat.reduceAdd, Nat.reduceSub, if_true, if_false, Bool.false_eq_true, Bool.not_true, Bool.not_false, Dp.v_non, Dp.v_bl, Dp.v_int, Dp.v_str, Dp.v_tup, Dp.v_lst, Dp.v_kls, Dp.v_dK, Dp.v_dT, Dp.v_ins, Dp.f_ins, Dp.da_dKs, Dp.da_dKi, Dp.ix_dKs, Dp.ix_dKi, Dp.ix_lst, Dp.ix_tup, Dp.ix_kls, Dp.lo_lst, Dp.lo_kls, Dp.io_lst, Dp.io_tup, Dp.io_kls, Dp.ki_lst, Dp.ki_tup, Dp.ki_dK, Dp.dd_dK, Dp.e_ii, Dp.e_ss, Dp.e_bb, Dp.inB_dK, Dp.inB_tup, Dp.inB_lst, Dp.dLen, Dp.dAbs, Dp.dInt1, Dp.dStr1, Dp.dIsi, Dp.dListOf, Dp.dTupOf, Dp.dSum, Dp.dAny, Dp.dAll, Dp.dSorted, Dp.dDictP, Dp.dDictD, Dp.dSortMet, Dp.dLenSet, Dp.dSortSet, Dp.dmApp, Dp.dmExt, Dp.dmPop, Dp.dmPopAt, Dp.dmRem, Dp.dmIdx, Dp.dSet, Dp.intOf, Dp.keyOf, Dp.dwipe, Dp.patD, Dp.patDs, Dp.ln_lst, Dp.ln_tup, Dp.ln_kls, Dp.ln_dK, Dp.dFor, Dp.dLc, Dp.dDc, Dp.dLc2, Dp.srcOf, Dp.dFrz, lk_Seats_scene, pa_Seats_scene, pt_Seats_scene, lk_Seats_seating, pa_Seats_seating, pt_Seats_seating, lk_Seats_seated, pa_Seats_seated, pt_Seats_seated, lk_Kept_lot, pa_Kept_lot, pt_Kept_lot, lk_Kept_seating, pa_Kept_seating, pt_Kept_seating, lk_Kept_papers, pa_Kept_papers, pt_Kept_papers, lk_Call_worth, pa_Call_worth, pt_Call_worth, lk_Call_heard, pa_Call_heard, pt_Call_heard, lk_Scene_channels, pa_Scene_channels, pt_Scene_channels, lk_Scene_calls, pa_Scene_calls, pt_Scene_calls, le c _ k1, ep]
      have hpl : pp.length ≤ 500 := by
        have h1 := nodup_sub (hg.pnd (honod.sublist (List.take_sublist _ _))) (m := s.ca.map (·.1)) fun y hy => (ord_perm s).mem_iff.mp (List.mem_of_mem_take (hg.keys.2 y hy))
        rw [List.length_map, List.length_map] at h1
        exact Nat.le_trans h1 hs.la
      refine ⟨szlt (by unfold dPps; rw [List.length_map]; omega), _, S, at_, pp ++ [(n, lotOf at_ n came')], rfl, ?_, hst', by rw [ht]; exact .gone hg hst' hnS hw hw', mup_same, by rw [mup_ne hac]; exact le a _ k2, fun x m hx e => ?_⟩
      · exact hS3.le fun x hx m e => by rw [mup_ne (hown x hx).2.1]; exact le x m e
      · have h2 : x ≠ c := fun q => by rw [q, hc0] at e; cases e
        rw [mup_ne h2]; exact le x m (k3 x m hx e)
  · rintro Γ' M' ⟨o4, S, at_, pp, rfl, hS', hst', hg, hMc, hMa, hk⟩
    rw [List.length_map, List.take_length] at hg
    have kS : ((dSta S).map fun kv => kD kv.1) = (S.map (·.1)).map D.str := keys_str _ _
    have kP : ((dPps pp).map fun kv => kD kv.1) = (pp.map (·.1)).map D.str := keys_str pp (fun l : List Str => D.tup (l.map .str))
    have hokS : ∀ x ∈ S.map (·.1), PyData.strOk x = true := fun x hx => hok x ((ord_perm s).mem_iff.mp (hg.keys.1 x hx))
    have hokP : ∀ x ∈ pp.map (·.1), PyData.strOk x = true := fun x hx => hok x ((ord_perm s).mem_iff.mp (hg.keys.2 x hx))
    have hpnd := hg.pnd honod
    simp only [Dp.dSeq, Dp.dAsg, Dp.dgN, Dp.dVar, Dp.dC, Dp.dUn, Dp.dOp, Dp.dFld, Dp.dTst, Dp.dAnd, Dp.dOr, Dp.dNot, Dp.dAndV, Dp.dOrV, Dp.dNotV, Dp.dIf, Dp.dIfS, Dp.dRet, Dp.dRetN, Dp.dExpr, Dp.dPar, Dp.dPar3, Dp.dNext, Dp.dNever, Dp.dBrk, Dp.dCont, Dp.dgTup, Dp.dgCons, Dp.dgNil, Dp.dCall, Dp.dCons, Dp.dNil, Dp.dTup, Dp.dLst, Dp.dLstM, Dp.dNewK, Dp.dCallF, Dp.dMethF, Dp.dMake, Dp.dMakeF, Dp.dFldS, Dp.dPut, Dp.dBM, Dp.dGet1, Dp.dGet2, Dp.dPop1, Dp.dPop2, Dp.dStar, Dp.dIx, Dp.dAdd, Dp.dSub, Dp.dMul, Dp.dMod, Dp.dFdiv, Dp.dPow, Dp.dNeg, Dp.dAugN, Dp.dAugS, Dp.dAugF, Dp.dAugI, Dp.dLtS, Dp.dLe, Dp.dGt, Dp.dGe, Dp.dOrd, Dp.dBetween, Dp.dIsN, Dp.dEq, Dp.dEqK, Dp.dIn, Dp.dstart, List.map_cons, List.map_nil, List.length_cons, List.length_nil, List.cons_append, List.nil_append, List.replicate, List.getElem?_cons_zero, List.getElem?_cons_succ, List.set_cons_zero, List.set_cons_succ, Nat.reduceAdd, Nat.reduceSub, if_true, if_false, Bool.false_eq_true, Bool.not_true, Bool.not_false, Dp.v_non, Dp.v_bl, Dp.v_int, Dp.v_str, Dp.v_tup, Dp.v_lst, Dp.v_kls, Dp.v_dK, Dp.v_dT, Dp.v_ins, Dp.f_ins, Dp.da_dKs, Dp.da_dKi, Dp.ix_dKs, Dp.ix_dKi, Dp.ix_lst, Dp.ix_tup, Dp.ix_kls, Dp.lo_lst, Dp.lo_kls, Dp.io_lst, Dp.io_tup, Dp.io_kls, Dp.ki_lst, Dp.ki_tup, Dp.ki_dK, Dp.dd_dK, Dp.e_ii, Dp.e_ss, Dp.e_bb, Dp.inB_dK, Dp.inB_tup, Dp.inB_lst, Dp.dLen, Dp.dAbs, Dp.dInt1, Dp.dStr1, Dp.dIsi, Dp.dListOf, Dp.dTupOf, Dp.dSum, Dp.dAny, Dp.dAll, Dp.dSorted, Dp.dDictP, Dp.dDictD, Dp.dSortMet, Dp.dLenSet, Dp.dSortSet, Dp.dmApp, Dp.dmExt, Dp.dmPop, Dp.dmPopAt, Dp.dmRem, Dp.dmIdx, Dp.dSet, Dp.intOf, Dp.keyOf, Dp.dwipe, Dp.patD, Dp.patDs, Dp.ln_lst, Dp.ln_tup, Dp.ln_kls, Dp.ln_dK, Dp.dFor, Dp.dLc, Dp.dDc, Dp.dLc2, Dp.srcOf, Dp.dFrz, lk_Seats_scene, pa_Seats_scene, pt_Seats_scene, lk_Seats_seating, pa_Seats_seating, pt_Seats_seating, lk_Seats_seated, pa_Seats_seated, pt_Seats_seated, lk_Kept_lot, pa_Kept_lot, pt_Kept_lot, lk_Kept_seating, pa_Kept_seating, pt_Kept_seating, lk_Kept_papers, pa_Kept_papers, pt_Kept_papers, lk_Call_worth, pa_Call_worth, pt_Call_worth, lk_Call_heard, pa_Call_heard, pt_Call_heard, lk_Scene_channels, pa_Scene_channels, pt_Scene_channels, lk_Scene_calls, pa_Scene_calls, pt_Scene_calls, f_cI hS'.ma, ki_cK hS'.mp, kS, hMa]
    refine ⟨keyOk_strs hokS, ?_⟩
    rw [srt_strs]
    refine ⟨.inr T.fok_Kept_lot, by decide, ?_⟩
    obtain ⟨M3, hM3⟩ : ∃ M3, M3 = mup M' a (.ins d.C_Kept [("lot", .tup ((ssort (S.map (·.1))).map .str))]) := ⟨_, rfl⟩
    rw [← hM3]
    have hMa3 : M3 a = some (.ins d.C_Kept [("lot", .tup ((ssort (S.map (·.1))).map .str))]) := by rw [hM3, mup_same]
    have hS3 : SeatsAt d M3 s b p q rs S at_ := hS'.le fun x hx m e => by rw [hM3, mup_ne (hown x hx).1]; exact e
    have hMc3 : M3 c = some (.dK (dPps pp)) := by rw [hM3, mup_ne (Ne.symm hac)]; exact hMc
    simp only [Dp.dSeq, Dp.dAsg, Dp.dgN, Dp.dVar, Dp.dC, Dp.dUn, Dp.dOp, Dp.dFld, Dp.dTst, Dp.dAnd, Dp.dOr, Dp.dNot, Dp.dAndV, Dp.dOrV, Dp.dNotV, Dp.dIf, Dp.dIfS, Dp.dRet, Dp.dRetN, Dp.dExpr, Dp.dPar, Dp.dPar3, Dp.dNext, Dp.dNever, Dp.dBrk, Dp.dCont, Dp.dgTup, Dp.dgCons, Dp.dgNil, Dp.dCall, Dp.dCons, Dp.dNil, Dp.dTup, Dp.dLst, Dp.dLstM, Dp.dNewK, Dp.dCallF, Dp.dMethF, Dp.dMake, Dp.dMakeF, Dp.dFldS, Dp.dPut, Dp.dBM, Dp.dGet1, Dp.dGet2, Dp.dPop1, Dp.dPop2, Dp.dStar, Dp.dIx, Dp.dAdd, Dp.dSub, Dp.dMul, Dp.dMod, Dp.dFdiv, Dp.dPow, Dp.dNeg, Dp.dAugN, Dp.dAugS, Dp.dAugF, Dp.dAugI, Dp.dLtS, Dp.dLe, Dp.dGt, Dp.dGe, Dp.dOrd, Dp.dBetween, Dp.dIsN, Dp.dEq, Dp.dEqK, Dp.dIn, Dp.dstart, List.map_cons, List.map_nil, List.length_cons, List.length_nil, List.cons_append, List.nil_append, List.replicate, List.getElem?_cons_zero, List.getElem?_cons_succ, List.set_cons_zero, List.set_cons_succ, Nat.reduceAdd, Nat.reduceSub, if_true, if_false, Bool.false_eq_true, Bool.not_true, Bool.not_false, Dp.v_non, Dp.v_bl, Dp.v_int, Dp.v_str, Dp.v_tup, Dp.v_lst, Dp.v_kls, Dp.v_dK, Dp.v_dT, Dp.v_ins, Dp.f_ins, Dp.da_dKs, Dp.da_dKi, Dp.ix_dKs, Dp.ix_dKi, Dp.ix_lst, Dp.ix_tup, Dp.ix_kls, Dp.lo_lst, Dp.lo_kls, Dp.io_lst, Dp.io_tup, Dp.io_kls, Dp.ki_lst, Dp.ki_tup, Dp.ki_dK, Dp.dd_dK, Dp.e_ii, Dp.e_ss, Dp.e_bb, Dp.inB_dK, Dp.inB_tup, Dp.inB_lst, Dp.dLen, Dp.dAbs, Dp.dInt1, Dp.dStr1, Dp.dIsi, Dp.dListOf, Dp.dTupOf, Dp.dSum, Dp.dAny, Dp.dAll, Dp.dSorted, Dp.dDictP, Dp.dDictD, Dp.dSortMet, Dp.dLenSet, Dp.dSortSet, Dp.dmApp, Dp.dmExt, Dp.dmPop, Dp.dmPopAt, Dp.dmRem, Dp.dmIdx, Dp.dSet, Dp.intOf, Dp.keyOf, Dp.dwipe, Dp.patD, Dp.patDs, Dp.ln_lst, Dp.ln_tup, Dp.ln_kls, Dp.ln_dK, Dp.dFor, Dp.dLc, Dp.dDc, Dp.dLc2, Dp.srcOf, Dp.dFrz, lk_Seats_scene, pa_Seats_scene, pt_Seats_scene, lk_Seats_seating, pa_Seats_seating, pt_Seats_seating, lk_Seats_seated, pa_Seats_seated, pt_Seats_seated, lk_Kept_lot, pa_Kept_lot, pt_Kept_lot, lk_Kept_seating, pa_Kept_seating, pt_Kept_seating, lk_Kept_papers, pa_Kept_papers, pt_Kept_papers, lk_Call_worth, pa_Call_worth, pt_Call_worth, lk_Call_heard, pa_Call_heard, pt_Call_heard, lk_Scene_channels, pa_Scene_channels, pt_Scene_channels, lk_Scene_calls, pa_Scene_calls, pt_Scene_calls, f_cI hMa3]
    refine dc_pure (ssort (S.map (·.1))) D.str (fun _ => true) Sum.inr (fun x => ((S.lookup x).map D.str).getD .non) (fun _ _ => trivial) ?_ fun e he => ?_
    · intro x hx M4 le
      have hS4 : SeatsAt d M4 s b p q rs S at_ := hS3.le fun y _ m e => le y m e
      refine ⟨_, rfl, fun K' hK' => hK' fun _ => ⟨fun K2 h2 => ?_, fun K2 h2 => ?_⟩⟩
      · simp only [Dp.dSeq, Dp.dAsg, Dp.dgN, Dp.dVar, Dp.dC, Dp.dUn, Dp.dOp, Dp.dFld, Dp.dTst, Dp.dAnd, Dp.dOr, Dp.dNot, Dp.dAndV, Dp.dOrV, Dp.dNotV, Dp.dIf, Dp.dIfS, Dp.dRet, Dp.dRetN, Dp.dExpr, Dp.dPar, Dp.dPar3, Dp.dNext, Dp.dNever, Dp.dBrk, Dp.dCont, Dp.dgTup, Dp.dgCons, Dp.dgNil, Dp.dCall, Dp.dCons, Dp.dNil, Dp.dTup, Dp.dLst, Dp.dLstM, Dp.dNewK, Dp.dCallF, Dp.dMethF, Dp.dMake, Dp.dMakeF, Dp.dFldS, Dp.dPut, Dp.dBM, Dp.dGet1, Dp.dGet2, Dp.dPop1, Dp.dPop2, Dp.dStar, Dp.dIx, Dp.dAdd, Dp.dSub, Dp.dMul, Dp.dMod, Dp.dFdiv, Dp.dPow, Dp.dNeg, Dp.dAugN, Dp.dAugS, Dp.dAugF, Dp.dAugI, Dp.dLtS, Dp.dLe, Dp.dGt, Dp.dGe, Dp.dOrd, Dp.dBetween, Dp.dIsN, Dp.dEq, Dp.dEqK, Dp.dIn, Dp.dstart, List.map_cons, List.map_nil, List.length_cons, List.length_nil, List.cons_append, List.nil_append, List.replicate, List.getElem?_cons_zero, List.getElem?_cons_succ, List.set_cons_zero, List.set_cons_succ, Nat.reduceAdd, Nat.reduceSub, if_true, if_false, Bool.false_eq_true, Bool.not_true, Bool.not_false, Dp.v_non, Dp.v_bl, Dp.v_int, Dp.v_str, Dp.v_tup, Dp.v_lst, Dp.v_kls, Dp.v_dK, Dp.v_dT, Dp.v_ins, Dp.f_ins, Dp.da_dKs, Dp.da_dKi, Dp.ix_dKs, Dp.ix_dKi, Dp.ix_lst, Dp.ix_tup, Dp.ix_kls, Dp.lo_lst, Dp.lo_kls, Dp.io_lst, Dp.io_tup, Dp.io_kls, Dp.ki_lst, Dp.ki_tup, Dp.ki_dK, Dp.dd_dK, Dp.e_ii, Dp.e_ss, Dp.e_bb, Dp.inB_dK, Dp.inB_tup, Dp.inB_lst, Dp.dLen, Dp.dAbs, Dp.dInt1, Dp.dStr1, Dp.dIsi, Dp.dListOf, Dp.dTupOf, Dp.dSum, Dp.dAny, Dp.dAll, Dp.dSorted, Dp.dDictP, Dp.dDictD, Dp.dSortMet, Dp.dLenSet, Dp.dSortSet, Dp.dmApp, Dp.dmExt, Dp.dmPop, Dp.dmPopAt, Dp.dmRem, Dp.dmIdx, Dp.dSet, Dp.intOf, Dp.keyOf, Dp.dwipe, Dp.patD, Dp.patDs, Dp.ln_lst, Dp.ln_tup, Dp.ln_kls, Dp.ln_dK, Dp.dFor, Dp.dLc, Dp.dDc, Dp.dLc2, Dp.srcOf, Dp.dFrz, lk_Seats_scene, pa_Seats_scene, pt_Seats_scene, lk_Seats_seating, pa_Seats_seating, pt_Seats_seating, lk_Seats_seated, pa_Seats_seated, pt_Seats_seated, lk_Kept_lot, pa_Kept_lot, pt_Kept_lot, lk_Kept_seating, pa_Kept_seating, pt_Kept_seating, lk_Kept_papers, pa_Kept_papers, pt_Kept_papers, lk_Call_worth, pa_Call_worth, pt_Call_worth, lk_Call_heard, pa_Call_heard, pt_Call_heard, lk_Scene_channels, pa_Scene_channels, pt_Scene_channels, lk_Scene_calls, pa_Scene_calls, pt_Scene_calls]; exact h2
      · obtain ⟨v, hv⟩ := lookup_of ((ssort_perm _).mem_iff.mp hx)
        simp only [Dp.dSeq, Dp.dAsg, Dp.dgN, Dp.dVar, Dp.dC, Dp.dUn, Dp.dOp, Dp.dFld, Dp.dTst, Dp.dAnd, Dp.dOr, Dp.dNot, Dp.dAndV, Dp.dOrV, Dp.dNotV, Dp.dIf, Dp.dIfS, Dp.dRet, Dp.dRetN, Dp.dExpr, Dp.dPar, Dp.dPar3, Dp.dNext, Dp.dNever, Dp.dBrk, Dp.dCont, Dp.dgTup, Dp.dgCons, Dp.dgNil, Dp.dCall, Dp.dCons, Dp.dNil, Dp.dTup, Dp.dLst, Dp.dLstM, Dp.dNewK, Dp.dCallF, Dp.dMethF, Dp.dMake, Dp.dMakeF, Dp.dFldS, Dp.dPut, Dp.dBM, Dp.dGet1, Dp.dGet2, Dp.dPop1, Dp.dPop2, Dp.dStar, Dp.dIx, Dp.dAdd, Dp.dSub, Dp.dMul, Dp.dMod, Dp.dFdiv, Dp.dPow, Dp.dNeg, Dp.dAugN, Dp.dAugS, Dp.dAugF, Dp.dAugI, Dp.dLtS, Dp.dLe, Dp.dGt, Dp.dGe, Dp.dOrd, Dp.dBetween, Dp.dIsN, Dp.dEq, Dp.dEqK, Dp.dIn, Dp.dstart, List.map_cons, List.map_nil, List.length_cons, List.length_nil, List.cons_append, List.nil_append, List.replicate, List.getElem?_cons_zero, List.getElem?_cons_succ, List.set_cons_zero, List.set_cons_succ, Nat.reduceAdd, Nat.reduceSub, if_true, if_false, Bool.false_eq_true, Bool.not_true, Bool.not_false, Dp.v_non, Dp.v_bl, Dp.v_int, Dp.v_str, Dp.v_tup, Dp.v_lst, Dp.v_kls, Dp.v_dK, Dp.v_dT, Dp.v_ins, Dp.f_ins, Dp.da_dKs, Dp.da_dKi, Dp.ix_dKs, Dp.ix_dKi, Dp.ix_lst, Dp.ix_tup, Dp.ix_kls, Dp.lo_lst, Dp.lo_kls, Dp.io_lst, Dp.io_tup, Dp.io_kls, Dp.ki_lst, Dp.ki_tup, Dp.ki_dK, Dp.dd_dK, Dp.e_ii, Dp.e_ss, Dp.e_bb, Dp.inB_dK, Dp.inB_tup, Dp.inB_lst, Dp.dLen, Dp.dAbs, Dp.dInt1, Dp.dStr1, Dp.dIsi, Dp.dListOf, Dp.dTupOf, Dp.dSum, Dp.dAny, Dp.dAll, Dp.dSorted, Dp.dDictP, Dp.dDictD, Dp.dSortMet, Dp.dLenSet, Dp.dSortSet, Dp.dmApp, Dp.dmExt, Dp.dmPop, Dp.dmPopAt, Dp.dmRem, Dp.dmIdx, Dp.dSet, Dp.intOf, Dp.keyOf, Dp.dwipe, Dp.patD, Dp.patDs, Dp.ln_lst, Dp.ln_tup, Dp.ln_kls, Dp.ln_dK, Dp.dFor, Dp.dLc, Dp.dDc, Dp.dLc2, Dp.srcOf, Dp.dFrz, lk_Seats_scene, pa_Seats_scene, pt_Seats_scene, lk_Seats_seating, pa_Seats_seating, pt_Seats_seating, lk_Seats_seated, pa_Seats_seated, pt_Seats_seated, lk_Kept_lot, pa_Kept_lot, pt_Kept_lot, lk_Kept_seating, pa_Kept_seating, pt_Kept_seating, lk_Kept_papers, pa_Kept_papers, pt_Kept_papers, lk_Call_worth, pa_Call_worth, pt_Call_worth, lk_Call_heard, pa_Call_heard, pt_Call_heard, lk_Scene_channels, pa_Scene_channels, pt_Scene_channels, lk_Scene_calls, pa_Scene_calls, pt_Scene_calls, f_cI hS4.ma, ix_cKs hS4.mp, look_sta, hv, Option.map_some, v_cK hS4.mp]
        rw [hv] at h2
        exact ⟨trivial, h2⟩
    rw [filter_true, merge_rsrt S D.str hst'.sk, mdel_mup he]
    have r1 : (rsrt S).map (fun p => ((Sum.inr p.1 : Sum Int Str), D.str p.2)) = dSta (rsrt S) := rfl
    rw [r1]
    simp only [Dp.dSeq, Dp.dAsg, Dp.dgN, Dp.dVar, Dp.dC, Dp.dUn, Dp.dOp, Dp.dFld, Dp.dTst, Dp.dAnd, Dp.dOr, Dp.dNot, Dp.dAndV, Dp.dOrV, Dp.dNotV, Dp.dIf, Dp.dIfS, Dp.dRet, Dp.dRetN, Dp.dExpr, Dp.dPar, Dp.dPar3, Dp.dNext, Dp.dNever, Dp.dBrk, Dp.dCont, Dp.dgTup, Dp.dgCons, Dp.dgNil, Dp.dCall, Dp.dCons, Dp.dNil, Dp.dTup, Dp.dLst, Dp.dLstM, Dp.dNewK, Dp.dCallF, Dp.dMethF, Dp.dMake, Dp.dMakeF, Dp.dFldS, Dp.dPut, Dp.dBM, Dp.dGet1, Dp.dGet2, Dp.dPop1, Dp.dPop2, Dp.dStar, Dp.dIx, Dp.dAdd, Dp.dSub, Dp.dMul, Dp.dMod, Dp.dFdiv, Dp.dPow, Dp.dNeg, Dp.dAugN, Dp.dAugS, Dp.dAugF, Dp.dAugI, Dp.dLtS, Dp.dLe, Dp.dGt, Dp.dGe, Dp.dOrd, Dp.dBetween, Dp.dIsN, Dp.dEq, Dp.dEqK, Dp.dIn, Dp.dstart, List.map_cons, List.map_nil, List.length_cons, List.length_nil, List.cons_append, List.nil_append, List.replicate, List.getElem?_cons_zero, List.getElem?_cons_succ, List.set_cons_zero, List.set_cons_succ, Nat.reduceAdd, Nat.reduceSub, if_true, if_false, Bool.false_eq_true, Bool.not_true, Bool.not_false, Dp.v_non, Dp.v_bl, Dp.v_int, Dp.v_str, Dp.v_tup, Dp.v_lst, Dp.v_kls, Dp.v_dK, Dp.v_dT, Dp.v_ins, Dp.f_ins, Dp.da_dKs, Dp.da_dKi, Dp.ix_dKs, Dp.ix_dKi, Dp.ix_lst, Dp.ix_tup, Dp.ix_kls, Dp.lo_lst, Dp.lo_kls, Dp.io_lst, Dp.io_tup, Dp.io_kls, Dp.ki_lst, Dp.ki_tup, Dp.ki_dK, Dp.dd_dK, Dp.e_ii, Dp.e_ss, Dp.e_bb, Dp.inB_dK, Dp.inB_tup, Dp.inB_lst, Dp.dLen, Dp.dAbs, Dp.dInt1, Dp.dStr1, Dp.dIsi, Dp.dListOf, Dp.dTupOf, Dp.dSum, Dp.dAny, Dp.dAll, Dp.dSorted, Dp.dDictP, Dp.dDictD, Dp.dSortMet, Dp.dLenSet, Dp.dSortSet, Dp.dmApp, Dp.dmExt, Dp.dmPop, Dp.dmPopAt, Dp.dmRem, Dp.dmIdx, Dp.dSet, Dp.intOf, Dp.keyOf, Dp.dwipe, Dp.patD, Dp.patDs, Dp.ln_lst, Dp.ln_tup, Dp.ln_kls, Dp.ln_dK, Dp.dFor, Dp.dLc, Dp.dDc, Dp.dLc2, Dp.srcOf, Dp.dFrz, lk_Seats_scene, pa_Seats_scene, pt_Seats_scene, lk_Seats_seating, pa_Seats_seating, pt_Seats_seating, lk_Seats_seated, pa_Seats_seated, pt_Seats_seated, lk_Kept_lot, pa_Kept_lot, pt_Kept_lot, lk_Kept_seating, pa_Kept_seating, pt_Kept_seating, lk_Kept_papers, pa_Kept_papers, pt_Kept_papers, lk_Call_worth, pa_Call_worth, pt_Call_worth, lk_Call_heard, pa_Call_heard, pt_Call_heard, lk_Scene_channels, pa_Scene_channels, pt_Scene_channels, lk_Scene_calls, pa_Scene_calls, pt_Scene_calls, hMa3]
    refine ⟨.inr T.fok_Kept_seating, by decide, ?_⟩
    obtain ⟨M4, hM4⟩ : ∃ M4, M4 = mup M3 a (.ins d.C_Kept [("lot", .tup ((ssort (S.map (·.1))).map .str)), ("seating", .dK (dSta (rsrt S)))]) := ⟨_, rfl⟩
    rw [← hM4]
    have hMa4 : M4 a = some (.ins d.C_Kept [("lot", .tup ((ssort (S.map (·.1))).map .str)), ("seating", .dK (dSta (rsrt S)))]) := by rw [hM4, mup_same]
    have hMc4 : M4 c = some (.dK (dPps pp)) := by rw [hM4, mup_ne (Ne.symm hac)]; exact hMc3
    simp only [Dp.dSeq, Dp.dAsg, Dp.dgN, Dp.dVar, Dp.dC, Dp.dUn, Dp.dOp, Dp.dFld, Dp.dTst, Dp.dAnd, Dp.dOr, Dp.dNot, Dp.dAndV, Dp.dOrV, Dp.dNotV, Dp.dIf, Dp.dIfS, Dp.dRet, Dp.dRetN, Dp.dExpr, Dp.dPar, Dp.dPar3, Dp.dNext, Dp.dNever, Dp.dBrk, Dp.dCont, Dp.dgTup, Dp.dgCons, Dp.dgNil, Dp.dCall, Dp.dCons, Dp.dNil, Dp.dTup, Dp.dLst, Dp.dLstM, Dp.dNewK, Dp.dCallF, Dp.dMethF, Dp.dMake, Dp.dMakeF, Dp.dFldS, Dp.dPut, Dp.dBM, Dp.dGet1, Dp.dGet2, Dp.dPop1, Dp.dPop2, Dp.dStar, Dp.dIx, Dp.dAdd, Dp.dSub, Dp.dMul, Dp.dMod, Dp.dFdiv, Dp.dPow, Dp.dNeg, Dp.dAugN, Dp.dAugS, Dp.dAugF, Dp.dAugI, Dp.dLtS, Dp.dLe, Dp.dGt, Dp.dGe, Dp.dOrd, Dp.dBetween, Dp.dIsN, Dp.dEq, Dp.dEqK, Dp.dIn, Dp.dstart, List.map_cons, List.map_nil, List.length_cons, List.length_nil, List.cons_append, List.nil_append, List.replicate, List.getElem?_cons_zero, List.getElem?_cons_succ, List.set_cons_zero, List.set_cons_succ, Nat.reduceAdd, Nat.reduceSub, if_true, if_false, Bool.false_eq_true, Bool.not_true, Bool.not_false, Dp.v_non, Dp.v_bl, Dp.v_int, Dp.v_str, Dp.v_tup, Dp.v_lst, Dp.v_kls, Dp.v_dK, Dp.v_dT, Dp.v_ins, Dp.f_ins, Dp.da_dKs, Dp.da_dKi, Dp.ix_dKs, Dp.ix_dKi, Dp.ix_lst, Dp.ix_tup, Dp.ix_kls, Dp.lo_lst, Dp.lo_kls, Dp.io_lst, Dp.io_tup, Dp.io_kls, Dp.ki_lst, Dp.ki_tup, Dp.ki_dK, Dp.dd_dK, Dp.e_ii, Dp.e_ss, Dp.e_bb, Dp.inB_dK, Dp.inB_tup, Dp.inB_lst, Dp.dLen, Dp.dAbs, Dp.dInt1, Dp.dStr1, Dp.dIsi, Dp.dListOf, Dp.dTupOf, Dp.dSum, Dp.dAny, Dp.dAll, Dp.dSorted, Dp.dDictP, Dp.dDictD, Dp.dSortMet, Dp.dLenSet, Dp.dSortSet, Dp.dmApp, Dp.dmExt, Dp.dmPop, Dp.dmPopAt, Dp.dmRem, Dp.dmIdx, Dp.dSet, Dp.intOf, Dp.keyOf, Dp.dwipe, Dp.patD, Dp.patDs, Dp.ln_lst, Dp.ln_tup, Dp.ln_kls, Dp.ln_dK, Dp.dFor, Dp.dLc, Dp.dDc, Dp.dLc2, Dp.srcOf, Dp.dFrz, lk_Seats_scene, pa_Seats_scene, pt_Seats_scene, lk_Seats_seating, pa_Seats_seating, pt_Seats_seating, lk_Seats_seated, pa_Seats_seated, pt_Seats_seated, lk_Kept_lot, pa_Kept_lot, pt_Kept_lot, lk_Kept_seating, pa_Kept_seating, pt_Kept_seating, lk_Kept_papers, pa_Kept_papers, pt_Kept_papers, lk_Call_worth, pa_Call_worth, pt_Call_worth, lk_Call_heard, pa_Call_heard, pt_Call_heard, lk_Scene_channels, pa_Scene_channels, pt_Scene_channels, lk_Scene_calls, pa_Scene_calls, pt_Scene_calls, ki_cK hMc4, kP]
    refine ⟨keyOk_strs hokP, ?_⟩
    rw [srt_strs]
    refine dc_pure (ssort (pp.map (·.1))) D.str (fun _ => true) Sum.inr (fun x => ((pp.lookup x).map fun l : List Str => D.tup (l.map .str)).getD .non) (fun _ _ => trivial) ?_ fun e' he' => ?_
    · intro x hx M5 le
      refine ⟨_, rfl, fun K' hK' => hK' fun _ => ⟨fun K2 h2 => ?_, fun K2 h2 => ?_⟩⟩
      · simp only [Dp.dSeq, Dp.dAsg, Dp.dgN, Dp.dVar, Dp.dC, Dp.dUn, Dp.dOp, Dp.dFld, Dp.dTst, Dp.dAnd, Dp.dOr, Dp.dNot, Dp.dAndV, Dp.dOrV, Dp.dNotV, Dp.dIf, Dp.dIfS, Dp.dRet, Dp.dRetN, Dp.dExpr, Dp.dPar, Dp.dPar3, Dp.dNext, Dp.dNever, Dp.dBrk, Dp.dCont, Dp.dgTup, Dp.dgCons, Dp.dgNil, Dp.dCall, Dp.dCons, Dp.dNil, Dp.dTup, Dp.dLst, Dp.dLstM, Dp.dNewK, Dp.dCallF, Dp.dMethF, Dp.dMake, Dp.dMakeF, Dp.dFldS, Dp.dPut, Dp.dBM, Dp.dGet1, Dp.dGet2, Dp.dPop1, Dp.dPop2, Dp.dStar, Dp.dIx, Dp.dAdd, Dp.dSub, Dp.dMul, Dp.dMod, Dp.dFdiv, Dp.dPow, Dp.dNeg, Dp.dAugN, Dp.dAugS, Dp.dAugF, Dp.dAugI, Dp.dLtS, Dp.dLe, Dp.dGt, Dp.dGe, Dp.dOrd, Dp.dBetween, Dp.dIsN, Dp.dEq, Dp.dEqK, Dp.dIn, Dp.dstart, List.map_cons, List.map_nil, List.length_cons, List.length_nil, List.cons_append, List.nil_append, List.replicate, List.getElem?_cons_zero, List.getElem?_cons_succ, List.set_cons_zero, List.set_cons_succ, Nat.reduceAdd, Nat.reduceSub, if_true, if_false, Bool.false_eq_true, Bool.not_true, Bool.not_false, Dp.v_non, Dp.v_bl, Dp.v_int, Dp.v_str, Dp.v_tup, Dp.v_lst, Dp.v_kls, Dp.v_dK, Dp.v_dT, Dp.v_ins, Dp.f_ins, Dp.da_dKs, Dp.da_dKi, Dp.ix_dKs, Dp.ix_dKi, Dp.ix_lst, Dp.ix_tup, Dp.ix_kls, Dp.lo_lst, Dp.lo_kls, Dp.io_lst, Dp.io_tup, Dp.io_kls, Dp.ki_lst, Dp.ki_tup, Dp.ki_dK, Dp.dd_dK, Dp.e_ii, Dp.e_ss, Dp.e_bb, Dp.inB_dK, Dp.inB_tup, Dp.inB_lst, Dp.dLen, Dp.dAbs, Dp.dInt1, Dp.dStr1, Dp.dIsi, Dp.dListOf, Dp.dTupOf, Dp.dSum, Dp.dAny, Dp.dAll, Dp.dSorted, Dp.dDictP, Dp.dDictD, Dp.dSortMet, Dp.dLenSet, Dp.dSortSet, Dp.dmApp, Dp.dmExt, Dp.dmPop, Dp.dmPopAt, Dp.dmRem, Dp.dmIdx, Dp.dSet, Dp.intOf, Dp.keyOf, Dp.dwipe, Dp.patD, Dp.patDs, Dp.ln_lst, Dp.ln_tup, Dp.ln_kls, Dp.ln_dK, Dp.dFor, Dp.dLc, Dp.dDc, Dp.dLc2, Dp.srcOf, Dp.dFrz, lk_Seats_scene, pa_Seats_scene, pt_Seats_scene, lk_Seats_seating, pa_Seats_seating, pt_Seats_seating, lk_Seats_seated, pa_Seats_seated, pt_Seats_seated, lk_Kept_lot, pa_Kept_lot, pt_Kept_lot, lk_Kept_seating, pa_Kept_seating, pt_Kept_seating, lk_Kept_papers, pa_Kept_papers, pt_Kept_papers, lk_Call_worth, pa_Call_worth, pt_Call_worth, lk_Call_heard, pa_Call_heard, pt_Call_heard, lk_Scene_channels, pa_Scene_channels, pt_Scene_channels, lk_Scene_calls, pa_Scene_calls, pt_Scene_calls]; exact h2
      · obtain ⟨v, hv⟩ := lookup_of ((ssort_perm _).mem_iff.mp hx)
        have e1 : look (dPps pp) (Sum.inr x) = (pp.lookup x).map fun l : List Str => D.tup (l.map .str) := look_str pp (fun l : List Str => D.tup (l.map .str)) x
        simp only [Dp.dSeq, Dp.dAsg, Dp.dgN, Dp.dVar, Dp.dC, Dp.dUn, Dp.dOp, Dp.dFld, Dp.dTst, Dp.dAnd, Dp.dOr, Dp.dNot, Dp.dAndV, Dp.dOrV, Dp.dNotV, Dp.dIf, Dp.dIfS, Dp.dRet, Dp.dRetN, Dp.dExpr, Dp.dPar, Dp.dPar3, Dp.dNext, Dp.dNever, Dp.dBrk, Dp.dCont, Dp.dgTup, Dp.dgCons, Dp.dgNil, Dp.dCall, Dp.dCons, Dp.dNil, Dp.dTup, Dp.dLst, Dp.dLstM, Dp.dNewK, Dp.dCallF, Dp.dMethF, Dp.dMake, Dp.dMakeF, Dp.dFldS, Dp.dPut, Dp.dBM, Dp.dGet1, Dp.dGet2, Dp.dPop1, Dp.dPop2, Dp.dStar, Dp.dIx, Dp.dAdd, Dp.dSub, Dp.dMul, Dp.dMod, Dp.dFdiv, Dp.dPow, Dp.dNeg, Dp.dAugN, Dp.dAugS, Dp.dAugF, Dp.dAugI, Dp.dLtS, Dp.dLe, Dp.dGt, Dp.dGe, Dp.dOrd, Dp.dBetween, Dp.dIsN, Dp.dEq, Dp.dEqK, Dp.dIn, Dp.dstart, List.map_cons, List.map_nil, List.length_cons, List.length_nil, List.cons_append, List.nil_append, List.replicate, List.getElem?_cons_zero, List.getElem?_cons_succ, List.set_cons_zero, List.set_cons_succ, Nat.reduceAdd, Nat.reduceSub, if_true, if_false, Bool.false_eq_true, Bool.not_true, Bool.not_false, Dp.v_non, Dp.v_bl, Dp.v_int, Dp.v_str, Dp.v_tup, Dp.v_lst, Dp.v_kls, Dp.v_dK, Dp.v_dT, Dp.v_ins, Dp.f_ins, Dp.da_dKs, Dp.da_dKi, Dp.ix_dKs, Dp.ix_dKi, Dp.ix_lst, Dp.ix_tup, Dp.ix_kls, Dp.lo_lst, Dp.lo_kls, Dp.io_lst, Dp.io_tup, Dp.io_kls, Dp.ki_lst, Dp.ki_tup, Dp.ki_dK, Dp.dd_dK, Dp.e_ii, Dp.e_ss, Dp.e_bb, Dp.inB_dK, Dp.inB_tup, Dp.inB_lst, Dp.dLen, Dp.dAbs, Dp.dInt1, Dp.dStr1, Dp.dIsi, Dp.dListOf, Dp.dTupOf, Dp.dSum, Dp.dAny, Dp.dAll, Dp.dSorted, Dp.dDictP, Dp.dDictD, Dp.dSortMet, Dp.dLenSet, Dp.dSortSet, Dp.dmApp, Dp.dmExt, Dp.dmPop, Dp.dmPopAt, Dp.dmRem, Dp.dmIdx, Dp.dSet, Dp.intOf, Dp.keyOf, Dp.dwipe, Dp.patD, Dp.patDs, Dp.ln_lst, Dp.ln_tup, Dp.ln_kls, Dp.ln_dK, Dp.dFor, Dp.dLc, Dp.dDc, Dp.dLc2, Dp.srcOf, Dp.dFrz, lk_Seats_scene, pa_Seats_scene, pt_Seats_scene, lk_Seats_seating, pa_Seats_seating, pt_Seats_seating, lk_Seats_seated, pa_Seats_seated, pt_Seats_seated, lk_Kept_lot, pa_Kept_lot, pt_Kept_lot, lk_Kept_seating, pa_Kept_seating, pt_Kept_seating, lk_Kept_papers, pa_Kept_papers, pt_Kept_papers, lk_Call_worth, pa_Call_worth, pt_Call_worth, lk_Call_heard, pa_Call_heard, pt_Call_heard, lk_Scene_channels, pa_Scene_channels, pt_Scene_channels, lk_Scene_calls, pa_Scene_calls, pt_Scene_calls, ix_cKs (le c _ hMc4), e1, hv, Option.map_some, v_cK (le c _ hMc4)]
        rw [hv] at h2
        exact ⟨trivial, h2⟩
    rw [filter_true, merge_rsrt pp (fun l : List Str => D.tup (l.map .str)) hpnd, mdel_mup he']
    have r2 : (rsrt pp).map (fun p => ((Sum.inr p.1 : Sum Int Str), D.tup (p.2.map .str))) = dPps (rsrt pp) := rfl
    rw [r2]
    simp only [Dp.dSeq, Dp.dAsg, Dp.dgN, Dp.dVar, Dp.dC, Dp.dUn, Dp.dOp, Dp.dFld, Dp.dTst, Dp.dAnd, Dp.dOr, Dp.dNot, Dp.dAndV, Dp.dOrV, Dp.dNotV, Dp.dIf, Dp.dIfS, Dp.dRet, Dp.dRetN, Dp.dExpr, Dp.dPar, Dp.dPar3, Dp.dNext, Dp.dNever, Dp.dBrk, Dp.dCont, Dp.dgTup, Dp.dgCons, Dp.dgNil, Dp.dCall, Dp.dCons, Dp.dNil, Dp.dTup, Dp.dLst, Dp.dLstM, Dp.dNewK, Dp.dCallF, Dp.dMethF, Dp.dMake, Dp.dMakeF, Dp.dFldS, Dp.dPut, Dp.dBM, Dp.dGet1, Dp.dGet2, Dp.dPop1, Dp.dPop2, Dp.dStar, Dp.dIx, Dp.dAdd, Dp.dSub, Dp.dMul, Dp.dMod, Dp.dFdiv, Dp.dPow, Dp.dNeg, Dp.dAugN, Dp.dAugS, Dp.dAugF, Dp.dAugI, Dp.dLtS, Dp.dLe, Dp.dGt, Dp.dGe, Dp.dOrd, Dp.dBetween, Dp.dIsN, Dp.dEq, Dp.dEqK, Dp.dIn, Dp.dstart, List.map_cons, List.map_nil, List.length_cons, List.length_nil, List.cons_append, List.nil_append, List.replicate, List.getElem?_cons_zero, List.getElem?_cons_succ, List.set_cons_zero, List.set_cons_succ, Nat.reduceAdd, Nat.reduceSub, if_true, if_false, Bool.false_eq_true, Bool.not_true, Bool.not_false, Dp.v_non, Dp.v_bl, Dp.v_int, Dp.v_str, Dp.v_tup, Dp.v_lst, Dp.v_kls, Dp.v_dK, Dp.v_dT, Dp.v_ins, Dp.f_ins, Dp.da_dKs, Dp.da_dKi, Dp.ix_dKs, Dp.ix_dKi, Dp.ix_lst, Dp.ix_tup, Dp.ix_kls, Dp.lo_lst, Dp.lo_kls, Dp.io_lst, Dp.io_tup, Dp.io_kls, Dp.ki_lst, Dp.ki_tup, Dp.ki_dK, Dp.dd_dK, Dp.e_ii, Dp.e_ss, Dp.e_bb, Dp.inB_dK, Dp.inB_tup, Dp.inB_lst, Dp.dLen, Dp.dAbs, Dp.dInt1, Dp.dStr1, Dp.dIsi, Dp.dListOf, Dp.dTupOf, Dp.dSum, Dp.dAny, Dp.dAll, Dp.dSorted, Dp.dDictP, Dp.dDictD, Dp.dSortMet, Dp.dLenSet, Dp.dSortSet, Dp.dmApp, Dp.dmExt, Dp.dmPop, Dp.dmPopAt, Dp.dmRem, Dp.dmIdx, Dp.dSet, Dp.intOf, Dp.keyOf, Dp.dwipe, Dp.patD, Dp.patDs, Dp.ln_lst, Dp.ln_tup, Dp.ln_kls, Dp.ln_dK, Dp.dFor, Dp.dLc, Dp.dDc, Dp.dLc2, Dp.srcOf, Dp.dFrz, lk_Seats_scene, pa_Seats_scene, pt_Seats_scene, lk_Seats_seating, pa_Seats_seating, pt_Seats_seating, lk_Seats_seated, pa_Seats_seated, pt_Seats_seated, lk_Kept_lot, pa_Kept_lot, pt_Kept_lot, lk_Kept_seating, pa_Kept_seating, pt_Kept_seating, lk_Kept_papers, pa_Kept_papers, pt_Kept_papers, lk_Call_worth, pa_Call_worth, pt_Call_worth, lk_Call_heard, pa_Call_heard, pt_Call_heard, lk_Scene_channels, pa_Scene_channels, pt_Scene_channels, lk_Scene_calls, pa_Scene_calls, pt_Scene_calls, hMa4]
    refine ⟨.inr T.fok_Kept_papers, by decide, _, MLe.refl _, hR _ S pp ⟨at_, hg, hst'⟩ mup_same fun x m hx e => ?_⟩
    rw [mup_ne hx, hM4, mup_ne hx, hM3, mup_ne hx]
    exact hk x m hx e
def sp_kept (d : Dat) : DSp := fun ds M R _ => ∃ s, ds = [dScn d s] ∧ ScOk s ∧ ∀ M' S pp, KeptOk s S pp → MLe M M' → R (.tup ((ssort (S.map (·.1))).map .str)) M'
theorem ok_kept (T : Tx K mg d) : FnOk P w K mg base (L2.CX P w) 7 d.f_kept d.d_kept ["scene"] (LSp K (sp_kept d)) := by
  have G_Kept_init := ok_Kept_init (P := P) (w := w) (base := base) T
  refine dfn_ok (k := 6) T.F_kept sc_kept (fun ds M R RX h => ?_) (by decide) fun cdv A outer s0 H0 E0 B ds M R RX hr fx h => ?_
  · obtain ⟨s, rfl, hs, hR⟩ := h; rfl
  obtain ⟨s, rfl, hs, hR⟩ := h
  have nd := sc_kept.nd
  refine ⟨_, (dss_one (ds_ret (de_fld (de_makeF T.k_Kept G_Kept_init (hr.mono (by decide)) (by rfl) T.m_Kept T.B_Kept_init (da_cons (nv 0) da_nil))))), ?_⟩
  simp only [Dp.dSeq, Dp.dAsg, Dp.dgN, Dp.dVar, Dp.dC, Dp.dUn, Dp.dOp, Dp.dFld, Dp.dTst, Dp.dAnd, Dp.dOr, Dp.dNot, Dp.dAndV, Dp.dOrV, Dp.dNotV, Dp.dIf, Dp.dIfS, Dp.dRet, Dp.dRetN, Dp.dExpr, Dp.dPar, Dp.dPar3, Dp.dNext, Dp.dNever, Dp.dBrk, Dp.dCont, Dp.dgTup, Dp.dgCons, Dp.dgNil, Dp.dCall, Dp.dCons, Dp.dNil, Dp.dTup, Dp.dLst, Dp.dLstM, Dp.dNewK, Dp.dCallF, Dp.dMethF, Dp.dMake, Dp.dMakeF, Dp.dFldS, Dp.dPut, Dp.dBM, Dp.dGet1, Dp.dGet2, Dp.dPop1, Dp.dPop2, Dp.dStar, Dp.dIx, Dp.dAdd, Dp.dSub, Dp.dMul, Dp.dMod, Dp.dFdiv, Dp.dPow, Dp.dNeg, Dp.dAugN, Dp.dAugS, Dp.dAugF, Dp.dAugI, Dp.dLtS, Dp.dLe, Dp.dGt, Dp.dGe, Dp.dOrd, Dp.dBetween, Dp.dIsN, Dp.dEq, Dp.dEqK, Dp.dIn, Dp.dstart, List.map_cons, List.map_nil, List.length_cons, List.length_nil, List.cons_append, List.nil_append, List.replicate, List.getElem?_cons_zero, List.getElem?_cons_succ, List.set_cons_zero, List.set_cons_succ, Nat.reduceAdd, Nat.reduceSub, if_true, if_false, Bool.false_eq_true, Bool.not_true, Bool.not_false, Dp.v_non, Dp.v_bl, Dp.v_int, Dp.v_str, Dp.v_tup, Dp.v_lst, Dp.v_kls, Dp.v_dK, Dp.v_dT, Dp.v_ins, Dp.f_ins, Dp.da_dKs, Dp.da_dKi, Dp.ix_dKs, Dp.ix_dKi, Dp.ix_lst, Dp.ix_tup, Dp.ix_kls, Dp.lo_lst, Dp.lo_kls, Dp.io_lst, Dp.io_tup, Dp.io_kls, Dp.ki_lst, Dp.ki_tup, Dp.ki_dK, Dp.dd_dK, Dp.e_ii, Dp.e_ss, Dp.e_bb, Dp.inB_dK, Dp.inB_tup, Dp.inB_lst, Dp.dLen, Dp.dAbs, Dp.dInt1, Dp.dStr1, Dp.dIsi, Dp.dListOf, Dp.dTupOf, Dp.dSum, Dp.dAny, Dp.dAll, Dp.dSorted, Dp.dDictP, Dp.dDictD, Dp.dSortMet, Dp.dLenSet, Dp.dSortSet, Dp.dmApp, Dp.dmExt, Dp.dmPop, Dp.dmPopAt, Dp.dmRem, Dp.dmIdx, Dp.dSet, Dp.intOf, Dp.keyOf, Dp.dwipe, Dp.patD, Dp.patDs, Dp.ln_lst, Dp.ln_tup, Dp.ln_kls, Dp.ln_dK, Dp.dFor, Dp.dLc, Dp.dDc, Dp.dLc2, Dp.srcOf, Dp.dFrz, lk_Seats_scene, pa_Seats_scene, pt_Seats_scene, lk_Seats_seating, pa_Seats_seating, pt_Seats_seating, lk_Seats_seated, pa_Seats_seated, pt_Seats_seated, lk_Kept_lot, pa_Kept_lot, pt_Kept_lot, lk_Kept_seating, pa_Kept_seating, pt_Kept_seating, lk_Kept_papers, pa_Kept_papers, pt_Kept_papers, lk_Call_worth, pa_Call_worth, pt_Call_worth, lk_Call_heard, pa_Call_heard, pt_Call_heard, lk_Scene_channels, pa_Scene_channels, pt_Scene_channels, lk_Scene_calls, pa_Scene_calls, pt_Scene_calls]
  refine fun a ha => ⟨a, s, rfl, mup_same, hs, fun M' S pp hk hMa hkp => ⟨rfl, _, hMa, ?_⟩⟩
  simp only [Dp.dSeq, Dp.dAsg, Dp.dgN, Dp.dVar, Dp.dC, Dp.dUn, Dp.dOp, Dp.dFld, Dp.dTst, Dp.dAnd, Dp.dOr, Dp.dNot, Dp.dAndV, Dp.dOrV, Dp.dNotV, Dp.dIf, Dp.dIfS, Dp.dRet, Dp.dRetN, Dp.dExpr, Dp.dPar, Dp.dPar3, Dp.dNext, Dp.dNever, Dp.dBrk, Dp.dCont, Dp.dgTup, Dp.dgCons, Dp.dgNil, Dp.dCall, Dp.dCons, Dp.dNil, Dp.dTup, Dp.dLst, Dp.dLstM, Dp.dNewK, Dp.dCallF, Dp.dMethF, Dp.dMake, Dp.dMakeF, Dp.dFldS, Dp.dPut, Dp.dBM, Dp.dGet1, Dp.dGet2, Dp.dPop1, Dp.dPop2, Dp.dStar, Dp.dIx, Dp.dAdd, Dp.dSub, Dp.dMul, Dp.dMod, Dp.dFdiv, Dp.dPow, Dp.dNeg, Dp.dAugN, Dp.dAugS, Dp.dAugF, Dp.dAugI, Dp.dLtS, Dp.dLe, Dp.dGt, Dp.dGe, Dp.dOrd, Dp.dBetween, Dp.dIsN, Dp.dEq, Dp.dEqK, Dp.dIn, Dp.dstart, List.map_cons, List.map_nil, List.length_cons, List.length_nil, List.cons_append, List.nil_append, List.replicate, List.getElem?_cons_zero, List.getElem?_cons_succ, List.set_cons_zero, List.set_cons_succ, Nat.reduceAdd, Nat.reduceSub, if_true, if_false, Bool.false_eq_true, Bool.not_true, Bool.not_false, Dp.v_non, Dp.v_bl, Dp.v_int, Dp.v_str, Dp.v_tup, Dp.v_lst, Dp.v_kls, Dp.v_dK, Dp.v_dT, Dp.v_ins, Dp.f_ins, Dp.da_dKs, Dp.da_dKi, Dp.ix_dKs, Dp.ix_dKi, Dp.ix_lst, Dp.ix_tup, Dp.ix_kls, Dp.lo_lst, Dp.lo_kls, Dp.io_lst, Dp.io_tup, Dp.io_kls, Dp.ki_lst, Dp.ki_tup, Dp.ki_dK, Dp.dd_dK, Dp.e_ii, Dp.e_ss, Dp.e_bb, Dp.inB_dK, Dp.inB_tup, Dp.inB_lst, Dp.dLen, Dp.dAbs, Dp.dInt1, Dp.dStr1, Dp.dIsi, Dp.dListOf, Dp.dTupOf, Dp.dSum, Dp.dAny, Dp.dAll, Dp.dSorted, Dp.dDictP, Dp.dDictD, Dp.dSortMet, Dp.dLenSet, Dp.dSortSet, Dp.dmApp, Dp.dmExt, Dp.dmPop, Dp.dmPopAt, Dp.dmRem, Dp.dmIdx, Dp.dSet, Dp.intOf, Dp.keyOf, Dp.dwipe, Dp.patD, Dp.patDs, Dp.ln_lst, Dp.ln_tup, Dp.ln_kls, Dp.ln_dK, Dp.dFor, Dp.dLc, Dp.dDc, Dp.dLc2, Dp.srcOf, Dp.dFrz, lk_Seats_scene, pa_Seats_scene, pt_Seats_scene, lk_Seats_seating, pa_Seats_seating, pt_Seats_seating, lk_Seats_seated, pa_Seats_seated, pt_Seats_seated, lk_Kept_lot, pa_Kept_lot, pt_Kept_lot, lk_Kept_seating, pa_Kept_seating, pt_Kept_seating, lk_Kept_papers, pa_Kept_papers, pt_Kept_papers, lk_Call_worth, pa_Call_worth, pt_Call_worth, lk_Call_heard, pa_Call_heard, pt_Call_heard, lk_Scene_channels, pa_Scene_channels, pt_Scene_channels, lk_Scene_calls, pa_Scene_calls, pt_Scene_calls, dKpt]
  refine ⟨_, _, Fz.refl _ _, hR _ S pp hk fun b m e => ?_⟩
  have hb : b ≠ a := fun q => by rw [q, ha] at e; cases e
  rw [mdel_ne hb]
  exact hkp b m hb (by rw [mup_ne hb]; exact e)
/-- names taken one by one -/
inductive ARun (s : Sc) : List Str → List (Str × Str) → (Str → List Str) → List Bool → Prop
  | nil : ARun s [] [] (fun _ => []) []
  | kept {l S at_ bs n S' at'} (h : ARun s l S at_ bs) (o : StOk s S at_) (o' : StOk s S' at') (k : S'.map (·.1) = S.map (·.1) ++ [n]) : ARun s (l ++ [n]) S' at' (bs ++ [true])
  | gone {l S at_ bs n came} (h : ARun s l S at_ bs) (o : StOk s S at_) (hn : n ∉ S.map (·.1)) (w : WaysOk s at_ n came none) : ARun s (l ++ [n]) S at_ (bs ++ [false])
theorem ARun.keys {s : Sc} {l : List Str} {S : List (Str × Str)} {at_ : Str → List Str} {bs : List Bool} (h : ARun s l S at_ bs) : ∀ x ∈ S.map (·.1), x ∈ l := by
  induction h with
  | nil => simp
  | kept h o o' k ih =>
    intro x hx
    rw [k] at hx
    rcases List.mem_append.mp hx with h | h
    · exact List.mem_append_left _ (ih x h)
    · exact List.mem_append_right _ h
  | gone h o hn w ih => exact fun x hx => List.mem_append_left _ (ih x hx)
def sp_is_seatable (d : Dat) : DSp := fun ds M R _ => ∃ s names, ds = [dScn d s, .lst (names.map .str)] ∧ ScOk s ∧ names.Nodup ∧ (∀ x ∈ names, x ∈ s.ca.map (·.1)) ∧ ∀ M' S at_ bs, ARun s names S at_ bs → MLe M M' → R (.bl (bs.all id)) M'
theorem ok_is_seatable (T : Tx K mg d) : FnOk P w K mg base (L2.CX P w) 4 d.f_is_seatable d.d_is_seatable ["scene", "names"] (LSp K (sp_is_seatable d)) := by
  have G_Seats_init := ok_Seats_init (P := P) (w := w) (base := base) T
  have G_Seats_add := ok_Seats_add (P := P) (w := w) (base := base) T
  refine dfn_ok (k := 3) T.F_is_seatable sc_is_seatable (fun ds M R RX h => ?_) (by decide) fun cdv A outer s0 H0 E0 B ds M R RX hr fx h => ?_
  · obtain ⟨s, names, rfl, hs, hnd, hca, hR⟩ := h; rfl
  obtain ⟨s, names, rfl, hs, hnd, hca, hR⟩ := h
  have nd := sc_is_seatable.nd
  refine ⟨_, (dss_cons (ds_set (i := 2) nd rfl (Or.inr rfl) (de_make T.k_Seats G_Seats_init (hr.mono (by decide)) (by rfl) T.m_Seats T.B_Seats_init (da_cons (nv 0) da_nil))) (dss_one (ds_ret (de_callB (cr_all rfl) l_all (by rfl) T.n_all (by rfl) (da_cons (de_lc (fz := true) (own := [("name", 3)]) rfl nd (di_any (nv 1)) (blkOk_by (N := N_is_seatable) (sc := defScope s_is_seatable) (own := [("name", 3)]) (by decide +kernel)) (by decide) (fun _ _ _ _ _ => (pp_name (i := 3) nd rfl (Or.inl rfl))) (fun _ _ _ _ _ => dts_nil) (fun _ _ _ _ _ => (de_meth (nv 2) T.c_Seats T.M_Seats_add G_Seats_add (hr.mono (by decide)) T.B_Seats_add (da_cons (nv 3) da_nil)))) da_nil))))), ?_⟩
  simp only [Dp.dSeq, Dp.dAsg, Dp.dgN, Dp.dVar, Dp.dC, Dp.dUn, Dp.dOp, Dp.dFld, Dp.dTst, Dp.dAnd, Dp.dOr, Dp.dNot, Dp.dAndV, Dp.dOrV, Dp.dNotV, Dp.dIf, Dp.dIfS, Dp.dRet, Dp.dRetN, Dp.dExpr, Dp.dPar, Dp.dPar3, Dp.dNext, Dp.dNever, Dp.dBrk, Dp.dCont, Dp.dgTup, Dp.dgCons, Dp.dgNil, Dp.dCall, Dp.dCons, Dp.dNil, Dp.dTup, Dp.dLst, Dp.dLstM, Dp.dNewK, Dp.dCallF, Dp.dMethF, Dp.dMake, Dp.dMakeF, Dp.dFldS, Dp.dPut, Dp.dBM, Dp.dGet1, Dp.dGet2, Dp.dPop1, Dp.dPop2, Dp.dStar, Dp.dIx, Dp.dAdd, Dp.dSub, Dp.dMul, Dp.dMod, Dp.dFdiv, Dp.dPow, Dp.dNeg, Dp.dAugN, Dp.dAugS, Dp.dAugF, Dp.dAugI, Dp.dLtS, Dp.dLe, Dp.dGt, Dp.dGe, Dp.dOrd, Dp.dBetween, Dp.dIsN, Dp.dEq, Dp.dEqK, Dp.dIn, Dp.dstart, List.map_cons, List.map_nil, List.length_cons, List.length_nil, List.cons_append, List.nil_append, List.replicate, List.getElem?_cons_zero, List.getElem?_cons_succ, List.set_cons_zero, List.set_cons_succ, Nat.reduceAdd, Nat.reduceSub, if_true, if_false, Bool.false_eq_true, Bool.not_true, Bool.not_false, Dp.v_non, Dp.v_bl, Dp.v_int, Dp.v_str, Dp.v_tup, Dp.v_lst, Dp.v_kls, Dp.v_dK, Dp.v_dT, Dp.v_ins, Dp.f_ins, Dp.da_dKs, Dp.da_dKi, Dp.ix_dKs, Dp.ix_dKi, Dp.ix_lst, Dp.ix_tup, Dp.ix_kls, Dp.lo_lst, Dp.lo_kls, Dp.io_lst, Dp.io_tup, Dp.io_kls, Dp.ki_lst, Dp.ki_tup, Dp.ki_dK, Dp.dd_dK, Dp.e_ii, Dp.e_ss, Dp.e_bb, Dp.inB_dK, Dp.inB_tup, Dp.inB_lst, Dp.dLen, Dp.dAbs, Dp.dInt1, Dp.dStr1, Dp.dIsi, Dp.dListOf, Dp.dTupOf, Dp.dSum, Dp.dAny, Dp.dAll, Dp.dSorted, Dp.dDictP, Dp.dDictD, Dp.dSortMet, Dp.dLenSet, Dp.dSortSet, Dp.dmApp, Dp.dmExt, Dp.dmPop, Dp.dmPopAt, Dp.dmRem, Dp.dmIdx, Dp.dSet, Dp.intOf, Dp.keyOf, Dp.dwipe, Dp.patD, Dp.patDs, Dp.ln_lst, Dp.ln_tup, Dp.ln_kls, Dp.ln_dK, Dp.dFor, Dp.dLc, Dp.dDc, Dp.dLc2, Dp.srcOf, Dp.dFrz, lk_Seats_scene, pa_Seats_scene, pt_Seats_scene, lk_Seats_seating, pa_Seats_seating, pt_Seats_seating, lk_Seats_seated, pa_Seats_seated, pt_Seats_seated, lk_Kept_lot, pa_Kept_lot, pt_Kept_lot, lk_Kept_seating, pa_Kept_seating, pt_Kept_seating, lk_Kept_papers, pa_Kept_papers, pt_Kept_papers, lk_Call_worth, pa_Call_worth, pt_Call_worth, lk_Call_heard, pa_Call_heard, pt_Call_heard, lk_Scene_channels, pa_Scene_channels, pt_Scene_channels, lk_Scene_calls, pa_Scene_calls, pt_Scene_calls]
  refine fun b hb => ⟨b, s, rfl, mup_same, hs.dm, fun M1 p q rs hS1 hfr hkp => ⟨rfl, ?_⟩⟩
  have hown : ∀ x ∈ own b p q rs, M x = none := fun x hx => by
    rcases List.mem_cons.mp hx with rfl | hx'
    · exact hb
    · have h1 := hfr x hx'
      have hxb : x ≠ b := fun q => by rw [q, mup_same] at h1; cases h1
      rw [mup_ne hxb] at h1; exact h1
  have hM1 : MLe M M1 := fun x m e => by
    have hxb : x ≠ b := fun q => by rw [q, hb] at e; cases e
    exact hkp x m hxb (by rw [mup_ne hxb]; exact e)
  intro c hc
  have hco : c ∉ own b p q rs := fun h => by
    have : ∃ m, M1 c = some m := by
      rcases List.mem_cons.mp h with rfl | h
      · exact ⟨_, hS1.ma⟩
      rcases List.mem_cons.mp h with rfl | h
      · exact ⟨_, hS1.mp⟩
      rcases List.mem_cons.mp h with rfl | h
      · exact ⟨_, hS1.mq⟩
      obtain ⟨z, hz, rfl⟩ := List.mem_map.mp h
      exact ⟨_, hS1.mr z hz⟩
    obtain ⟨m, e⟩ := this
    rw [hc] at e; cases e
  have hc0 : M c = none := hM1.none hc
  refine ⟨fun i acc M' => ∃ S at_ bs, acc = bs.map D.bl ∧ SeatsAt d M' s b p q rs S at_ ∧ StOk s S at_ ∧ ARun s (names.take i) S at_ bs ∧ M' c = some (.lst acc) ∧ MLe M M', ⟨[], _, [], rfl, ?_, stOk_nil hs, by simpa using ARun.nil, mup_same, mle_mup hM1 hc0⟩, ?_, ?_, ?_⟩
  · exact hS1.le fun x hx m e => by
      have : x ≠ c := fun q => hco (q ▸ hx)
      rw [mup_ne this]; exact e
  · rintro i acc M' hi ⟨S, at_, bs, rfl, _, _, _, hMc, _⟩
    exact ⟨trivial, hMc⟩
  · rintro i x acc M' hx ⟨S, at_, bs, rfl, hS', hst', hg, hMc, hk⟩
    rw [List.getElem?_map] at hx
    obtain ⟨n, hn, rfl⟩ := Option.map_eq_some_iff.mp hx
    have ht : names.take (i + 1) = names.take i ++ [n] := by rw [List.take_succ, hn]; rfl
    have hnl : n ∉ names.take i := by
      have : (names.take (i + 1)).Nodup := hnd.sublist (List.take_sublist _ _)
      rw [ht, List.nodup_append] at this
      exact fun q => this.2.2 n q n (by simp) rfl
    have hnS : n ∉ S.map (·.1) := fun q => hnl (hg.keys n q)
    refine ⟨_, rfl, ?_⟩
    simp only [Dp.dSeq, Dp.dAsg, Dp.dgN, Dp.dVar, Dp.dC, Dp.dUn, Dp.dOp, Dp.dFld, Dp.dTst, Dp.dAnd, Dp.dOr, Dp.dNot, Dp.dAndV, Dp.dOrV, Dp.dNotV, Dp.dIf, Dp.dIfS, Dp.dRet, Dp.dRetN, Dp.dExpr, Dp.dPar, Dp.dPar3, Dp.dNext, Dp.dNever, Dp.dBrk, Dp.dCont, Dp.dgTup, Dp.dgCons, Dp.dgNil, Dp.dCall, Dp.dCons, Dp.dNil, Dp.dTup, Dp.dLst, Dp.dLstM, Dp.dNewK, Dp.dCallF, Dp.dMethF, Dp.dMake, Dp.dMakeF, Dp.dFldS, Dp.dPut, Dp.dBM, Dp.dGet1, Dp.dGet2, Dp.dPop1, Dp.dPop2, Dp.dStar, Dp.dIx, Dp.dAdd, Dp.dSub, Dp.dMul, Dp.dMod, Dp.dFdiv, Dp.dPow, Dp.dNeg, Dp.dAugN, Dp.dAugS, Dp.dAugF, Dp.dAugI, Dp.dLtS, Dp.dLe, Dp.dGt, Dp.dGe, Dp.dOrd, Dp.dBetween, Dp.dIsN, Dp.dEq, Dp.dEqK, Dp.dIn, Dp.dstart, List.map_cons, List.map_nil, List.length_cons, List.length_nil, List.cons_append, List.nil_append, List.replicate, List.getElem?_cons_zero, List.getElem?_cons_succ, List.set_cons_zero, List.set_cons_succ, Nat.reduceAdd, Nat.reduceSub, if_true, if_false, Bool.false_eq_true, Bool.not_true, Bool.not_false, Dp.v_non, Dp.v_bl, Dp.v_int, Dp.v_str, Dp.v_tup, Dp.v_lst, Dp.v_kls, Dp.v_dK, Dp.v_dT, Dp.v_ins, Dp.f_ins, Dp.da_dKs, Dp.da_dKi, Dp.ix_dKs, Dp.ix_dKi, Dp.ix_lst, Dp.ix_tup, Dp.ix_kls, Dp.lo_lst, Dp.lo_kls, Dp.io_lst, Dp.io_tup, Dp.io_kls, Dp.ki_lst, Dp.ki_tup, Dp.ki_dK, Dp.dd_dK, Dp.e_ii, Dp.e_ss, Dp.e_bb, Dp.inB_dK, Dp.inB_tup, Dp.inB_lst, Dp.dLen, Dp.dAbs, Dp.dInt1, Dp.dStr1, Dp.dIsi, Dp.dListOf, Dp.dTupOf, Dp.dSum, Dp.dAny, Dp.dAll, Dp.dSorted, Dp.dDictP, Dp.dDictD, Dp.dSortMet, Dp.dLenSet, Dp.dSortSet, Dp.dmApp, Dp.dmExt, Dp.dmPop, Dp.dmPopAt, Dp.dmRem, Dp.dmIdx, Dp.dSet, Dp.intOf, Dp.keyOf, Dp.dwipe, Dp.patD, Dp.patDs, Dp.ln_lst, Dp.ln_tup, Dp.ln_kls, Dp.ln_dK, Dp.dFor, Dp.dLc, Dp.dDc, Dp.dLc2, Dp.srcOf, Dp.dFrz, lk_Seats_scene, pa_Seats_scene, pt_Seats_scene, lk_Seats_seating, pa_Seats_seating, pt_Seats_seating, lk_Seats_seated, pa_Seats_seated, pt_Seats_seated, lk_Kept_lot, pa_Kept_lot, pt_Kept_lot, lk_Kept_seating, pa_Kept_seating, pt_Kept_seating, lk_Kept_papers, pa_Kept_papers, pt_Kept_papers, lk_Call_worth, pa_Call_worth, pt_Call_worth, lk_Call_heard, pa_Call_heard, pt_Call_heard, lk_Scene_channels, pa_Scene_channels, pt_Scene_channels, lk_Scene_calls, pa_Scene_calls, pt_Scene_calls, dYes, v_cI hS'.ma]
    have fin : ∀ (M3 : Mem) (S' : List (Str × Str)) (at' : Str → List Str) (t : Bool), SeatsAt d M3 s b p q rs S' at' → StOk s S' at' → ARun s (names.take (i + 1)) S' at' (bs ++ [t]) → Keeps (own b p q rs) M' M3 →
        M3 c = some (.lst (bs.map D.bl)) ∧ ∃ S at_ bs', bs.map D.bl ++ [.bl t] = bs'.map D.bl ∧ SeatsAt d (mup M3 c (.lst (bs.map D.bl ++ [.bl t]))) s b p q rs S at_ ∧ StOk s S at_ ∧ ARun s (names.take (i + 1)) S at_ bs' ∧ mup M3 c (.lst (bs.map D.bl ++ [.bl t])) c = some (.lst (bs.map D.bl ++ [.bl t])) ∧ MLe M (mup M3 c (.lst (bs.map D.bl ++ [.bl t]))) := by
      intro M3 S' at' t h1 h2 h3 h4
      refine ⟨h4 c _ hco hMc, S', at', bs ++ [t], by simp, ?_, h2, h3, mup_same, ?_⟩
      · exact h1.le fun x hx m e => by
          have : x ≠ c := fun q => hco (q ▸ hx)
          rw [mup_ne this]; exact e
      · exact mle_mup (fun x m e => h4 x m (fun q => by rw [hown x q] at e; cases e) (hk x m e)) hc0
    refine ⟨trivial, b, p, q, rs, S, at_, s, n, rfl, hS', hs, hst', hca n (List.mem_of_getElem? hn), hnS, fun M3 S' at' hS3 hst3 hk3 kp3 => ?_, fun M3 came hw hS3 kp3 => ?_⟩
    · exact fin M3 S' at' true hS3 hst3 (by rw [ht]; exact .kept hg hst' hst3 hk3) kp3
    · exact fin M3 S at_ false hS3 hst' (by rw [ht]; exact .gone hg hst' hnS hw) kp3
  · rintro acc M' ⟨S, at_, bs, rfl, hS', hst', hg, hMc, hk⟩
    rw [List.length_map, List.take_length] at hg
    simp only [Dp.dSeq, Dp.dAsg, Dp.dgN, Dp.dVar, Dp.dC, Dp.dUn, Dp.dOp, Dp.dFld, Dp.dTst, Dp.dAnd, Dp.dOr, Dp.dNot, Dp.dAndV, Dp.dOrV, Dp.dNotV, Dp.dIf, Dp.dIfS, Dp.dRet, Dp.dRetN, Dp.dExpr, Dp.dPar, Dp.dPar3, Dp.dNext, Dp.dNever, Dp.dBrk, Dp.dCont, Dp.dgTup, Dp.dgCons, Dp.dgNil, Dp.dCall, Dp.dCons, Dp.dNil, Dp.dTup, Dp.dLst, Dp.dLstM, Dp.dNewK, Dp.dCallF, Dp.dMethF, Dp.dMake, Dp.dMakeF, Dp.dFldS, Dp.dPut, Dp.dBM, Dp.dGet1, Dp.dGet2, Dp.dPop1, Dp.dPop2, Dp.dStar, Dp.dIx, Dp.dAdd, Dp.dSub, Dp.dMul, Dp.dMod, Dp.dFdiv, Dp.dPow, Dp.dNeg, Dp.dAugN, Dp.dAugS, Dp.dAugF, Dp.dAugI, Dp.dLtS, Dp.dLe, Dp.dGt, Dp.dGe, Dp.dOrd, Dp.dBetween, Dp.dIsN, Dp.dEq, Dp.dEqK, Dp.dIn, Dp.dstart, List.map_cons, List.map_nil, List.length_cons, List.length_nil, List.cons_append, List.nil_append, List.replicate, List.getElem?_cons_zero, List.getElem?_cons_succ, List.set_cons_zero, List.set_cons_succ, Nat.reduceAdd, Nat.reduceSub, if_true, if_false, Bool.false_eq_true, Bool.not_true, Bool.not_false, Dp.v_non, Dp.v_bl, Dp.v_int, Dp.v_str, Dp.v_tup, Dp.v_lst, Dp.v_kls, Dp.v_dK, Dp.v_dT, Dp.v_ins, Dp.f_ins, Dp.da_dKs, Dp.da_dKi, Dp.ix_dKs, Dp.ix_dKi, Dp.ix_lst, Dp.ix_tup, Dp.ix_kls, Dp.lo_lst, Dp.lo_kls, Dp.io_lst, Dp.io_tup, Dp.io_kls, Dp.ki_lst, Dp.ki_tup, Dp.ki_dK, Dp.dd_dK, Dp.e_ii, Dp.e_ss, Dp.e_bb, Dp.inB_dK, Dp.inB_tup, Dp.inB_lst, Dp.dLen, Dp.dAbs, Dp.dInt1, Dp.dStr1, Dp.dIsi, Dp.dListOf, Dp.dTupOf, Dp.dSum, Dp.dAny, Dp.dAll, Dp.dSorted, Dp.dDictP, Dp.dDictD, Dp.dSortMet, Dp.dLenSet, Dp.dSortSet, Dp.dmApp, Dp.dmExt, Dp.dmPop, Dp.dmPopAt, Dp.dmRem, Dp.dmIdx, Dp.dSet, Dp.intOf, Dp.keyOf, Dp.dwipe, Dp.patD, Dp.patDs, Dp.ln_lst, Dp.ln_tup, Dp.ln_kls, Dp.ln_dK, Dp.dFor, Dp.dLc, Dp.dDc, Dp.dLc2, Dp.srcOf, Dp.dFrz, lk_Seats_scene, pa_Seats_scene, pt_Seats_scene, lk_Seats_seating, pa_Seats_seating, pt_Seats_seating, lk_Seats_seated, pa_Seats_seated, pt_Seats_seated, lk_Kept_lot, pa_Kept_lot, pt_Kept_lot, lk_Kept_seating, pa_Kept_seating, pt_Kept_seating, lk_Kept_papers, pa_Kept_papers, pt_Kept_papers, lk_Call_worth, pa_Call_worth, pt_Call_worth, lk_Call_heard, pa_Call_heard, pt_Call_heard, lk_Scene_channels, pa_Scene_channels, pt_Scene_channels, lk_Scene_calls, pa_Scene_calls, pt_Scene_calls, Option.bind_some, blsOf_map]
    exact ⟨_, _, Fz.refl _ _, hR _ S at_ bs hg (mle_mdel hk hc0)⟩

end
end K20
namespace K20
open PySem PySem.Spec L2 Dp
section
variable {P : Program} {w : World} {K : PySem.W.Frag} {mg : Str → Option Value} {base : Heap} {d : Dat}
/-! drawn scenes -/
theorem ScOk.srt {s : Sc} (h : ScOk s) : ScOk s.srt where
  nm := fun p hp => h.nm p ((rsrt_mem h.dm).mp hp)
  nc := fun p hp => h.nc p ((rsrt_mem h.dm).mp hp)
  dm := rsrt_nodup h.dm
  na := fun p hp => h.na p ((rsrt_mem h.da).mp hp)
  wo := fun p hp => h.wo p ((rsrt_mem h.da).mp hp)
  he := fun p hp x hx => by
    have := h.he p ((rsrt_mem h.da).mp hp) x hx
    show x ∈ (rsrt s.ch).map (·.1)
    rw [rsrt_keys]
    exact (ssort_perm _).mem_iff.mpr this
  hn := fun p hp => h.hn p ((rsrt_mem h.da).mp hp)
  da := rsrt_nodup h.da
  lc := by show (rsrt s.ch).length ≤ 500; rw [(rsrt_perm h.dm).length_eq]; exact h.lc
  la := by show (rsrt s.ca).length ≤ 500; rw [(rsrt_perm h.da).length_eq]; exact h.la
def resto (a : Addr) (M M1 : Mem) : Mem := fun b => if b = a then M1 a else M b
theorem resto_le {a : Addr} {M M1 : Mem} (h : ∀ b m, b ≠ a → M b = some m → M1 b = some m) : MLe (resto a M M1) M1 := fun b m e => by
  unfold resto at e
  by_cases q : b = a
  · rw [if_pos q] at e; rw [q]; exact e
  · rw [if_neg q] at e; exact h b m q e
theorem resto_oth {a : Addr} {M M1 : Mem} : Oth a M (resto a M M1) := fun b hb => if_neg hb
theorem resto_drw {a : Addr} {M M1 : Mem} (h : Drw M1 a) : Drw (resto a M M1) a := h.oth (c := a) (if_pos rfl)
theorem name_m (i : Nat) (h : i < 10) : isName (mN i) = true := by
  have : ∀ i : Fin 10, isName (mN i) = true := by decide +kernel
  exact this ⟨i, h⟩
theorem name_c (i : Nat) (h : i < 10) : isName (cN i) = true := by
  have : ∀ i : Fin 10, isName (cN i) = true := by decide +kernel
  exact this ⟨i, h⟩
theorem cname_len (i : Nat) (h : i < 10) : (Str.ofString "c").length + (Str.ofString (toString (i : Int))).length ≤ 1000000 := by
  have : ∀ i : Fin 10, (Str.ofString "c").length + (Str.ofString (toString ((i : Nat) : Int))).length ≤ 1000000 := by decide +kernel
  exact this ⟨i, h⟩
/-- the calls that were drawn so far -/
structure Cas (ns : List Str) (i : Nat) (ca : List (Str × Int × List Str)) : Prop where
  ks : ca.map (·.1) = (List.range i).map cN
  wo : ∀ p ∈ ca, 0 ≤ p.2.1 ∧ p.2.1 ≤ 2
  he : ∀ p ∈ ca, ∀ x ∈ p.2.2, x ∈ ns
  hn : ∀ p ∈ ca, p.2.2.Nodup
/-- small numbers, as they are drawn -/
structure Drn (s : Sc) (mm cc : Nat) : Prop where
  c3 : ∀ p ∈ s.ch, p.2 ≤ 3
  w2 : ∀ p ∈ s.ca, p.2.1 ≤ 2
  lm : s.ch.length ≤ mm
  lc : s.ca.length ≤ cc
def sp_law_scene (d : Dat) : DSp := fun ds M R _ => ∃ (a : Addr) (mm cc : Nat), ds = [.adr a, .int mm, .int cc] ∧ 0 < mm ∧ mm ≤ 9 ∧ cc ≤ 9 ∧ Drw M a ∧ ∀ (s : Sc) (M' : Mem), ScOk s → 1 ≤ s.ch.length → Drn s mm cc → Drw M' a → Oth a M M' → R (dScn d s) M'
theorem ok_law_scene (T : Tx K mg d) : FnOk P w K mg base (L2.CX P w) 5 d.f_law_scene d.d_law_scene ["_law_draw", "_law_masts_here", "_law_calls"] (LSp K (sp_law_scene d)) := by
  have G_Scene_init := ok_Scene_init (P := P) (w := w) (base := base) T
  have G_law_masts := ok_law_masts (P := P) (w := w) (base := base) T
  have G_law_take := ok_law_take (P := P) (w := w) (base := base) T
  have G_Call_init := ok_Call_init (P := P) (w := w) (base := base) T
  have G_law_heard := ok_law_heard (P := P) (w := w) (base := base) T
  refine dfn_ok (k := 4) T.F_law_scene sc_law_scene (fun ds M R RX h => ?_) (by decide) fun cdv A outer s0 H0 E0 B ds M R RX hr fx h => ?_
  · obtain ⟨a, mm, cc, rfl, h0, h9, hc9, hD, hR⟩ := h; rfl
  obtain ⟨a, mm, cc, rfl, h0, h9, hc9, hD, hR⟩ := h
  have nd := sc_law_scene.nd
  refine ⟨_, (dss_cons (ds_par (i := 3) (j := 4) rfl nd rfl rfl (by decide) rfl rfl (da_cons (de_call G_law_masts (hr.mono (by decide)) (by rfl) T.m_law_masts T.F_law_masts.kp T.B_law_masts (da_cons (nv 0) (da_cons (nv 1) da_nil))) (da_cons (de_newK) da_nil)) rfl) (dss_cons (ds_for (passes_of rfl) rfl (di_range1 (by rfl) T.n_range (da_cons (de_call G_law_take (hr.mono (by decide)) (by rfl) T.m_law_take T.F_law_take.kp T.B_law_take (da_cons (nv 0) (da_cons (de_add (nv 2) de_int) da_nil))) da_nil)) (pp_name (i := 5) nd rfl (Or.inl rfl)) (dss_one (ds_put (hu1 hr) (nv 4) (de_add de_str (de_callTy call_str_int l_str1 (by rfl) T.n_str (by rfl) (da_cons (nv 5) da_nil))) (de_makeF T.k_Call G_Call_init (hr.mono (by decide)) (by rfl) T.m_Call T.B_Call_init (da_cons (de_call G_law_take (hr.mono (by decide)) (by rfl) T.m_law_take T.F_law_take.kp T.B_law_take (da_cons (nv 0) (da_cons de_int da_nil))) (da_cons (de_call G_law_heard (hr.mono (by decide)) (by rfl) T.m_law_heard T.F_law_heard.kp T.B_law_heard (da_cons (nv 0) (da_cons (nv 3) da_nil))) da_nil)))))) (dss_one (ds_ret (de_makeF T.k_Scene G_Scene_init (hr.mono (by decide)) (by rfl) T.m_Scene T.B_Scene_init (da_cons (nv 3) (da_cons (de_frz (nv 4)) da_nil))))))), ?_⟩
  simp only [Dp.dSeq, Dp.dAsg, Dp.dgN, Dp.dVar, Dp.dC, Dp.dUn, Dp.dOp, Dp.dFld, Dp.dTst, Dp.dAnd, Dp.dOr, Dp.dNot, Dp.dAndV, Dp.dOrV, Dp.dNotV, Dp.dIf, Dp.dIfS, Dp.dRet, Dp.dRetN, Dp.dExpr, Dp.dPar, Dp.dPar3, Dp.dNext, Dp.dNever, Dp.dBrk, Dp.dCont, Dp.dgTup, Dp.dgCons, Dp.dgNil, Dp.dCall, Dp.dCons, Dp.dNil, Dp.dTup, Dp.dLst, Dp.dLstM, Dp.dNewK, Dp.dCallF, Dp.dMethF, Dp.dMake, Dp.dMakeF, Dp.dFldS, Dp.dPut, Dp.dBM, Dp.dGet1, Dp.dGet2, Dp.dPop1, Dp.dPop2, Dp.dStar, Dp.dIx, Dp.dAdd, Dp.dSub, Dp.dMul, Dp.dMod, Dp.dFdiv, Dp.dPow, Dp.dNeg, Dp.dAugN, Dp.dAugS, Dp.dAugF, Dp.dAugI, Dp.dLtS, Dp.dLe, Dp.dGt, Dp.dGe, Dp.dOrd, Dp.dBetween, Dp.dIsN, Dp.dEq, Dp.dEqK, Dp.dIn, Dp.dstart, List.map_cons, List.map_nil, List.length_cons, List.length_nil, List.cons_append, List.nil_append, List.replicate, List.getElem?_cons_zero, List.getElem?_cons_succ, List.set_cons_zero, List.set_cons_succ, Nat.reduceAdd, Nat.reduceSub, if_true, if_false, Bool.false_eq_true, Bool.not_true, Bool.not_false, Dp.v_non, Dp.v_bl, Dp.v_int, Dp.v_str, Dp.v_tup, Dp.v_lst, Dp.v_kls, Dp.v_dK, Dp.v_dT, Dp.v_ins, Dp.f_ins, Dp.da_dKs, Dp.da_dKi, Dp.ix_dKs, Dp.ix_dKi, Dp.ix_lst, Dp.ix_tup, Dp.ix_kls, Dp.lo_lst, Dp.lo_kls, Dp.io_lst, Dp.io_tup, Dp.io_kls, Dp.ki_lst, Dp.ki_tup, Dp.ki_dK, Dp.dd_dK, Dp.e_ii, Dp.e_ss, Dp.e_bb, Dp.inB_dK, Dp.inB_tup, Dp.inB_lst, Dp.dLen, Dp.dAbs, Dp.dInt1, Dp.dStr1, Dp.dIsi, Dp.dListOf, Dp.dTupOf, Dp.dSum, Dp.dAny, Dp.dAll, Dp.dSorted, Dp.dDictP, Dp.dDictD, Dp.dSortMet, Dp.dLenSet, Dp.dSortSet, Dp.dmApp, Dp.dmExt, Dp.dmPop, Dp.dmPopAt, Dp.dmRem, Dp.dmIdx, Dp.dSet, Dp.intOf, Dp.keyOf, Dp.dwipe, Dp.patD, Dp.patDs, Dp.ln_lst, Dp.ln_tup, Dp.ln_kls, Dp.ln_dK, Dp.dFor, Dp.dLc, Dp.dDc, Dp.dLc2, Dp.srcOf, Dp.dFrz, lk_Seats_scene, pa_Seats_scene, pt_Seats_scene, lk_Seats_seating, pa_Seats_seating, pt_Seats_seating, lk_Seats_seated, pa_Seats_seated, pt_Seats_seated, lk_Kept_lot, pa_Kept_lot, pt_Kept_lot, lk_Kept_seating, pa_Kept_seating, pt_Kept_seating, lk_Kept_papers, pa_Kept_papers, pt_Kept_papers, lk_Call_worth, pa_Call_worth, pt_Call_worth, lk_Call_heard, pa_Call_heard, pt_Call_heard, lk_Scene_channels, pa_Scene_channels, pt_Scene_channels, lk_Scene_calls, pa_Scene_calls, pt_Scene_calls]
  refine ⟨a, mm, rfl, h0, h9, hD, fun n ch M1 hn1 hn2 hch hD1 ho1 => ?_⟩
  simp only [Dp.dSeq, Dp.dAsg, Dp.dgN, Dp.dVar, Dp.dC, Dp.dUn, Dp.dOp, Dp.dFld, Dp.dTst, Dp.dAnd, Dp.dOr, Dp.dNot, Dp.dAndV, Dp.dOrV, Dp.dNotV, Dp.dIf, Dp.dIfS, Dp.dRet, Dp.dRetN, Dp.dExpr, Dp.dPar, Dp.dPar3, Dp.dNext, Dp.dNever, Dp.dBrk, Dp.dCont, Dp.dgTup, Dp.dgCons, Dp.dgNil, Dp.dCall, Dp.dCons, Dp.dNil, Dp.dTup, Dp.dLst, Dp.dLstM, Dp.dNewK, Dp.dCallF, Dp.dMethF, Dp.dMake, Dp.dMakeF, Dp.dFldS, Dp.dPut, Dp.dBM, Dp.dGet1, Dp.dGet2, Dp.dPop1, Dp.dPop2, Dp.dStar, Dp.dIx, Dp.dAdd, Dp.dSub, Dp.dMul, Dp.dMod, Dp.dFdiv, Dp.dPow, Dp.dNeg, Dp.dAugN, Dp.dAugS, Dp.dAugF, Dp.dAugI, Dp.dLtS, Dp.dLe, Dp.dGt, Dp.dGe, Dp.dOrd, Dp.dBetween, Dp.dIsN, Dp.dEq, Dp.dEqK, Dp.dIn, Dp.dstart, List.map_cons, List.map_nil, List.length_cons, List.length_nil, List.cons_append, List.nil_append, List.replicate, List.getElem?_cons_zero, List.getElem?_cons_succ, List.set_cons_zero, List.set_cons_succ, Nat.reduceAdd, Nat.reduceSub, if_true, if_false, Bool.false_eq_true, Bool.not_true, Bool.not_false, Dp.v_non, Dp.v_bl, Dp.v_int, Dp.v_str, Dp.v_tup, Dp.v_lst, Dp.v_kls, Dp.v_dK, Dp.v_dT, Dp.v_ins, Dp.f_ins, Dp.da_dKs, Dp.da_dKi, Dp.ix_dKs, Dp.ix_dKi, Dp.ix_lst, Dp.ix_tup, Dp.ix_kls, Dp.lo_lst, Dp.lo_kls, Dp.io_lst, Dp.io_tup, Dp.io_kls, Dp.ki_lst, Dp.ki_tup, Dp.ki_dK, Dp.dd_dK, Dp.e_ii, Dp.e_ss, Dp.e_bb, Dp.inB_dK, Dp.inB_tup, Dp.inB_lst, Dp.dLen, Dp.dAbs, Dp.dInt1, Dp.dStr1, Dp.dIsi, Dp.dListOf, Dp.dTupOf, Dp.dSum, Dp.dAny, Dp.dAll, Dp.dSorted, Dp.dDictP, Dp.dDictD, Dp.dSortMet, Dp.dLenSet, Dp.dSortSet, Dp.dmApp, Dp.dmExt, Dp.dmPop, Dp.dmPopAt, Dp.dmRem, Dp.dmIdx, Dp.dSet, Dp.intOf, Dp.keyOf, Dp.dwipe, Dp.patD, Dp.patDs, Dp.ln_lst, Dp.ln_tup, Dp.ln_kls, Dp.ln_dK, Dp.dFor, Dp.dLc, Dp.dDc, Dp.dLc2, Dp.srcOf, Dp.dFrz, lk_Seats_scene, pa_Seats_scene, pt_Seats_scene, lk_Seats_seating, pa_Seats_seating, pt_Seats_seating, lk_Seats_seated, pa_Seats_seated, pt_Seats_seated, lk_Kept_lot, pa_Kept_lot, pt_Kept_lot, lk_Kept_seating, pa_Kept_seating, pt_Kept_seating, lk_Kept_papers, pa_Kept_papers, pt_Kept_papers, lk_Call_worth, pa_Call_worth, pt_Call_worth, lk_Call_heard, pa_Call_heard, pt_Call_heard, lk_Scene_channels, pa_Scene_channels, pt_Scene_channels, lk_Scene_calls, pa_Scene_calls, pt_Scene_calls]
  refine fun f hf => ?_
  have hfa : f ≠ a := fun q => by
    obtain ⟨_, _, _, h⟩ := hD1
    rw [q, h] at hf; cases hf
  refine ⟨a, ((cc : Int) + 1), rfl, by omega, hD1.oth (c := f) (mup_ne (Ne.symm hfa)), fun r M2 r0 r1 hD2 ho2 => ?_⟩
  simp only [Dp.dSeq, Dp.dAsg, Dp.dgN, Dp.dVar, Dp.dC, Dp.dUn, Dp.dOp, Dp.dFld, Dp.dTst, Dp.dAnd, Dp.dOr, Dp.dNot, Dp.dAndV, Dp.dOrV, Dp.dNotV, Dp.dIf, Dp.dIfS, Dp.dRet, Dp.dRetN, Dp.dExpr, Dp.dPar, Dp.dPar3, Dp.dNext, Dp.dNever, Dp.dBrk, Dp.dCont, Dp.dgTup, Dp.dgCons, Dp.dgNil, Dp.dCall, Dp.dCons, Dp.dNil, Dp.dTup, Dp.dLst, Dp.dLstM, Dp.dNewK, Dp.dCallF, Dp.dMethF, Dp.dMake, Dp.dMakeF, Dp.dFldS, Dp.dPut, Dp.dBM, Dp.dGet1, Dp.dGet2, Dp.dPop1, Dp.dPop2, Dp.dStar, Dp.dIx, Dp.dAdd, Dp.dSub, Dp.dMul, Dp.dMod, Dp.dFdiv, Dp.dPow, Dp.dNeg, Dp.dAugN, Dp.dAugS, Dp.dAugF, Dp.dAugI, Dp.dLtS, Dp.dLe, Dp.dGt, Dp.dGe, Dp.dOrd, Dp.dBetween, Dp.dIsN, Dp.dEq, Dp.dEqK, Dp.dIn, Dp.dstart, List.map_cons, List.map_nil, List.length_cons, List.length_nil, List.cons_append, List.nil_append, List.replicate, List.getElem?_cons_zero, List.getElem?_cons_succ, List.set_cons_zero, List.set_cons_succ, Nat.reduceAdd, Nat.reduceSub, if_true, if_false, Bool.false_eq_true, Bool.not_true, Bool.not_false, Dp.v_non, Dp.v_bl, Dp.v_int, Dp.v_str, Dp.v_tup, Dp.v_lst, Dp.v_kls, Dp.v_dK, Dp.v_dT, Dp.v_ins, Dp.f_ins, Dp.da_dKs, Dp.da_dKi, Dp.ix_dKs, Dp.ix_dKi, Dp.ix_lst, Dp.ix_tup, Dp.ix_kls, Dp.lo_lst, Dp.lo_kls, Dp.io_lst, Dp.io_tup, Dp.io_kls, Dp.ki_lst, Dp.ki_tup, Dp.ki_dK, Dp.dd_dK, Dp.e_ii, Dp.e_ss, Dp.e_bb, Dp.inB_dK, Dp.inB_tup, Dp.inB_lst, Dp.dLen, Dp.dAbs, Dp.dInt1, Dp.dStr1, Dp.dIsi, Dp.dListOf, Dp.dTupOf, Dp.dSum, Dp.dAny, Dp.dAll, Dp.dSorted, Dp.dDictP, Dp.dDictD, Dp.dSortMet, Dp.dLenSet, Dp.dSortSet, Dp.dmApp, Dp.dmExt, Dp.dmPop, Dp.dmPopAt, Dp.dmRem, Dp.dmIdx, Dp.dSet, Dp.intOf, Dp.keyOf, Dp.dwipe, Dp.patD, Dp.patDs, Dp.ln_lst, Dp.ln_tup, Dp.ln_kls, Dp.ln_dK, Dp.dFor, Dp.dLc, Dp.dDc, Dp.dLc2, Dp.srcOf, Dp.dFrz, lk_Seats_scene, pa_Seats_scene, pt_Seats_scene, lk_Seats_seating, pa_Seats_seating, pt_Seats_seating, lk_Seats_seated, pa_Seats_seated, pt_Seats_seated, lk_Kept_lot, pa_Kept_lot, pt_Kept_lot, lk_Kept_seating, pa_Kept_seating, pt_Kept_seating, lk_Kept_papers, pa_Kept_papers, pt_Kept_papers, lk_Call_worth, pa_Call_worth, pt_Call_worth, lk_Call_heard, pa_Call_heard, pt_Call_heard, lk_Scene_channels, pa_Scene_channels, pt_Scene_channels, lk_Scene_calls, pa_Scene_calls, pt_Scene_calls]
  refine ⟨by omega, by omega, ?_⟩
  obtain ⟨k, hk⟩ : ∃ k : Nat, (r : Int).toNat = k := ⟨_, rfl⟩
  rw [hk]
  have hMf : M2 f = some (.dK []) := by rw [ho2 f hfa, mup_same]
  have hf0 : M f = none := by rw [← ho1 f hfa]; exact hf
  have hkeep2 : ∀ b m, b ≠ a → M b = some m → M2 b = some m := fun b m hb e => by
    have : b ≠ f := fun q => by rw [q, hf0] at e; cases e
    rw [ho2 b hb, mup_ne this, ho1 b hb]; exact e
  have hlen : ch.length = n := by have := congrArg List.length hch.1; simpa using this
  have hns : ∀ x ∈ ch.map (·.1), isName x = true := fun x hx => by
    rw [hch.1] at hx
    obtain ⟨i, hi, rfl⟩ := List.mem_map.mp hx
    exact name_m i (by have := List.mem_range.mp hi; omega)
  have hcn : (ch.map (·.1)).Nodup := by rw [hch.1]; exact range_nodup mN_nodup (by omega)
  refine for_i (fun i Γ' M' => ∃ ca o5, Γ' = [some (.adr a), some (.int mm), some (.int cc), some (.dK (ch.map fun p => (Sum.inr p.1, .int p.2))), some (.adr f), o5] ∧ Cas (ch.map (·.1)) i ca ∧ Drw M' a ∧ M' f = some (.dK (dCas d ⟨ch, ca⟩)) ∧ ∀ b m, b ≠ a → M b = some m → M' b = some m)
    ⟨[], none, rfl, ⟨rfl, by simp, by simp, by simp⟩, hD2, hMf, hkeep2⟩ (fun _ _ _ _ _ => trivial) ?_ ?_
  · rintro i x Γ' M' hx ⟨ca, o5, rfl, hca, hD', hMf', hk'⟩
    have hi : i < k := by
      have := (List.getElem?_eq_some_iff.mp hx).1
      simpa [rangeD] using this
    have ex : x = .int (i : Int) := by
      have : (rangeD 0 k)[i]? = some (.int ((0 : Int) + (i : Nat))) := by simp [rangeD, hi]
      rw [this] at hx
      cases hx
      rw [Int.zero_add]
    subst ex
    refine ⟨_, rfl, fun bk _ => ?_⟩
    simp only [Dp.dSeq, Dp.dAsg, Dp.dgN, Dp.dVar, Dp.dC, Dp.dUn, Dp.dOp, Dp.dFld, Dp.dTst, Dp.dAnd, Dp.dOr, Dp.dNot, Dp.dAndV, Dp.dOrV, Dp.dNotV, Dp.dIf, Dp.dIfS, Dp.dRet, Dp.dRetN, Dp.dExpr, Dp.dPar, Dp.dPar3, Dp.dNext, Dp.dNever, Dp.dBrk, Dp.dCont, Dp.dgTup, Dp.dgCons, Dp.dgNil, Dp.dCall, Dp.dCons, Dp.dNil, Dp.dTup, Dp.dLst, Dp.dLstM, Dp.dNewK, Dp.dCallF, Dp.dMethF, Dp.dMake, Dp.dMakeF, Dp.dFldS, Dp.dPut, Dp.dBM, Dp.dGet1, Dp.dGet2, Dp.dPop1, Dp.dPop2, Dp.dStar, Dp.dIx, Dp.dAdd, Dp.dSub, Dp.dMul, Dp.dMod, Dp.dFdiv, Dp.dPow, Dp.dNeg, Dp.dAugN, Dp.dAugS, Dp.dAugF, Dp.dAugI, Dp.dLtS, Dp.dLe, Dp.dGt, Dp.dGe, Dp.dOrd, Dp.dBetween, Dp.dIsN, Dp.dEq, Dp.dEqK, Dp.dIn, Dp.dstart, List.map_cons, List.map_nil, List.length_cons, List.length_nil, List.cons_append, List.nil_append, List.replicate, List.getElem?_cons_zero, List.getElem?_cons_succ, List.set_cons_zero, List.set_cons_succ, Nat.reduceAdd, Nat.reduceSub, if_true, if_false, Bool.false_eq_true, Bool.not_true, Bool.not_false, Dp.v_non, Dp.v_bl, Dp.v_int, Dp.v_str, Dp.v_tup, Dp.v_lst, Dp.v_kls, Dp.v_dK, Dp.v_dT, Dp.v_ins, Dp.f_ins, Dp.da_dKs, Dp.da_dKi, Dp.ix_dKs, Dp.ix_dKi, Dp.ix_lst, Dp.ix_tup, Dp.ix_kls, Dp.lo_lst, Dp.lo_kls, Dp.io_lst, Dp.io_tup, Dp.io_kls, Dp.ki_lst, Dp.ki_tup, Dp.ki_dK, Dp.dd_dK, Dp.e_ii, Dp.e_ss, Dp.e_bb, Dp.inB_dK, Dp.inB_tup, Dp.inB_lst, Dp.dLen, Dp.dAbs, Dp.dInt1, Dp.dStr1, Dp.dIsi, Dp.dListOf, Dp.dTupOf, Dp.dSum, Dp.dAny, Dp.dAll, Dp.dSorted, Dp.dDictP, Dp.dDictD, Dp.dSortMet, Dp.dLenSet, Dp.dSortSet, Dp.dmApp, Dp.dmExt, Dp.dmPop, Dp.dmPopAt, Dp.dmRem, Dp.dmIdx, Dp.dSet, Dp.intOf, Dp.keyOf, Dp.dwipe, Dp.patD, Dp.patDs, Dp.ln_lst, Dp.ln_tup, Dp.ln_kls, Dp.ln_dK, Dp.dFor, Dp.dLc, Dp.dDc, Dp.dLc2, Dp.srcOf, Dp.dFrz, lk_Seats_scene, pa_Seats_scene, pt_Seats_scene, lk_Seats_seating, pa_Seats_seating, pt_Seats_seating, lk_Seats_seated, pa_Seats_seated, pt_Seats_seated, lk_Kept_lot, pa_Kept_lot, pt_Kept_lot, lk_Kept_seating, pa_Kept_seating, pt_Kept_seating, lk_Kept_papers, pa_Kept_papers, pt_Kept_papers, lk_Call_worth, pa_Call_worth, pt_Call_worth, lk_Call_heard, pa_Call_heard, pt_Call_heard, lk_Scene_channels, pa_Scene_channels, pt_Scene_channels, lk_Scene_calls, pa_Scene_calls, pt_Scene_calls]
    refine ⟨a, 3, rfl, by decide, hD', fun wo M3 w0 w1 hD3 ho3 => ?_⟩
    simp only [Dp.dSeq, Dp.dAsg, Dp.dgN, Dp.dVar, Dp.dC, Dp.dUn, Dp.dOp, Dp.dFld, Dp.dTst, Dp.dAnd, Dp.dOr, Dp.dNot, Dp.dAndV, Dp.dOrV, Dp.dNotV, Dp.dIf, Dp.dIfS, Dp.dRet, Dp.dRetN, Dp.dExpr, Dp.dPar, Dp.dPar3, Dp.dNext, Dp.dNever, Dp.dBrk, Dp.dCont, Dp.dgTup, Dp.dgCons, Dp.dgNil, Dp.dCall, Dp.dCons, Dp.dNil, Dp.dTup, Dp.dLst, Dp.dLstM, Dp.dNewK, Dp.dCallF, Dp.dMethF, Dp.dMake, Dp.dMakeF, Dp.dFldS, Dp.dPut, Dp.dBM, Dp.dGet1, Dp.dGet2, Dp.dPop1, Dp.dPop2, Dp.dStar, Dp.dIx, Dp.dAdd, Dp.dSub, Dp.dMul, Dp.dMod, Dp.dFdiv, Dp.dPow, Dp.dNeg, Dp.dAugN, Dp.dAugS, Dp.dAugF, Dp.dAugI, Dp.dLtS, Dp.dLe, Dp.dGt, Dp.dGe, Dp.dOrd, Dp.dBetween, Dp.dIsN, Dp.dEq, Dp.dEqK, Dp.dIn, Dp.dstart, List.map_cons, List.map_nil, List.length_cons, List.length_nil, List.cons_append, List.nil_append, List.replicate, List.getElem?_cons_zero, List.getElem?_cons_succ, List.set_cons_zero, List.set_cons_succ, Nat.reduceAdd, Nat.reduceSub, if_true, if_false, Bool.false_eq_true, Bool.not_true, Bool.not_false, Dp.v_non, Dp.v_bl, Dp.v_int, Dp.v_str, Dp.v_tup, Dp.v_lst, Dp.v_kls, Dp.v_dK, Dp.v_dT, Dp.v_ins, Dp.f_ins, Dp.da_dKs, Dp.da_dKi, Dp.ix_dKs, Dp.ix_dKi, Dp.ix_lst, Dp.ix_tup, Dp.ix_kls, Dp.lo_lst, Dp.lo_kls, Dp.io_lst, Dp.io_tup, Dp.io_kls, Dp.ki_lst, Dp.ki_tup, Dp.ki_dK, Dp.dd_dK, Dp.e_ii, Dp.e_ss, Dp.e_bb, Dp.inB_dK, Dp.inB_tup, Dp.inB_lst, Dp.dLen, Dp.dAbs, Dp.dInt1, Dp.dStr1, Dp.dIsi, Dp.dListOf, Dp.dTupOf, Dp.dSum, Dp.dAny, Dp.dAll, Dp.dSorted, Dp.dDictP, Dp.dDictD, Dp.dSortMet, Dp.dLenSet, Dp.dSortSet, Dp.dmApp, Dp.dmExt, Dp.dmPop, Dp.dmPopAt, Dp.dmRem, Dp.dmIdx, Dp.dSet, Dp.intOf, Dp.keyOf, Dp.dwipe, Dp.patD, Dp.patDs, Dp.ln_lst, Dp.ln_tup, Dp.ln_kls, Dp.ln_dK, Dp.dFor, Dp.dLc, Dp.dDc, Dp.dLc2, Dp.srcOf, Dp.dFrz, lk_Seats_scene, pa_Seats_scene, pt_Seats_scene, lk_Seats_seating, pa_Seats_seating, pt_Seats_seating, lk_Seats_seated, pa_Seats_seated, pt_Seats_seated, lk_Kept_lot, pa_Kept_lot, pt_Kept_lot, lk_Kept_seating, pa_Kept_seating, pt_Kept_seating, lk_Kept_papers, pa_Kept_papers, pt_Kept_papers, lk_Call_worth, pa_Call_worth, pt_Call_worth, lk_Call_heard, pa_Call_heard, pt_Call_heard, lk_Scene_channels, pa_Scene_channels, pt_Scene_channels, lk_Scene_calls, pa_Scene_calls, pt_Scene_calls]
    refine ⟨a, _, ch.map (·.1), rfl, by rw [List.map_map, List.map_map]; rfl, hD3, fun hs M4 hsub hD4 ho4 => ?_⟩
    intro x hx
    have hxa : x ≠ a := fun q => by
      obtain ⟨_, _, _, h⟩ := hD4
      rw [q, h] at hx; cases hx
    have hM4f : M4 f = some (.dK (dCas d ⟨ch, ca⟩)) := by rw [ho4 f hfa, ho3 f hfa]; exact hMf'
    have hxf : x ≠ f := fun q => by rw [q, hM4f] at hx; cases hx
    refine ⟨x, wo, hs, .lst (hs.map .str), rfl, mup_same, .inl rfl, fun y hy => (isName_ok (hns y (hsub.subset hy))).1, ?_⟩
    refine ⟨rfl, _, mup_same, ?_⟩
    have hM5f : (mdel (mup (mup M4 x (.ins d.C_Call [])) x (.ins d.C_Call [("worth", .int wo), ("heard", .tup ((ssort hs).map .str))])) x) f = some (.dK (dCas d ⟨ch, ca⟩)) := by
      rw [mdel_ne (Ne.symm hxf), mup_ne (Ne.symm hxf), mup_ne (Ne.symm hxf)]; exact hM4f
    simp only [Dp.dSeq, Dp.dAsg, Dp.dgN, Dp.dVar, Dp.dC, Dp.dUn, Dp.dOp, Dp.dFld, Dp.dTst, Dp.dAnd, Dp.dOr, Dp.dNot, Dp.dAndV, Dp.dOrV, Dp.dNotV, Dp.dIf, Dp.dIfS, Dp.dRet, Dp.dRetN, Dp.dExpr, Dp.dPar, Dp.dPar3, Dp.dNext, Dp.dNever, Dp.dBrk, Dp.dCont, Dp.dgTup, Dp.dgCons, Dp.dgNil, Dp.dCall, Dp.dCons, Dp.dNil, Dp.dTup, Dp.dLst, Dp.dLstM, Dp.dNewK, Dp.dCallF, Dp.dMethF, Dp.dMake, Dp.dMakeF, Dp.dFldS, Dp.dPut, Dp.dBM, Dp.dGet1, Dp.dGet2, Dp.dPop1, Dp.dPop2, Dp.dStar, Dp.dIx, Dp.dAdd, Dp.dSub, Dp.dMul, Dp.dMod, Dp.dFdiv, Dp.dPow, Dp.dNeg, Dp.dAugN, Dp.dAugS, Dp.dAugF, Dp.dAugI, Dp.dLtS, Dp.dLe, Dp.dGt, Dp.dGe, Dp.dOrd, Dp.dBetween, Dp.dIsN, Dp.dEq, Dp.dEqK, Dp.dIn, Dp.dstart, List.map_cons, List.map_nil, List.length_cons, List.length_nil, List.cons_append, List.nil_append, List.replicate, List.getElem?_cons_zero, List.getElem?_cons_succ, List.set_cons_zero, List.set_cons_succ, Nat.reduceAdd, Nat.reduceSub, if_true, if_false, Bool.false_eq_true, Bool.not_true, Bool.not_false, Dp.v_non, Dp.v_bl, Dp.v_int, Dp.v_str, Dp.v_tup, Dp.v_lst, Dp.v_kls, Dp.v_dK, Dp.v_dT, Dp.v_ins, Dp.f_ins, Dp.da_dKs, Dp.da_dKi, Dp.ix_dKs, Dp.ix_dKi, Dp.ix_lst, Dp.ix_tup, Dp.ix_kls, Dp.lo_lst, Dp.lo_kls, Dp.io_lst, Dp.io_tup, Dp.io_kls, Dp.ki_lst, Dp.ki_tup, Dp.ki_dK, Dp.dd_dK, Dp.e_ii, Dp.e_ss, Dp.e_bb, Dp.inB_dK, Dp.inB_tup, Dp.inB_lst, Dp.dLen, Dp.dAbs, Dp.dInt1, Dp.dStr1, Dp.dIsi, Dp.dListOf, Dp.dTupOf, Dp.dSum, Dp.dAny, Dp.dAll, Dp.dSorted, Dp.dDictP, Dp.dDictD, Dp.dSortMet, Dp.dLenSet, Dp.dSortSet, Dp.dmApp, Dp.dmExt, Dp.dmPop, Dp.dmPopAt, Dp.dmRem, Dp.dmIdx, Dp.dSet, Dp.intOf, Dp.keyOf, Dp.dwipe, Dp.patD, Dp.patDs, Dp.ln_lst, Dp.ln_tup, Dp.ln_kls, Dp.ln_dK, Dp.dFor, Dp.dLc, Dp.dDc, Dp.dLc2, Dp.srcOf, Dp.dFrz, lk_Seats_scene, pa_Seats_scene, pt_Seats_scene, lk_Seats_seating, pa_Seats_seating, pt_Seats_seating, lk_Seats_seated, pa_Seats_seated, pt_Seats_seated, lk_Kept_lot, pa_Kept_lot, pt_Kept_lot, lk_Kept_seating, pa_Kept_seating, pt_Kept_seating, lk_Kept_papers, pa_Kept_papers, pt_Kept_papers, lk_Call_worth, pa_Call_worth, pt_Call_worth, lk_Call_heard, pa_Call_heard, pt_Call_heard, lk_Scene_channels, pa_Scene_channels, pt_Scene_channels, lk_Scene_calls, pa_Scene_calls, pt_Scene_calls, hM5f]
    have hik : i < 10 := by omega
    have ecn : Str.ofString "c" ++ Str.ofString (toString (i : Int)) = cN i := rfl
    rw [ecn]
    have hnew : cN i ∉ ca.map (·.1) := by
      rw [hca.ks]
      have h1 : ((List.range (i + 1)).map cN).Nodup := range_nodup cN_nodup (by omega)
      rw [List.range_succ, List.map_append, List.nodup_append] at h1
      exact fun q => h1.2.2 _ q _ (by simp) rfl
    have ep : put (dCas d ⟨ch, ca⟩) (Sum.inr (cN i)) (.ins d.C_Call [("worth", .int wo), ("heard", .tup ((ssort hs).map .str))]) = dCas d ⟨ch, ca ++ [(cN i, wo, ssort hs)]⟩ := by
      have := put_rows ca (dCal d) (cN i) (wo, ssort hs)
      rw [put_new _ hnew] at this
      exact this
    rw [ep]
    have hcl : ca.length = i := by have := congrArg List.length hca.ks; simpa using this
    refine ⟨log_lt (by omega), szl (cname_len i hik), szlt (by unfold dCas; rw [List.length_map]; show ca.length < 1000000; omega), ca ++ [(cN i, wo, ssort hs)], _, rfl, ⟨?_, ?_, ?_, ?_⟩, ?_, mup_same, ?_⟩
    · rw [List.map_append, hca.ks, List.range_succ, List.map_append]; rfl
    · intro p hp
      rcases List.mem_append.mp hp with hp | hp
      · exact hca.wo p hp
      · rw [List.mem_singleton.mp hp]; exact ⟨w0, by dsimp only; omega⟩
    · intro p hp
      rcases List.mem_append.mp hp with hp | hp
      · exact hca.he p hp
      · rw [List.mem_singleton.mp hp]; exact fun y hy => hsub.subset ((ssort_perm _).mem_iff.mp hy)
    · intro p hp
      rcases List.mem_append.mp hp with hp | hp
      · exact hca.hn p hp
      · rw [List.mem_singleton.mp hp]; exact (ssort_perm _).nodup_iff.mpr (hcn.sublist hsub)
    · refine hD4.oth (c := a) ?_
      rw [mup_ne (Ne.symm hfa), mdel_ne (Ne.symm hxa), mup_ne (Ne.symm hxa), mup_ne (Ne.symm hxa)]
    · intro b m hb e
      have h1 : b ≠ f := fun q => by rw [q, hf0] at e; cases e
      have h2 : M4 b = some m := by rw [ho4 b hb, ho3 b hb]; exact hk' b m hb e
      have h3 : b ≠ x := fun q => by rw [q, hx] at h2; cases h2
      rw [mup_ne h1, mdel_ne h3, mup_ne h3, mup_ne h3]; exact h2
  · rintro Γ' M' ⟨ca, o5, rfl, hca, hD', hMf', hk'⟩
    have hrl : (rangeD 0 k).length = k := by simp [rangeD]
    rw [hrl] at hca
    have hcl : ca.length = k := by have := congrArg List.length hca.ks; simpa using this
    have hso : ScOk ⟨ch, ca⟩ := by
      refine ⟨fun p hp => hns _ (List.mem_map_of_mem hp), fun p hp => ⟨(hch.2 p hp).1, by have := (hch.2 p hp).2; omega⟩, hcn, fun p hp => ?_, fun p hp => ⟨(hca.wo p hp).1, by have := (hca.wo p hp).2; omega⟩, hca.he, hca.hn, ?_, ?_, ?_⟩
      · have : p.1 ∈ (List.range k).map cN := by rw [← hca.ks]; exact List.mem_map_of_mem hp
        obtain ⟨i, hi, e⟩ := List.mem_map.mp this
        rw [← e]
        exact name_c i (by have := List.mem_range.mp hi; omega)
      · show (ca.map (·.1)).Nodup
        rw [hca.ks]; exact range_nodup cN_nodup (by omega)
      · show ch.length ≤ 500; omega
      · show ca.length ≤ 500; omega
    simp only [Dp.dSeq, Dp.dAsg, Dp.dgN, Dp.dVar, Dp.dC, Dp.dUn, Dp.dOp, Dp.dFld, Dp.dTst, Dp.dAnd, Dp.dOr, Dp.dNot, Dp.dAndV, Dp.dOrV, Dp.dNotV, Dp.dIf, Dp.dIfS, Dp.dRet, Dp.dRetN, Dp.dExpr, Dp.dPar, Dp.dPar3, Dp.dNext, Dp.dNever, Dp.dBrk, Dp.dCont, Dp.dgTup, Dp.dgCons, Dp.dgNil, Dp.dCall, Dp.dCons, Dp.dNil, Dp.dTup, Dp.dLst, Dp.dLstM, Dp.dNewK, Dp.dCallF, Dp.dMethF, Dp.dMake, Dp.dMakeF, Dp.dFldS, Dp.dPut, Dp.dBM, Dp.dGet1, Dp.dGet2, Dp.dPop1, Dp.dPop2, Dp.dStar, Dp.dIx, Dp.dAdd, Dp.dSub, Dp.dMul, Dp.dMod, Dp.dFdiv, Dp.dPow, Dp.dNeg, Dp.dAugN, Dp.dAugS, Dp.dAugF, Dp.dAugI, Dp.dLtS, Dp.dLe, Dp.dGt, Dp.dGe, Dp.dOrd, Dp.dBetween, Dp.dIsN, Dp.dEq, Dp.dEqK, Dp.dIn, Dp.dstart, List.map_cons, List.map_nil, List.length_cons, List.length_nil, List.cons_append, List.nil_append, List.replicate, List.getElem?_cons_zero, List.getElem?_cons_succ, List.set_cons_zero, List.set_cons_succ, Nat.reduceAdd, Nat.reduceSub, if_true, if_false, Bool.false_eq_true, Bool.not_true, Bool.not_false, Dp.v_non, Dp.v_bl, Dp.v_int, Dp.v_str, Dp.v_tup, Dp.v_lst, Dp.v_kls, Dp.v_dK, Dp.v_dT, Dp.v_ins, Dp.f_ins, Dp.da_dKs, Dp.da_dKi, Dp.ix_dKs, Dp.ix_dKi, Dp.ix_lst, Dp.ix_tup, Dp.ix_kls, Dp.lo_lst, Dp.lo_kls, Dp.io_lst, Dp.io_tup, Dp.io_kls, Dp.ki_lst, Dp.ki_tup, Dp.ki_dK, Dp.dd_dK, Dp.e_ii, Dp.e_ss, Dp.e_bb, Dp.inB_dK, Dp.inB_tup, Dp.inB_lst, Dp.dLen, Dp.dAbs, Dp.dInt1, Dp.dStr1, Dp.dIsi, Dp.dListOf, Dp.dTupOf, Dp.dSum, Dp.dAny, Dp.dAll, Dp.dSorted, Dp.dDictP, Dp.dDictD, Dp.dSortMet, Dp.dLenSet, Dp.dSortSet, Dp.dmApp, Dp.dmExt, Dp.dmPop, Dp.dmPopAt, Dp.dmRem, Dp.dmIdx, Dp.dSet, Dp.intOf, Dp.keyOf, Dp.dwipe, Dp.patD, Dp.patDs, Dp.ln_lst, Dp.ln_tup, Dp.ln_kls, Dp.ln_dK, Dp.dFor, Dp.dLc, Dp.dDc, Dp.dLc2, Dp.srcOf, Dp.dFrz, lk_Seats_scene, pa_Seats_scene, pt_Seats_scene, lk_Seats_seating, pa_Seats_seating, pt_Seats_seating, lk_Seats_seated, pa_Seats_seated, pt_Seats_seated, lk_Kept_lot, pa_Kept_lot, pt_Kept_lot, lk_Kept_seating, pa_Kept_seating, pt_Kept_seating, lk_Kept_papers, pa_Kept_papers, pt_Kept_papers, lk_Call_worth, pa_Call_worth, pt_Call_worth, lk_Call_heard, pa_Call_heard, pt_Call_heard, lk_Scene_channels, pa_Scene_channels, pt_Scene_channels, lk_Scene_calls, pa_Scene_calls, pt_Scene_calls]
    refine ⟨_, _, fz_dK hMf', fun x hx => ⟨x, ⟨ch, ca⟩, rfl, mup_same, hso, rfl, _, mup_same, ?_⟩⟩
    have hxa : x ≠ a := fun q => by
      obtain ⟨_, _, _, h⟩ := hD'
      rw [q, mdel_ne (Ne.symm hfa), h] at hx; cases hx
    refine ⟨_, _, Fz.less (resto_le (a := a) (M := M) fun b m hb e => ?_), hR _ _ hso.srt ?_ ⟨fun p hp => (hch.2 p ((rsrt_mem hcn).mp hp)).2, fun p hp => (hca.wo p ((rsrt_mem hso.da).mp hp)).2, ?_, ?_⟩ (resto_drw (hD'.oth (c := a) ?_)) resto_oth⟩
    · have h1 : b ≠ f := fun q => by rw [q, hf0] at e; cases e
      have h2 := hk' b m hb e
      have h3 : b ≠ x := fun q => by rw [← q, mdel_ne h1, h2] at hx; cases hx
      rw [mdel_ne h3, mup_ne h3, mup_ne h3, mdel_ne h1]; exact h2
    · show 1 ≤ (rsrt ch).length
      rw [(rsrt_perm hcn).length_eq]; omega
    · show (rsrt ch).length ≤ mm
      rw [(rsrt_perm hcn).length_eq]; omega
    · show (rsrt ca).length ≤ cc
      rw [(rsrt_perm hso.da).length_eq]; show ca.length ≤ cc; omega
    · rw [mdel_ne (Ne.symm hxa), mup_ne (Ne.symm hxa), mup_ne (Ne.symm hxa), mdel_ne (Ne.symm hfa)]

end
end K20
namespace K20
open PySem PySem.Spec L2 Dp
section
variable {P : Program} {w : World} {K : PySem.W.Frag} {mg : Str → Option Value} {base : Heap} {d : Dat}
/-! what the walks give, in plain words: who is kept -/
def capOf (s : Sc) (m : Str) : Nat := match s.ch.lookup m with
  | some c => c.toNat
  | none => 0
def woOf (s : Sc) (x : Str) : Int := match s.ca.lookup x with
  | some c => c.1
  | none => 0
def Sbl (s : Sc) (K : List Str) : Prop := Mt.Sea (heardOf s) (capOf s) K
def seatF (S : List (Str × Str)) (x : Str) : Str := (S.lookup x).getD default
theorem seatF_some {S : List (Str × Str)} {x m : Str} (h : S.lookup x = some m) : seatF S x = m := by unfold seatF; rw [h]; rfl
theorem StOk.seats {s : Sc} {S : List (Str × Str)} {at_ : Str → List Str} (h : StOk s S at_) : Mt.Seats (heardOf s) (capOf s) (seatF S) (S.map (·.1)) := by
  refine ⟨fun x hx => ?_, fun m => ?_⟩
  · obtain ⟨m, hm⟩ := lookup_of hx
    rw [seatF_some hm]; exact h.he x m hm
  · by_cases hm : m ∈ s.ch.map (·.1)
    · obtain ⟨c, hc⟩ := lookup_of hm
      have h1 := h.cp m c hc
      have h2 : Mt.cnt (seatF S) (S.map (·.1)) m ≤ (at_ m).length := by
        refine Mt.sub_len (h.sk.sublist List.filter_sublist) fun x hx => ?_
        rw [List.mem_filter] at hx
        obtain ⟨m', hm'⟩ := lookup_of hx.1
        have e : m' = m := by rw [← seatF_some hm']; exact of_decide_eq_true hx.2
        subst e
        exact ((h.sm x m').mp hm').2
      unfold capOf; rw [hc]; dsimp only; omega
    · have h2 : Mt.cnt (seatF S) (S.map (·.1)) m = 0 := by
        unfold Mt.cnt
        rw [List.length_eq_zero_iff, List.filter_eq_nil_iff]
        intro x hx e
        obtain ⟨m', hm'⟩ := lookup_of hx
        have e : m' = m := by rw [← seatF_some hm']; exact of_decide_eq_true e
        subst e
        exact hm ((h.sm x m').mp hm').1
      omega
theorem StOk.sbl {s : Sc} {S : List (Str × Str)} {at_ : Str → List Str} (h : StOk s S at_) : Sbl s (S.map (·.1)) := ⟨_, h.seats⟩
theorem ways_none {s : Sc} {S : List (Str × Str)} {at_ : Str → List Str} (h : StOk s S at_) {n : Str} {came : List (Str × Str)} (hn : n ∉ S.map (·.1)) (w : WaysOk s at_ n came none) : ¬ Sbl s (S.map (·.1) ++ [n]) := fun hs => by
  have := Mt.no_more (cap := capOf s) (f := seatF S) (A := S.map (·.1)) (fun m => m ∈ came.map (·.1)) (Mt.snoc_nodup h.sk hn) (fun m hm => ?_) (fun x hx => ?_) hs
  · rw [List.length_append, List.length_singleton] at this; omega
  · obtain ⟨c, hc, hf⟩ := w.2.1 m hm
    have hmk : m ∈ s.ch.map (·.1) := List.mem_map_of_mem (f := (·.1)) (lookup_mem hc)
    have h2 : (at_ m).length ≤ Mt.cnt (seatF S) (S.map (·.1)) m := by
      refine Mt.sub_len (h.an m) fun x hx => ?_
      have hl := (h.sm x m).mpr ⟨hmk, hx⟩
      rw [List.mem_filter]
      exact ⟨List.mem_map_of_mem (f := (·.1)) (lookup_mem hl), decide_eq_true (seatF_some hl)⟩
    unfold capOf; rw [hc]; dsimp only; omega
  · rcases List.mem_append.mp hx with hx | hx
    · by_cases hc : seatF S x ∈ came.map (·.1)
      · refine .inl fun m hm => w.2.2 x (.inr ⟨seatF S x, hc, ?_⟩) m hm
        obtain ⟨m', hm'⟩ := lookup_of hx
        rw [seatF_some hm']
        exact ((h.sm x m').mp hm').2
      · exact .inr ⟨hx, hc⟩
    · rw [List.mem_singleton.mp hx]
      exact .inl fun m hm => w.2.2 n (.inl rfl) m hm
theorem GRun.gr {s : Sc} {l : List Str} {S : List (Str × Str)} {at_ : Str → List Str} {pp : List (Str × List Str)} (h : GRun s l S at_ pp) : Mt.Gr (heardOf s) (capOf s) l (S.map (·.1)) := by
  induction h with
  | nil => exact .nil
  | kept h o o' k ih => rw [k]; exact .kept ih (by rw [← k]; exact o'.sbl)
  | gone h o hn w w' ih => exact .gone ih (ways_none o hn w)
theorem ARun.gr {s : Sc} {l : List Str} {S : List (Str × Str)} {at_ : Str → List Str} {bs : List Bool} (h : ARun s l S at_ bs) : Mt.Gr (heardOf s) (capOf s) l (S.map (·.1)) ∧ (bs.all id = true ↔ S.map (·.1) = l) := by
  induction h with
  | nil => exact ⟨.nil, by simp⟩
  | @kept l S at_ bs n S' at' h o o' k ih =>
    rw [k]
    refine ⟨.kept ih.1 (by rw [← k]; exact o'.sbl), ?_⟩
    rw [List.all_append, List.all_cons, List.all_nil]
    simp only [id, Bool.and_true, List.append_cancel_right_eq]
    exact ih.2
  | @gone l S at_ bs n came h o hn w ih =>
    refine ⟨.gone ih.1 (ways_none o hn w), ?_⟩
    rw [List.all_append, List.all_cons, List.all_nil]
    constructor
    · intro q; simp at q
    · intro q
      have h1 := ih.1.sub.length_le
      have h2 := congrArg List.length q
      rw [List.length_append, List.length_singleton] at h2
      omega
theorem ARun.iff {s : Sc} {l : List Str} {S : List (Str × Str)} {at_ : Str → List Str} {bs : List Bool} (h : ARun s l S at_ bs) (hl : l.Nodup) : bs.all id = true ↔ Sbl s l := by
  obtain ⟨g, e⟩ := h.gr
  rw [e]
  constructor
  · intro q; have := g.sea; rw [q] at this; exact this
  · intro q
    exact g.sub.eq_of_length (Nat.le_antisymm g.sub.length_le (g.greatest hl hl q fun _ h => h))
/-- x stands ahead of n -/
def Ahead (s : Sc) (n x : Str) : Prop := x ∈ s.ca.map (·.1) ∧ x ≠ n ∧ isLe (-woOf s x, x) (-woOf s n, n) = true
theorem ord_sorted {s : Sc} (hd : (s.ca.map (·.1)).Nodup) : (ord s).Pairwise fun x y => isLe (-woOf s x, x) (-woOf s y, y) = true := by
  have hw : ∀ p ∈ s.ca, woOf s p.1 = p.2.1 := fun p hp => by unfold woOf; rw [lookup_nodup hd (v := p.2) hp]
  unfold ord
  rw [List.pairwise_map]
  have h1 : (ordR s).Pairwise fun p q => isLe (-p.2.1, p.1) (-q.2.1, q.1) = true :=
    List.pairwise_mergeSort (le := fun p q : Str × Int × List Str => isLe (-p.2.1, p.1) (-q.2.1, q.1)) (fun a b c h1 h2 => isLe_trans h1 h2) (fun a b => by rw [Bool.or_eq_true]; exact isLe_total _ _) s.ca
  refine h1.imp_of_mem fun {a b} ha hb hab => ?_
  have ha' : a ∈ s.ca := (List.mergeSort_perm _ _).mem_iff.mp ha
  have hb' : b ∈ s.ca := (List.mergeSort_perm _ _).mem_iff.mp hb
  rw [hw a ha', hw b hb']; exact hab
theorem ord_nodup {s : Sc} (hd : (s.ca.map (·.1)).Nodup) : (ord s).Nodup := (ord_perm s).nodup_iff.mpr hd
theorem ahead_iff {s : Sc} (hd : (s.ca.map (·.1)).Nodup) {l1 l2 : List Str} {n : Str} (e : ord s = l1 ++ n :: l2) (x : Str) : x ∈ l1 ↔ Ahead s n x := by
  have hs := ord_sorted hd
  have hn := ord_nodup hd
  have hm : ∀ y, y ∈ s.ca.map (·.1) ↔ y ∈ ord s := fun y => (ord_perm s).mem_iff.symm
  rw [e, List.pairwise_append] at hs
  rw [e, List.nodup_append] at hn
  constructor
  · intro hx
    exact ⟨(hm x).mpr (by rw [e]; exact List.mem_append_left _ hx), hn.2.2 x hx n List.mem_cons_self, hs.2.2 x hx n List.mem_cons_self⟩
  · rintro ⟨h1, h2, h3⟩
    rw [hm, e] at h1
    rcases List.mem_append.mp h1 with h | h
    · exact h
    · rcases List.mem_cons.mp h with h | h
      · exact absurd h h2
      · have h4 := (List.pairwise_cons.mp hs.2.1).1 x h
        have := isLe_anti h3 h4
        exact absurd (congrArg Prod.snd this) h2
/-- who is kept -/
theorem kept_iff {s : Sc} {S : List (Str × Str)} {pp : List (Str × List Str)} (hd : (s.ca.map (·.1)).Nodup) (hk : KeptOk s S pp) (n : Str) : n ∈ S.map (·.1) ↔ n ∈ s.ca.map (·.1) ∧ Mt.Free (heardOf s) (capOf s) (Ahead s n) n := by
  obtain ⟨at_, hg, _⟩ := hk
  have g := hg.gr
  have hm : ∀ y, y ∈ s.ca.map (·.1) ↔ y ∈ ord s := fun y => (ord_perm s).mem_iff.symm
  have key : ∀ l1 l2, ord s = l1 ++ n :: l2 → (n ∈ S.map (·.1) ↔ Mt.Free (heardOf s) (capOf s) (Ahead s n) n) := fun l1 l2 e => by
    rw [g.mem (ord_nodup hd) l1 l2 n e]
    have : (fun x => x ∈ l1) = Ahead s n := funext fun x => propext (ahead_iff hd e x)
    rw [this]
  constructor
  · intro h
    have hn := g.sub.subset h
    obtain ⟨l1, l2, e⟩ := List.append_of_mem hn
    exact ⟨(hm n).mpr hn, (key l1 l2 e).mp h⟩
  · rintro ⟨h1, h2⟩
    obtain ⟨l1, l2, e⟩ := List.append_of_mem ((hm n).mp h1)
    exact (key l1 l2 e).mpr h2
/-- a scene made anew: its rows are sorted -/
theorem heard_srt {s : Sc} (h : ScOk s) : heardOf s.srt = heardOf s := by
  funext x; unfold heardOf Sc.srt; dsimp only; rw [rsrt_lookup h.da]
theorem cap_srt {s : Sc} (h : ScOk s) : capOf s.srt = capOf s := by
  funext x; unfold capOf Sc.srt; dsimp only; rw [rsrt_lookup h.dm]
theorem wo_srt {s : Sc} (h : ScOk s) : woOf s.srt = woOf s := by
  funext x; unfold woOf Sc.srt; dsimp only; rw [rsrt_lookup h.da]
theorem keys_srt {s : Sc} (x : Str) : x ∈ s.srt.ca.map (·.1) ↔ x ∈ s.ca.map (·.1) := by
  show x ∈ (rsrt s.ca).map (·.1) ↔ _
  rw [rsrt_keys]; exact (ssort_perm _).mem_iff
theorem kept_iff' {s : Sc} {S : List (Str × Str)} {pp : List (Str × List Str)} (h : ScOk s) (hk : KeptOk s.srt S pp) (n : Str) : n ∈ S.map (·.1) ↔ n ∈ s.ca.map (·.1) ∧ Mt.Free (heardOf s) (capOf s) (Ahead s n) n := by
  rw [kept_iff h.srt.da hk, heard_srt h, cap_srt h, keys_srt]
  have : Ahead s.srt n = Ahead s n := by
    funext x; unfold Ahead; rw [wo_srt h, keys_srt]
  rw [this]

/-! the plain law of k20 -/
/-- one channel more at a mast -/
def moreCh (ch : List (Str × Int)) (ms : Str) : List (Str × Int) := ch.map fun p => (p.1, p.2 + if p.1 = ms then 1 else 0)
def without (ca : List (Str × Int × List Str)) (go : Str) : List (Str × Int × List Str) := ca.filter fun p => !decide (p.1 = go)
theorem lookup_more {ch : List (Str × Int)} {ms m : Str} : (moreCh ch ms).lookup m = (ch.lookup m).map fun c => c + if m = ms then 1 else 0 := by
  unfold moreCh
  induction ch with
  | nil => rfl
  | cons p ch ih =>
    obtain ⟨k, c⟩ := p
    rw [List.map_cons]
    by_cases e : m = k
    · subst e; simp [List.lookup_cons]
    · have : (m == k) = false := by simpa using e
      simp only [List.lookup_cons, this]
      exact ih
theorem more_ok {s : Sc} {mm cc : Nat} (h : ScOk s) (hd : Drn s mm cc) (ms : Str) : ScOk ⟨moreCh s.ch ms, s.ca⟩ := by
  have ek : (moreCh s.ch ms).map (·.1) = s.ch.map (·.1) := by unfold moreCh; rw [List.map_map]; rfl
  refine ⟨fun p hp => ?_, fun p hp => ?_, by show ((moreCh s.ch ms).map (·.1)).Nodup; rw [ek]; exact h.dm, h.na, h.wo, fun p hp x hx => by show x ∈ (moreCh s.ch ms).map (·.1); rw [ek]; exact h.he p hp x hx, h.hn, h.da, by show (moreCh s.ch ms).length ≤ 500; unfold moreCh; rw [List.length_map]; exact h.lc, h.la⟩
  · obtain ⟨q, hq, rfl⟩ := List.mem_map.mp hp
    exact h.nm q hq
  · obtain ⟨q, hq, rfl⟩ := List.mem_map.mp hp
    have h1 := (h.nc q hq).1
    have h2 := hd.c3 q hq
    dsimp only
    split <;> omega
theorem stays_more {s : Sc} {mm cc : Nat} (h : ScOk s) (hd : Drn s mm cc) {ms : Str} (hms : ms ∈ s.ch.map (·.1)) {S S' : List (Str × Str)} {pp pp' : List (Str × List Str)} (hk : KeptOk s S pp) (hk' : KeptOk (⟨moreCh s.ch ms, s.ca⟩ : Sc).srt S' pp') {n : Str} (hn : n ∈ S.map (·.1)) : n ∈ S'.map (·.1) := by
  rw [kept_iff h.da hk] at hn
  rw [kept_iff' (more_ok h hd ms) hk']
  refine ⟨hn.1, ?_⟩
  have e : Ahead (⟨moreCh s.ch ms, s.ca⟩ : Sc) n = Ahead s n := rfl
  rw [e]
  refine Mt.Free.more (ms := ms) (cap := capOf s) (fun m => ?_) (fun q => q.2.1 rfl) hn.2
  unfold capOf
  dsimp only
  rw [lookup_more]
  cases hl : s.ch.lookup m with
  | none =>
    have : m ≠ ms := fun q => by
      obtain ⟨v, hv⟩ := lookup_of hms
      rw [← q, hl] at hv; cases hv
    simp [this]
  | some c =>
    have h1 := (h.nc _ (lookup_mem hl)).1
    dsimp only at h1
    simp only [Option.map_some]
    split
    · omega
    · simp
theorem without_lookup {ca : List (Str × Int × List Str)} {go x : Str} (hx : x ≠ go) : (without ca go).lookup x = ca.lookup x := by
  unfold without
  induction ca with
  | nil => rfl
  | cons p ca ih =>
    obtain ⟨k, c⟩ := p
    rw [List.filter_cons]
    by_cases e : k = go
    · have : (x == k) = false := by simpa using fun q => hx (q.trans e)
      simp only [e, decide_true, Bool.not_true, List.lookup_cons]
      rw [if_neg (by decide), ih]
      have : (x == go) = false := by simpa using hx
      rw [this]
    · simp only [e, decide_false, Bool.not_false, if_true, List.lookup_cons]
      split
      · rfl
      · exact ih
theorem without_keys {ca : List (Str × Int × List Str)} {go x : Str} : x ∈ (without ca go).map (·.1) ↔ x ∈ ca.map (·.1) ∧ x ≠ go := by
  unfold without
  simp only [List.mem_map, List.mem_filter, Bool.not_eq_true', decide_eq_false_iff_not]
  constructor
  · rintro ⟨p, ⟨h1, h2⟩, rfl⟩; exact ⟨⟨p, h1, rfl⟩, h2⟩
  · rintro ⟨⟨p, h1, rfl⟩, h2⟩; exact ⟨p, ⟨h1, h2⟩, rfl⟩
theorem fewer_ok {s : Sc} (h : ScOk s) (go : Str) : ScOk ⟨s.ch, without s.ca go⟩ := by
  have hm : ∀ p ∈ without s.ca go, p ∈ s.ca := fun p hp => (List.mem_filter.mp hp).1
  exact ⟨h.nm, h.nc, h.dm, fun p hp => h.na p (hm p hp), fun p hp => h.wo p (hm p hp), fun p hp => h.he p (hm p hp), fun p hp => h.hn p (hm p hp), h.da.sublist (List.filter_sublist.map _), h.lc, Nat.le_trans (List.length_filter_le _ _) h.la⟩
theorem stays_fewer {s : Sc} (h : ScOk s) {go : Str} {S S' : List (Str × Str)} {pp pp' : List (Str × List Str)} (hk : KeptOk s S pp) (hk' : KeptOk (⟨s.ch, without s.ca go⟩ : Sc).srt S' pp') {n : Str} (hn : n ∈ S.map (·.1)) (hng : n ≠ go) : n ∈ S'.map (·.1) := by
  rw [kept_iff h.da hk] at hn
  rw [kept_iff' (fewer_ok h go) hk']
  have hh : ∀ x, x ≠ go → heardOf (⟨s.ch, without s.ca go⟩ : Sc) x = heardOf s x := fun x hx => by unfold heardOf; dsimp only; rw [without_lookup hx]
  have hw : ∀ x, x ≠ go → woOf (⟨s.ch, without s.ca go⟩ : Sc) x = woOf s x := fun x hx => by unfold woOf; dsimp only; rw [without_lookup hx]
  refine ⟨without_keys.mpr ⟨hn.1, hng⟩, ?_⟩
  have ha : ∀ x, Ahead (⟨s.ch, without s.ca go⟩ : Sc) n x → x ≠ go ∧ Ahead s n x := fun x ⟨h1, h2, h3⟩ => by
    obtain ⟨h4, h5⟩ := without_keys.mp h1
    rw [hw x h5, hw n hng] at h3
    exact ⟨h5, h4, h2, h3⟩
  refine Mt.Free.heard (fun x hx m => by rw [hh x (ha x hx).1]) (fun m hm => by rw [hh n hng]; exact hm) (hn.2.less fun x hx => (ha x hx).2)
/-- one call is another one -/
theorem other_ok {s : Sc} (h : ScOk s) {go : Str} (hgo : go ∈ s.ca.map (·.1)) {w : Int} {hs : List Str} (hw : 0 ≤ w ∧ w ≤ 1000) (hh : ∀ x ∈ hs, x ∈ s.ch.map (·.1)) (hn : hs.Nodup) : ScOk ⟨s.ch, put s.ca go (w, hs)⟩ := by
  have hm : ∀ p ∈ put s.ca go (w, hs), p ∈ s.ca ∨ p = (go, w, hs) := fun p hp => by
    have hk := put_nodup h.da go (w, hs)
    have hl := lookup_nodup hk (x := p.1) (v := p.2) hp
    rw [lookup_put] at hl
    by_cases e : go = p.1
    · rw [if_pos e] at hl; right
      exact Prod.ext e.symm (Option.some.inj hl).symm
    · rw [if_neg e] at hl; exact .inl (lookup_mem hl)
  have hk : (put s.ca go (w, hs)).map (·.1) = s.ca.map (·.1) := by rw [put_keys, if_pos hgo]
  have hnm : isName go = true := by
    obtain ⟨p, hp, e⟩ := List.mem_map.mp hgo
    rw [← e]; exact h.na p hp
  refine ⟨h.nm, h.nc, h.dm, fun p hp => ?_, fun p hp => ?_, fun p hp => ?_, fun p hp => ?_, put_nodup h.da _ _, h.lc, ?_⟩
  · rcases hm p hp with q | rfl
    · exact h.na p q
    · exact hnm
  · rcases hm p hp with q | rfl
    · exact h.wo p q
    · exact hw
  · rcases hm p hp with q | rfl
    · exact h.he p q
    · exact hh
  · rcases hm p hp with q | rfl
    · exact h.hn p q
    · exact hn
  · have := congrArg List.length hk
    rw [List.length_map, List.length_map] at this
    show (put s.ca go (w, hs)).length ≤ 500
    rw [this]; exact h.la
theorem stays_other {s : Sc} (h : ScOk s) {go : Str} (hgo : go ∈ s.ca.map (·.1)) {w : Int} {hs : List Str} (ok : ScOk ⟨s.ch, put s.ca go (w, hs)⟩) (hw : woOf s go ≤ w) (hh : ∀ x ∈ heardOf s go, x ∈ hs) {S S' : List (Str × Str)} {pp pp' : List (Str × List Str)} (hk : KeptOk s S pp) (hk' : KeptOk (⟨s.ch, put s.ca go (w, hs)⟩ : Sc).srt S' pp') (hn : go ∈ S.map (·.1)) : go ∈ S'.map (·.1) := by
  rw [kept_iff h.da hk] at hn
  rw [kept_iff' ok hk']
  have hkk : (put s.ca go (w, hs)).map (·.1) = s.ca.map (·.1) := by rw [put_keys, if_pos hgo]
  have e1 : ∀ x, x ≠ go → heardOf (⟨s.ch, put s.ca go (w, hs)⟩ : Sc) x = heardOf s x := fun x hx => by unfold heardOf; dsimp only; rw [lookup_put, if_neg (Ne.symm hx)]
  have e2 : ∀ x, x ≠ go → woOf (⟨s.ch, put s.ca go (w, hs)⟩ : Sc) x = woOf s x := fun x hx => by unfold woOf; dsimp only; rw [lookup_put, if_neg (Ne.symm hx)]
  have e3 : heardOf (⟨s.ch, put s.ca go (w, hs)⟩ : Sc) go = hs := by unfold heardOf; dsimp only; rw [lookup_put, if_pos rfl]
  have e4 : woOf (⟨s.ch, put s.ca go (w, hs)⟩ : Sc) go = w := by unfold woOf; dsimp only; rw [lookup_put, if_pos rfl]
  refine ⟨by show go ∈ (put s.ca go (w, hs)).map (·.1); rw [hkk]; exact hgo, ?_⟩
  have ha : ∀ x, Ahead (⟨s.ch, put s.ca go (w, hs)⟩ : Sc) go x → Ahead s go x := fun x ⟨h1, h2, h3⟩ => by
    have h1' : x ∈ (put s.ca go (w, hs)).map (·.1) := h1
    rw [hkk] at h1'
    rw [e2 x h2, e4] at h3
    refine ⟨h1', h2, ?_⟩
    unfold isLe at h3 ⊢
    simp only [Bool.or_eq_true, Bool.and_eq_true, decide_eq_true_eq] at h3 ⊢
    rcases h3 with h3 | ⟨h3, h4⟩
    · left; omega
    · rcases Int.lt_or_eq_of_le hw with q | q
      · left; omega
      · right; exact ⟨by omega, h4⟩
  refine Mt.Free.heard (fun x hx m => by rw [e1 x hx.2.1]) (fun m hm => by rw [e3]; exact hh m hm) (hn.2.less ha)

end
end K20
namespace K20
open PySem PySem.Spec L2 Dp
section
variable {P : Program} {w : World} {K : PySem.W.Frag} {mg : Str → Option Value} {base : Heap} {d : Dat}
theorem seq_hide {t u : DTS} {R : DEnds} {Γ : DSt} {M : Mem} (h : ∀ u' : DTS, u' = u → dSeq t u' R Γ M) : dSeq t u R Γ M := h u rfl
theorem ifs_hide {c : DTT} {t u : DTS} {R : DEnds} {Γ : DSt} {M : Mem} (h : ∀ t' u' : DTS, t' = t → u' = u → dIfS c t' u' R Γ M) : dIfS c t u R Γ M := h t u rfl rfl
theorem Drw.mle {a : Addr} {M M' : Mem} (h : Drw M a) (l : MLe M M') : Drw M' a := by
  obtain ⟨xs, n, h1, h2⟩ := h
  exact ⟨xs, n, h1, l _ _ h2⟩
/-- a list display whose steps leave the memory alone -/
theorem lc_pure {xs : List D} {GM : Mem → Prop} {p : Pat} {tt : DTT} {te : DTE} {Γw : DSt} {M : Mem} {fin : Addr → List D → Mem → Prop} (A : Nat → List D) (h0 : A 0 = []) (hG : ∀ c M', M c = none → (∀ b, b ≠ c → M' b = M b) → GM M')
    (hs : ∀ c i x, M c = none → xs[i]? = some x → ∃ Γ2, patD p x Γw = some Γ2 ∧ ∀ (Q : D → Mem → Prop) (Q' : Mem → Prop), (∀ y, A (i + 1) = A i ++ [y] → Q y (mup M c (.lst (A i)))) → (A (i + 1) = A i → Q' (mup M c (.lst (A i)))) → tt Γ2 (mup M c (.lst (A i))) fun b M2 => if b = true then te Γ2 M2 Q else Q' M2)
    (hf : ∀ c, M c = none → fin c (A xs.length) (mup M c (.lst (A xs.length)))) : lcBody xs GM p tt te Γw M fin := fun c hc => by
  refine ⟨fun i acc M' => acc = A i ∧ M' = mup M c (.lst (A i)), ⟨h0.symm, by rw [h0]⟩, ?_, ?_, ?_⟩
  · rintro i acc M' hi ⟨rfl, rfl⟩
    exact ⟨hG c _ hc fun b hb => mup_ne hb, mup_same⟩
  · rintro i x acc M' hx ⟨rfl, rfl⟩
    obtain ⟨Γ2, e, h⟩ := hs c i x hc hx
    refine ⟨Γ2, e, h _ _ (fun y hy => ⟨mup_same, by rw [hy], by rw [hy, mup_mup]⟩) fun hy => ⟨hy.symm, by rw [hy]⟩⟩
  · rintro acc M' ⟨rfl, rfl⟩
    exact hf c hc
def Grow (c : Addr) (M M' : Mem) : Prop := ∀ b m, b ≠ c → M b = some m → M' b = some m
/-- any([..]) of tests that all answer False -/
theorem lc_any {xs : List D} {GM : Mem → Prop} {p : Pat} {tt : DTT} {te : DTE} {Γw : DSt} {M : Mem} {T U : Mem → Prop} (hG : ∀ M', MLe M M' → GM M')
    (hs : ∀ x ∈ xs, ∃ Γ2, patD p x Γw = some Γ2 ∧ ∀ M1 (Q : D → Mem → Prop) (Q' : Mem → Prop), (∃ c, M c = none ∧ Grow c M M1) → (∀ M2, MLe M1 M2 → Q (.bl false) M2) → (∀ M2, MLe M1 M2 → Q' M2) → tt Γ2 M1 fun b M2 => if b = true then te Γ2 M2 Q else Q' M2)
    (hf : ∀ M', MLe M M' → U M') : lcBody xs GM p tt te Γw M (fun a acc M' => match (some acc).bind blsOf with
      | some bs => if bs.any id = true then T (mdel M' a) else U (mdel M' a)
      | none => False) := fun c hc => by
  have le : ∀ {M' : Mem}, Grow c M M' → MLe M M' := fun h b m e => h b m (fun q => by rw [q, hc] at e; cases e) e
  refine ⟨fun i acc M' => (∃ n, acc = List.replicate n (.bl false)) ∧ M' c = some (.lst acc) ∧ Grow c M M', ⟨⟨0, rfl⟩, mup_same, fun b m hb e => by rw [mup_ne hb]; exact e⟩, ?_, ?_, ?_⟩
  · rintro i acc M' hi ⟨_, h, g⟩
    exact ⟨hG _ (le g), h⟩
  · rintro i x acc M' hx ⟨⟨n, rfl⟩, h, g⟩
    obtain ⟨Γ2, e, k⟩ := hs x (List.mem_of_getElem? hx)
    refine ⟨Γ2, e, k M' _ _ ⟨c, hc, g⟩ (fun M2 l2 => ⟨l2 _ _ h, ⟨⟨n + 1, ?_⟩, mup_same, fun b m hb eb => ?_⟩⟩) fun M2 l2 => ⟨⟨n, rfl⟩, l2 _ _ h, fun b m hb eb => l2 _ _ (g b m hb eb)⟩⟩
    · rw [List.replicate_succ']
    · rw [mup_ne hb]; exact l2 _ _ (g b m hb eb)
  · rintro acc M' ⟨⟨n, rfl⟩, h, g⟩
    have eb : blsOf (List.replicate n (D.bl false)) = some (List.replicate n false) := by
      clear h
      induction n with
      | zero => rfl
      | succ n ih => rw [List.replicate_succ, List.replicate_succ]; simp only [blsOf, ih]; rfl
    have ea : (List.replicate n false).any id = false := by
      simp [List.any_eq_false]
    rw [Option.bind_some, eb]
    dsimp only
    rw [ea, if_neg Bool.false_ne_true]
    refine hf _ fun b m e => ?_
    have hb : b ≠ c := fun q => by rw [q, hc] at e; cases e
    rw [mdel_ne hb]; exact g b m hb e
theorem scene_kept {s' : Sc} (h : ScOk s') {M : Mem} {Rk : D → Mem → Prop} (hR : ∀ M' S pp, KeptOk s'.srt S pp → MLe M M' → Rk (.tup ((ssort (S.map (·.1))).map .str)) M') :
    ∀ a, M a = none → sp_Scene_init d [.adr a, .dK (dChs s'), .dK (dCas d s')] (mup M a (.ins d.C_Scene [])) (fun d1 M2 => d1 = .non ∧ ∃ fs, M2 a = some (.ins d.C_Scene fs) ∧ sp_kept d [.ins d.C_Scene fs] (mdel M2 a) Rk noX) noX := fun a ha => by
  refine ⟨a, s', rfl, mup_same, h, rfl, _, mup_same, s'.srt, rfl, h.srt, fun M' S pp hk le => hR M' S pp hk fun b m e => le b m ?_⟩
  have hb : b ≠ a := fun q => by rw [q, ha] at e; cases e
  rw [mdel_ne hb, mup_ne hb, mup_ne hb]; exact e
theorem lot_in {S : List (Str × Str)} {x : Str} (h : x ∈ S.map (·.1)) {M : Mem} : inB M (.str x) (.tup ((ssort (S.map (·.1))).map .str)) = some true := by
  simp only [Dp.inB_tup, seqIn_strs, Option.some.injEq, decide_eq_true_eq]
  exact (ssort_perm _).mem_iff.mpr h
theorem prs_rows {α : Type} (l : List (Str × α)) (f : α → D) : prsOf (l.map fun p => .tup [.str p.1, f p.2]) = some (l.map fun p => ((Sum.inr p.1 : Sum Int Str), f p.2)) := by
  induction l with
  | nil => rfl
  | cons p l ih => simp only [List.map_cons, prsOf, Dp.keyOf, ih]
theorem nodup_rows {α : Type} {l : List (Str × α)} {f : α → D} (h : (l.map (·.1)).Nodup) : ((l.map fun p => ((Sum.inr p.1 : Sum Int Str), f p.2)).map (·.1)).Nodup := by
  have e : (l.map fun p => ((Sum.inr p.1 : Sum Int Str), f p.2)).map (·.1) = (l.map (·.1)).map Sum.inr := by rw [List.map_map, List.map_map]; rfl
  rw [e]
  exact h.map _ fun x y h => fun q => h (Sum.inr.inj q)
theorem all_inr {ks : List (Sum Int Str)} (h : ∀ k ∈ ks, ∃ x, k = Sum.inr x) : ∃ l : List Str, ks = l.map Sum.inr := by
  induction ks with
  | nil => exact ⟨[], rfl⟩
  | cons k ks ih =>
    obtain ⟨l, rfl⟩ := ih fun k' hk' => h k' (List.mem_cons_of_mem _ hk')
    obtain ⟨x, rfl⟩ := h k List.mem_cons_self
    exact ⟨x :: l, rfl⟩
theorem set_strs {ws : List Str} {ks' : List (Sum Int Str)} (p : ks'.Perm (dedup (ws.map Sum.inr))) : ∃ l : List Str, ks' = l.map Sum.inr ∧ l.Nodup ∧ ∀ x, x ∈ l ↔ x ∈ ws := by
  have hm : ∀ k, k ∈ ks' ↔ k ∈ ws.map (Sum.inr : Str → Sum Int Str) := fun k => p.mem_iff.trans dedup_mem
  obtain ⟨l, rfl⟩ := all_inr (ks := ks') fun k hk => by
    obtain ⟨x, _, e⟩ := List.mem_map.mp ((hm k).mp hk)
    exact ⟨x, e.symm⟩
  refine ⟨l, rfl, ?_, fun x => ?_⟩
  · have := p.nodup_iff.mpr (dedup_nodup _)
    exact (List.pairwise_map.mp this).imp fun h q => h (by rw [q])
  · have := hm (Sum.inr x)
    constructor
    · intro hx
      obtain ⟨y, hy, e⟩ := List.mem_map.mp (this.mp (List.mem_map_of_mem hx))
      cases e; exact hy
    · intro hx
      obtain ⟨y, hy, e⟩ := List.mem_map.mp (this.mpr (List.mem_map_of_mem hx))
      cases e; exact hy
/-- the drawn lots that are seatable -/
def LotsOk (s : Sc) (L : List (List Str)) : Prop := ∀ l ∈ L, l.Nodup ∧ (∀ x ∈ l, x ∈ s.ca.map (·.1)) ∧ ∃ S at_ bs, ARun s l S at_ bs ∧ bs.all id = true
def dLots (L : List (List Str)) : List D := L.map fun l => .lst (l.map .str)
abbrev sp_law (_ : Dat) : DSp := spLawD
set_option maxHeartbeats 8000000 in
theorem ok_law (T : Tx K mg d) : FnOk P w K mg base (L2.CX P w) 8 d.f_law d.d_law ["_law_script"] (LSp K (sp_law d)) := by
  have G_law_scene := ok_law_scene (P := P) (w := w) (base := base) T
  have G_law_pick := ok_law_pick (P := P) (w := w) (base := base) T
  have G_kept := ok_kept (P := P) (w := w) (base := base) T
  have G_Call_init := ok_Call_init (P := P) (w := w) (base := base) T
  have G_is_seatable := ok_is_seatable (P := P) (w := w) (base := base) T
  have G_Scene_init := ok_Scene_init (P := P) (w := w) (base := base) T
  have G_law_take := ok_law_take (P := P) (w := w) (base := base) T
  refine dfn_ok (k := 7) T.F_law sc_law (fun ds M R RX h => ?_) (by decide) fun cdv A outer s0 H0 E0 B ds M R RX hr fx h => ?_
  · obtain ⟨xs, rfl, hl, hM, hR⟩ := h; rfl
  obtain ⟨xs, rfl, hl, hM, hR⟩ := h
  have nd := sc_law.nd
  refine ⟨_, (dss_cons (ds_set (i := 1) nd rfl (Or.inr rfl) (de_lstM (da_cons (nv 0) (da_cons de_int da_nil)))) (dss_cons (ds_set (i := 2) nd rfl (Or.inr rfl) (de_call G_law_scene (hr.mono (by decide)) (by rfl) T.m_law_scene T.F_law_scene.kp T.B_law_scene (da_cons (nv 1) (da_cons de_int (da_cons de_int da_nil))))) (dss_cons (ds_asg (de_tup (da_cons (de_call G_kept (hr.mono (by decide)) (by rfl) T.m_kept T.F_kept.kp T.B_kept (da_cons (nv 2) da_nil)) (da_cons (de_fld (nv 2)) da_nil))) (dg_tup rfl (dgs_cons (dg_name (i := 3) nd rfl (Or.inl rfl)) (dgs_cons (dg_name (i := 4) nd rfl (Or.inr rfl)) dgs_nil)))) (dss_cons (ds_set (i := 5) nd rfl (Or.inr rfl) (de_call G_law_pick (hr.mono (by decide)) (by rfl) T.m_law_pick T.F_law_pick.kp T.B_law_pick (da_cons (nv 1) (da_cons (de_callTy (cr_listAll rfl) (l_list true) (by rfl) T.n_list (by rfl) (da_cons (de_fld (nv 2)) da_nil)) da_nil)))) (dss_cons (ds_set (i := 6) nd rfl (Or.inr rfl) (de_callTy (call_dictP rfl) (l_dictP true) (by rfl) T.n_dict (by rfl) (da_cons (de_lc (fz := true) (own := [("_law_one", 14), ("_law_many", 16)]) rfl nd (di_items (de_fld (nv 2))) (blkOk_by (N := N_law) (sc := defScope s_law) (own := [("_law_one", 14), ("_law_many", 16)]) (by decide +kernel)) (by decide) (fun _ _ _ _ _ => (pp_tup rfl (pps_cons (pp_name (i := 14) nd rfl (Or.inl rfl)) (pps_cons (pp_name (i := 16) nd rfl (Or.inl rfl)) pps_nil)))) (fun _ _ _ _ _ => dts_nil) (fun _ _ _ _ _ => (de_tup (da_cons (nv 14) (da_cons (de_add (nv 16) (de_callTy (call_int1.or call_int_str) l_int1 (by rfl) T.n_int (by rfl) (da_cons (de_eq (hu64 hr) (nv 14) (nv 5)) da_nil))) da_nil))))) da_nil))) (dss_cons (ds_if (dt_val (de_callB (cr_any rfl) l_any (by rfl) T.n_any (by rfl) (da_cons (de_lc (fz := true) (own := [("_law_name", 17)]) rfl nd (di_any (nv 3)) (blkOk_by (N := N_law) (sc := defScope s_law) (own := [("_law_name", 17)]) (by decide +kernel)) (by decide) (fun _ _ _ _ _ => (pp_name (i := 17) nd rfl (Or.inl rfl))) (fun _ _ _ _ _ => dts_nil) (fun _ _ _ _ _ => (de_notin (hu65 hr) (nv 17) (de_call G_kept (hr.mono (by decide)) (by rfl) T.m_kept T.F_kept.kp T.B_kept (da_cons (de_makeF T.k_Scene G_Scene_init (hr.mono (by decide)) (by rfl) T.m_Scene T.B_Scene_init (da_cons (nv 6) (da_cons (nv 4) da_nil))) da_nil))))) da_nil))) (dss_one (ds_ret de_bl)) dss_nil) (dss_cons (ds_if (dt_neK (hu65 hr) (nv 4) (de_newF)) (dss_cons (ds_set (i := 7) nd rfl (Or.inr rfl) (de_call G_law_pick (hr.mono (by decide)) (by rfl) T.m_law_pick T.F_law_pick.kp T.B_law_pick (da_cons (nv 1) (da_cons (de_callTy (cr_listAll rfl) (l_list true) (by rfl) T.n_list (by rfl) (da_cons (nv 4) da_nil)) da_nil)))) (dss_cons (ds_set (i := 8) nd rfl (Or.inr rfl) (de_callTy (call_dictP rfl) (l_dictP true) (by rfl) T.n_dict (by rfl) (da_cons (de_lc (fz := true) (own := [("_law_name", 17), ("_law_call", 18)]) rfl nd (di_items (nv 4)) (blkOk_by (N := N_law) (sc := defScope s_law) (own := [("_law_name", 17), ("_law_call", 18)]) (by decide +kernel)) (by decide) (fun _ _ _ _ _ => (pp_tup rfl (pps_cons (pp_name (i := 17) nd rfl (Or.inl rfl)) (pps_cons (pp_name (i := 18) nd rfl (Or.inl rfl)) pps_nil)))) (fun _ _ _ _ _ => (dts_one (dt_ne (hu64 hr) (nv 17) (nv 7)))) (fun _ _ _ _ _ => (de_tup (da_cons (nv 17) (da_cons (nv 18) da_nil))))) da_nil))) (dss_cons (ds_if (dt_val (de_callB (cr_any rfl) l_any (by rfl) T.n_any (by rfl) (da_cons (de_lc (fz := true) (own := [("_law_name", 17)]) rfl nd (di_any (nv 3)) (blkOk_by (N := N_law) (sc := defScope s_law) (own := [("_law_name", 17)]) (by decide +kernel)) (by decide) (fun _ _ _ _ _ => (pp_name (i := 17) nd rfl (Or.inl rfl))) (fun _ _ _ _ _ => (dts_one (dt_ne (hu64 hr) (nv 17) (nv 7)))) (fun _ _ _ _ _ => (de_notin (hu65 hr) (nv 17) (de_call G_kept (hr.mono (by decide)) (by rfl) T.m_kept T.F_kept.kp T.B_kept (da_cons (de_makeF T.k_Scene G_Scene_init (hr.mono (by decide)) (by rfl) T.m_Scene T.B_Scene_init (da_cons (de_fld (nv 2)) (da_cons (nv 8) da_nil))) da_nil))))) da_nil))) (dss_one (ds_ret de_bl)) dss_nil) (dss_cons (ds_set (i := 9) nd rfl (Or.inl rfl) (de_callTy call_dictD (l_dictD false) (by rfl) T.n_dict (by rfl) (da_cons (nv 4) da_nil))) (dss_cons (ds_put (hu1 hr) (nv 9) (nv 7) (de_makeF T.k_Call G_Call_init (hr.mono (by decide)) (by rfl) T.m_Call T.B_Call_init (da_cons (de_add (de_fld (de_ix (hu1 hr) (nv 4) (nv 7))) de_int) (da_cons (de_fld (de_ix (hu1 hr) (nv 4) (nv 7))) da_nil)))) (dss_cons (ds_if (dt_w (dw_and (dt_in (hu65 hr) (nv 7) (nv 3)) (dw_and1 (dt_notin (hu65 hr) (nv 7) (de_call G_kept (hr.mono (by decide)) (by rfl) T.m_kept T.F_kept.kp T.B_kept (da_cons (de_makeF T.k_Scene G_Scene_init (hr.mono (by decide)) (by rfl) T.m_Scene T.B_Scene_init (da_cons (de_fld (nv 2)) (da_cons (de_frz (nv 9)) da_nil))) da_nil)))))) (dss_one (ds_ret de_bl)) dss_nil) (dss_cons (ds_set (i := 10) nd rfl (Or.inl rfl) (de_callTy call_dictD (l_dictD false) (by rfl) T.n_dict (by rfl) (da_cons (nv 4) da_nil))) (dss_cons (ds_put (hu1 hr) (nv 10) (nv 7) (de_makeF T.k_Call G_Call_init (hr.mono (by decide)) (by rfl) T.m_Call T.B_Call_init (da_cons (de_fld (de_ix (hu1 hr) (nv 4) (nv 7))) (da_cons (de_sortSet (hu64 hr) rfl (by rfl) T.n_sorted (by rfl) T.n_set (de_add (de_callTy (cr_listAll rfl) (l_list true) (by rfl) T.n_list (by rfl) (da_cons (de_fld (de_ix (hu1 hr) (nv 4) (nv 7))) da_nil)) (de_lst (da_cons (nv 5) da_nil)))) da_nil)))) (dss_one (ds_if (dt_w (dw_and (dt_in (hu65 hr) (nv 7) (nv 3)) (dw_and1 (dt_notin (hu65 hr) (nv 7) (de_call G_kept (hr.mono (by decide)) (by rfl) T.m_kept T.F_kept.kp T.B_kept (da_cons (de_makeF T.k_Scene G_Scene_init (hr.mono (by decide)) (by rfl) T.m_Scene T.B_Scene_init (da_cons (de_fld (nv 2)) (da_cons (de_frz (nv 10)) da_nil))) da_nil)))))) (dss_one (ds_ret de_bl)) dss_nil)))))))))) dss_nil) (dss_cons (ds_set (i := 11) nd rfl (Or.inl rfl) (de_lstM da_nil)) (dss_cons (ds_for (passes_of rfl) rfl (di_range1 (by rfl) T.n_range (da_cons de_int da_nil)) (pp_name (i := 12) nd rfl (Or.inl rfl)) (dss_cons (ds_setLc (fz := true) (i := 13) (own := [("_law_name", 17)]) rfl nd rfl rfl (sw_true rfl rfl rfl (by decide +kernel)) (di_any (nv 4)) (blkOk_by (N := N_law) (sc := defScope s_law) (own := [("_law_name", 17)]) (by decide +kernel)) (by decide) (fun _ _ _ _ _ => (pp_name (i := 17) nd rfl (Or.inl rfl))) (fun _ _ _ _ _ => (dts_one (dt_eq (hu64 hr) (de_call G_law_take (hr.mono (by decide)) (by rfl) T.m_law_take T.F_law_take.kp T.B_law_take (da_cons (nv 1) (da_cons de_int da_nil))) de_int))) (fun _ _ _ _ _ => (nv 17))) (dss_one (ds_if (dt_val (de_call G_is_seatable (hr.mono (by decide)) (by rfl) T.m_is_seatable T.F_is_seatable.kp T.B_is_seatable (da_cons (nv 2) (da_cons (nv 13) da_nil)))) (dss_one (ds_expr (de_app (nv 11) (nv 13)))) dss_nil)))) (dss_cons (ds_for (passes_of rfl) rfl (di_any (nv 11)) (pp_name (i := 14) nd rfl (Or.inr rfl)) (dss_one (ds_for (passes_of rfl) rfl (di_any (nv 11)) (pp_name (i := 15) nd rfl (Or.inl rfl)) (dss_one (ds_if (dt_w (dw_and (dt_lt (de_callB cr_lenAll l_len (by rfl) T.n_len (by rfl) (da_cons (nv 14) da_nil)) (de_callB cr_lenAll l_len (by rfl) T.n_len (by rfl) (da_cons (nv 15) da_nil))) (dw_and1 (dt_not (dt_val (de_callB (cr_any rfl) l_any (by rfl) T.n_any (by rfl) (da_cons (de_lc (fz := true) (own := [("_law_name", 17)]) rfl nd (di_any (nv 15)) (blkOk_by (N := N_law) (sc := defScope s_law) (own := [("_law_name", 17)]) (by decide +kernel)) (by decide) (fun _ _ _ _ _ => (pp_name (i := 17) nd rfl (Or.inl rfl))) (fun _ _ _ _ _ => (dts_one (dt_notin (hu65 hr) (nv 17) (nv 14)))) (fun _ _ _ _ _ => (de_call G_is_seatable (hr.mono (by decide)) (by rfl) T.m_is_seatable T.F_is_seatable.kp T.B_is_seatable (da_cons (nv 2) (da_cons (de_add (nv 14) (de_lst (da_cons (nv 17) da_nil))) da_nil))))) da_nil))))))) (dss_one (ds_ret de_bl)) dss_nil))))) (dss_one (ds_ret de_bl)))))))))))), ?_⟩
  refine seq_hide fun u1 e1 => ?_
  simp only [Dp.dSeq, Dp.dAsg, Dp.dgN, Dp.dVar, Dp.dC, Dp.dUn, Dp.dOp, Dp.dFld, Dp.dTst, Dp.dAnd, Dp.dOr, Dp.dNot, Dp.dAndV, Dp.dOrV, Dp.dNotV, Dp.dIf, Dp.dIfS, Dp.dRet, Dp.dRetN, Dp.dExpr, Dp.dPar, Dp.dPar3, Dp.dNext, Dp.dNever, Dp.dBrk, Dp.dCont, Dp.dgTup, Dp.dgCons, Dp.dgNil, Dp.dCall, Dp.dCons, Dp.dNil, Dp.dTup, Dp.dLst, Dp.dLstM, Dp.dNewK, Dp.dCallF, Dp.dMethF, Dp.dMake, Dp.dMakeF, Dp.dFldS, Dp.dPut, Dp.dBM, Dp.dGet1, Dp.dGet2, Dp.dPop1, Dp.dPop2, Dp.dStar, Dp.dIx, Dp.dAdd, Dp.dSub, Dp.dMul, Dp.dMod, Dp.dFdiv, Dp.dPow, Dp.dNeg, Dp.dAugN, Dp.dAugS, Dp.dAugF, Dp.dAugI, Dp.dLtS, Dp.dLe, Dp.dGt, Dp.dGe, Dp.dOrd, Dp.dBetween, Dp.dIsN, Dp.dEq, Dp.dEqK, Dp.dIn, Dp.dstart, List.map_cons, List.map_nil, List.length_cons, List.length_nil, List.cons_append, List.nil_append, List.replicate, List.getElem?_cons_zero, List.getElem?_cons_succ, List.set_cons_zero, List.set_cons_succ, Nat.reduceAdd, Nat.reduceSub, if_true, if_false, Bool.false_eq_true, Bool.not_true, Bool.not_false, Dp.v_non, Dp.v_bl, Dp.v_int, Dp.v_str, Dp.v_tup, Dp.v_lst, Dp.v_kls, Dp.v_dK, Dp.v_dT, Dp.v_ins, Dp.f_ins, Dp.da_dKs, Dp.da_dKi, Dp.ix_dKs, Dp.ix_dKi, Dp.ix_lst, Dp.ix_tup, Dp.ix_kls, Dp.lo_lst, Dp.lo_kls, Dp.io_lst, Dp.io_tup, Dp.io_kls, Dp.ki_lst, Dp.ki_tup, Dp.ki_dK, Dp.dd_dK, Dp.e_ii, Dp.e_ss, Dp.e_bb, Dp.inB_dK, Dp.inB_tup, Dp.inB_lst, Dp.dLen, Dp.dAbs, Dp.dInt1, Dp.dStr1, Dp.dIsi, Dp.dListOf, Dp.dTupOf, Dp.dSum, Dp.dAny, Dp.dAll, Dp.dSorted, Dp.dDictP, Dp.dDictD, Dp.dSortMet, Dp.dLenSet, Dp.dSortSet, Dp.dmApp, Dp.dmExt, Dp.dmPop, Dp.dmPopAt, Dp.dmRem, Dp.dmIdx, Dp.dSet, Dp.intOf, Dp.keyOf, Dp.dwipe, Dp.patD, Dp.patDs, Dp.ln_lst, Dp.ln_tup, Dp.ln_kls, Dp.ln_dK, Dp.dFor, Dp.dLc, Dp.dDc, Dp.dLc2, Dp.srcOf, Dp.dFrz, lk_Seats_scene, pa_Seats_scene, pt_Seats_scene, lk_Seats_seating, pa_Seats_seating, pt_Seats_seating, lk_Seats_seated, pa_Seats_seated, pt_Seats_seated, lk_Kept_lot, pa_Kept_lot, pt_Kept_lot, lk_Kept_seating, pa_Kept_seating, pt_Kept_seating, lk_Kept_papers, pa_Kept_papers, pt_Kept_papers, lk_Call_worth, pa_Call_worth, pt_Call_worth, lk_Call_heard, pa_Call_heard, pt_Call_heard, lk_Scene_channels, pa_Scene_channels, pt_Scene_channels, lk_Scene_calls, pa_Scene_calls, pt_Scene_calls]
  refine ⟨by decide, fun da hda => ?_⟩
  subst e1
  refine seq_hide fun u2 e2 => ?_
  simp only [Dp.dSeq, Dp.dAsg, Dp.dgN, Dp.dVar, Dp.dC, Dp.dUn, Dp.dOp, Dp.dFld, Dp.dTst, Dp.dAnd, Dp.dOr, Dp.dNot, Dp.dAndV, Dp.dOrV, Dp.dNotV, Dp.dIf, Dp.dIfS, Dp.dRet, Dp.dRetN, Dp.dExpr, Dp.dPar, Dp.dPar3, Dp.dNext, Dp.dNever, Dp.dBrk, Dp.dCont, Dp.dgTup, Dp.dgCons, Dp.dgNil, Dp.dCall, Dp.dCons, Dp.dNil, Dp.dTup, Dp.dLst, Dp.dLstM, Dp.dNewK, Dp.dCallF, Dp.dMethF, Dp.dMake, Dp.dMakeF, Dp.dFldS, Dp.dPut, Dp.dBM, Dp.dGet1, Dp.dGet2, Dp.dPop1, Dp.dPop2, Dp.dStar, Dp.dIx, Dp.dAdd, Dp.dSub, Dp.dMul, Dp.dMod, Dp.dFdiv, Dp.dPow, Dp.dNeg, Dp.dAugN, Dp.dAugS, Dp.dAugF, Dp.dAugI, Dp.dLtS, Dp.dLe, Dp.dGt, Dp.dGe, Dp.dOrd, Dp.dBetween, Dp.dIsN, Dp.dEq, Dp.dEqK, Dp.dIn, Dp.dstart, List.map_cons, List.map_nil, List.length_cons, List.length_nil, List.cons_append, List.nil_append, List.replicate, List.getElem?_cons_zero, List.getElem?_cons_succ, List.set_cons_zero, List.set_cons_succ, Nat.reduceAdd, Nat.reduceSub, if_true, if_false, Bool.false_eq_true, Bool.not_true, Bool.not_false, Dp.v_non, Dp.v_bl, Dp.v_int, Dp.v_str, Dp.v_tup, Dp.v_lst, Dp.v_kls, Dp.v_dK, Dp.v_dT, Dp.v_ins, Dp.f_ins, Dp.da_dKs, Dp.da_dKi, Dp.ix_dKs, Dp.ix_dKi, Dp.ix_lst, Dp.ix_tup, Dp.ix_kls, Dp.lo_lst, Dp.lo_kls, Dp.io_lst, Dp.io_tup, Dp.io_kls, Dp.ki_lst, Dp.ki_tup, Dp.ki_dK, Dp.dd_dK, Dp.e_ii, Dp.e_ss, Dp.e_bb, Dp.inB_dK, Dp.inB_tup, Dp.inB_lst, Dp.dLen, Dp.dAbs, Dp.dInt1, Dp.dStr1, Dp.dIsi, Dp.dListOf, Dp.dTupOf, Dp.dSum, Dp.dAny, Dp.dAll, Dp.dSorted, Dp.dDictP, Dp.dDictD, Dp.dSortMet, Dp.dLenSet, Dp.dSortSet, Dp.dmApp, Dp.dmExt, Dp.dmPop, Dp.dmPopAt, Dp.dmRem, Dp.dmIdx, Dp.dSet, Dp.intOf, Dp.keyOf, Dp.dwipe, Dp.patD, Dp.patDs, Dp.ln_lst, Dp.ln_tup, Dp.ln_kls, Dp.ln_dK, Dp.dFor, Dp.dLc, Dp.dDc, Dp.dLc2, Dp.srcOf, Dp.dFrz, lk_Seats_scene, pa_Seats_scene, pt_Seats_scene, lk_Seats_seating, pa_Seats_seating, pt_Seats_seating, lk_Seats_seated, pa_Seats_seated, pt_Seats_seated, lk_Kept_lot, pa_Kept_lot, pt_Kept_lot, lk_Kept_seating, pa_Kept_seating, pt_Kept_seating, lk_Kept_papers, pa_Kept_papers, pt_Kept_papers, lk_Call_worth, pa_Call_worth, pt_Call_worth, lk_Call_heard, pa_Call_heard, pt_Call_heard, lk_Scene_channels, pa_Scene_channels, pt_Scene_channels, lk_Scene_calls, pa_Scene_calls, pt_Scene_calls]
  refine ⟨da, 4, 7, rfl, by decide, by decide, by decide, ⟨xs, 0, hl, mup_same⟩, fun s M1 hs hs1 hdr hD1 ho1 => ?_⟩
  subst e2
  refine seq_hide fun u3 e3 => ?_
  simp only [Dp.dSeq, Dp.dAsg, Dp.dgN, Dp.dVar, Dp.dC, Dp.dUn, Dp.dOp, Dp.dFld, Dp.dTst, Dp.dAnd, Dp.dOr, Dp.dNot, Dp.dAndV, Dp.dOrV, Dp.dNotV, Dp.dIf, Dp.dIfS, Dp.dRet, Dp.dRetN, Dp.dExpr, Dp.dPar, Dp.dPar3, Dp.dNext, Dp.dNever, Dp.dBrk, Dp.dCont, Dp.dgTup, Dp.dgCons, Dp.dgNil, Dp.dCall, Dp.dCons, Dp.dNil, Dp.dTup, Dp.dLst, Dp.dLstM, Dp.dNewK, Dp.dCallF, Dp.dMethF, Dp.dMake, Dp.dMakeF, Dp.dFldS, Dp.dPut, Dp.dBM, Dp.dGet1, Dp.dGet2, Dp.dPop1, Dp.dPop2, Dp.dStar, Dp.dIx, Dp.dAdd, Dp.dSub, Dp.dMul, Dp.dMod, Dp.dFdiv, Dp.dPow, Dp.dNeg, Dp.dAugN, Dp.dAugS, Dp.dAugF, Dp.dAugI, Dp.dLtS, Dp.dLe, Dp.dGt, Dp.dGe, Dp.dOrd, Dp.dBetween, Dp.dIsN, Dp.dEq, Dp.dEqK, Dp.dIn, Dp.dstart, List.map_cons, List.map_nil, List.length_cons, List.length_nil, List.cons_append, List.nil_append, List.replicate, List.getElem?_cons_zero, List.getElem?_cons_succ, List.set_cons_zero, List.set_cons_succ, Nat.reduceAdd, Nat.reduceSub, if_true, if_false, Bool.false_eq_true, Bool.not_true, Bool.not_false, Dp.v_non, Dp.v_bl, Dp.v_int, Dp.v_str, Dp.v_tup, Dp.v_lst, Dp.v_kls, Dp.v_dK, Dp.v_dT, Dp.v_ins, Dp.f_ins, Dp.da_dKs, Dp.da_dKi, Dp.ix_dKs, Dp.ix_dKi, Dp.ix_lst, Dp.ix_tup, Dp.ix_kls, Dp.lo_lst, Dp.lo_kls, Dp.io_lst, Dp.io_tup, Dp.io_kls, Dp.ki_lst, Dp.ki_tup, Dp.ki_dK, Dp.dd_dK, Dp.e_ii, Dp.e_ss, Dp.e_bb, Dp.inB_dK, Dp.inB_tup, Dp.inB_lst, Dp.dLen, Dp.dAbs, Dp.dInt1, Dp.dStr1, Dp.dIsi, Dp.dListOf, Dp.dTupOf, Dp.dSum, Dp.dAny, Dp.dAll, Dp.dSorted, Dp.dDictP, Dp.dDictD, Dp.dSortMet, Dp.dLenSet, Dp.dSortSet, Dp.dmApp, Dp.dmExt, Dp.dmPop, Dp.dmPopAt, Dp.dmRem, Dp.dmIdx, Dp.dSet, Dp.intOf, Dp.keyOf, Dp.dwipe, Dp.patD, Dp.patDs, Dp.ln_lst, Dp.ln_tup, Dp.ln_kls, Dp.ln_dK, Dp.dFor, Dp.dLc, Dp.dDc, Dp.dLc2, Dp.srcOf, Dp.dFrz, lk_Seats_scene, pa_Seats_scene, pt_Seats_scene, lk_Seats_seating, pa_Seats_seating, pt_Seats_seating, lk_Seats_seated, pa_Seats_seated, pt_Seats_seated, lk_Kept_lot, pa_Kept_lot, pt_Kept_lot, lk_Kept_seating, pa_Kept_seating, pt_Kept_seating, lk_Kept_papers, pa_Kept_papers, pt_Kept_papers, lk_Call_worth, pa_Call_worth, pt_Call_worth, lk_Call_heard, pa_Call_heard, pt_Call_heard, lk_Scene_channels, pa_Scene_channels, pt_Scene_channels, lk_Scene_calls, pa_Scene_calls, pt_Scene_calls]
  refine ⟨s, rfl, hs, fun M2 S pp hk le2 => ?_⟩
  simp only [Dp.dSeq, Dp.dAsg, Dp.dgN, Dp.dVar, Dp.dC, Dp.dUn, Dp.dOp, Dp.dFld, Dp.dTst, Dp.dAnd, Dp.dOr, Dp.dNot, Dp.dAndV, Dp.dOrV, Dp.dNotV, Dp.dIf, Dp.dIfS, Dp.dRet, Dp.dRetN, Dp.dExpr, Dp.dPar, Dp.dPar3, Dp.dNext, Dp.dNever, Dp.dBrk, Dp.dCont, Dp.dgTup, Dp.dgCons, Dp.dgNil, Dp.dCall, Dp.dCons, Dp.dNil, Dp.dTup, Dp.dLst, Dp.dLstM, Dp.dNewK, Dp.dCallF, Dp.dMethF, Dp.dMake, Dp.dMakeF, Dp.dFldS, Dp.dPut, Dp.dBM, Dp.dGet1, Dp.dGet2, Dp.dPop1, Dp.dPop2, Dp.dStar, Dp.dIx, Dp.dAdd, Dp.dSub, Dp.dMul, Dp.dMod, Dp.dFdiv, Dp.dPow, Dp.dNeg, Dp.dAugN, Dp.dAugS, Dp.dAugF, Dp.dAugI, Dp.dLtS, Dp.dLe, Dp.dGt, Dp.dGe, Dp.dOrd, Dp.dBetween, Dp.dIsN, Dp.dEq, Dp.dEqK, Dp.dIn, Dp.dstart, List.map_cons, List.map_nil, List.length_cons, List.length_nil, List.cons_append, List.nil_append, List.replicate, List.getElem?_cons_zero, List.getElem?_cons_succ, List.set_cons_zero, List.set_cons_succ, Nat.reduceAdd, Nat.reduceSub, if_true, if_false, Bool.false_eq_true, Bool.not_true, Bool.not_false, Dp.v_non, Dp.v_bl, Dp.v_int, Dp.v_str, Dp.v_tup, Dp.v_lst, Dp.v_kls, Dp.v_dK, Dp.v_dT, Dp.v_ins, Dp.f_ins, Dp.da_dKs, Dp.da_dKi, Dp.ix_dKs, Dp.ix_dKi, Dp.ix_lst, Dp.ix_tup, Dp.ix_kls, Dp.lo_lst, Dp.lo_kls, Dp.io_lst, Dp.io_tup, Dp.io_kls, Dp.ki_lst, Dp.ki_tup, Dp.ki_dK, Dp.dd_dK, Dp.e_ii, Dp.e_ss, Dp.e_bb, Dp.inB_dK, Dp.inB_tup, Dp.inB_lst, Dp.dLen, Dp.dAbs, Dp.dInt1, Dp.dStr1, Dp.dIsi, Dp.dListOf, Dp.dTupOf, Dp.dSum, Dp.dAny, Dp.dAll, Dp.dSorted, Dp.dDictP, Dp.dDictD, Dp.dSortMet, Dp.dLenSet, Dp.dSortSet, Dp.dmApp, Dp.dmExt, Dp.dmPop, Dp.dmPopAt, Dp.dmRem, Dp.dmIdx, Dp.dSet, Dp.intOf, Dp.keyOf, Dp.dwipe, Dp.patD, Dp.patDs, Dp.ln_lst, Dp.ln_tup, Dp.ln_kls, Dp.ln_dK, Dp.dFor, Dp.dLc, Dp.dDc, Dp.dLc2, Dp.srcOf, Dp.dFrz, lk_Seats_scene, pa_Seats_scene, pt_Seats_scene, lk_Seats_seating, pa_Seats_seating, pt_Seats_seating, lk_Seats_seated, pa_Seats_seated, pt_Seats_seated, lk_Kept_lot, pa_Kept_lot, pt_Kept_lot, lk_Kept_seating, pa_Kept_seating, pt_Kept_seating, lk_Kept_papers, pa_Kept_papers, pt_Kept_papers, lk_Call_worth, pa_Call_worth, pt_Call_worth, lk_Call_heard, pa_Call_heard, pt_Call_heard, lk_Scene_channels, pa_Scene_channels, pt_Scene_channels, lk_Scene_calls, pa_Scene_calls, pt_Scene_calls, dScn]
  have hD2 := hD1.mle le2
  subst e3
  refine ⟨by decide, rfl, trivial, ?_⟩
  refine seq_hide fun u4 e4 => ?_
  simp only [Dp.dSeq, Dp.dAsg, Dp.dgN, Dp.dVar, Dp.dC, Dp.dUn, Dp.dOp, Dp.dFld, Dp.dTst, Dp.dAnd, Dp.dOr, Dp.dNot, Dp.dAndV, Dp.dOrV, Dp.dNotV, Dp.dIf, Dp.dIfS, Dp.dRet, Dp.dRetN, Dp.dExpr, Dp.dPar, Dp.dPar3, Dp.dNext, Dp.dNever, Dp.dBrk, Dp.dCont, Dp.dgTup, Dp.dgCons, Dp.dgNil, Dp.dCall, Dp.dCons, Dp.dNil, Dp.dTup, Dp.dLst, Dp.dLstM, Dp.dNewK, Dp.dCallF, Dp.dMethF, Dp.dMake, Dp.dMakeF, Dp.dFldS, Dp.dPut, Dp.dBM, Dp.dGet1, Dp.dGet2, Dp.dPop1, Dp.dPop2, Dp.dStar, Dp.dIx, Dp.dAdd, Dp.dSub, Dp.dMul, Dp.dMod, Dp.dFdiv, Dp.dPow, Dp.dNeg, Dp.dAugN, Dp.dAugS, Dp.dAugF, Dp.dAugI, Dp.dLtS, Dp.dLe, Dp.dGt, Dp.dGe, Dp.dOrd, Dp.dBetween, Dp.dIsN, Dp.dEq, Dp.dEqK, Dp.dIn, Dp.dstart, List.map_cons, List.map_nil, List.length_cons, List.length_nil, List.cons_append, List.nil_append, List.replicate, List.getElem?_cons_zero, List.getElem?_cons_succ, List.set_cons_zero, List.set_cons_succ, Nat.reduceAdd, Nat.reduceSub, if_true, if_false, Bool.false_eq_true, Bool.not_true, Bool.not_false, Dp.v_non, Dp.v_bl, Dp.v_int, Dp.v_str, Dp.v_tup, Dp.v_lst, Dp.v_kls, Dp.v_dK, Dp.v_dT, Dp.v_ins, Dp.f_ins, Dp.da_dKs, Dp.da_dKi, Dp.ix_dKs, Dp.ix_dKi, Dp.ix_lst, Dp.ix_tup, Dp.ix_kls, Dp.lo_lst, Dp.lo_kls, Dp.io_lst, Dp.io_tup, Dp.io_kls, Dp.ki_lst, Dp.ki_tup, Dp.ki_dK, Dp.dd_dK, Dp.e_ii, Dp.e_ss, Dp.e_bb, Dp.inB_dK, Dp.inB_tup, Dp.inB_lst, Dp.dLen, Dp.dAbs, Dp.dInt1, Dp.dStr1, Dp.dIsi, Dp.dListOf, Dp.dTupOf, Dp.dSum, Dp.dAny, Dp.dAll, Dp.dSorted, Dp.dDictP, Dp.dDictD, Dp.dSortMet, Dp.dLenSet, Dp.dSortSet, Dp.dmApp, Dp.dmExt, Dp.dmPop, Dp.dmPopAt, Dp.dmRem, Dp.dmIdx, Dp.dSet, Dp.intOf, Dp.keyOf, Dp.dwipe, Dp.patD, Dp.patDs, Dp.ln_lst, Dp.ln_tup, Dp.ln_kls, Dp.ln_dK, Dp.dFor, Dp.dLc, Dp.dDc, Dp.dLc2, Dp.srcOf, Dp.dFrz, lk_Seats_scene, pa_Seats_scene, pt_Seats_scene, lk_Seats_seating, pa_Seats_seating, pt_Seats_seating, lk_Seats_seated, pa_Seats_seated, pt_Seats_seated, lk_Kept_lot, pa_Kept_lot, pt_Kept_lot, lk_Kept_seating, pa_Kept_seating, pt_Kept_seating, lk_Kept_papers, pa_Kept_papers, pt_Kept_papers, lk_Call_worth, pa_Call_worth, pt_Call_worth, lk_Call_heard, pa_Call_heard, pt_Call_heard, lk_Scene_channels, pa_Scene_channels, pt_Scene_channels, lk_Scene_calls, pa_Scene_calls, pt_Scene_calls]
  have ekc : ((dChs s).map fun kv => kD kv.1) = (s.ch.map (·.1)).map .str := by unfold dChs; rw [List.map_map, List.map_map]; rfl
  refine ⟨da, _, rfl, ?_, hD2, fun x M3 hx hD3 ho3 => ?_⟩
  · rw [ekc]; intro h0
    have := congrArg List.length h0
    simp at this; rw [this] at hs1; simp at hs1
  rw [ekc] at hx
  obtain ⟨ms, hms, rfl⟩ := List.mem_map.mp hx
  subst e4
  refine seq_hide fun u5 e5 => ?_
  simp only [Dp.dSeq, Dp.dAsg, Dp.dgN, Dp.dVar, Dp.dC, Dp.dUn, Dp.dOp, Dp.dFld, Dp.dTst, Dp.dAnd, Dp.dOr, Dp.dNot, Dp.dAndV, Dp.dOrV, Dp.dNotV, Dp.dIf, Dp.dIfS, Dp.dRet, Dp.dRetN, Dp.dExpr, Dp.dPar, Dp.dPar3, Dp.dNext, Dp.dNever, Dp.dBrk, Dp.dCont, Dp.dgTup, Dp.dgCons, Dp.dgNil, Dp.dCall, Dp.dCons, Dp.dNil, Dp.dTup, Dp.dLst, Dp.dLstM, Dp.dNewK, Dp.dCallF, Dp.dMethF, Dp.dMake, Dp.dMakeF, Dp.dFldS, Dp.dPut, Dp.dBM, Dp.dGet1, Dp.dGet2, Dp.dPop1, Dp.dPop2, Dp.dStar, Dp.dIx, Dp.dAdd, Dp.dSub, Dp.dMul, Dp.dMod, Dp.dFdiv, Dp.dPow, Dp.dNeg, Dp.dAugN, Dp.dAugS, Dp.dAugF, Dp.dAugI, Dp.dLtS, Dp.dLe, Dp.dGt, Dp.dGe, Dp.dOrd, Dp.dBetween, Dp.dIsN, Dp.dEq, Dp.dEqK, Dp.dIn, Dp.dstart, List.map_cons, List.map_nil, List.length_cons, List.length_nil, List.cons_append, List.nil_append, List.replicate, List.getElem?_cons_zero, List.getElem?_cons_succ, List.set_cons_zero, List.set_cons_succ, Nat.reduceAdd, Nat.reduceSub, if_true, if_false, Bool.false_eq_true, Bool.not_true, Bool.not_false, Dp.v_non, Dp.v_bl, Dp.v_int, Dp.v_str, Dp.v_tup, Dp.v_lst, Dp.v_kls, Dp.v_dK, Dp.v_dT, Dp.v_ins, Dp.f_ins, Dp.da_dKs, Dp.da_dKi, Dp.ix_dKs, Dp.ix_dKi, Dp.ix_lst, Dp.ix_tup, Dp.ix_kls, Dp.lo_lst, Dp.lo_kls, Dp.io_lst, Dp.io_tup, Dp.io_kls, Dp.ki_lst, Dp.ki_tup, Dp.ki_dK, Dp.dd_dK, Dp.e_ii, Dp.e_ss, Dp.e_bb, Dp.inB_dK, Dp.inB_tup, Dp.inB_lst, Dp.dLen, Dp.dAbs, Dp.dInt1, Dp.dStr1, Dp.dIsi, Dp.dListOf, Dp.dTupOf, Dp.dSum, Dp.dAny, Dp.dAll, Dp.dSorted, Dp.dDictP, Dp.dDictD, Dp.dSortMet, Dp.dLenSet, Dp.dSortSet, Dp.dmApp, Dp.dmExt, Dp.dmPop, Dp.dmPopAt, Dp.dmRem, Dp.dmIdx, Dp.dSet, Dp.intOf, Dp.keyOf, Dp.dwipe, Dp.patD, Dp.patDs, Dp.ln_lst, Dp.ln_tup, Dp.ln_kls, Dp.ln_dK, Dp.dFor, Dp.dLc, Dp.dDc, Dp.dLc2, Dp.srcOf, Dp.dFrz, lk_Seats_scene, pa_Seats_scene, pt_Seats_scene, lk_Seats_seating, pa_Seats_seating, pt_Seats_seating, lk_Seats_seated, pa_Seats_seated, pt_Seats_seated, lk_Kept_lot, pa_Kept_lot, pt_Kept_lot, lk_Kept_seating, pa_Kept_seating, pt_Kept_seating, lk_Kept_papers, pa_Kept_papers, pt_Kept_papers, lk_Call_worth, pa_Call_worth, pt_Call_worth, lk_Call_heard, pa_Call_heard, pt_Call_heard, lk_Scene_channels, pa_Scene_channels, pt_Scene_channels, lk_Scene_calls, pa_Scene_calls, pt_Scene_calls]
  have erow : rowsD (dChs s) = s.ch.map fun p => .tup [.str p.1, .int p.2] := kd_rows s.ch .int
  change lcBody (rowsD (dChs s)) _ _ _ _ _ _ _
  rw [erow]
  refine lc_pure (fun i => ((moreCh s.ch ms).take i).map fun p => .tup [.str p.1, .int p.2]) rfl (fun _ _ _ _ => trivial) (fun c i x hc hx => ?_) fun c hc => ?_
  · rw [List.getElem?_map] at hx
    obtain ⟨y, hy, rfl⟩ := Option.map_eq_some_iff.mp hx
    refine ⟨_, rfl, fun Q Q' hQ _ => ?_⟩
    simp only [Dp.dSeq, Dp.dAsg, Dp.dgN, Dp.dVar, Dp.dC, Dp.dUn, Dp.dOp, Dp.dFld, Dp.dTst, Dp.dAnd, Dp.dOr, Dp.dNot, Dp.dAndV, Dp.dOrV, Dp.dNotV, Dp.dIf, Dp.dIfS, Dp.dRet, Dp.dRetN, Dp.dExpr, Dp.dPar, Dp.dPar3, Dp.dNext, Dp.dNever, Dp.dBrk, Dp.dCont, Dp.dgTup, Dp.dgCons, Dp.dgNil, Dp.dCall, Dp.dCons, Dp.dNil, Dp.dTup, Dp.dLst, Dp.dLstM, Dp.dNewK, Dp.dCallF, Dp.dMethF, Dp.dMake, Dp.dMakeF, Dp.dFldS, Dp.dPut, Dp.dBM, Dp.dGet1, Dp.dGet2, Dp.dPop1, Dp.dPop2, Dp.dStar, Dp.dIx, Dp.dAdd, Dp.dSub, Dp.dMul, Dp.dMod, Dp.dFdiv, Dp.dPow, Dp.dNeg, Dp.dAugN, Dp.dAugS, Dp.dAugF, Dp.dAugI, Dp.dLtS, Dp.dLe, Dp.dGt, Dp.dGe, Dp.dOrd, Dp.dBetween, Dp.dIsN, Dp.dEq, Dp.dEqK, Dp.dIn, Dp.dstart, List.map_cons, List.map_nil, List.length_cons, List.length_nil, List.cons_append, List.nil_append, List.replicate, List.getElem?_cons_zero, List.getElem?_cons_succ, List.set_cons_zero, List.set_cons_succ, Nat.reduceAdd, Nat.reduceSub, if_true, if_false, Bool.false_eq_true, Bool.not_true, Bool.not_false, Dp.v_non, Dp.v_bl, Dp.v_int, Dp.v_str, Dp.v_tup, Dp.v_lst, Dp.v_kls, Dp.v_dK, Dp.v_dT, Dp.v_ins, Dp.f_ins, Dp.da_dKs, Dp.da_dKi, Dp.ix_dKs, Dp.ix_dKi, Dp.ix_lst, Dp.ix_tup, Dp.ix_kls, Dp.lo_lst, Dp.lo_kls, Dp.io_lst, Dp.io_tup, Dp.io_kls, Dp.ki_lst, Dp.ki_tup, Dp.ki_dK, Dp.dd_dK, Dp.e_ii, Dp.e_ss, Dp.e_bb, Dp.inB_dK, Dp.inB_tup, Dp.inB_lst, Dp.dLen, Dp.dAbs, Dp.dInt1, Dp.dStr1, Dp.dIsi, Dp.dListOf, Dp.dTupOf, Dp.dSum, Dp.dAny, Dp.dAll, Dp.dSorted, Dp.dDictP, Dp.dDictD, Dp.dSortMet, Dp.dLenSet, Dp.dSortSet, Dp.dmApp, Dp.dmExt, Dp.dmPop, Dp.dmPopAt, Dp.dmRem, Dp.dmIdx, Dp.dSet, Dp.intOf, Dp.keyOf, Dp.dwipe, Dp.patD, Dp.patDs, Dp.ln_lst, Dp.ln_tup, Dp.ln_kls, Dp.ln_dK, Dp.dFor, Dp.dLc, Dp.dDc, Dp.dLc2, Dp.srcOf, Dp.dFrz, lk_Seats_scene, pa_Seats_scene, pt_Seats_scene, lk_Seats_seating, pa_Seats_seating, pt_Seats_seating, lk_Seats_seated, pa_Seats_seated, pt_Seats_seated, lk_Kept_lot, pa_Kept_lot, pt_Kept_lot, lk_Kept_seating, pa_Kept_seating, pt_Kept_seating, lk_Kept_papers, pa_Kept_papers, pt_Kept_papers, lk_Call_worth, pa_Call_worth, pt_Call_worth, lk_Call_heard, pa_Call_heard, pt_Call_heard, lk_Scene_channels, pa_Scene_channels, pt_Scene_channels, lk_Scene_calls, pa_Scene_calls, pt_Scene_calls, dYes]
    refine ⟨by decide, hQ _ ?_⟩
    have hy2 : (moreCh s.ch ms)[i]? = some (y.1, y.2 + if y.1 = ms then 1 else 0) := by unfold moreCh; rw [List.getElem?_map, hy]; rfl
    rw [List.take_succ, hy2, List.map_append]
    simp
  · have el : ((moreCh s.ch ms).take (s.ch.map fun p => D.tup [D.str p.1, D.int p.2]).length) = moreCh s.ch ms := by
      rw [List.take_of_length_le]; unfold moreCh; rw [List.length_map, List.length_map]; exact Nat.le_refl _
    rw [el, Option.bind_some, prs_of]
    dsimp only
    have ekm : (moreCh s.ch ms).map (·.1) = s.ch.map (·.1) := by unfold moreCh; rw [List.map_map]; rfl
    have nd2 : (((moreCh s.ch ms).map fun p => ((Sum.inr p.1 : Sum Int Str), D.int p.2)).map (·.1)).Nodup := by
      have e : ((moreCh s.ch ms).map fun p => ((Sum.inr p.1 : Sum Int Str), D.int p.2)).map (·.1) = ((moreCh s.ch ms).map (·.1)).map Sum.inr := by rw [List.map_map, List.map_map]; rfl
      rw [e, ekm]
      exact hs.dm.map _ fun x y h => fun q => h (Sum.inr.inj q)
    rw [merge_nil nd2, mdel_mup hc]
    subst e5
    refine seq_hide fun u6 e6 => ?_
    refine ifs_hide fun t7 u7 f7 g7 => ?_
    simp only [Dp.dSeq, Dp.dAsg, Dp.dgN, Dp.dVar, Dp.dC, Dp.dUn, Dp.dOp, Dp.dFld, Dp.dTst, Dp.dAnd, Dp.dOr, Dp.dNot, Dp.dAndV, Dp.dOrV, Dp.dNotV, Dp.dIf, Dp.dIfS, Dp.dRet, Dp.dRetN, Dp.dExpr, Dp.dPar, Dp.dPar3, Dp.dNext, Dp.dNever, Dp.dBrk, Dp.dCont, Dp.dgTup, Dp.dgCons, Dp.dgNil, Dp.dCall, Dp.dCons, Dp.dNil, Dp.dTup, Dp.dLst, Dp.dLstM, Dp.dNewK, Dp.dCallF, Dp.dMethF, Dp.dMake, Dp.dMakeF, Dp.dFldS, Dp.dPut, Dp.dBM, Dp.dGet1, Dp.dGet2, Dp.dPop1, Dp.dPop2, Dp.dStar, Dp.dIx, Dp.dAdd, Dp.dSub, Dp.dMul, Dp.dMod, Dp.dFdiv, Dp.dPow, Dp.dNeg, Dp.dAugN, Dp.dAugS, Dp.dAugF, Dp.dAugI, Dp.dLtS, Dp.dLe, Dp.dGt, Dp.dGe, Dp.dOrd, Dp.dBetween, Dp.dIsN, Dp.dEq, Dp.dEqK, Dp.dIn, Dp.dstart, List.map_cons, List.map_nil, List.length_cons, List.length_nil, List.cons_append, List.nil_append, List.replicate, List.getElem?_cons_zero, List.getElem?_cons_succ, List.set_cons_zero, List.set_cons_succ, Nat.reduceAdd, Nat.reduceSub, if_true, if_false, Bool.false_eq_true, Bool.not_true, Bool.not_false, Dp.v_non, Dp.v_bl, Dp.v_int, Dp.v_str, Dp.v_tup, Dp.v_lst, Dp.v_kls, Dp.v_dK, Dp.v_dT, Dp.v_ins, Dp.f_ins, Dp.da_dKs, Dp.da_dKi, Dp.ix_dKs, Dp.ix_dKi, Dp.ix_lst, Dp.ix_tup, Dp.ix_kls, Dp.lo_lst, Dp.lo_kls, Dp.io_lst, Dp.io_tup, Dp.io_kls, Dp.ki_lst, Dp.ki_tup, Dp.ki_dK, Dp.dd_dK, Dp.e_ii, Dp.e_ss, Dp.e_bb, Dp.inB_dK, Dp.inB_tup, Dp.inB_lst, Dp.dLen, Dp.dAbs, Dp.dInt1, Dp.dStr1, Dp.dIsi, Dp.dListOf, Dp.dTupOf, Dp.dSum, Dp.dAny, Dp.dAll, Dp.dSorted, Dp.dDictP, Dp.dDictD, Dp.dSortMet, Dp.dLenSet, Dp.dSortSet, Dp.dmApp, Dp.dmExt, Dp.dmPop, Dp.dmPopAt, Dp.dmRem, Dp.dmIdx, Dp.dSet, Dp.intOf, Dp.keyOf, Dp.dwipe, Dp.patD, Dp.patDs, Dp.ln_lst, Dp.ln_tup, Dp.ln_kls, Dp.ln_dK, Dp.dFor, Dp.dLc, Dp.dDc, Dp.dLc2, Dp.srcOf, Dp.dFrz, lk_Seats_scene, pa_Seats_scene, pt_Seats_scene, lk_Seats_seating, pa_Seats_seating, pt_Seats_seating, lk_Seats_seated, pa_Seats_seated, pt_Seats_seated, lk_Kept_lot, pa_Kept_lot, pt_Kept_lot, lk_Kept_seating, pa_Kept_seating, pt_Kept_seating, lk_Kept_papers, pa_Kept_papers, pt_Kept_papers, lk_Call_worth, pa_Call_worth, pt_Call_worth, lk_Call_heard, pa_Call_heard, pt_Call_heard, lk_Scene_channels, pa_Scene_channels, pt_Scene_channels, lk_Scene_calls, pa_Scene_calls, pt_Scene_calls]
    have hD3' := hD3
    refine lc_any (fun _ _ => trivial) (fun x hx => ⟨_, rfl, fun M4 Q Q' hg hQ _ => ?_⟩) fun M4 le4 => ?_
    · simp only [Dp.dSeq, Dp.dAsg, Dp.dgN, Dp.dVar, Dp.dC, Dp.dUn, Dp.dOp, Dp.dFld, Dp.dTst, Dp.dAnd, Dp.dOr, Dp.dNot, Dp.dAndV, Dp.dOrV, Dp.dNotV, Dp.dIf, Dp.dIfS, Dp.dRet, Dp.dRetN, Dp.dExpr, Dp.dPar, Dp.dPar3, Dp.dNext, Dp.dNever, Dp.dBrk, Dp.dCont, Dp.dgTup, Dp.dgCons, Dp.dgNil, Dp.dCall, Dp.dCons, Dp.dNil, Dp.dTup, Dp.dLst, Dp.dLstM, Dp.dNewK, Dp.dCallF, Dp.dMethF, Dp.dMake, Dp.dMakeF, Dp.dFldS, Dp.dPut, Dp.dBM, Dp.dGet1, Dp.dGet2, Dp.dPop1, Dp.dPop2, Dp.dStar, Dp.dIx, Dp.dAdd, Dp.dSub, Dp.dMul, Dp.dMod, Dp.dFdiv, Dp.dPow, Dp.dNeg, Dp.dAugN, Dp.dAugS, Dp.dAugF, Dp.dAugI, Dp.dLtS, Dp.dLe, Dp.dGt, Dp.dGe, Dp.dOrd, Dp.dBetween, Dp.dIsN, Dp.dEq, Dp.dEqK, Dp.dIn, Dp.dstart, List.map_cons, List.map_nil, List.length_cons, List.length_nil, List.cons_append, List.nil_append, List.replicate, List.getElem?_cons_zero, List.getElem?_cons_succ, List.set_cons_zero, List.set_cons_succ, Nat.reduceAdd, Nat.reduceSub, if_true, if_false, Bool.false_eq_true, Bool.not_true, Bool.not_false, Dp.v_non, Dp.v_bl, Dp.v_int, Dp.v_str, Dp.v_tup, Dp.v_lst, Dp.v_kls, Dp.v_dK, Dp.v_dT, Dp.v_ins, Dp.f_ins, Dp.da_dKs, Dp.da_dKi, Dp.ix_dKs, Dp.ix_dKi, Dp.ix_lst, Dp.ix_tup, Dp.ix_kls, Dp.lo_lst, Dp.lo_kls, Dp.io_lst, Dp.io_tup, Dp.io_kls, Dp.ki_lst, Dp.ki_tup, Dp.ki_dK, Dp.dd_dK, Dp.e_ii, Dp.e_ss, Dp.e_bb, Dp.inB_dK, Dp.inB_tup, Dp.inB_lst, Dp.dLen, Dp.dAbs, Dp.dInt1, Dp.dStr1, Dp.dIsi, Dp.dListOf, Dp.dTupOf, Dp.dSum, Dp.dAny, Dp.dAll, Dp.dSorted, Dp.dDictP, Dp.dDictD, Dp.dSortMet, Dp.dLenSet, Dp.dSortSet, Dp.dmApp, Dp.dmExt, Dp.dmPop, Dp.dmPopAt, Dp.dmRem, Dp.dmIdx, Dp.dSet, Dp.intOf, Dp.keyOf, Dp.dwipe, Dp.patD, Dp.patDs, Dp.ln_lst, Dp.ln_tup, Dp.ln_kls, Dp.ln_dK, Dp.dFor, Dp.dLc, Dp.dDc, Dp.dLc2, Dp.srcOf, Dp.dFrz, lk_Seats_scene, pa_Seats_scene, pt_Seats_scene, lk_Seats_seating, pa_Seats_seating, pt_Seats_seating, lk_Seats_seated, pa_Seats_seated, pt_Seats_seated, lk_Kept_lot, pa_Kept_lot, pt_Kept_lot, lk_Kept_seating, pa_Kept_seating, pt_Kept_seating, lk_Kept_papers, pa_Kept_papers, pt_Kept_papers, lk_Call_worth, pa_Call_worth, pt_Call_worth, lk_Call_heard, pa_Call_heard, pt_Call_heard, lk_Scene_channels, pa_Scene_channels, pt_Scene_channels, lk_Scene_calls, pa_Scene_calls, pt_Scene_calls, dYes]
      rw [List.mem_map] at hx
      obtain ⟨n, hn, rfl⟩ := hx
      refine scene_kept (s' := ⟨moreCh s.ch ms, s.ca⟩) (more_ok hs hdr ms) fun M5 S5 pp5 hk5 le5 => ?_
      rw [lot_in (x := n) (stays_more hs hdr hms hk hk5 ((ssort_perm _).mem_iff.mp hn))]
      exact hQ _ le5
    · rw [g7]
      simp only [Dp.dSeq, Dp.dAsg, Dp.dgN, Dp.dVar, Dp.dC, Dp.dUn, Dp.dOp, Dp.dFld, Dp.dTst, Dp.dAnd, Dp.dOr, Dp.dNot, Dp.dAndV, Dp.dOrV, Dp.dNotV, Dp.dIf, Dp.dIfS, Dp.dRet, Dp.dRetN, Dp.dExpr, Dp.dPar, Dp.dPar3, Dp.dNext, Dp.dNever, Dp.dBrk, Dp.dCont, Dp.dgTup, Dp.dgCons, Dp.dgNil, Dp.dCall, Dp.dCons, Dp.dNil, Dp.dTup, Dp.dLst, Dp.dLstM, Dp.dNewK, Dp.dCallF, Dp.dMethF, Dp.dMake, Dp.dMakeF, Dp.dFldS, Dp.dPut, Dp.dBM, Dp.dGet1, Dp.dGet2, Dp.dPop1, Dp.dPop2, Dp.dStar, Dp.dIx, Dp.dAdd, Dp.dSub, Dp.dMul, Dp.dMod, Dp.dFdiv, Dp.dPow, Dp.dNeg, Dp.dAugN, Dp.dAugS, Dp.dAugF, Dp.dAugI, Dp.dLtS, Dp.dLe, Dp.dGt, Dp.dGe, Dp.dOrd, Dp.dBetween, Dp.dIsN, Dp.dEq, Dp.dEqK, Dp.dIn, Dp.dstart, List.map_cons, List.map_nil, List.length_cons, List.length_nil, List.cons_append, List.nil_append, List.replicate, List.getElem?_cons_zero, List.getElem?_cons_succ, List.set_cons_zero, List.set_cons_succ, Nat.reduceAdd, Nat.reduceSub, if_true, if_false, Bool.false_eq_true, Bool.not_true, Bool.not_false, Dp.v_non, Dp.v_bl, Dp.v_int, Dp.v_str, Dp.v_tup, Dp.v_lst, Dp.v_kls, Dp.v_dK, Dp.v_dT, Dp.v_ins, Dp.f_ins, Dp.da_dKs, Dp.da_dKi, Dp.ix_dKs, Dp.ix_dKi, Dp.ix_lst, Dp.ix_tup, Dp.ix_kls, Dp.lo_lst, Dp.lo_kls, Dp.io_lst, Dp.io_tup, Dp.io_kls, Dp.ki_lst, Dp.ki_tup, Dp.ki_dK, Dp.dd_dK, Dp.e_ii, Dp.e_ss, Dp.e_bb, Dp.inB_dK, Dp.inB_tup, Dp.inB_lst, Dp.dLen, Dp.dAbs, Dp.dInt1, Dp.dStr1, Dp.dIsi, Dp.dListOf, Dp.dTupOf, Dp.dSum, Dp.dAny, Dp.dAll, Dp.dSorted, Dp.dDictP, Dp.dDictD, Dp.dSortMet, Dp.dLenSet, Dp.dSortSet, Dp.dmApp, Dp.dmExt, Dp.dmPop, Dp.dmPopAt, Dp.dmRem, Dp.dmIdx, Dp.dSet, Dp.intOf, Dp.keyOf, Dp.dwipe, Dp.patD, Dp.patDs, Dp.ln_lst, Dp.ln_tup, Dp.ln_kls, Dp.ln_dK, Dp.dFor, Dp.dLc, Dp.dDc, Dp.dLc2, Dp.srcOf, Dp.dFrz, lk_Seats_scene, pa_Seats_scene, pt_Seats_scene, lk_Seats_seating, pa_Seats_seating, pt_Seats_seating, lk_Seats_seated, pa_Seats_seated, pt_Seats_seated, lk_Kept_lot, pa_Kept_lot, pt_Kept_lot, lk_Kept_seating, pa_Kept_seating, pt_Kept_seating, lk_Kept_papers, pa_Kept_papers, pt_Kept_papers, lk_Call_worth, pa_Call_worth, pt_Call_worth, lk_Call_heard, pa_Call_heard, pt_Call_heard, lk_Scene_channels, pa_Scene_channels, pt_Scene_channels, lk_Scene_calls, pa_Scene_calls, pt_Scene_calls]
      have hD4 := hD3.mle le4
      subst e6
      refine seq_hide fun u8 e8 => ?_
      have hrest : ∀ o3 o5 o6 o7 o8 o9 o10 o11 o12 o13 o14 o15 o16 o17 o18 M', Drw M' da → u8 { nx := fun x M' => ∃ M'', MLe M'' M' ∧ R D.non M'', rt := R } [some (D.kls (List.map D.int xs)), some (D.adr da), some (dScn d s), o3, some (D.dK (dCas d s)), o5, o6, o7, o8, o9, o10, o11, o12, o13, o14, o15, o16, o17, o18] M' := by
        intro o3 o5 o6 o7 o8 o9 o10 o11 o12 o13 o14 o15 o16 o17 o18 M' hD'
        subst e8
        refine seq_hide fun u9 e9 => ?_
        simp only [Dp.dSeq, Dp.dAsg, Dp.dgN, Dp.dVar, Dp.dC, Dp.dUn, Dp.dOp, Dp.dFld, Dp.dTst, Dp.dAnd, Dp.dOr, Dp.dNot, Dp.dAndV, Dp.dOrV, Dp.dNotV, Dp.dIf, Dp.dIfS, Dp.dRet, Dp.dRetN, Dp.dExpr, Dp.dPar, Dp.dPar3, Dp.dNext, Dp.dNever, Dp.dBrk, Dp.dCont, Dp.dgTup, Dp.dgCons, Dp.dgNil, Dp.dCall, Dp.dCons, Dp.dNil, Dp.dTup, Dp.dLst, Dp.dLstM, Dp.dNewK, Dp.dCallF, Dp.dMethF, Dp.dMake, Dp.dMakeF, Dp.dFldS, Dp.dPut, Dp.dBM, Dp.dGet1, Dp.dGet2, Dp.dPop1, Dp.dPop2, Dp.dStar, Dp.dIx, Dp.dAdd, Dp.dSub, Dp.dMul, Dp.dMod, Dp.dFdiv, Dp.dPow, Dp.dNeg, Dp.dAugN, Dp.dAugS, Dp.dAugF, Dp.dAugI, Dp.dLtS, Dp.dLe, Dp.dGt, Dp.dGe, Dp.dOrd, Dp.dBetween, Dp.dIsN, Dp.dEq, Dp.dEqK, Dp.dIn, Dp.dstart, List.map_cons, List.map_nil, List.length_cons, List.length_nil, List.cons_append, List.nil_append, List.replicate, List.getElem?_cons_zero, List.getElem?_cons_succ, List.set_cons_zero, List.set_cons_succ, Nat.reduceAdd, Nat.reduceSub, if_true, if_false, Bool.false_eq_true, Bool.not_true, Bool.not_false, Dp.v_non, Dp.v_bl, Dp.v_int, Dp.v_str, Dp.v_tup, Dp.v_lst, Dp.v_kls, Dp.v_dK, Dp.v_dT, Dp.v_ins, Dp.f_ins, Dp.da_dKs, Dp.da_dKi, Dp.ix_dKs, Dp.ix_dKi, Dp.ix_lst, Dp.ix_tup, Dp.ix_kls, Dp.lo_lst, Dp.lo_kls, Dp.io_lst, Dp.io_tup, Dp.io_kls, Dp.ki_lst, Dp.ki_tup, Dp.ki_dK, Dp.dd_dK, Dp.e_ii, Dp.e_ss, Dp.e_bb, Dp.inB_dK, Dp.inB_tup, Dp.inB_lst, Dp.dLen, Dp.dAbs, Dp.dInt1, Dp.dStr1, Dp.dIsi, Dp.dListOf, Dp.dTupOf, Dp.dSum, Dp.dAny, Dp.dAll, Dp.dSorted, Dp.dDictP, Dp.dDictD, Dp.dSortMet, Dp.dLenSet, Dp.dSortSet, Dp.dmApp, Dp.dmExt, Dp.dmPop, Dp.dmPopAt, Dp.dmRem, Dp.dmIdx, Dp.dSet, Dp.intOf, Dp.keyOf, Dp.dwipe, Dp.patD, Dp.patDs, Dp.ln_lst, Dp.ln_tup, Dp.ln_kls, Dp.ln_dK, Dp.dFor, Dp.dLc, Dp.dDc, Dp.dLc2, Dp.srcOf, Dp.dFrz, lk_Seats_scene, pa_Seats_scene, pt_Seats_scene, lk_Seats_seating, pa_Seats_seating, pt_Seats_seating, lk_Seats_seated, pa_Seats_seated, pt_Seats_seated, lk_Kept_lot, pa_Kept_lot, pt_Kept_lot, lk_Kept_seating, pa_Kept_seating, pt_Kept_seating, lk_Kept_papers, pa_Kept_papers, pt_Kept_papers, lk_Call_worth, pa_Call_worth, pt_Call_worth, lk_Call_heard, pa_Call_heard, pt_Call_heard, lk_Scene_channels, pa_Scene_channels, pt_Scene_channels, lk_Scene_calls, pa_Scene_calls, pt_Scene_calls]
        refine ⟨by decide, fun la hla => ?_⟩
        have hDl : Drw (mup M' la (.lst [])) da := hD'.oth (c := da) (mup_ne fun q => by
          obtain ⟨_, _, _, h⟩ := hD'
          rw [q, hla] at h; cases h)
        subst e9
        refine seq_hide fun u10 e10 => ?_
        simp only [Dp.dSeq, Dp.dAsg, Dp.dgN, Dp.dVar, Dp.dC, Dp.dUn, Dp.dOp, Dp.dFld, Dp.dTst, Dp.dAnd, Dp.dOr, Dp.dNot, Dp.dAndV, Dp.dOrV, Dp.dNotV, Dp.dIf, Dp.dIfS, Dp.dRet, Dp.dRetN, Dp.dExpr, Dp.dPar, Dp.dPar3, Dp.dNext, Dp.dNever, Dp.dBrk, Dp.dCont, Dp.dgTup, Dp.dgCons, Dp.dgNil, Dp.dCall, Dp.dCons, Dp.dNil, Dp.dTup, Dp.dLst, Dp.dLstM, Dp.dNewK, Dp.dCallF, Dp.dMethF, Dp.dMake, Dp.dMakeF, Dp.dFldS, Dp.dPut, Dp.dBM, Dp.dGet1, Dp.dGet2, Dp.dPop1, Dp.dPop2, Dp.dStar, Dp.dIx, Dp.dAdd, Dp.dSub, Dp.dMul, Dp.dMod, Dp.dFdiv, Dp.dPow, Dp.dNeg, Dp.dAugN, Dp.dAugS, Dp.dAugF, Dp.dAugI, Dp.dLtS, Dp.dLe, Dp.dGt, Dp.dGe, Dp.dOrd, Dp.dBetween, Dp.dIsN, Dp.dEq, Dp.dEqK, Dp.dIn, Dp.dstart, List.map_cons, List.map_nil, List.length_cons, List.length_nil, List.cons_append, List.nil_append, List.replicate, List.getElem?_cons_zero, List.getElem?_cons_succ, List.set_cons_zero, List.set_cons_succ, Nat.reduceAdd, Nat.reduceSub, if_true, if_false, Bool.false_eq_true, Bool.not_true, Bool.not_false, Dp.v_non, Dp.v_bl, Dp.v_int, Dp.v_str, Dp.v_tup, Dp.v_lst, Dp.v_kls, Dp.v_dK, Dp.v_dT, Dp.v_ins, Dp.f_ins, Dp.da_dKs, Dp.da_dKi, Dp.ix_dKs, Dp.ix_dKi, Dp.ix_lst, Dp.ix_tup, Dp.ix_kls, Dp.lo_lst, Dp.lo_kls, Dp.io_lst, Dp.io_tup, Dp.io_kls, Dp.ki_lst, Dp.ki_tup, Dp.ki_dK, Dp.dd_dK, Dp.e_ii, Dp.e_ss, Dp.e_bb, Dp.inB_dK, Dp.inB_tup, Dp.inB_lst, Dp.dLen, Dp.dAbs, Dp.dInt1, Dp.dStr1, Dp.dIsi, Dp.dListOf, Dp.dTupOf, Dp.dSum, Dp.dAny, Dp.dAll, Dp.dSorted, Dp.dDictP, Dp.dDictD, Dp.dSortMet, Dp.dLenSet, Dp.dSortSet, Dp.dmApp, Dp.dmExt, Dp.dmPop, Dp.dmPopAt, Dp.dmRem, Dp.dmIdx, Dp.dSet, Dp.intOf, Dp.keyOf, Dp.dwipe, Dp.patD, Dp.patDs, Dp.ln_lst, Dp.ln_tup, Dp.ln_kls, Dp.ln_dK, Dp.dFor, Dp.dLc, Dp.dDc, Dp.dLc2, Dp.srcOf, Dp.dFrz, lk_Seats_scene, pa_Seats_scene, pt_Seats_scene, lk_Seats_seating, pa_Seats_seating, pt_Seats_seating, lk_Seats_seated, pa_Seats_seated, pt_Seats_seated, lk_Kept_lot, pa_Kept_lot, pt_Kept_lot, lk_Kept_seating, pa_Kept_seating, pt_Kept_seating, lk_Kept_papers, pa_Kept_papers, pt_Kept_papers, lk_Call_worth, pa_Call_worth, pt_Call_worth, lk_Call_heard, pa_Call_heard, pt_Call_heard, lk_Scene_channels, pa_Scene_channels, pt_Scene_channels, lk_Scene_calls, pa_Scene_calls, pt_Scene_calls]
        have hdl : da ≠ la := fun q => by
          obtain ⟨_, _, _, h⟩ := hD'
          rw [q, hla] at h; cases h
        refine ⟨by decide, by decide, for_i (fun i Γ2 M2 => ∃ o12 o13 o17 L, Γ2 = [some (D.kls (xs.map D.int)), some (D.adr da), some (dScn d s), o3, some (D.dK (dCas d s)), o5, o6, o7, o8, o9, o10, some (D.adr la), o12, o13, o14, o15, o16, o17, o18] ∧ M2 la = some (.lst (dLots L)) ∧ L.length ≤ i ∧ LotsOk s L ∧ Drw M2 da)
          ⟨_, _, _, [], rfl, mup_same, Nat.le_refl _, (fun _ h => nomatch h), hDl⟩ (fun _ _ _ _ _ => trivial) ?_ ?_⟩
        · rintro i x Γ2 M2 hx ⟨o12', o13', o17', L, rfl, hL, hLi, hLo, hD2⟩
          refine ⟨_, rfl, fun bk _ => ?_⟩
          refine seq_hide fun u20 e20 => ?_
          simp only [Dp.dSeq, Dp.dAsg, Dp.dgN, Dp.dVar, Dp.dC, Dp.dUn, Dp.dOp, Dp.dFld, Dp.dTst, Dp.dAnd, Dp.dOr, Dp.dNot, Dp.dAndV, Dp.dOrV, Dp.dNotV, Dp.dIf, Dp.dIfS, Dp.dRet, Dp.dRetN, Dp.dExpr, Dp.dPar, Dp.dPar3, Dp.dNext, Dp.dNever, Dp.dBrk, Dp.dCont, Dp.dgTup, Dp.dgCons, Dp.dgNil, Dp.dCall, Dp.dCons, Dp.dNil, Dp.dTup, Dp.dLst, Dp.dLstM, Dp.dNewK, Dp.dCallF, Dp.dMethF, Dp.dMake, Dp.dMakeF, Dp.dFldS, Dp.dPut, Dp.dBM, Dp.dGet1, Dp.dGet2, Dp.dPop1, Dp.dPop2, Dp.dStar, Dp.dIx, Dp.dAdd, Dp.dSub, Dp.dMul, Dp.dMod, Dp.dFdiv, Dp.dPow, Dp.dNeg, Dp.dAugN, Dp.dAugS, Dp.dAugF, Dp.dAugI, Dp.dLtS, Dp.dLe, Dp.dGt, Dp.dGe, Dp.dOrd, Dp.dBetween, Dp.dIsN, Dp.dEq, Dp.dEqK, Dp.dIn, Dp.dstart, List.map_cons, List.map_nil, List.length_cons, List.length_nil, List.cons_append, List.nil_append, List.replicate, List.getElem?_cons_zero, List.getElem?_cons_succ, List.set_cons_zero, List.set_cons_succ, Nat.reduceAdd, Nat.reduceSub, if_true, if_false, Bool.false_eq_true, Bool.not_true, Bool.not_false, Dp.v_non, Dp.v_bl, Dp.v_int, Dp.v_str, Dp.v_tup, Dp.v_lst, Dp.v_kls, Dp.v_dK, Dp.v_dT, Dp.v_ins, Dp.f_ins, Dp.da_dKs, Dp.da_dKi, Dp.ix_dKs, Dp.ix_dKi, Dp.ix_lst, Dp.ix_tup, Dp.ix_kls, Dp.lo_lst, Dp.lo_kls, Dp.io_lst, Dp.io_tup, Dp.io_kls, Dp.ki_lst, Dp.ki_tup, Dp.ki_dK, Dp.dd_dK, Dp.e_ii, Dp.e_ss, Dp.e_bb, Dp.inB_dK, Dp.inB_tup, Dp.inB_lst, Dp.dLen, Dp.dAbs, Dp.dInt1, Dp.dStr1, Dp.dIsi, Dp.dListOf, Dp.dTupOf, Dp.dSum, Dp.dAny, Dp.dAll, Dp.dSorted, Dp.dDictP, Dp.dDictD, Dp.dSortMet, Dp.dLenSet, Dp.dSortSet, Dp.dmApp, Dp.dmExt, Dp.dmPop, Dp.dmPopAt, Dp.dmRem, Dp.dmIdx, Dp.dSet, Dp.intOf, Dp.keyOf, Dp.dwipe, Dp.patD, Dp.patDs, Dp.ln_lst, Dp.ln_tup, Dp.ln_kls, Dp.ln_dK, Dp.dFor, Dp.dLc, Dp.dDc, Dp.dLc2, Dp.srcOf, Dp.dFrz, lk_Seats_scene, pa_Seats_scene, pt_Seats_scene, lk_Seats_seating, pa_Seats_seating, pt_Seats_seating, lk_Seats_seated, pa_Seats_seated, pt_Seats_seated, lk_Kept_lot, pa_Kept_lot, pt_Kept_lot, lk_Kept_seating, pa_Kept_seating, pt_Kept_seating, lk_Kept_papers, pa_Kept_papers, pt_Kept_papers, lk_Call_worth, pa_Call_worth, pt_Call_worth, lk_Call_heard, pa_Call_heard, pt_Call_heard, lk_Scene_channels, pa_Scene_channels, pt_Scene_channels, lk_Scene_calls, pa_Scene_calls, pt_Scene_calls]
          have ekk : ((dCas d s).map fun kv => kD kv.1) = (s.ca.map (·.1)).map .str := by unfold dCas; rw [List.map_map, List.map_map]; rfl
          rw [ekk]
          refine lc_draw hD2 (fun i acc => ∃ hs, acc = hs.map D.str ∧ hs.Sublist ((s.ca.map (·.1)).take i)) ⟨[], rfl, by simp⟩ (fun _ _ => trivial) ?_ ?_
          · rintro j z acc M3 hz ⟨ws, rfl, hsub⟩ hd hkeep
            rw [List.getElem?_map] at hz
            obtain ⟨y, hy, rfl⟩ := Option.map_eq_some_iff.mp hz
            have ht : (s.ca.map (·.1)).take (j + 1) = (s.ca.map (·.1)).take j ++ [y] := by rw [List.take_succ, hy]; rfl
            refine ⟨_, rfl, fun K hK => ?_⟩
            simp only [Dp.dSeq, Dp.dAsg, Dp.dgN, Dp.dVar, Dp.dC, Dp.dUn, Dp.dOp, Dp.dFld, Dp.dTst, Dp.dAnd, Dp.dOr, Dp.dNot, Dp.dAndV, Dp.dOrV, Dp.dNotV, Dp.dIf, Dp.dIfS, Dp.dRet, Dp.dRetN, Dp.dExpr, Dp.dPar, Dp.dPar3, Dp.dNext, Dp.dNever, Dp.dBrk, Dp.dCont, Dp.dgTup, Dp.dgCons, Dp.dgNil, Dp.dCall, Dp.dCons, Dp.dNil, Dp.dTup, Dp.dLst, Dp.dLstM, Dp.dNewK, Dp.dCallF, Dp.dMethF, Dp.dMake, Dp.dMakeF, Dp.dFldS, Dp.dPut, Dp.dBM, Dp.dGet1, Dp.dGet2, Dp.dPop1, Dp.dPop2, Dp.dStar, Dp.dIx, Dp.dAdd, Dp.dSub, Dp.dMul, Dp.dMod, Dp.dFdiv, Dp.dPow, Dp.dNeg, Dp.dAugN, Dp.dAugS, Dp.dAugF, Dp.dAugI, Dp.dLtS, Dp.dLe, Dp.dGt, Dp.dGe, Dp.dOrd, Dp.dBetween, Dp.dIsN, Dp.dEq, Dp.dEqK, Dp.dIn, Dp.dstart, List.map_cons, List.map_nil, List.length_cons, List.length_nil, List.cons_append, List.nil_append, List.replicate, List.getElem?_cons_zero, List.getElem?_cons_succ, List.set_cons_zero, List.set_cons_succ, Nat.reduceAdd, Nat.reduceSub, if_true, if_false, Bool.false_eq_true, Bool.not_true, Bool.not_false, Dp.v_non, Dp.v_bl, Dp.v_int, Dp.v_str, Dp.v_tup, Dp.v_lst, Dp.v_kls, Dp.v_dK, Dp.v_dT, Dp.v_ins, Dp.f_ins, Dp.da_dKs, Dp.da_dKi, Dp.ix_dKs, Dp.ix_dKi, Dp.ix_lst, Dp.ix_tup, Dp.ix_kls, Dp.lo_lst, Dp.lo_kls, Dp.io_lst, Dp.io_tup, Dp.io_kls, Dp.ki_lst, Dp.ki_tup, Dp.ki_dK, Dp.dd_dK, Dp.e_ii, Dp.e_ss, Dp.e_bb, Dp.inB_dK, Dp.inB_tup, Dp.inB_lst, Dp.dLen, Dp.dAbs, Dp.dInt1, Dp.dStr1, Dp.dIsi, Dp.dListOf, Dp.dTupOf, Dp.dSum, Dp.dAny, Dp.dAll, Dp.dSorted, Dp.dDictP, Dp.dDictD, Dp.dSortMet, Dp.dLenSet, Dp.dSortSet, Dp.dmApp, Dp.dmExt, Dp.dmPop, Dp.dmPopAt, Dp.dmRem, Dp.dmIdx, Dp.dSet, Dp.intOf, Dp.keyOf, Dp.dwipe, Dp.patD, Dp.patDs, Dp.ln_lst, Dp.ln_tup, Dp.ln_kls, Dp.ln_dK, Dp.dFor, Dp.dLc, Dp.dDc, Dp.dLc2, Dp.srcOf, Dp.dFrz, lk_Seats_scene, pa_Seats_scene, pt_Seats_scene, lk_Seats_seating, pa_Seats_seating, pt_Seats_seating, lk_Seats_seated, pa_Seats_seated, pt_Seats_seated, lk_Kept_lot, pa_Kept_lot, pt_Kept_lot, lk_Kept_seating, pa_Kept_seating, pt_Kept_seating, lk_Kept_papers, pa_Kept_papers, pt_Kept_papers, lk_Call_worth, pa_Call_worth, pt_Call_worth, lk_Call_heard, pa_Call_heard, pt_Call_heard, lk_Scene_channels, pa_Scene_channels, pt_Scene_channels, lk_Scene_calls, pa_Scene_calls, pt_Scene_calls]
            refine ⟨da, 2, rfl, by decide, hd, fun r M4 r0 r1 hd2 ho2 => ?_⟩
            simp only [Dp.dSeq, Dp.dAsg, Dp.dgN, Dp.dVar, Dp.dC, Dp.dUn, Dp.dOp, Dp.dFld, Dp.dTst, Dp.dAnd, Dp.dOr, Dp.dNot, Dp.dAndV, Dp.dOrV, Dp.dNotV, Dp.dIf, Dp.dIfS, Dp.dRet, Dp.dRetN, Dp.dExpr, Dp.dPar, Dp.dPar3, Dp.dNext, Dp.dNever, Dp.dBrk, Dp.dCont, Dp.dgTup, Dp.dgCons, Dp.dgNil, Dp.dCall, Dp.dCons, Dp.dNil, Dp.dTup, Dp.dLst, Dp.dLstM, Dp.dNewK, Dp.dCallF, Dp.dMethF, Dp.dMake, Dp.dMakeF, Dp.dFldS, Dp.dPut, Dp.dBM, Dp.dGet1, Dp.dGet2, Dp.dPop1, Dp.dPop2, Dp.dStar, Dp.dIx, Dp.dAdd, Dp.dSub, Dp.dMul, Dp.dMod, Dp.dFdiv, Dp.dPow, Dp.dNeg, Dp.dAugN, Dp.dAugS, Dp.dAugF, Dp.dAugI, Dp.dLtS, Dp.dLe, Dp.dGt, Dp.dGe, Dp.dOrd, Dp.dBetween, Dp.dIsN, Dp.dEq, Dp.dEqK, Dp.dIn, Dp.dstart, List.map_cons, List.map_nil, List.length_cons, List.length_nil, List.cons_append, List.nil_append, List.replicate, List.getElem?_cons_zero, List.getElem?_cons_succ, List.set_cons_zero, List.set_cons_succ, Nat.reduceAdd, Nat.reduceSub, if_true, if_false, Bool.false_eq_true, Bool.not_true, Bool.not_false, Dp.v_non, Dp.v_bl, Dp.v_int, Dp.v_str, Dp.v_tup, Dp.v_lst, Dp.v_kls, Dp.v_dK, Dp.v_dT, Dp.v_ins, Dp.f_ins, Dp.da_dKs, Dp.da_dKi, Dp.ix_dKs, Dp.ix_dKi, Dp.ix_lst, Dp.ix_tup, Dp.ix_kls, Dp.lo_lst, Dp.lo_kls, Dp.io_lst, Dp.io_tup, Dp.io_kls, Dp.ki_lst, Dp.ki_tup, Dp.ki_dK, Dp.dd_dK, Dp.e_ii, Dp.e_ss, Dp.e_bb, Dp.inB_dK, Dp.inB_tup, Dp.inB_lst, Dp.dLen, Dp.dAbs, Dp.dInt1, Dp.dStr1, Dp.dIsi, Dp.dListOf, Dp.dTupOf, Dp.dSum, Dp.dAny, Dp.dAll, Dp.dSorted, Dp.dDictP, Dp.dDictD, Dp.dSortMet, Dp.dLenSet, Dp.dSortSet, Dp.dmApp, Dp.dmExt, Dp.dmPop, Dp.dmPopAt, Dp.dmRem, Dp.dmIdx, Dp.dSet, Dp.intOf, Dp.keyOf, Dp.dwipe, Dp.patD, Dp.patDs, Dp.ln_lst, Dp.ln_tup, Dp.ln_kls, Dp.ln_dK, Dp.dFor, Dp.dLc, Dp.dDc, Dp.dLc2, Dp.srcOf, Dp.dFrz, lk_Seats_scene, pa_Seats_scene, pt_Seats_scene, lk_Seats_seating, pa_Seats_seating, pt_Seats_seating, lk_Seats_seated, pa_Seats_seated, pt_Seats_seated, lk_Kept_lot, pa_Kept_lot, pt_Kept_lot, lk_Kept_seating, pa_Kept_seating, pt_Kept_seating, lk_Kept_papers, pa_Kept_papers, pt_Kept_papers, lk_Call_worth, pa_Call_worth, pt_Call_worth, lk_Call_heard, pa_Call_heard, pt_Call_heard, lk_Scene_channels, pa_Scene_channels, pt_Scene_channels, lk_Scene_calls, pa_Scene_calls, pt_Scene_calls]
            refine hK _ M4 ho2 hd2 (fun _ K' hK' => ?_) fun _ => ⟨ws, rfl, by rw [ht]; exact hsub.trans (List.sublist_append_left _ _)⟩
            simp only [Dp.dSeq, Dp.dAsg, Dp.dgN, Dp.dVar, Dp.dC, Dp.dUn, Dp.dOp, Dp.dFld, Dp.dTst, Dp.dAnd, Dp.dOr, Dp.dNot, Dp.dAndV, Dp.dOrV, Dp.dNotV, Dp.dIf, Dp.dIfS, Dp.dRet, Dp.dRetN, Dp.dExpr, Dp.dPar, Dp.dPar3, Dp.dNext, Dp.dNever, Dp.dBrk, Dp.dCont, Dp.dgTup, Dp.dgCons, Dp.dgNil, Dp.dCall, Dp.dCons, Dp.dNil, Dp.dTup, Dp.dLst, Dp.dLstM, Dp.dNewK, Dp.dCallF, Dp.dMethF, Dp.dMake, Dp.dMakeF, Dp.dFldS, Dp.dPut, Dp.dBM, Dp.dGet1, Dp.dGet2, Dp.dPop1, Dp.dPop2, Dp.dStar, Dp.dIx, Dp.dAdd, Dp.dSub, Dp.dMul, Dp.dMod, Dp.dFdiv, Dp.dPow, Dp.dNeg, Dp.dAugN, Dp.dAugS, Dp.dAugF, Dp.dAugI, Dp.dLtS, Dp.dLe, Dp.dGt, Dp.dGe, Dp.dOrd, Dp.dBetween, Dp.dIsN, Dp.dEq, Dp.dEqK, Dp.dIn, Dp.dstart, List.map_cons, List.map_nil, List.length_cons, List.length_nil, List.cons_append, List.nil_append, List.replicate, List.getElem?_cons_zero, List.getElem?_cons_succ, List.set_cons_zero, List.set_cons_succ, Nat.reduceAdd, Nat.reduceSub, if_true, if_false, Bool.false_eq_true, Bool.not_true, Bool.not_false, Dp.v_non, Dp.v_bl, Dp.v_int, Dp.v_str, Dp.v_tup, Dp.v_lst, Dp.v_kls, Dp.v_dK, Dp.v_dT, Dp.v_ins, Dp.f_ins, Dp.da_dKs, Dp.da_dKi, Dp.ix_dKs, Dp.ix_dKi, Dp.ix_lst, Dp.ix_tup, Dp.ix_kls, Dp.lo_lst, Dp.lo_kls, Dp.io_lst, Dp.io_tup, Dp.io_kls, Dp.ki_lst, Dp.ki_tup, Dp.ki_dK, Dp.dd_dK, Dp.e_ii, Dp.e_ss, Dp.e_bb, Dp.inB_dK, Dp.inB_tup, Dp.inB_lst, Dp.dLen, Dp.dAbs, Dp.dInt1, Dp.dStr1, Dp.dIsi, Dp.dListOf, Dp.dTupOf, Dp.dSum, Dp.dAny, Dp.dAll, Dp.dSorted, Dp.dDictP, Dp.dDictD, Dp.dSortMet, Dp.dLenSet, Dp.dSortSet, Dp.dmApp, Dp.dmExt, Dp.dmPop, Dp.dmPopAt, Dp.dmRem, Dp.dmIdx, Dp.dSet, Dp.intOf, Dp.keyOf, Dp.dwipe, Dp.patD, Dp.patDs, Dp.ln_lst, Dp.ln_tup, Dp.ln_kls, Dp.ln_dK, Dp.dFor, Dp.dLc, Dp.dDc, Dp.dLc2, Dp.srcOf, Dp.dFrz, lk_Seats_scene, pa_Seats_scene, pt_Seats_scene, lk_Seats_seating, pa_Seats_seating, pt_Seats_seating, lk_Seats_seated, pa_Seats_seated, pt_Seats_seated, lk_Kept_lot, pa_Kept_lot, pt_Kept_lot, lk_Kept_seating, pa_Kept_seating, pt_Kept_seating, lk_Kept_papers, pa_Kept_papers, pt_Kept_papers, lk_Call_worth, pa_Call_worth, pt_Call_worth, lk_Call_heard, pa_Call_heard, pt_Call_heard, lk_Scene_channels, pa_Scene_channels, pt_Scene_channels, lk_Scene_calls, pa_Scene_calls, pt_Scene_calls]
            exact hK' _ M4 (Oth.refl _ _) hd2 ⟨ws ++ [y], by simp, by rw [ht]; exact hsub.append (List.Sublist.refl _)⟩
          · rintro c acc M3 hc ⟨ws, rfl, hsub⟩ hd hl ho
            rw [List.length_map, List.take_length] at hsub
            have hM3l : mdel M3 c la = some (.lst (dLots L)) := by
              have hlc : la ≠ c := fun q => by rw [← q, hL] at hc; cases hc
              rw [mdel_ne hlc, ho la (Ne.symm hdl) hlc]; exact hL
            have hD3 : Drw (mdel M3 c) da := drw_del hD2 hc hd
            subst e20
            refine ifs_hide fun t22 v22 f22 g22 => ?_
            simp only [Dp.dSeq, Dp.dAsg, Dp.dgN, Dp.dVar, Dp.dC, Dp.dUn, Dp.dOp, Dp.dFld, Dp.dTst, Dp.dAnd, Dp.dOr, Dp.dNot, Dp.dAndV, Dp.dOrV, Dp.dNotV, Dp.dIf, Dp.dIfS, Dp.dRet, Dp.dRetN, Dp.dExpr, Dp.dPar, Dp.dPar3, Dp.dNext, Dp.dNever, Dp.dBrk, Dp.dCont, Dp.dgTup, Dp.dgCons, Dp.dgNil, Dp.dCall, Dp.dCons, Dp.dNil, Dp.dTup, Dp.dLst, Dp.dLstM, Dp.dNewK, Dp.dCallF, Dp.dMethF, Dp.dMake, Dp.dMakeF, Dp.dFldS, Dp.dPut, Dp.dBM, Dp.dGet1, Dp.dGet2, Dp.dPop1, Dp.dPop2, Dp.dStar, Dp.dIx, Dp.dAdd, Dp.dSub, Dp.dMul, Dp.dMod, Dp.dFdiv, Dp.dPow, Dp.dNeg, Dp.dAugN, Dp.dAugS, Dp.dAugF, Dp.dAugI, Dp.dLtS, Dp.dLe, Dp.dGt, Dp.dGe, Dp.dOrd, Dp.dBetween, Dp.dIsN, Dp.dEq, Dp.dEqK, Dp.dIn, Dp.dstart, List.map_cons, List.map_nil, List.length_cons, List.length_nil, List.cons_append, List.nil_append, List.replicate, List.getElem?_cons_zero, List.getElem?_cons_succ, List.set_cons_zero, List.set_cons_succ, Nat.reduceAdd, Nat.reduceSub, if_true, if_false, Bool.false_eq_true, Bool.not_true, Bool.not_false, Dp.v_non, Dp.v_bl, Dp.v_int, Dp.v_str, Dp.v_tup, Dp.v_lst, Dp.v_kls, Dp.v_dK, Dp.v_dT, Dp.v_ins, Dp.f_ins, Dp.da_dKs, Dp.da_dKi, Dp.ix_dKs, Dp.ix_dKi, Dp.ix_lst, Dp.ix_tup, Dp.ix_kls, Dp.lo_lst, Dp.lo_kls, Dp.io_lst, Dp.io_tup, Dp.io_kls, Dp.ki_lst, Dp.ki_tup, Dp.ki_dK, Dp.dd_dK, Dp.e_ii, Dp.e_ss, Dp.e_bb, Dp.inB_dK, Dp.inB_tup, Dp.inB_lst, Dp.dLen, Dp.dAbs, Dp.dInt1, Dp.dStr1, Dp.dIsi, Dp.dListOf, Dp.dTupOf, Dp.dSum, Dp.dAny, Dp.dAll, Dp.dSorted, Dp.dDictP, Dp.dDictD, Dp.dSortMet, Dp.dLenSet, Dp.dSortSet, Dp.dmApp, Dp.dmExt, Dp.dmPop, Dp.dmPopAt, Dp.dmRem, Dp.dmIdx, Dp.dSet, Dp.intOf, Dp.keyOf, Dp.dwipe, Dp.patD, Dp.patDs, Dp.ln_lst, Dp.ln_tup, Dp.ln_kls, Dp.ln_dK, Dp.dFor, Dp.dLc, Dp.dDc, Dp.dLc2, Dp.srcOf, Dp.dFrz, lk_Seats_scene, pa_Seats_scene, pt_Seats_scene, lk_Seats_seating, pa_Seats_seating, pt_Seats_seating, lk_Seats_seated, pa_Seats_seated, pt_Seats_seated, lk_Kept_lot, pa_Kept_lot, pt_Kept_lot, lk_Kept_seating, pa_Kept_seating, pt_Kept_seating, lk_Kept_papers, pa_Kept_papers, pt_Kept_papers, lk_Call_worth, pa_Call_worth, pt_Call_worth, lk_Call_heard, pa_Call_heard, pt_Call_heard, lk_Scene_channels, pa_Scene_channels, pt_Scene_channels, lk_Scene_calls, pa_Scene_calls, pt_Scene_calls]
            refine ⟨s, ws, rfl, hs, hs.da.sublist hsub, fun x hx => hsub.subset hx, fun M4 S4 at4 bs4 hA le4 => ?_⟩
            dsimp only
            have hM4l := le4 _ _ hM3l
            by_cases hb : bs4.all id = true
            · rw [if_pos hb, f22]
              simp only [Dp.dSeq, Dp.dAsg, Dp.dgN, Dp.dVar, Dp.dC, Dp.dUn, Dp.dOp, Dp.dFld, Dp.dTst, Dp.dAnd, Dp.dOr, Dp.dNot, Dp.dAndV, Dp.dOrV, Dp.dNotV, Dp.dIf, Dp.dIfS, Dp.dRet, Dp.dRetN, Dp.dExpr, Dp.dPar, Dp.dPar3, Dp.dNext, Dp.dNever, Dp.dBrk, Dp.dCont, Dp.dgTup, Dp.dgCons, Dp.dgNil, Dp.dCall, Dp.dCons, Dp.dNil, Dp.dTup, Dp.dLst, Dp.dLstM, Dp.dNewK, Dp.dCallF, Dp.dMethF, Dp.dMake, Dp.dMakeF, Dp.dFldS, Dp.dPut, Dp.dBM, Dp.dGet1, Dp.dGet2, Dp.dPop1, Dp.dPop2, Dp.dStar, Dp.dIx, Dp.dAdd, Dp.dSub, Dp.dMul, Dp.dMod, Dp.dFdiv, Dp.dPow, Dp.dNeg, Dp.dAugN, Dp.dAugS, Dp.dAugF, Dp.dAugI, Dp.dLtS, Dp.dLe, Dp.dGt, Dp.dGe, Dp.dOrd, Dp.dBetween, Dp.dIsN, Dp.dEq, Dp.dEqK, Dp.dIn, Dp.dstart, List.map_cons, List.map_nil, List.length_cons, List.length_nil, List.cons_append, List.nil_append, List.replicate, List.getElem?_cons_zero, List.getElem?_cons_succ, List.set_cons_zero, List.set_cons_succ, Nat.reduceAdd, Nat.reduceSub, if_true, if_false, Bool.false_eq_true, Bool.not_true, Bool.not_false, Dp.v_non, Dp.v_bl, Dp.v_int, Dp.v_str, Dp.v_tup, Dp.v_lst, Dp.v_kls, Dp.v_dK, Dp.v_dT, Dp.v_ins, Dp.f_ins, Dp.da_dKs, Dp.da_dKi, Dp.ix_dKs, Dp.ix_dKi, Dp.ix_lst, Dp.ix_tup, Dp.ix_kls, Dp.lo_lst, Dp.lo_kls, Dp.io_lst, Dp.io_tup, Dp.io_kls, Dp.ki_lst, Dp.ki_tup, Dp.ki_dK, Dp.dd_dK, Dp.e_ii, Dp.e_ss, Dp.e_bb, Dp.inB_dK, Dp.inB_tup, Dp.inB_lst, Dp.dLen, Dp.dAbs, Dp.dInt1, Dp.dStr1, Dp.dIsi, Dp.dListOf, Dp.dTupOf, Dp.dSum, Dp.dAny, Dp.dAll, Dp.dSorted, Dp.dDictP, Dp.dDictD, Dp.dSortMet, Dp.dLenSet, Dp.dSortSet, Dp.dmApp, Dp.dmExt, Dp.dmPop, Dp.dmPopAt, Dp.dmRem, Dp.dmIdx, Dp.dSet, Dp.intOf, Dp.keyOf, Dp.dwipe, Dp.patD, Dp.patDs, Dp.ln_lst, Dp.ln_tup, Dp.ln_kls, Dp.ln_dK, Dp.dFor, Dp.dLc, Dp.dDc, Dp.dLc2, Dp.srcOf, Dp.dFrz, lk_Seats_scene, pa_Seats_scene, pt_Seats_scene, lk_Seats_seating, pa_Seats_seating, pt_Seats_seating, lk_Seats_seated, pa_Seats_seated, pt_Seats_seated, lk_Kept_lot, pa_Kept_lot, pt_Kept_lot, lk_Kept_seating, pa_Kept_seating, pt_Kept_seating, lk_Kept_papers, pa_Kept_papers, pt_Kept_papers, lk_Call_worth, pa_Call_worth, pt_Call_worth, lk_Call_heard, pa_Call_heard, pt_Call_heard, lk_Scene_channels, pa_Scene_channels, pt_Scene_channels, lk_Scene_calls, pa_Scene_calls, pt_Scene_calls, hM4l]
              refine ⟨by rw [lo_cl hM4l]; rfl, szlt (by unfold dLots; rw [List.length_map]; have : i < 4 := by { have := (List.getElem?_eq_some_iff.mp hx).1; simpa [rangeD] using this }; omega), _, _, _, L ++ [ws], rfl, ?_, ?_, ?_, ?_⟩
              · rw [mup_same]; unfold dLots; rw [List.map_append]; rfl
              · rw [List.length_append]; simp; exact hLi
              · intro l hl
                rcases List.mem_append.mp hl with hl | hl
                · exact hLo l hl
                · rw [List.mem_singleton.mp hl]; exact ⟨hs.da.sublist hsub, fun x hx => hsub.subset hx, S4, at4, bs4, hA, hb⟩
              · exact (hD3.mle le4).oth (c := da) (mup_ne hdl)
            · rw [if_neg hb, g22]
              exact ⟨_, _, _, L, rfl, hM4l, by omega, hLo, hD3.mle le4⟩
        · rintro Γ2 M2 ⟨o12', o13', o17', L, rfl, hL, hLi, hLo, hD2⟩
          subst e10
          refine seq_hide fun u21 e21 => ?_
          simp only [Dp.dSeq, Dp.dAsg, Dp.dgN, Dp.dVar, Dp.dC, Dp.dUn, Dp.dOp, Dp.dFld, Dp.dTst, Dp.dAnd, Dp.dOr, Dp.dNot, Dp.dAndV, Dp.dOrV, Dp.dNotV, Dp.dIf, Dp.dIfS, Dp.dRet, Dp.dRetN, Dp.dExpr, Dp.dPar, Dp.dPar3, Dp.dNext, Dp.dNever, Dp.dBrk, Dp.dCont, Dp.dgTup, Dp.dgCons, Dp.dgNil, Dp.dCall, Dp.dCons, Dp.dNil, Dp.dTup, Dp.dLst, Dp.dLstM, Dp.dNewK, Dp.dCallF, Dp.dMethF, Dp.dMake, Dp.dMakeF, Dp.dFldS, Dp.dPut, Dp.dBM, Dp.dGet1, Dp.dGet2, Dp.dPop1, Dp.dPop2, Dp.dStar, Dp.dIx, Dp.dAdd, Dp.dSub, Dp.dMul, Dp.dMod, Dp.dFdiv, Dp.dPow, Dp.dNeg, Dp.dAugN, Dp.dAugS, Dp.dAugF, Dp.dAugI, Dp.dLtS, Dp.dLe, Dp.dGt, Dp.dGe, Dp.dOrd, Dp.dBetween, Dp.dIsN, Dp.dEq, Dp.dEqK, Dp.dIn, Dp.dstart, List.map_cons, List.map_nil, List.length_cons, List.length_nil, List.cons_append, List.nil_append, List.replicate, List.getElem?_cons_zero, List.getElem?_cons_succ, List.set_cons_zero, List.set_cons_succ, Nat.reduceAdd, Nat.reduceSub, if_true, if_false, Bool.false_eq_true, Bool.not_true, Bool.not_false, Dp.v_non, Dp.v_bl, Dp.v_int, Dp.v_str, Dp.v_tup, Dp.v_lst, Dp.v_kls, Dp.v_dK, Dp.v_dT, Dp.v_ins, Dp.f_ins, Dp.da_dKs, Dp.da_dKi, Dp.ix_dKs, Dp.ix_dKi, Dp.ix_lst, Dp.ix_tup, Dp.ix_kls, Dp.lo_lst, Dp.lo_kls, Dp.io_lst, Dp.io_tup, Dp.io_kls, Dp.ki_lst, Dp.ki_tup, Dp.ki_dK, Dp.dd_dK, Dp.e_ii, Dp.e_ss, Dp.e_bb, Dp.inB_dK, Dp.inB_tup, Dp.inB_lst, Dp.dLen, Dp.dAbs, Dp.dInt1, Dp.dStr1, Dp.dIsi, Dp.dListOf, Dp.dTupOf, Dp.dSum, Dp.dAny, Dp.dAll, Dp.dSorted, Dp.dDictP, Dp.dDictD, Dp.dSortMet, Dp.dLenSet, Dp.dSortSet, Dp.dmApp, Dp.dmExt, Dp.dmPop, Dp.dmPopAt, Dp.dmRem, Dp.dmIdx, Dp.dSet, Dp.intOf, Dp.keyOf, Dp.dwipe, Dp.patD, Dp.patDs, Dp.ln_lst, Dp.ln_tup, Dp.ln_kls, Dp.ln_dK, Dp.dFor, Dp.dLc, Dp.dDc, Dp.dLc2, Dp.srcOf, Dp.dFrz, lk_Seats_scene, pa_Seats_scene, pt_Seats_scene, lk_Seats_seating, pa_Seats_seating, pt_Seats_seating, lk_Seats_seated, pa_Seats_seated, pt_Seats_seated, lk_Kept_lot, pa_Kept_lot, pt_Kept_lot, lk_Kept_seating, pa_Kept_seating, pt_Kept_seating, lk_Kept_papers, pa_Kept_papers, pt_Kept_papers, lk_Call_worth, pa_Call_worth, pt_Call_worth, lk_Call_heard, pa_Call_heard, pt_Call_heard, lk_Scene_channels, pa_Scene_channels, pt_Scene_channels, lk_Scene_calls, pa_Scene_calls, pt_Scene_calls]
          subst e21
          have hsl : srcOf M2 (.adr la) = some (dLots L) := by unfold srcOf; simp only [hL]
          refine seq_hide fun u23 e23 => ?_
          simp only [Dp.dSeq, Dp.dFor, Dp.dVar, List.getElem?_cons_zero, List.getElem?_cons_succ, hsl]
          refine for_i (fun i Γ3 M3 => ∃ o14 o15 o17, Γ3 = [some (D.kls (xs.map D.int)), some (D.adr da), some (dScn d s), o3, some (D.dK (dCas d s)), o5, o6, o7, o8, o9, o10, some (D.adr la), o12', o13', o14, o15, o16, o17, o18] ∧ MLe M2 M3)
            ⟨_, _, _, rfl, MLe.refl _⟩ (fun i Γ3 M3 _ ⟨_, _, _, _, le⟩ => ?_) ?_ ?_
          · show M3 la = M2 la
            rw [le _ _ hL, hL]
          · rintro i x Γ3 M3 hx ⟨o14', o15', o17'', rfl, le3⟩
            unfold dLots at hx
            rw [List.getElem?_map] at hx
            obtain ⟨lo, hlo, rfl⟩ := Option.map_eq_some_iff.mp hx
            have hlom := hLo lo (List.mem_of_getElem? hlo)
            have hsl3 : srcOf M3 (.adr la) = some (dLots L) := by unfold srcOf; simp only [le3 _ _ hL]
            refine ⟨_, rfl, fun bk _ => ?_⟩
            simp only [Dp.dFor, Dp.dVar, List.getElem?_cons_zero, List.getElem?_cons_succ, List.set_cons_zero, List.set_cons_succ, hsl3]
            refine for_i (fun j Γ4 M4 => ∃ o15 o17, Γ4 = [some (D.kls (xs.map D.int)), some (D.adr da), some (dScn d s), o3, some (D.dK (dCas d s)), o5, o6, o7, o8, o9, o10, some (D.adr la), o12', o13', some (D.lst (lo.map D.str)), o15, o16, o17, o18] ∧ MLe M2 M4)
              ⟨_, _, rfl, le3⟩ (fun j Γ4 M4 _ ⟨_, _, _, le⟩ => ?_) ?_ ?_
            · show M4 la = M3 la
              rw [le _ _ hL, le3 _ _ hL]
            · rintro j x Γ4 M4 hx ⟨o15', o17'', rfl, le4⟩
              unfold dLots at hx
              rw [List.getElem?_map] at hx
              obtain ⟨lb, hlb, rfl⟩ := Option.map_eq_some_iff.mp hx
              have hlbm := hLo lb (List.mem_of_getElem? hlb)
              refine ⟨_, rfl, fun bk _ => ?_⟩
              refine ifs_hide fun t24 v24 f24 g24 => ?_
              simp only [Dp.dSeq, Dp.dAsg, Dp.dgN, Dp.dVar, Dp.dC, Dp.dUn, Dp.dOp, Dp.dFld, Dp.dTst, Dp.dAnd, Dp.dOr, Dp.dNot, Dp.dAndV, Dp.dOrV, Dp.dNotV, Dp.dIf, Dp.dIfS, Dp.dRet, Dp.dRetN, Dp.dExpr, Dp.dPar, Dp.dPar3, Dp.dNext, Dp.dNever, Dp.dBrk, Dp.dCont, Dp.dgTup, Dp.dgCons, Dp.dgNil, Dp.dCall, Dp.dCons, Dp.dNil, Dp.dTup, Dp.dLst, Dp.dLstM, Dp.dNewK, Dp.dCallF, Dp.dMethF, Dp.dMake, Dp.dMakeF, Dp.dFldS, Dp.dPut, Dp.dBM, Dp.dGet1, Dp.dGet2, Dp.dPop1, Dp.dPop2, Dp.dStar, Dp.dIx, Dp.dAdd, Dp.dSub, Dp.dMul, Dp.dMod, Dp.dFdiv, Dp.dPow, Dp.dNeg, Dp.dAugN, Dp.dAugS, Dp.dAugF, Dp.dAugI, Dp.dLtS, Dp.dLe, Dp.dGt, Dp.dGe, Dp.dOrd, Dp.dBetween, Dp.dIsN, Dp.dEq, Dp.dEqK, Dp.dIn, Dp.dstart, List.map_cons, List.map_nil, List.length_cons, List.length_nil, List.cons_append, List.nil_append, List.replicate, List.getElem?_cons_zero, List.getElem?_cons_succ, List.set_cons_zero, List.set_cons_succ, Nat.reduceAdd, Nat.reduceSub, if_true, if_false, Bool.false_eq_true, Bool.not_true, Bool.not_false, Dp.v_non, Dp.v_bl, Dp.v_int, Dp.v_str, Dp.v_tup, Dp.v_lst, Dp.v_kls, Dp.v_dK, Dp.v_dT, Dp.v_ins, Dp.f_ins, Dp.da_dKs, Dp.da_dKi, Dp.ix_dKs, Dp.ix_dKi, Dp.ix_lst, Dp.ix_tup, Dp.ix_kls, Dp.lo_lst, Dp.lo_kls, Dp.io_lst, Dp.io_tup, Dp.io_kls, Dp.ki_lst, Dp.ki_tup, Dp.ki_dK, Dp.dd_dK, Dp.e_ii, Dp.e_ss, Dp.e_bb, Dp.inB_dK, Dp.inB_tup, Dp.inB_lst, Dp.dLen, Dp.dAbs, Dp.dInt1, Dp.dStr1, Dp.dIsi, Dp.dListOf, Dp.dTupOf, Dp.dSum, Dp.dAny, Dp.dAll, Dp.dSorted, Dp.dDictP, Dp.dDictD, Dp.dSortMet, Dp.dLenSet, Dp.dSortSet, Dp.dmApp, Dp.dmExt, Dp.dmPop, Dp.dmPopAt, Dp.dmRem, Dp.dmIdx, Dp.dSet, Dp.intOf, Dp.keyOf, Dp.dwipe, Dp.patD, Dp.patDs, Dp.ln_lst, Dp.ln_tup, Dp.ln_kls, Dp.ln_dK, Dp.dFor, Dp.dLc, Dp.dDc, Dp.dLc2, Dp.srcOf, Dp.dFrz, lk_Seats_scene, pa_Seats_scene, pt_Seats_scene, lk_Seats_seating, pa_Seats_seating, pt_Seats_seating, lk_Seats_seated, pa_Seats_seated, pt_Seats_seated, lk_Kept_lot, pa_Kept_lot, pt_Kept_lot, lk_Kept_seating, pa_Kept_seating, pt_Kept_seating, lk_Kept_papers, pa_Kept_papers, pt_Kept_papers, lk_Call_worth, pa_Call_worth, pt_Call_worth, lk_Call_heard, pa_Call_heard, pt_Call_heard, lk_Scene_channels, pa_Scene_channels, pt_Scene_channels, lk_Scene_calls, pa_Scene_calls, pt_Scene_calls]
              by_cases hlt : lo.length < lb.length
              · rw [if_pos (by simp only [List.length_map, decide_eq_true_eq]; omega)]
                obtain ⟨hlo1, hlo2, Sl, al, bl, hAl, hbl⟩ := hlom
                obtain ⟨hlb1, hlb2, Sb, ab, bb, hAb, hbb⟩ := hlbm
                obtain ⟨z, hz1, hz2, hz3⟩ := Mt.exchange hlo1 hlb1 ((hAl.iff hlo1).mp hbl) ((hAb.iff hlb1).mp hbb) hlt
                have hlc : ∀ l : List Str, l.Nodup → (∀ x ∈ l, x ∈ s.ca.map (·.1)) → l.length ≤ 500 := fun l h1 h2 => by
                  have := nodup_sub h1 h2
                  rw [List.length_map] at this
                  exact Nat.le_trans this hs.la
                classical
                refine lc_grow lb D.str (fun x => !decide (x ∈ lo)) (fun x => .bl (decide (Sbl s (lo ++ [x])))) (fun _ _ => trivial) (fun x hx M5 le5 => ⟨_, rfl, fun Q Q' hQ hQ' => ?_⟩) fun c5 M5 hc5 le5 hM5 => ?_
                · simp only [Dp.dSeq, Dp.dAsg, Dp.dgN, Dp.dVar, Dp.dC, Dp.dUn, Dp.dOp, Dp.dFld, Dp.dTst, Dp.dAnd, Dp.dOr, Dp.dNot, Dp.dAndV, Dp.dOrV, Dp.dNotV, Dp.dIf, Dp.dIfS, Dp.dRet, Dp.dRetN, Dp.dExpr, Dp.dPar, Dp.dPar3, Dp.dNext, Dp.dNever, Dp.dBrk, Dp.dCont, Dp.dgTup, Dp.dgCons, Dp.dgNil, Dp.dCall, Dp.dCons, Dp.dNil, Dp.dTup, Dp.dLst, Dp.dLstM, Dp.dNewK, Dp.dCallF, Dp.dMethF, Dp.dMake, Dp.dMakeF, Dp.dFldS, Dp.dPut, Dp.dBM, Dp.dGet1, Dp.dGet2, Dp.dPop1, Dp.dPop2, Dp.dStar, Dp.dIx, Dp.dAdd, Dp.dSub, Dp.dMul, Dp.dMod, Dp.dFdiv, Dp.dPow, Dp.dNeg, Dp.dAugN, Dp.dAugS, Dp.dAugF, Dp.dAugI, Dp.dLtS, Dp.dLe, Dp.dGt, Dp.dGe, Dp.dOrd, Dp.dBetween, Dp.dIsN, Dp.dEq, Dp.dEqK, Dp.dIn, Dp.dstart, List.map_cons, List.map_nil, List.length_cons, List.length_nil, List.cons_append, List.nil_append, List.replicate, List.getElem?_cons_zero, List.getElem?_cons_succ, List.set_cons_zero, List.set_cons_succ, Nat.reduceAdd, Nat.reduceSub, if_true, if_false, Bool.false_eq_true, Bool.not_true, Bool.not_false, Dp.v_non, Dp.v_bl, Dp.v_int, Dp.v_str, Dp.v_tup, Dp.v_lst, Dp.v_kls, Dp.v_dK, Dp.v_dT, Dp.v_ins, Dp.f_ins, Dp.da_dKs, Dp.da_dKi, Dp.ix_dKs, Dp.ix_dKi, Dp.ix_lst, Dp.ix_tup, Dp.ix_kls, Dp.lo_lst, Dp.lo_kls, Dp.io_lst, Dp.io_tup, Dp.io_kls, Dp.ki_lst, Dp.ki_tup, Dp.ki_dK, Dp.dd_dK, Dp.e_ii, Dp.e_ss, Dp.e_bb, Dp.inB_dK, Dp.inB_tup, Dp.inB_lst, Dp.dLen, Dp.dAbs, Dp.dInt1, Dp.dStr1, Dp.dIsi, Dp.dListOf, Dp.dTupOf, Dp.dSum, Dp.dAny, Dp.dAll, Dp.dSorted, Dp.dDictP, Dp.dDictD, Dp.dSortMet, Dp.dLenSet, Dp.dSortSet, Dp.dmApp, Dp.dmExt, Dp.dmPop, Dp.dmPopAt, Dp.dmRem, Dp.dmIdx, Dp.dSet, Dp.intOf, Dp.keyOf, Dp.dwipe, Dp.patD, Dp.patDs, Dp.ln_lst, Dp.ln_tup, Dp.ln_kls, Dp.ln_dK, Dp.dFor, Dp.dLc, Dp.dDc, Dp.dLc2, Dp.srcOf, Dp.dFrz, lk_Seats_scene, pa_Seats_scene, pt_Seats_scene, lk_Seats_seating, pa_Seats_seating, pt_Seats_seating, lk_Seats_seated, pa_Seats_seated, pt_Seats_seated, lk_Kept_lot, pa_Kept_lot, pt_Kept_lot, lk_Kept_seating, pa_Kept_seating, pt_Kept_seating, lk_Kept_papers, pa_Kept_papers, pt_Kept_papers, lk_Call_worth, pa_Call_worth, pt_Call_worth, lk_Call_heard, pa_Call_heard, pt_Call_heard, lk_Scene_channels, pa_Scene_channels, pt_Scene_channels, lk_Scene_calls, pa_Scene_calls, pt_Scene_calls, seqIn_strs]
                  by_cases hxl : x ∈ lo
                  · rw [decide_eq_true hxl]
                    exact hQ' (by rw [decide_eq_true hxl]; rfl) _ (MLe.refl _)
                  · rw [decide_eq_false hxl]
                    have hnd := Mt.snoc_nodup hlo1 hxl
                    have hca : ∀ y ∈ lo ++ [x], y ∈ s.ca.map (·.1) := fun y hy => by
                      rcases List.mem_append.mp hy with h | h
                      · exact hlo2 y h
                      · rw [List.mem_singleton.mp h]; exact hlb2 x hx
                    refine ⟨by decide, szl ?_, s, lo ++ [x], by rw [List.map_append]; rfl, hs, hnd, hca, fun M6 S6 at6 bs6 hA6 le6 => ?_⟩
                    · have := hlc _ hlo1 hlo2
                      rw [List.length_map]; omega
                    · have e6 : bs6.all id = decide (Sbl s (lo ++ [x])) := by
                        rw [Bool.eq_iff_iff, decide_eq_true_eq]; exact hA6.iff hnd
                      rw [e6]
                      exact hQ (by rw [decide_eq_false hxl]; rfl) _ le6
                · rw [Option.bind_some, blsOf_mapf]
                  dsimp only
                  have hany : (((lb.filter fun x => !decide (x ∈ lo)).map fun x => decide (Sbl s (lo ++ [x]))).any id) = true := by
                    rw [List.any_eq_true]
                    exact ⟨true, List.mem_map.mpr ⟨z, List.mem_filter.mpr ⟨hz1, by rw [decide_eq_false hz2]; rfl⟩, decide_eq_true hz3⟩, rfl⟩
                  rw [hany, if_neg (by decide), g24]
                  exact ⟨_, _, rfl, le4.trans (mle_mdel le5 hc5)⟩
              · rw [if_neg (by simp only [List.length_map, decide_eq_true_eq]; omega), g24]
                exact ⟨_, _, rfl, le4⟩
            · rintro Γ4 M4 ⟨o15', o17'', rfl, le4⟩
              exact ⟨_, _, _, rfl, le4⟩
          · rintro Γ3 M3 ⟨o14', o15', o17'', rfl, le3⟩
            subst e23
            simp only [Dp.dSeq, Dp.dAsg, Dp.dgN, Dp.dVar, Dp.dC, Dp.dUn, Dp.dOp, Dp.dFld, Dp.dTst, Dp.dAnd, Dp.dOr, Dp.dNot, Dp.dAndV, Dp.dOrV, Dp.dNotV, Dp.dIf, Dp.dIfS, Dp.dRet, Dp.dRetN, Dp.dExpr, Dp.dPar, Dp.dPar3, Dp.dNext, Dp.dNever, Dp.dBrk, Dp.dCont, Dp.dgTup, Dp.dgCons, Dp.dgNil, Dp.dCall, Dp.dCons, Dp.dNil, Dp.dTup, Dp.dLst, Dp.dLstM, Dp.dNewK, Dp.dCallF, Dp.dMethF, Dp.dMake, Dp.dMakeF, Dp.dFldS, Dp.dPut, Dp.dBM, Dp.dGet1, Dp.dGet2, Dp.dPop1, Dp.dPop2, Dp.dStar, Dp.dIx, Dp.dAdd, Dp.dSub, Dp.dMul, Dp.dMod, Dp.dFdiv, Dp.dPow, Dp.dNeg, Dp.dAugN, Dp.dAugS, Dp.dAugF, Dp.dAugI, Dp.dLtS, Dp.dLe, Dp.dGt, Dp.dGe, Dp.dOrd, Dp.dBetween, Dp.dIsN, Dp.dEq, Dp.dEqK, Dp.dIn, Dp.dstart, List.map_cons, List.map_nil, List.length_cons, List.length_nil, List.cons_append, List.nil_append, List.replicate, List.getElem?_cons_zero, List.getElem?_cons_succ, List.set_cons_zero, List.set_cons_succ, Nat.reduceAdd, Nat.reduceSub, if_true, if_false, Bool.false_eq_true, Bool.not_true, Bool.not_false, Dp.v_non, Dp.v_bl, Dp.v_int, Dp.v_str, Dp.v_tup, Dp.v_lst, Dp.v_kls, Dp.v_dK, Dp.v_dT, Dp.v_ins, Dp.f_ins, Dp.da_dKs, Dp.da_dKi, Dp.ix_dKs, Dp.ix_dKi, Dp.ix_lst, Dp.ix_tup, Dp.ix_kls, Dp.lo_lst, Dp.lo_kls, Dp.io_lst, Dp.io_tup, Dp.io_kls, Dp.ki_lst, Dp.ki_tup, Dp.ki_dK, Dp.dd_dK, Dp.e_ii, Dp.e_ss, Dp.e_bb, Dp.inB_dK, Dp.inB_tup, Dp.inB_lst, Dp.dLen, Dp.dAbs, Dp.dInt1, Dp.dStr1, Dp.dIsi, Dp.dListOf, Dp.dTupOf, Dp.dSum, Dp.dAny, Dp.dAll, Dp.dSorted, Dp.dDictP, Dp.dDictD, Dp.dSortMet, Dp.dLenSet, Dp.dSortSet, Dp.dmApp, Dp.dmExt, Dp.dmPop, Dp.dmPopAt, Dp.dmRem, Dp.dmIdx, Dp.dSet, Dp.intOf, Dp.keyOf, Dp.dwipe, Dp.patD, Dp.patDs, Dp.ln_lst, Dp.ln_tup, Dp.ln_kls, Dp.ln_dK, Dp.dFor, Dp.dLc, Dp.dDc, Dp.dLc2, Dp.srcOf, Dp.dFrz, lk_Seats_scene, pa_Seats_scene, pt_Seats_scene, lk_Seats_seating, pa_Seats_seating, pt_Seats_seating, lk_Seats_seated, pa_Seats_seated, pt_Seats_seated, lk_Kept_lot, pa_Kept_lot, pt_Kept_lot, lk_Kept_seating, pa_Kept_seating, pt_Kept_seating, lk_Kept_papers, pa_Kept_papers, pt_Kept_papers, lk_Call_worth, pa_Call_worth, pt_Call_worth, lk_Call_heard, pa_Call_heard, pt_Call_heard, lk_Scene_channels, pa_Scene_channels, pt_Scene_channels, lk_Scene_calls, pa_Scene_calls, pt_Scene_calls]
            exact ⟨_, _, Fz.refl _ _, hR _⟩
      refine ifs_hide fun t10 u10 f10 g10 => ?_
      simp only [Dp.dSeq, Dp.dAsg, Dp.dgN, Dp.dVar, Dp.dC, Dp.dUn, Dp.dOp, Dp.dFld, Dp.dTst, Dp.dAnd, Dp.dOr, Dp.dNot, Dp.dAndV, Dp.dOrV, Dp.dNotV, Dp.dIf, Dp.dIfS, Dp.dRet, Dp.dRetN, Dp.dExpr, Dp.dPar, Dp.dPar3, Dp.dNext, Dp.dNever, Dp.dBrk, Dp.dCont, Dp.dgTup, Dp.dgCons, Dp.dgNil, Dp.dCall, Dp.dCons, Dp.dNil, Dp.dTup, Dp.dLst, Dp.dLstM, Dp.dNewK, Dp.dCallF, Dp.dMethF, Dp.dMake, Dp.dMakeF, Dp.dFldS, Dp.dPut, Dp.dBM, Dp.dGet1, Dp.dGet2, Dp.dPop1, Dp.dPop2, Dp.dStar, Dp.dIx, Dp.dAdd, Dp.dSub, Dp.dMul, Dp.dMod, Dp.dFdiv, Dp.dPow, Dp.dNeg, Dp.dAugN, Dp.dAugS, Dp.dAugF, Dp.dAugI, Dp.dLtS, Dp.dLe, Dp.dGt, Dp.dGe, Dp.dOrd, Dp.dBetween, Dp.dIsN, Dp.dEq, Dp.dEqK, Dp.dIn, Dp.dstart, List.map_cons, List.map_nil, List.length_cons, List.length_nil, List.cons_append, List.nil_append, List.replicate, List.getElem?_cons_zero, List.getElem?_cons_succ, List.set_cons_zero, List.set_cons_succ, Nat.reduceAdd, Nat.reduceSub, if_true, if_false, Bool.false_eq_true, Bool.not_true, Bool.not_false, Dp.v_non, Dp.v_bl, Dp.v_int, Dp.v_str, Dp.v_tup, Dp.v_lst, Dp.v_kls, Dp.v_dK, Dp.v_dT, Dp.v_ins, Dp.f_ins, Dp.da_dKs, Dp.da_dKi, Dp.ix_dKs, Dp.ix_dKi, Dp.ix_lst, Dp.ix_tup, Dp.ix_kls, Dp.lo_lst, Dp.lo_kls, Dp.io_lst, Dp.io_tup, Dp.io_kls, Dp.ki_lst, Dp.ki_tup, Dp.ki_dK, Dp.dd_dK, Dp.e_ii, Dp.e_ss, Dp.e_bb, Dp.inB_dK, Dp.inB_tup, Dp.inB_lst, Dp.dLen, Dp.dAbs, Dp.dInt1, Dp.dStr1, Dp.dIsi, Dp.dListOf, Dp.dTupOf, Dp.dSum, Dp.dAny, Dp.dAll, Dp.dSorted, Dp.dDictP, Dp.dDictD, Dp.dSortMet, Dp.dLenSet, Dp.dSortSet, Dp.dmApp, Dp.dmExt, Dp.dmPop, Dp.dmPopAt, Dp.dmRem, Dp.dmIdx, Dp.dSet, Dp.intOf, Dp.keyOf, Dp.dwipe, Dp.patD, Dp.patDs, Dp.ln_lst, Dp.ln_tup, Dp.ln_kls, Dp.ln_dK, Dp.dFor, Dp.dLc, Dp.dDc, Dp.dLc2, Dp.srcOf, Dp.dFrz, lk_Seats_scene, pa_Seats_scene, pt_Seats_scene, lk_Seats_seating, pa_Seats_seating, pt_Seats_seating, lk_Seats_seated, pa_Seats_seated, pt_Seats_seated, lk_Kept_lot, pa_Kept_lot, pt_Kept_lot, lk_Kept_seating, pa_Kept_seating, pt_Kept_seating, lk_Kept_papers, pa_Kept_papers, pt_Kept_papers, lk_Call_worth, pa_Call_worth, pt_Call_worth, lk_Call_heard, pa_Call_heard, pt_Call_heard, lk_Scene_channels, pa_Scene_channels, pt_Scene_channels, lk_Scene_calls, pa_Scene_calls, pt_Scene_calls]
      cases hca : s.ca with
      | nil =>
        have e0 : dCas d s = [] := by unfold dCas; rw [hca]; rfl
        have ek : eqDK (dCas d s) [] = some true := by rw [e0]; rfl
        rw [ek]
        dsimp only
        rw [if_neg (by decide), g10]
        change u8 _ _ _
        exact hrest _ _ _ _ _ _ _ _ _ _ _ _ _ _ _ _ hD4
      | cons c0 cs0 =>
        have ek : eqDK (dCas d s) [] = some false := by unfold dCas; rw [hca]; rfl
        rw [ek]
        dsimp only
        rw [if_pos (by decide)]
        subst f10
        refine seq_hide fun u11 e11 => ?_
        simp only [Dp.dSeq, Dp.dAsg, Dp.dgN, Dp.dVar, Dp.dC, Dp.dUn, Dp.dOp, Dp.dFld, Dp.dTst, Dp.dAnd, Dp.dOr, Dp.dNot, Dp.dAndV, Dp.dOrV, Dp.dNotV, Dp.dIf, Dp.dIfS, Dp.dRet, Dp.dRetN, Dp.dExpr, Dp.dPar, Dp.dPar3, Dp.dNext, Dp.dNever, Dp.dBrk, Dp.dCont, Dp.dgTup, Dp.dgCons, Dp.dgNil, Dp.dCall, Dp.dCons, Dp.dNil, Dp.dTup, Dp.dLst, Dp.dLstM, Dp.dNewK, Dp.dCallF, Dp.dMethF, Dp.dMake, Dp.dMakeF, Dp.dFldS, Dp.dPut, Dp.dBM, Dp.dGet1, Dp.dGet2, Dp.dPop1, Dp.dPop2, Dp.dStar, Dp.dIx, Dp.dAdd, Dp.dSub, Dp.dMul, Dp.dMod, Dp.dFdiv, Dp.dPow, Dp.dNeg, Dp.dAugN, Dp.dAugS, Dp.dAugF, Dp.dAugI, Dp.dLtS, Dp.dLe, Dp.dGt, Dp.dGe, Dp.dOrd, Dp.dBetween, Dp.dIsN, Dp.dEq, Dp.dEqK, Dp.dIn, Dp.dstart, List.map_cons, List.map_nil, List.length_cons, List.length_nil, List.cons_append, List.nil_append, List.replicate, List.getElem?_cons_zero, List.getElem?_cons_succ, List.set_cons_zero, List.set_cons_succ, Nat.reduceAdd, Nat.reduceSub, if_true, if_false, Bool.false_eq_true, Bool.not_true, Bool.not_false, Dp.v_non, Dp.v_bl, Dp.v_int, Dp.v_str, Dp.v_tup, Dp.v_lst, Dp.v_kls, Dp.v_dK, Dp.v_dT, Dp.v_ins, Dp.f_ins, Dp.da_dKs, Dp.da_dKi, Dp.ix_dKs, Dp.ix_dKi, Dp.ix_lst, Dp.ix_tup, Dp.ix_kls, Dp.lo_lst, Dp.lo_kls, Dp.io_lst, Dp.io_tup, Dp.io_kls, Dp.ki_lst, Dp.ki_tup, Dp.ki_dK, Dp.dd_dK, Dp.e_ii, Dp.e_ss, Dp.e_bb, Dp.inB_dK, Dp.inB_tup, Dp.inB_lst, Dp.dLen, Dp.dAbs, Dp.dInt1, Dp.dStr1, Dp.dIsi, Dp.dListOf, Dp.dTupOf, Dp.dSum, Dp.dAny, Dp.dAll, Dp.dSorted, Dp.dDictP, Dp.dDictD, Dp.dSortMet, Dp.dLenSet, Dp.dSortSet, Dp.dmApp, Dp.dmExt, Dp.dmPop, Dp.dmPopAt, Dp.dmRem, Dp.dmIdx, Dp.dSet, Dp.intOf, Dp.keyOf, Dp.dwipe, Dp.patD, Dp.patDs, Dp.ln_lst, Dp.ln_tup, Dp.ln_kls, Dp.ln_dK, Dp.dFor, Dp.dLc, Dp.dDc, Dp.dLc2, Dp.srcOf, Dp.dFrz, lk_Seats_scene, pa_Seats_scene, pt_Seats_scene, lk_Seats_seating, pa_Seats_seating, pt_Seats_seating, lk_Seats_seated, pa_Seats_seated, pt_Seats_seated, lk_Kept_lot, pa_Kept_lot, pt_Kept_lot, lk_Kept_seating, pa_Kept_seating, pt_Kept_seating, lk_Kept_papers, pa_Kept_papers, pt_Kept_papers, lk_Call_worth, pa_Call_worth, pt_Call_worth, lk_Call_heard, pa_Call_heard, pt_Call_heard, lk_Scene_channels, pa_Scene_channels, pt_Scene_channels, lk_Scene_calls, pa_Scene_calls, pt_Scene_calls]
        have ekk : ((dCas d s).map fun kv => kD kv.1) = (s.ca.map (·.1)).map .str := by unfold dCas; rw [List.map_map, List.map_map]; rfl
        refine ⟨da, _, rfl, ?_, hD4, fun x M5 hx hD5 ho5 => ?_⟩
        · rw [ekk, hca]; intro h0; cases h0
        rw [ekk] at hx
        obtain ⟨go, hgo, rfl⟩ := List.mem_map.mp hx
        subst e11
        refine seq_hide fun u12 e12 => ?_
        simp only [Dp.dSeq, Dp.dAsg, Dp.dgN, Dp.dVar, Dp.dC, Dp.dUn, Dp.dOp, Dp.dFld, Dp.dTst, Dp.dAnd, Dp.dOr, Dp.dNot, Dp.dAndV, Dp.dOrV, Dp.dNotV, Dp.dIf, Dp.dIfS, Dp.dRet, Dp.dRetN, Dp.dExpr, Dp.dPar, Dp.dPar3, Dp.dNext, Dp.dNever, Dp.dBrk, Dp.dCont, Dp.dgTup, Dp.dgCons, Dp.dgNil, Dp.dCall, Dp.dCons, Dp.dNil, Dp.dTup, Dp.dLst, Dp.dLstM, Dp.dNewK, Dp.dCallF, Dp.dMethF, Dp.dMake, Dp.dMakeF, Dp.dFldS, Dp.dPut, Dp.dBM, Dp.dGet1, Dp.dGet2, Dp.dPop1, Dp.dPop2, Dp.dStar, Dp.dIx, Dp.dAdd, Dp.dSub, Dp.dMul, Dp.dMod, Dp.dFdiv, Dp.dPow, Dp.dNeg, Dp.dAugN, Dp.dAugS, Dp.dAugF, Dp.dAugI, Dp.dLtS, Dp.dLe, Dp.dGt, Dp.dGe, Dp.dOrd, Dp.dBetween, Dp.dIsN, Dp.dEq, Dp.dEqK, Dp.dIn, Dp.dstart, List.map_cons, List.map_nil, List.length_cons, List.length_nil, List.cons_append, List.nil_append, List.replicate, List.getElem?_cons_zero, List.getElem?_cons_succ, List.set_cons_zero, List.set_cons_succ, Nat.reduceAdd, Nat.reduceSub, if_true, if_false, Bool.false_eq_true, Bool.not_true, Bool.not_false, Dp.v_non, Dp.v_bl, Dp.v_int, Dp.v_str, Dp.v_tup, Dp.v_lst, Dp.v_kls, Dp.v_dK, Dp.v_dT, Dp.v_ins, Dp.f_ins, Dp.da_dKs, Dp.da_dKi, Dp.ix_dKs, Dp.ix_dKi, Dp.ix_lst, Dp.ix_tup, Dp.ix_kls, Dp.lo_lst, Dp.lo_kls, Dp.io_lst, Dp.io_tup, Dp.io_kls, Dp.ki_lst, Dp.ki_tup, Dp.ki_dK, Dp.dd_dK, Dp.e_ii, Dp.e_ss, Dp.e_bb, Dp.inB_dK, Dp.inB_tup, Dp.inB_lst, Dp.dLen, Dp.dAbs, Dp.dInt1, Dp.dStr1, Dp.dIsi, Dp.dListOf, Dp.dTupOf, Dp.dSum, Dp.dAny, Dp.dAll, Dp.dSorted, Dp.dDictP, Dp.dDictD, Dp.dSortMet, Dp.dLenSet, Dp.dSortSet, Dp.dmApp, Dp.dmExt, Dp.dmPop, Dp.dmPopAt, Dp.dmRem, Dp.dmIdx, Dp.dSet, Dp.intOf, Dp.keyOf, Dp.dwipe, Dp.patD, Dp.patDs, Dp.ln_lst, Dp.ln_tup, Dp.ln_kls, Dp.ln_dK, Dp.dFor, Dp.dLc, Dp.dDc, Dp.dLc2, Dp.srcOf, Dp.dFrz, lk_Seats_scene, pa_Seats_scene, pt_Seats_scene, lk_Seats_seating, pa_Seats_seating, pt_Seats_seating, lk_Seats_seated, pa_Seats_seated, pt_Seats_seated, lk_Kept_lot, pa_Kept_lot, pt_Kept_lot, lk_Kept_seating, pa_Kept_seating, pt_Kept_seating, lk_Kept_papers, pa_Kept_papers, pt_Kept_papers, lk_Call_worth, pa_Call_worth, pt_Call_worth, lk_Call_heard, pa_Call_heard, pt_Call_heard, lk_Scene_channels, pa_Scene_channels, pt_Scene_channels, lk_Scene_calls, pa_Scene_calls, pt_Scene_calls]
        have erow2 : rowsD (dCas d s) = s.ca.map fun p => .tup [.str p.1, dCal d p.2] := kd_rows s.ca (dCal d)
        change lcBody (rowsD (dCas d s)) _ _ _ _ _ _ _
        rw [erow2]
        refine lc_pure (fun i => (without (s.ca.take i) go).map fun p => .tup [.str p.1, dCal d p.2]) rfl (fun _ _ _ _ => trivial) (fun c i x hc hx => ?_) fun c hc => ?_
        · rw [List.getElem?_map] at hx
          obtain ⟨y, hy, rfl⟩ := Option.map_eq_some_iff.mp hx
          refine ⟨_, rfl, fun Q Q' hQ hQ' => ?_⟩
          have ht : s.ca.take (i + 1) = s.ca.take i ++ [y] := by rw [List.take_succ, hy]; rfl
          simp only [Dp.dSeq, Dp.dAsg, Dp.dgN, Dp.dVar, Dp.dC, Dp.dUn, Dp.dOp, Dp.dFld, Dp.dTst, Dp.dAnd, Dp.dOr, Dp.dNot, Dp.dAndV, Dp.dOrV, Dp.dNotV, Dp.dIf, Dp.dIfS, Dp.dRet, Dp.dRetN, Dp.dExpr, Dp.dPar, Dp.dPar3, Dp.dNext, Dp.dNever, Dp.dBrk, Dp.dCont, Dp.dgTup, Dp.dgCons, Dp.dgNil, Dp.dCall, Dp.dCons, Dp.dNil, Dp.dTup, Dp.dLst, Dp.dLstM, Dp.dNewK, Dp.dCallF, Dp.dMethF, Dp.dMake, Dp.dMakeF, Dp.dFldS, Dp.dPut, Dp.dBM, Dp.dGet1, Dp.dGet2, Dp.dPop1, Dp.dPop2, Dp.dStar, Dp.dIx, Dp.dAdd, Dp.dSub, Dp.dMul, Dp.dMod, Dp.dFdiv, Dp.dPow, Dp.dNeg, Dp.dAugN, Dp.dAugS, Dp.dAugF, Dp.dAugI, Dp.dLtS, Dp.dLe, Dp.dGt, Dp.dGe, Dp.dOrd, Dp.dBetween, Dp.dIsN, Dp.dEq, Dp.dEqK, Dp.dIn, Dp.dstart, List.map_cons, List.map_nil, List.length_cons, List.length_nil, List.cons_append, List.nil_append, List.replicate, List.getElem?_cons_zero, List.getElem?_cons_succ, List.set_cons_zero, List.set_cons_succ, Nat.reduceAdd, Nat.reduceSub, if_true, if_false, Bool.false_eq_true, Bool.not_true, Bool.not_false, Dp.v_non, Dp.v_bl, Dp.v_int, Dp.v_str, Dp.v_tup, Dp.v_lst, Dp.v_kls, Dp.v_dK, Dp.v_dT, Dp.v_ins, Dp.f_ins, Dp.da_dKs, Dp.da_dKi, Dp.ix_dKs, Dp.ix_dKi, Dp.ix_lst, Dp.ix_tup, Dp.ix_kls, Dp.lo_lst, Dp.lo_kls, Dp.io_lst, Dp.io_tup, Dp.io_kls, Dp.ki_lst, Dp.ki_tup, Dp.ki_dK, Dp.dd_dK, Dp.e_ii, Dp.e_ss, Dp.e_bb, Dp.inB_dK, Dp.inB_tup, Dp.inB_lst, Dp.dLen, Dp.dAbs, Dp.dInt1, Dp.dStr1, Dp.dIsi, Dp.dListOf, Dp.dTupOf, Dp.dSum, Dp.dAny, Dp.dAll, Dp.dSorted, Dp.dDictP, Dp.dDictD, Dp.dSortMet, Dp.dLenSet, Dp.dSortSet, Dp.dmApp, Dp.dmExt, Dp.dmPop, Dp.dmPopAt, Dp.dmRem, Dp.dmIdx, Dp.dSet, Dp.intOf, Dp.keyOf, Dp.dwipe, Dp.patD, Dp.patDs, Dp.ln_lst, Dp.ln_tup, Dp.ln_kls, Dp.ln_dK, Dp.dFor, Dp.dLc, Dp.dDc, Dp.dLc2, Dp.srcOf, Dp.dFrz, lk_Seats_scene, pa_Seats_scene, pt_Seats_scene, lk_Seats_seating, pa_Seats_seating, pt_Seats_seating, lk_Seats_seated, pa_Seats_seated, pt_Seats_seated, lk_Kept_lot, pa_Kept_lot, pt_Kept_lot, lk_Kept_seating, pa_Kept_seating, pt_Kept_seating, lk_Kept_papers, pa_Kept_papers, pt_Kept_papers, lk_Call_worth, pa_Call_worth, pt_Call_worth, lk_Call_heard, pa_Call_heard, pt_Call_heard, lk_Scene_channels, pa_Scene_channels, pt_Scene_channels, lk_Scene_calls, pa_Scene_calls, pt_Scene_calls]
          by_cases hyg : y.1 = go
          · rw [decide_eq_true hyg]
            refine hQ' ?_
            rw [ht]; unfold without
            rw [List.filter_append]; simp [hyg]
          · rw [decide_eq_false hyg]
            refine ⟨by decide, hQ _ ?_⟩
            rw [ht]; unfold without
            rw [List.filter_append]; simp [hyg]
        · rw [List.length_map, List.take_length, Option.bind_some, prs_rows]
          dsimp only
          have nd3 : ((without s.ca go).map (·.1)).Nodup := hs.da.sublist (List.filter_sublist.map _)
          rw [merge_nil (nodup_rows nd3), mdel_mup hc]
          subst e12
          refine seq_hide fun u13 e13 => ?_
          refine ifs_hide fun t13 v13 f13 g13 => ?_
          simp only [Dp.dSeq, Dp.dAsg, Dp.dgN, Dp.dVar, Dp.dC, Dp.dUn, Dp.dOp, Dp.dFld, Dp.dTst, Dp.dAnd, Dp.dOr, Dp.dNot, Dp.dAndV, Dp.dOrV, Dp.dNotV, Dp.dIf, Dp.dIfS, Dp.dRet, Dp.dRetN, Dp.dExpr, Dp.dPar, Dp.dPar3, Dp.dNext, Dp.dNever, Dp.dBrk, Dp.dCont, Dp.dgTup, Dp.dgCons, Dp.dgNil, Dp.dCall, Dp.dCons, Dp.dNil, Dp.dTup, Dp.dLst, Dp.dLstM, Dp.dNewK, Dp.dCallF, Dp.dMethF, Dp.dMake, Dp.dMakeF, Dp.dFldS, Dp.dPut, Dp.dBM, Dp.dGet1, Dp.dGet2, Dp.dPop1, Dp.dPop2, Dp.dStar, Dp.dIx, Dp.dAdd, Dp.dSub, Dp.dMul, Dp.dMod, Dp.dFdiv, Dp.dPow, Dp.dNeg, Dp.dAugN, Dp.dAugS, Dp.dAugF, Dp.dAugI, Dp.dLtS, Dp.dLe, Dp.dGt, Dp.dGe, Dp.dOrd, Dp.dBetween, Dp.dIsN, Dp.dEq, Dp.dEqK, Dp.dIn, Dp.dstart, List.map_cons, List.map_nil, List.length_cons, List.length_nil, List.cons_append, List.nil_append, List.replicate, List.getElem?_cons_zero, List.getElem?_cons_succ, List.set_cons_zero, List.set_cons_succ, Nat.reduceAdd, Nat.reduceSub, if_true, if_false, Bool.false_eq_true, Bool.not_true, Bool.not_false, Dp.v_non, Dp.v_bl, Dp.v_int, Dp.v_str, Dp.v_tup, Dp.v_lst, Dp.v_kls, Dp.v_dK, Dp.v_dT, Dp.v_ins, Dp.f_ins, Dp.da_dKs, Dp.da_dKi, Dp.ix_dKs, Dp.ix_dKi, Dp.ix_lst, Dp.ix_tup, Dp.ix_kls, Dp.lo_lst, Dp.lo_kls, Dp.io_lst, Dp.io_tup, Dp.io_kls, Dp.ki_lst, Dp.ki_tup, Dp.ki_dK, Dp.dd_dK, Dp.e_ii, Dp.e_ss, Dp.e_bb, Dp.inB_dK, Dp.inB_tup, Dp.inB_lst, Dp.dLen, Dp.dAbs, Dp.dInt1, Dp.dStr1, Dp.dIsi, Dp.dListOf, Dp.dTupOf, Dp.dSum, Dp.dAny, Dp.dAll, Dp.dSorted, Dp.dDictP, Dp.dDictD, Dp.dSortMet, Dp.dLenSet, Dp.dSortSet, Dp.dmApp, Dp.dmExt, Dp.dmPop, Dp.dmPopAt, Dp.dmRem, Dp.dmIdx, Dp.dSet, Dp.intOf, Dp.keyOf, Dp.dwipe, Dp.patD, Dp.patDs, Dp.ln_lst, Dp.ln_tup, Dp.ln_kls, Dp.ln_dK, Dp.dFor, Dp.dLc, Dp.dDc, Dp.dLc2, Dp.srcOf, Dp.dFrz, lk_Seats_scene, pa_Seats_scene, pt_Seats_scene, lk_Seats_seating, pa_Seats_seating, pt_Seats_seating, lk_Seats_seated, pa_Seats_seated, pt_Seats_seated, lk_Kept_lot, pa_Kept_lot, pt_Kept_lot, lk_Kept_seating, pa_Kept_seating, pt_Kept_seating, lk_Kept_papers, pa_Kept_papers, pt_Kept_papers, lk_Call_worth, pa_Call_worth, pt_Call_worth, lk_Call_heard, pa_Call_heard, pt_Call_heard, lk_Scene_channels, pa_Scene_channels, pt_Scene_channels, lk_Scene_calls, pa_Scene_calls, pt_Scene_calls]
          refine lc_any (fun _ _ => trivial) (fun x hx => ⟨_, rfl, fun M6 Q Q' hg hQ hQ' => ?_⟩) fun M6 le6 => ?_
          · rw [List.mem_map] at hx
            obtain ⟨n, hn, rfl⟩ := hx
            simp only [Dp.dSeq, Dp.dAsg, Dp.dgN, Dp.dVar, Dp.dC, Dp.dUn, Dp.dOp, Dp.dFld, Dp.dTst, Dp.dAnd, Dp.dOr, Dp.dNot, Dp.dAndV, Dp.dOrV, Dp.dNotV, Dp.dIf, Dp.dIfS, Dp.dRet, Dp.dRetN, Dp.dExpr, Dp.dPar, Dp.dPar3, Dp.dNext, Dp.dNever, Dp.dBrk, Dp.dCont, Dp.dgTup, Dp.dgCons, Dp.dgNil, Dp.dCall, Dp.dCons, Dp.dNil, Dp.dTup, Dp.dLst, Dp.dLstM, Dp.dNewK, Dp.dCallF, Dp.dMethF, Dp.dMake, Dp.dMakeF, Dp.dFldS, Dp.dPut, Dp.dBM, Dp.dGet1, Dp.dGet2, Dp.dPop1, Dp.dPop2, Dp.dStar, Dp.dIx, Dp.dAdd, Dp.dSub, Dp.dMul, Dp.dMod, Dp.dFdiv, Dp.dPow, Dp.dNeg, Dp.dAugN, Dp.dAugS, Dp.dAugF, Dp.dAugI, Dp.dLtS, Dp.dLe, Dp.dGt, Dp.dGe, Dp.dOrd, Dp.dBetween, Dp.dIsN, Dp.dEq, Dp.dEqK, Dp.dIn, Dp.dstart, List.map_cons, List.map_nil, List.length_cons, List.length_nil, List.cons_append, List.nil_append, List.replicate, List.getElem?_cons_zero, List.getElem?_cons_succ, List.set_cons_zero, List.set_cons_succ, Nat.reduceAdd, Nat.reduceSub, if_true, if_false, Bool.false_eq_true, Bool.not_true, Bool.not_false, Dp.v_non, Dp.v_bl, Dp.v_int, Dp.v_str, Dp.v_tup, Dp.v_lst, Dp.v_kls, Dp.v_dK, Dp.v_dT, Dp.v_ins, Dp.f_ins, Dp.da_dKs, Dp.da_dKi, Dp.ix_dKs, Dp.ix_dKi, Dp.ix_lst, Dp.ix_tup, Dp.ix_kls, Dp.lo_lst, Dp.lo_kls, Dp.io_lst, Dp.io_tup, Dp.io_kls, Dp.ki_lst, Dp.ki_tup, Dp.ki_dK, Dp.dd_dK, Dp.e_ii, Dp.e_ss, Dp.e_bb, Dp.inB_dK, Dp.inB_tup, Dp.inB_lst, Dp.dLen, Dp.dAbs, Dp.dInt1, Dp.dStr1, Dp.dIsi, Dp.dListOf, Dp.dTupOf, Dp.dSum, Dp.dAny, Dp.dAll, Dp.dSorted, Dp.dDictP, Dp.dDictD, Dp.dSortMet, Dp.dLenSet, Dp.dSortSet, Dp.dmApp, Dp.dmExt, Dp.dmPop, Dp.dmPopAt, Dp.dmRem, Dp.dmIdx, Dp.dSet, Dp.intOf, Dp.keyOf, Dp.dwipe, Dp.patD, Dp.patDs, Dp.ln_lst, Dp.ln_tup, Dp.ln_kls, Dp.ln_dK, Dp.dFor, Dp.dLc, Dp.dDc, Dp.dLc2, Dp.srcOf, Dp.dFrz, lk_Seats_scene, pa_Seats_scene, pt_Seats_scene, lk_Seats_seating, pa_Seats_seating, pt_Seats_seating, lk_Seats_seated, pa_Seats_seated, pt_Seats_seated, lk_Kept_lot, pa_Kept_lot, pt_Kept_lot, lk_Kept_seating, pa_Kept_seating, pt_Kept_seating, lk_Kept_papers, pa_Kept_papers, pt_Kept_papers, lk_Call_worth, pa_Call_worth, pt_Call_worth, lk_Call_heard, pa_Call_heard, pt_Call_heard, lk_Scene_channels, pa_Scene_channels, pt_Scene_channels, lk_Scene_calls, pa_Scene_calls, pt_Scene_calls]
            by_cases hng : n = go
            · rw [decide_eq_true hng]
              exact hQ' _ (MLe.refl _)
            · rw [decide_eq_false hng]
              refine scene_kept (s' := ⟨s.ch, without s.ca go⟩) (fewer_ok hs go) fun M7 S7 pp7 hk7 le7 => ?_
              rw [lot_in (x := n) (stays_fewer hs hk hk7 ((ssort_perm _).mem_iff.mp hn) hng)]
              exact hQ _ le7
          · rw [g13]
            change u13 _ _ _
            have hD6 := hD5.mle le6
            subst e13
            refine seq_hide fun u14 e14 => ?_
            simp only [Dp.dSeq, Dp.dAsg, Dp.dgN, Dp.dVar, Dp.dC, Dp.dUn, Dp.dOp, Dp.dFld, Dp.dTst, Dp.dAnd, Dp.dOr, Dp.dNot, Dp.dAndV, Dp.dOrV, Dp.dNotV, Dp.dIf, Dp.dIfS, Dp.dRet, Dp.dRetN, Dp.dExpr, Dp.dPar, Dp.dPar3, Dp.dNext, Dp.dNever, Dp.dBrk, Dp.dCont, Dp.dgTup, Dp.dgCons, Dp.dgNil, Dp.dCall, Dp.dCons, Dp.dNil, Dp.dTup, Dp.dLst, Dp.dLstM, Dp.dNewK, Dp.dCallF, Dp.dMethF, Dp.dMake, Dp.dMakeF, Dp.dFldS, Dp.dPut, Dp.dBM, Dp.dGet1, Dp.dGet2, Dp.dPop1, Dp.dPop2, Dp.dStar, Dp.dIx, Dp.dAdd, Dp.dSub, Dp.dMul, Dp.dMod, Dp.dFdiv, Dp.dPow, Dp.dNeg, Dp.dAugN, Dp.dAugS, Dp.dAugF, Dp.dAugI, Dp.dLtS, Dp.dLe, Dp.dGt, Dp.dGe, Dp.dOrd, Dp.dBetween, Dp.dIsN, Dp.dEq, Dp.dEqK, Dp.dIn, Dp.dstart, List.map_cons, List.map_nil, List.length_cons, List.length_nil, List.cons_append, List.nil_append, List.replicate, List.getElem?_cons_zero, List.getElem?_cons_succ, List.set_cons_zero, List.set_cons_succ, Nat.reduceAdd, Nat.reduceSub, if_true, if_false, Bool.false_eq_true, Bool.not_true, Bool.not_false, Dp.v_non, Dp.v_bl, Dp.v_int, Dp.v_str, Dp.v_tup, Dp.v_lst, Dp.v_kls, Dp.v_dK, Dp.v_dT, Dp.v_ins, Dp.f_ins, Dp.da_dKs, Dp.da_dKi, Dp.ix_dKs, Dp.ix_dKi, Dp.ix_lst, Dp.ix_tup, Dp.ix_kls, Dp.lo_lst, Dp.lo_kls, Dp.io_lst, Dp.io_tup, Dp.io_kls, Dp.ki_lst, Dp.ki_tup, Dp.ki_dK, Dp.dd_dK, Dp.e_ii, Dp.e_ss, Dp.e_bb, Dp.inB_dK, Dp.inB_tup, Dp.inB_lst, Dp.dLen, Dp.dAbs, Dp.dInt1, Dp.dStr1, Dp.dIsi, Dp.dListOf, Dp.dTupOf, Dp.dSum, Dp.dAny, Dp.dAll, Dp.dSorted, Dp.dDictP, Dp.dDictD, Dp.dSortMet, Dp.dLenSet, Dp.dSortSet, Dp.dmApp, Dp.dmExt, Dp.dmPop, Dp.dmPopAt, Dp.dmRem, Dp.dmIdx, Dp.dSet, Dp.intOf, Dp.keyOf, Dp.dwipe, Dp.patD, Dp.patDs, Dp.ln_lst, Dp.ln_tup, Dp.ln_kls, Dp.ln_dK, Dp.dFor, Dp.dLc, Dp.dDc, Dp.dLc2, Dp.srcOf, Dp.dFrz, lk_Seats_scene, pa_Seats_scene, pt_Seats_scene, lk_Seats_seating, pa_Seats_seating, pt_Seats_seating, lk_Seats_seated, pa_Seats_seated, pt_Seats_seated, lk_Kept_lot, pa_Kept_lot, pt_Kept_lot, lk_Kept_seating, pa_Kept_seating, pt_Kept_seating, lk_Kept_papers, pa_Kept_papers, pt_Kept_papers, lk_Call_worth, pa_Call_worth, pt_Call_worth, lk_Call_heard, pa_Call_heard, pt_Call_heard, lk_Scene_channels, pa_Scene_channels, pt_Scene_channels, lk_Scene_calls, pa_Scene_calls, pt_Scene_calls]
            intro ra hra
            have hRa : ∀ m, mup M6 ra m ra = some m := fun _ => mup_same
            have hDa : Drw (mup M6 ra (.dK (dCas d s))) da := hD6.oth (c := ra) (mup_ne (fun q => by
              obtain ⟨_, _, _, h⟩ := hD6
              rw [← q, h] at hra; cases hra))
            obtain ⟨cg, hcg⟩ := lookup_of hgo
            have elk : look (dCas d s) (Sum.inr go) = some (.ins d.C_Call [("worth", .int cg.1), ("heard", .tup (cg.2.map .str))]) := by rw [look_ca, hcg]; rfl
            have hcgm := lookup_mem hcg
            have ewo : woOf s go = cg.1 := by unfold woOf; rw [hcg]
            have ehe : heardOf s go = cg.2 := by unfold heardOf; rw [hcg]
            have hcw : 0 ≤ cg.1 ∧ cg.1 ≤ 2 := ⟨(hs.wo _ hcgm).1, hdr.w2 _ hcgm⟩
            have ok3 : ScOk ⟨s.ch, put s.ca go (cg.1 + 1, ssort cg.2)⟩ := other_ok hs hgo ⟨by omega, by omega⟩ (fun y hy => hs.he _ hcgm y ((ssort_perm _).mem_iff.mp hy)) ((ssort_perm _).nodup_iff.mpr (hs.hn _ hcgm))
            have okh : ∀ y ∈ cg.2, PyData.strOk y = true := fun y hy => by
              obtain ⟨p, hp, e⟩ := List.mem_map.mp (hs.he _ hcgm y hy)
              rw [← e]; exact (isName_ok (hs.nm p hp)).1
            subst e14
            refine seq_hide fun u15 e15 => ?_
            simp only [Dp.dSeq, Dp.dAsg, Dp.dgN, Dp.dVar, Dp.dC, Dp.dUn, Dp.dOp, Dp.dFld, Dp.dTst, Dp.dAnd, Dp.dOr, Dp.dNot, Dp.dAndV, Dp.dOrV, Dp.dNotV, Dp.dIf, Dp.dIfS, Dp.dRet, Dp.dRetN, Dp.dExpr, Dp.dPar, Dp.dPar3, Dp.dNext, Dp.dNever, Dp.dBrk, Dp.dCont, Dp.dgTup, Dp.dgCons, Dp.dgNil, Dp.dCall, Dp.dCons, Dp.dNil, Dp.dTup, Dp.dLst, Dp.dLstM, Dp.dNewK, Dp.dCallF, Dp.dMethF, Dp.dMake, Dp.dMakeF, Dp.dFldS, Dp.dPut, Dp.dBM, Dp.dGet1, Dp.dGet2, Dp.dPop1, Dp.dPop2, Dp.dStar, Dp.dIx, Dp.dAdd, Dp.dSub, Dp.dMul, Dp.dMod, Dp.dFdiv, Dp.dPow, Dp.dNeg, Dp.dAugN, Dp.dAugS, Dp.dAugF, Dp.dAugI, Dp.dLtS, Dp.dLe, Dp.dGt, Dp.dGe, Dp.dOrd, Dp.dBetween, Dp.dIsN, Dp.dEq, Dp.dEqK, Dp.dIn, Dp.dstart, List.map_cons, List.map_nil, List.length_cons, List.length_nil, List.cons_append, List.nil_append, List.replicate, List.getElem?_cons_zero, List.getElem?_cons_succ, List.set_cons_zero, List.set_cons_succ, Nat.reduceAdd, Nat.reduceSub, if_true, if_false, Bool.false_eq_true, Bool.not_true, Bool.not_false, Dp.v_non, Dp.v_bl, Dp.v_int, Dp.v_str, Dp.v_tup, Dp.v_lst, Dp.v_kls, Dp.v_dK, Dp.v_dT, Dp.v_ins, Dp.f_ins, Dp.da_dKs, Dp.da_dKi, Dp.ix_dKs, Dp.ix_dKi, Dp.ix_lst, Dp.ix_tup, Dp.ix_kls, Dp.lo_lst, Dp.lo_kls, Dp.io_lst, Dp.io_tup, Dp.io_kls, Dp.ki_lst, Dp.ki_tup, Dp.ki_dK, Dp.dd_dK, Dp.e_ii, Dp.e_ss, Dp.e_bb, Dp.inB_dK, Dp.inB_tup, Dp.inB_lst, Dp.dLen, Dp.dAbs, Dp.dInt1, Dp.dStr1, Dp.dIsi, Dp.dListOf, Dp.dTupOf, Dp.dSum, Dp.dAny, Dp.dAll, Dp.dSorted, Dp.dDictP, Dp.dDictD, Dp.dSortMet, Dp.dLenSet, Dp.dSortSet, Dp.dmApp, Dp.dmExt, Dp.dmPop, Dp.dmPopAt, Dp.dmRem, Dp.dmIdx, Dp.dSet, Dp.intOf, Dp.keyOf, Dp.dwipe, Dp.patD, Dp.patDs, Dp.ln_lst, Dp.ln_tup, Dp.ln_kls, Dp.ln_dK, Dp.dFor, Dp.dLc, Dp.dDc, Dp.dLc2, Dp.srcOf, Dp.dFrz, lk_Seats_scene, pa_Seats_scene, pt_Seats_scene, lk_Seats_seating, pa_Seats_seating, pt_Seats_seating, lk_Seats_seated, pa_Seats_seated, pt_Seats_seated, lk_Kept_lot, pa_Kept_lot, pt_Kept_lot, lk_Kept_seating, pa_Kept_seating, pt_Kept_seating, lk_Kept_papers, pa_Kept_papers, pt_Kept_papers, lk_Call_worth, pa_Call_worth, pt_Call_worth, lk_Call_heard, pa_Call_heard, pt_Call_heard, lk_Scene_channels, pa_Scene_channels, pt_Scene_channels, lk_Scene_calls, pa_Scene_calls, pt_Scene_calls, elk, hRa]
            refine ⟨trivial, trivial, fun ka hka => ?_⟩
            have hkr : ka ≠ ra := fun q => by rw [q, mup_same] at hka; cases hka
            refine ⟨ka, cg.1 + 1, cg.2, _, rfl, mup_same, .inr rfl, okh, rfl, _, mup_same, ?_⟩
            have hMr : (mdel (mup (mup (mup M6 ra (.dK (dCas d s))) ka (.ins d.C_Call [])) ka (.ins d.C_Call [("worth", .int (cg.1 + 1)), ("heard", .tup ((ssort cg.2).map .str))])) ka) ra = some (.dK (dCas d s)) := by
              rw [mdel_ne (Ne.symm hkr), mup_ne (Ne.symm hkr), mup_ne (Ne.symm hkr), mup_same]
            simp only [Dp.dSeq, Dp.dAsg, Dp.dgN, Dp.dVar, Dp.dC, Dp.dUn, Dp.dOp, Dp.dFld, Dp.dTst, Dp.dAnd, Dp.dOr, Dp.dNot, Dp.dAndV, Dp.dOrV, Dp.dNotV, Dp.dIf, Dp.dIfS, Dp.dRet, Dp.dRetN, Dp.dExpr, Dp.dPar, Dp.dPar3, Dp.dNext, Dp.dNever, Dp.dBrk, Dp.dCont, Dp.dgTup, Dp.dgCons, Dp.dgNil, Dp.dCall, Dp.dCons, Dp.dNil, Dp.dTup, Dp.dLst, Dp.dLstM, Dp.dNewK, Dp.dCallF, Dp.dMethF, Dp.dMake, Dp.dMakeF, Dp.dFldS, Dp.dPut, Dp.dBM, Dp.dGet1, Dp.dGet2, Dp.dPop1, Dp.dPop2, Dp.dStar, Dp.dIx, Dp.dAdd, Dp.dSub, Dp.dMul, Dp.dMod, Dp.dFdiv, Dp.dPow, Dp.dNeg, Dp.dAugN, Dp.dAugS, Dp.dAugF, Dp.dAugI, Dp.dLtS, Dp.dLe, Dp.dGt, Dp.dGe, Dp.dOrd, Dp.dBetween, Dp.dIsN, Dp.dEq, Dp.dEqK, Dp.dIn, Dp.dstart, List.map_cons, List.map_nil, List.length_cons, List.length_nil, List.cons_append, List.nil_append, List.replicate, List.getElem?_cons_zero, List.getElem?_cons_succ, List.set_cons_zero, List.set_cons_succ, Nat.reduceAdd, Nat.reduceSub, if_true, if_false, Bool.false_eq_true, Bool.not_true, Bool.not_false, Dp.v_non, Dp.v_bl, Dp.v_int, Dp.v_str, Dp.v_tup, Dp.v_lst, Dp.v_kls, Dp.v_dK, Dp.v_dT, Dp.v_ins, Dp.f_ins, Dp.da_dKs, Dp.da_dKi, Dp.ix_dKs, Dp.ix_dKi, Dp.ix_lst, Dp.ix_tup, Dp.ix_kls, Dp.lo_lst, Dp.lo_kls, Dp.io_lst, Dp.io_tup, Dp.io_kls, Dp.ki_lst, Dp.ki_tup, Dp.ki_dK, Dp.dd_dK, Dp.e_ii, Dp.e_ss, Dp.e_bb, Dp.inB_dK, Dp.inB_tup, Dp.inB_lst, Dp.dLen, Dp.dAbs, Dp.dInt1, Dp.dStr1, Dp.dIsi, Dp.dListOf, Dp.dTupOf, Dp.dSum, Dp.dAny, Dp.dAll, Dp.dSorted, Dp.dDictP, Dp.dDictD, Dp.dSortMet, Dp.dLenSet, Dp.dSortSet, Dp.dmApp, Dp.dmExt, Dp.dmPop, Dp.dmPopAt, Dp.dmRem, Dp.dmIdx, Dp.dSet, Dp.intOf, Dp.keyOf, Dp.dwipe, Dp.patD, Dp.patDs, Dp.ln_lst, Dp.ln_tup, Dp.ln_kls, Dp.ln_dK, Dp.dFor, Dp.dLc, Dp.dDc, Dp.dLc2, Dp.srcOf, Dp.dFrz, lk_Seats_scene, pa_Seats_scene, pt_Seats_scene, lk_Seats_seating, pa_Seats_seating, pt_Seats_seating, lk_Seats_seated, pa_Seats_seated, pt_Seats_seated, lk_Kept_lot, pa_Kept_lot, pt_Kept_lot, lk_Kept_seating, pa_Kept_seating, pt_Kept_seating, lk_Kept_papers, pa_Kept_papers, pt_Kept_papers, lk_Call_worth, pa_Call_worth, pt_Call_worth, lk_Call_heard, pa_Call_heard, pt_Call_heard, lk_Scene_channels, pa_Scene_channels, pt_Scene_channels, lk_Scene_calls, pa_Scene_calls, pt_Scene_calls, hMr]
            refine ⟨szlt (by unfold dCas; rw [List.length_map]; have := hs.la; omega), ?_⟩
            have ep : put (dCas d s) (Sum.inr go) (.ins d.C_Call [("worth", .int (cg.1 + 1)), ("heard", .tup ((ssort cg.2).map .str))]) = dCas d ⟨s.ch, put s.ca go (cg.1 + 1, ssort cg.2)⟩ := put_rows s.ca (dCal d) go (cg.1 + 1, ssort cg.2)
            rw [ep]
            subst e15
            refine seq_hide fun u16 e16 => ?_
            have hD7 : Drw (mup (mdel (mup (mup (mup M6 ra (.dK (dCas d s))) ka (.ins d.C_Call [])) ka (.ins d.C_Call [("worth", .int (cg.1 + 1)), ("heard", .tup ((ssort cg.2).map .str))])) ka) ra (.dK (dCas d ⟨s.ch, put s.ca go (cg.1 + 1, ssort cg.2)⟩))) da := by
              have hda2 : da ≠ ra := fun q => by
                obtain ⟨_, _, _, h⟩ := hD6
                rw [q, hra] at h; cases h
              have hda3 : da ≠ ka := fun q => by
                obtain ⟨_, _, _, h⟩ := hDa
                rw [q, hka] at h; cases h
              refine hD6.oth (c := da) ?_
              rw [mup_ne hda2, mdel_ne hda3, mup_ne hda3, mup_ne hda3, mup_ne hda2]
            have hcont : ∀ M', Drw M' da → u16 { nx := u8 { nx := fun x M' => ∃ M'', MLe M'' M' ∧ R D.non M'', rt := R }, rt := R } [some (.kls (xs.map .int)), some (.adr da), some (dScn d s), some (.tup ((ssort (S.map (·.1))).map .str)), some (.dK (dCas d s)), some (.str ms), some (.dK ((moreCh s.ch ms).map fun p => (Sum.inr p.1, .int p.2))), some (.str go), some (.dK ((without s.ca go).map fun p => (Sum.inr p.1, dCal d p.2))), some (.adr ra), none, none, none, none, none, none, none, none, none] M' := by
              intro M8 hD8
              subst e16
              refine seq_hide fun u18 e18 => ?_
              simp only [Dp.dSeq, Dp.dAsg, Dp.dgN, Dp.dVar, Dp.dC, Dp.dUn, Dp.dOp, Dp.dFld, Dp.dTst, Dp.dAnd, Dp.dOr, Dp.dNot, Dp.dAndV, Dp.dOrV, Dp.dNotV, Dp.dIf, Dp.dIfS, Dp.dRet, Dp.dRetN, Dp.dExpr, Dp.dPar, Dp.dPar3, Dp.dNext, Dp.dNever, Dp.dBrk, Dp.dCont, Dp.dgTup, Dp.dgCons, Dp.dgNil, Dp.dCall, Dp.dCons, Dp.dNil, Dp.dTup, Dp.dLst, Dp.dLstM, Dp.dNewK, Dp.dCallF, Dp.dMethF, Dp.dMake, Dp.dMakeF, Dp.dFldS, Dp.dPut, Dp.dBM, Dp.dGet1, Dp.dGet2, Dp.dPop1, Dp.dPop2, Dp.dStar, Dp.dIx, Dp.dAdd, Dp.dSub, Dp.dMul, Dp.dMod, Dp.dFdiv, Dp.dPow, Dp.dNeg, Dp.dAugN, Dp.dAugS, Dp.dAugF, Dp.dAugI, Dp.dLtS, Dp.dLe, Dp.dGt, Dp.dGe, Dp.dOrd, Dp.dBetween, Dp.dIsN, Dp.dEq, Dp.dEqK, Dp.dIn, Dp.dstart, List.map_cons, List.map_nil, List.length_cons, List.length_nil, List.cons_append, List.nil_append, List.replicate, List.getElem?_cons_zero, List.getElem?_cons_succ, List.set_cons_zero, List.set_cons_succ, Nat.reduceAdd, Nat.reduceSub, if_true, if_false, Bool.false_eq_true, Bool.not_true, Bool.not_false, Dp.v_non, Dp.v_bl, Dp.v_int, Dp.v_str, Dp.v_tup, Dp.v_lst, Dp.v_kls, Dp.v_dK, Dp.v_dT, Dp.v_ins, Dp.f_ins, Dp.da_dKs, Dp.da_dKi, Dp.ix_dKs, Dp.ix_dKi, Dp.ix_lst, Dp.ix_tup, Dp.ix_kls, Dp.lo_lst, Dp.lo_kls, Dp.io_lst, Dp.io_tup, Dp.io_kls, Dp.ki_lst, Dp.ki_tup, Dp.ki_dK, Dp.dd_dK, Dp.e_ii, Dp.e_ss, Dp.e_bb, Dp.inB_dK, Dp.inB_tup, Dp.inB_lst, Dp.dLen, Dp.dAbs, Dp.dInt1, Dp.dStr1, Dp.dIsi, Dp.dListOf, Dp.dTupOf, Dp.dSum, Dp.dAny, Dp.dAll, Dp.dSorted, Dp.dDictP, Dp.dDictD, Dp.dSortMet, Dp.dLenSet, Dp.dSortSet, Dp.dmApp, Dp.dmExt, Dp.dmPop, Dp.dmPopAt, Dp.dmRem, Dp.dmIdx, Dp.dSet, Dp.intOf, Dp.keyOf, Dp.dwipe, Dp.patD, Dp.patDs, Dp.ln_lst, Dp.ln_tup, Dp.ln_kls, Dp.ln_dK, Dp.dFor, Dp.dLc, Dp.dDc, Dp.dLc2, Dp.srcOf, Dp.dFrz, lk_Seats_scene, pa_Seats_scene, pt_Seats_scene, lk_Seats_seating, pa_Seats_seating, pt_Seats_seating, lk_Seats_seated, pa_Seats_seated, pt_Seats_seated, lk_Kept_lot, pa_Kept_lot, pt_Kept_lot, lk_Kept_seating, pa_Kept_seating, pt_Kept_seating, lk_Kept_papers, pa_Kept_papers, pt_Kept_papers, lk_Call_worth, pa_Call_worth, pt_Call_worth, lk_Call_heard, pa_Call_heard, pt_Call_heard, lk_Scene_channels, pa_Scene_channels, pt_Scene_channels, lk_Scene_calls, pa_Scene_calls, pt_Scene_calls]
              intro wa hwa
              have hRw : ∀ m, mup M8 wa m wa = some m := fun _ => mup_same
              subst e18
              refine seq_hide fun u19 e19 => ?_
              simp only [Dp.dSeq, Dp.dAsg, Dp.dgN, Dp.dVar, Dp.dC, Dp.dUn, Dp.dOp, Dp.dFld, Dp.dTst, Dp.dAnd, Dp.dOr, Dp.dNot, Dp.dAndV, Dp.dOrV, Dp.dNotV, Dp.dIf, Dp.dIfS, Dp.dRet, Dp.dRetN, Dp.dExpr, Dp.dPar, Dp.dPar3, Dp.dNext, Dp.dNever, Dp.dBrk, Dp.dCont, Dp.dgTup, Dp.dgCons, Dp.dgNil, Dp.dCall, Dp.dCons, Dp.dNil, Dp.dTup, Dp.dLst, Dp.dLstM, Dp.dNewK, Dp.dCallF, Dp.dMethF, Dp.dMake, Dp.dMakeF, Dp.dFldS, Dp.dPut, Dp.dBM, Dp.dGet1, Dp.dGet2, Dp.dPop1, Dp.dPop2, Dp.dStar, Dp.dIx, Dp.dAdd, Dp.dSub, Dp.dMul, Dp.dMod, Dp.dFdiv, Dp.dPow, Dp.dNeg, Dp.dAugN, Dp.dAugS, Dp.dAugF, Dp.dAugI, Dp.dLtS, Dp.dLe, Dp.dGt, Dp.dGe, Dp.dOrd, Dp.dBetween, Dp.dIsN, Dp.dEq, Dp.dEqK, Dp.dIn, Dp.dstart, List.map_cons, List.map_nil, List.length_cons, List.length_nil, List.cons_append, List.nil_append, List.replicate, List.getElem?_cons_zero, List.getElem?_cons_succ, List.set_cons_zero, List.set_cons_succ, Nat.reduceAdd, Nat.reduceSub, if_true, if_false, Bool.false_eq_true, Bool.not_true, Bool.not_false, Dp.v_non, Dp.v_bl, Dp.v_int, Dp.v_str, Dp.v_tup, Dp.v_lst, Dp.v_kls, Dp.v_dK, Dp.v_dT, Dp.v_ins, Dp.f_ins, Dp.da_dKs, Dp.da_dKi, Dp.ix_dKs, Dp.ix_dKi, Dp.ix_lst, Dp.ix_tup, Dp.ix_kls, Dp.lo_lst, Dp.lo_kls, Dp.io_lst, Dp.io_tup, Dp.io_kls, Dp.ki_lst, Dp.ki_tup, Dp.ki_dK, Dp.dd_dK, Dp.e_ii, Dp.e_ss, Dp.e_bb, Dp.inB_dK, Dp.inB_tup, Dp.inB_lst, Dp.dLen, Dp.dAbs, Dp.dInt1, Dp.dStr1, Dp.dIsi, Dp.dListOf, Dp.dTupOf, Dp.dSum, Dp.dAny, Dp.dAll, Dp.dSorted, Dp.dDictP, Dp.dDictD, Dp.dSortMet, Dp.dLenSet, Dp.dSortSet, Dp.dmApp, Dp.dmExt, Dp.dmPop, Dp.dmPopAt, Dp.dmRem, Dp.dmIdx, Dp.dSet, Dp.intOf, Dp.keyOf, Dp.dwipe, Dp.patD, Dp.patDs, Dp.ln_lst, Dp.ln_tup, Dp.ln_kls, Dp.ln_dK, Dp.dFor, Dp.dLc, Dp.dDc, Dp.dLc2, Dp.srcOf, Dp.dFrz, lk_Seats_scene, pa_Seats_scene, pt_Seats_scene, lk_Seats_seating, pa_Seats_seating, pt_Seats_seating, lk_Seats_seated, pa_Seats_seated, pt_Seats_seated, lk_Kept_lot, pa_Kept_lot, pt_Kept_lot, lk_Kept_seating, pa_Kept_seating, pt_Kept_seating, lk_Kept_papers, pa_Kept_papers, pt_Kept_papers, lk_Call_worth, pa_Call_worth, pt_Call_worth, lk_Call_heard, pa_Call_heard, pt_Call_heard, lk_Scene_channels, pa_Scene_channels, pt_Scene_channels, lk_Scene_calls, pa_Scene_calls, pt_Scene_calls, dScn, elk, hRw]
              have hl5 : cg.2.length ≤ 500 := Nat.le_trans (nodup_sub (hs.hn _ hcgm) (hs.he _ hcgm)) (by rw [List.length_map]; exact hs.lc)
              have ews : cg.2.map D.str ++ [D.str ms] = (cg.2 ++ [ms]).map D.str := by rw [List.map_append]; rfl
              have okw : ∀ y ∈ cg.2 ++ [ms], PyData.strOk y = true := fun y hy => by
                rcases List.mem_append.mp hy with hy | hy
                · exact okh y hy
                · rw [List.mem_singleton.mp hy]
                  obtain ⟨p, hp, e⟩ := List.mem_map.mp hms
                  rw [← e]; exact (isName_ok (hs.nm p hp)).1
              have ekd : ∀ l : List Str, (l.map (Sum.inr : Str → Sum Int Str)).map kD = l.map D.str := fun l => by rw [List.map_map]; rfl
              rw [ews, Option.bind_some, keysOf_strs]
              dsimp only
              refine ⟨trivial, trivial, by decide, szl (by rw [List.length_map]; omega), ?_, by rw [ekd]; exact keyOk_strs okw, fun ks' pk ka hka => ?_⟩
              · rw [List.length_map, List.length_append]
                show _ < 4096
                simp; omega
              obtain ⟨wl, rfl, wnd, wmem⟩ := set_strs pk
              rw [ekd, srt_strs]
              have hkr : ka ≠ wa := fun q => by rw [q, mup_same] at hka; cases hka
              have ok4 : ScOk ⟨s.ch, put s.ca go (cg.1, ssort (ssort wl))⟩ := other_ok hs hgo ⟨by omega, by omega⟩ (fun y hy => by
                have hy' := (wmem y).mp ((ssort_perm _).mem_iff.mp ((ssort_perm _).mem_iff.mp hy))
                rcases List.mem_append.mp hy' with q | q
                · exact hs.he _ hcgm y q
                · rw [List.mem_singleton.mp q]; exact hms) ((ssort_perm _).nodup_iff.mpr ((ssort_perm _).nodup_iff.mpr wnd))
              refine ⟨ka, cg.1, ssort wl, _, rfl, mup_same, .inl rfl, fun y hy => okw y ((wmem y).mp ((ssort_perm _).mem_iff.mp hy)), rfl, _, mup_same, ?_⟩
              have hMw : (mdel (mup (mup (mup M8 wa (.dK (dCas d s))) ka (.ins d.C_Call [])) ka (.ins d.C_Call [("worth", .int cg.1), ("heard", .tup ((ssort (ssort wl)).map .str))])) ka) wa = some (.dK (dCas d s)) := by
                rw [mdel_ne (Ne.symm hkr), mup_ne (Ne.symm hkr), mup_ne (Ne.symm hkr), mup_same]
              rw [hMw]
              dsimp only
              refine ⟨szlt (by unfold dCas; rw [List.length_map]; have := hs.la; omega), ?_⟩
              have epw : put (dCas d s) (Sum.inr go) (.ins d.C_Call [("worth", .int cg.1), ("heard", .tup ((ssort (ssort wl)).map .str))]) = dCas d ⟨s.ch, put s.ca go (cg.1, ssort (ssort wl))⟩ := put_rows s.ca (dCal d) go (cg.1, ssort (ssort wl))
              rw [epw]
              have hda2 : da ≠ wa := fun q => by
                obtain ⟨_, _, _, h⟩ := hD8
                rw [q, hwa] at h; cases h
              have hda3 : da ≠ ka := fun q => by
                obtain ⟨_, _, _, h⟩ := hD8
                rw [← q, mup_ne hda2, h] at hka; cases hka
              have hD9 : Drw (mup (mdel (mup (mup (mup M8 wa (.dK (dCas d s))) ka (.ins d.C_Call [])) ka (.ins d.C_Call [("worth", .int cg.1), ("heard", .tup ((ssort (ssort wl)).map .str))])) ka) wa (.dK (dCas d ⟨s.ch, put s.ca go (cg.1, ssort (ssort wl))⟩))) da := by
                refine hD8.oth (c := da) ?_
                rw [mup_ne hda2, mdel_ne hda3, mup_ne hda3, mup_ne hda3, mup_ne hda2]
              subst e19
              refine ifs_hide fun t20 v20 f20 g20 => ?_
              simp only [Dp.dSeq, Dp.dAsg, Dp.dgN, Dp.dVar, Dp.dC, Dp.dUn, Dp.dOp, Dp.dFld, Dp.dTst, Dp.dAnd, Dp.dOr, Dp.dNot, Dp.dAndV, Dp.dOrV, Dp.dNotV, Dp.dIf, Dp.dIfS, Dp.dRet, Dp.dRetN, Dp.dExpr, Dp.dPar, Dp.dPar3, Dp.dNext, Dp.dNever, Dp.dBrk, Dp.dCont, Dp.dgTup, Dp.dgCons, Dp.dgNil, Dp.dCall, Dp.dCons, Dp.dNil, Dp.dTup, Dp.dLst, Dp.dLstM, Dp.dNewK, Dp.dCallF, Dp.dMethF, Dp.dMake, Dp.dMakeF, Dp.dFldS, Dp.dPut, Dp.dBM, Dp.dGet1, Dp.dGet2, Dp.dPop1, Dp.dPop2, Dp.dStar, Dp.dIx, Dp.dAdd, Dp.dSub, Dp.dMul, Dp.dMod, Dp.dFdiv, Dp.dPow, Dp.dNeg, Dp.dAugN, Dp.dAugS, Dp.dAugF, Dp.dAugI, Dp.dLtS, Dp.dLe, Dp.dGt, Dp.dGe, Dp.dOrd, Dp.dBetween, Dp.dIsN, Dp.dEq, Dp.dEqK, Dp.dIn, Dp.dstart, List.map_cons, List.map_nil, List.length_cons, List.length_nil, List.cons_append, List.nil_append, List.replicate, List.getElem?_cons_zero, List.getElem?_cons_succ, List.set_cons_zero, List.set_cons_succ, Nat.reduceAdd, Nat.reduceSub, if_true, if_false, Bool.false_eq_true, Bool.not_true, Bool.not_false, Dp.v_non, Dp.v_bl, Dp.v_int, Dp.v_str, Dp.v_tup, Dp.v_lst, Dp.v_kls, Dp.v_dK, Dp.v_dT, Dp.v_ins, Dp.f_ins, Dp.da_dKs, Dp.da_dKi, Dp.ix_dKs, Dp.ix_dKi, Dp.ix_lst, Dp.ix_tup, Dp.ix_kls, Dp.lo_lst, Dp.lo_kls, Dp.io_lst, Dp.io_tup, Dp.io_kls, Dp.ki_lst, Dp.ki_tup, Dp.ki_dK, Dp.dd_dK, Dp.e_ii, Dp.e_ss, Dp.e_bb, Dp.inB_dK, Dp.inB_tup, Dp.inB_lst, Dp.dLen, Dp.dAbs, Dp.dInt1, Dp.dStr1, Dp.dIsi, Dp.dListOf, Dp.dTupOf, Dp.dSum, Dp.dAny, Dp.dAll, Dp.dSorted, Dp.dDictP, Dp.dDictD, Dp.dSortMet, Dp.dLenSet, Dp.dSortSet, Dp.dmApp, Dp.dmExt, Dp.dmPop, Dp.dmPopAt, Dp.dmRem, Dp.dmIdx, Dp.dSet, Dp.intOf, Dp.keyOf, Dp.dwipe, Dp.patD, Dp.patDs, Dp.ln_lst, Dp.ln_tup, Dp.ln_kls, Dp.ln_dK, Dp.dFor, Dp.dLc, Dp.dDc, Dp.dLc2, Dp.srcOf, Dp.dFrz, lk_Seats_scene, pa_Seats_scene, pt_Seats_scene, lk_Seats_seating, pa_Seats_seating, pt_Seats_seating, lk_Seats_seated, pa_Seats_seated, pt_Seats_seated, lk_Kept_lot, pa_Kept_lot, pt_Kept_lot, lk_Kept_seating, pa_Kept_seating, pt_Kept_seating, lk_Kept_papers, pa_Kept_papers, pt_Kept_papers, lk_Call_worth, pa_Call_worth, pt_Call_worth, lk_Call_heard, pa_Call_heard, pt_Call_heard, lk_Scene_channels, pa_Scene_channels, pt_Scene_channels, lk_Scene_calls, pa_Scene_calls, pt_Scene_calls, seqIn_strs]
              by_cases hgl : go ∈ ssort (S.map (·.1))
              · rw [if_pos (decide_eq_true hgl)]
                refine ⟨_, _, fz_dK mup_same, scene_kept (s' := ⟨s.ch, put s.ca go (cg.1, ssort (ssort wl))⟩) ok4 fun M10 S8 pp8 hk8 le8 => ?_⟩
                rw [lot_in (x := go) (stays_other hs hgo ok4 (by rw [ewo]; exact Int.le_refl _) (fun y hy => by
                  rw [ehe] at hy
                  exact (ssort_perm _).mem_iff.mpr ((ssort_perm _).mem_iff.mpr ((wmem y).mpr (List.mem_append_left _ hy)))) hk hk8 ((ssort_perm _).mem_iff.mp hgl))]
                dsimp only
                rw [if_neg (by decide), g20]
                change u8 _ _ _
                refine hrest _ _ _ _ _ _ _ _ _ _ _ _ _ _ _ _ (Drw.mle ?_ le8)
                exact hD9.oth (c := da) (mdel_ne hda2)
              · rw [if_neg (by rw [decide_eq_true_eq]; exact hgl), g20]
                change u8 _ _ _
                exact hrest _ _ _ _ _ _ _ _ _ _ _ _ _ _ _ _ hD9
            refine ifs_hide fun t17 v17 f17 g17 => ?_
            simp only [Dp.dSeq, Dp.dAsg, Dp.dgN, Dp.dVar, Dp.dC, Dp.dUn, Dp.dOp, Dp.dFld, Dp.dTst, Dp.dAnd, Dp.dOr, Dp.dNot, Dp.dAndV, Dp.dOrV, Dp.dNotV, Dp.dIf, Dp.dIfS, Dp.dRet, Dp.dRetN, Dp.dExpr, Dp.dPar, Dp.dPar3, Dp.dNext, Dp.dNever, Dp.dBrk, Dp.dCont, Dp.dgTup, Dp.dgCons, Dp.dgNil, Dp.dCall, Dp.dCons, Dp.dNil, Dp.dTup, Dp.dLst, Dp.dLstM, Dp.dNewK, Dp.dCallF, Dp.dMethF, Dp.dMake, Dp.dMakeF, Dp.dFldS, Dp.dPut, Dp.dBM, Dp.dGet1, Dp.dGet2, Dp.dPop1, Dp.dPop2, Dp.dStar, Dp.dIx, Dp.dAdd, Dp.dSub, Dp.dMul, Dp.dMod, Dp.dFdiv, Dp.dPow, Dp.dNeg, Dp.dAugN, Dp.dAugS, Dp.dAugF, Dp.dAugI, Dp.dLtS, Dp.dLe, Dp.dGt, Dp.dGe, Dp.dOrd, Dp.dBetween, Dp.dIsN, Dp.dEq, Dp.dEqK, Dp.dIn, Dp.dstart, List.map_cons, List.map_nil, List.length_cons, List.length_nil, List.cons_append, List.nil_append, List.replicate, List.getElem?_cons_zero, List.getElem?_cons_succ, List.set_cons_zero, List.set_cons_succ, Nat.reduceAdd, Nat.reduceSub, if_true, if_false, Bool.false_eq_true, Bool.not_true, Bool.not_false, Dp.v_non, Dp.v_bl, Dp.v_int, Dp.v_str, Dp.v_tup, Dp.v_lst, Dp.v_kls, Dp.v_dK, Dp.v_dT, Dp.v_ins, Dp.f_ins, Dp.da_dKs, Dp.da_dKi, Dp.ix_dKs, Dp.ix_dKi, Dp.ix_lst, Dp.ix_tup, Dp.ix_kls, Dp.lo_lst, Dp.lo_kls, Dp.io_lst, Dp.io_tup, Dp.io_kls, Dp.ki_lst, Dp.ki_tup, Dp.ki_dK, Dp.dd_dK, Dp.e_ii, Dp.e_ss, Dp.e_bb, Dp.inB_dK, Dp.inB_tup, Dp.inB_lst, Dp.dLen, Dp.dAbs, Dp.dInt1, Dp.dStr1, Dp.dIsi, Dp.dListOf, Dp.dTupOf, Dp.dSum, Dp.dAny, Dp.dAll, Dp.dSorted, Dp.dDictP, Dp.dDictD, Dp.dSortMet, Dp.dLenSet, Dp.dSortSet, Dp.dmApp, Dp.dmExt, Dp.dmPop, Dp.dmPopAt, Dp.dmRem, Dp.dmIdx, Dp.dSet, Dp.intOf, Dp.keyOf, Dp.dwipe, Dp.patD, Dp.patDs, Dp.ln_lst, Dp.ln_tup, Dp.ln_kls, Dp.ln_dK, Dp.dFor, Dp.dLc, Dp.dDc, Dp.dLc2, Dp.srcOf, Dp.dFrz, lk_Seats_scene, pa_Seats_scene, pt_Seats_scene, lk_Seats_seating, pa_Seats_seating, pt_Seats_seating, lk_Seats_seated, pa_Seats_seated, pt_Seats_seated, lk_Kept_lot, pa_Kept_lot, pt_Kept_lot, lk_Kept_seating, pa_Kept_seating, pt_Kept_seating, lk_Kept_papers, pa_Kept_papers, pt_Kept_papers, lk_Call_worth, pa_Call_worth, pt_Call_worth, lk_Call_heard, pa_Call_heard, pt_Call_heard, lk_Scene_channels, pa_Scene_channels, pt_Scene_channels, lk_Scene_calls, pa_Scene_calls, pt_Scene_calls, seqIn_strs]
            by_cases hgl : go ∈ ssort (S.map (·.1))
            · rw [if_pos (decide_eq_true hgl)]
              refine ⟨_, _, fz_dK mup_same, scene_kept (s' := ⟨s.ch, put s.ca go (cg.1 + 1, ssort cg.2)⟩) ok3 fun M8 S8 pp8 hk8 le8 => ?_⟩
              rw [lot_in (x := go) (stays_other hs hgo ok3 (by rw [ewo]; omega) (fun y hy => by
                rw [ehe] at hy
                exact (ssort_perm _).mem_iff.mpr hy) hk hk8 ((ssort_perm _).mem_iff.mp hgl))]
              dsimp only
              rw [if_neg (by decide), g17]
              change u16 _ _ _
              refine hcont _ (Drw.mle ?_ le8)
              refine hD7.oth (c := da) (mdel_ne fun q => ?_)
              obtain ⟨_, _, _, h⟩ := hD6
              rw [q, hra] at h; cases h
            · rw [if_neg (by rw [decide_eq_true_eq]; exact hgl), g17]
              change u16 _ _ _
              exact hcont _ hD7

end
end K20
namespace K20
open PySem PySem.Spec L2 Dp
theorem all_mk {l : PySem.W.OpenLaw} {w : World} {K : PySem.W.Frag} {h : Heap} {mg : Str → Option Value} {fa C_Seats C_Kept C_Call C_Scene f_Seats_init f_Seats_sit f_Seats_has_room f_Seats_ways_from f_Seats_add f_Seats_lot_against f_Kept_init f_kept f_is_seatable f_is_whole f_is_name f_Call_init f_Scene_init f_Scene_order f_Scene_rank f_law_number f_law_take f_law_pick f_law_masts f_law_heard f_law_scene f_law : Addr} (X : K.In h) (G : h.Ns mainGlobals mg) (hfa : mg "law" = some (.ref fa))
    {oc_Seats_init kV_Seats_init dc_Seats_init pm_Seats_init cd_Seats_init ct_Seats_init : Value} {od_Seats_init an_Seats_init : Option Addr} {sl_Seats_init : Array (Option Value)} {oc_Seats_sit kV_Seats_sit dc_Seats_sit pm_Seats_sit cd_Seats_sit ct_Seats_sit : Value} {od_Seats_sit an_Seats_sit : Option Addr} {sl_Seats_sit : Array (Option Value)} {oc_Seats_has_room kV_Seats_has_room dc_Seats_has_room pm_Seats_has_room cd_Seats_has_room ct_Seats_has_room : Value} {od_Seats_has_room an_Seats_has_room : Option Addr} {sl_Seats_has_room : Array (Option Value)} {oc_Seats_ways_from kV_Seats_ways_from dc_Seats_ways_from pm_Seats_ways_from cd_Seats_ways_from ct_Seats_ways_from : Value} {od_Seats_ways_from an_Seats_ways_from : Option Addr} {sl_Seats_ways_from : Array (Option Value)} {oc_Seats_add kV_Seats_add dc_Seats_add pm_Seats_add cd_Seats_add ct_Seats_add : Value} {od_Seats_add an_Seats_add : Option Addr} {sl_Seats_add : Array (Option Value)} {oc_Seats_lot_against kV_Seats_lot_against dc_Seats_lot_against pm_Seats_lot_against cd_Seats_lot_against ct_Seats_lot_against : Value} {od_Seats_lot_against an_Seats_lot_against : Option Addr} {sl_Seats_lot_against : Array (Option Value)} {oc_Kept_init kV_Kept_init dc_Kept_init pm_Kept_init cd_Kept_init ct_Kept_init : Value} {od_Kept_init an_Kept_init : Option Addr} {sl_Kept_init : Array (Option Value)} {oc_kept kV_kept dc_kept pm_kept cd_kept ct_kept : Value} {od_kept an_kept : Option Addr} {sl_kept : Array (Option Value)} {oc_is_seatable kV_is_seatable dc_is_seatable pm_is_seatable cd_is_seatable ct_is_seatable : Value} {od_is_seatable an_is_seatable : Option Addr} {sl_is_seatable : Array (Option Value)} {oc_is_whole kV_is_whole dc_is_whole pm_is_whole cd_is_whole ct_is_whole : Value} {od_is_whole an_is_whole : Option Addr} {sl_is_whole : Array (Option Value)} {oc_is_name kV_is_name dc_is_name pm_is_name cd_is_name ct_is_name : Value} {od_is_name an_is_name : Option Addr} {sl_is_name : Array (Option Value)} {oc_Call_init kV_Call_init dc_Call_init pm_Call_init cd_Call_init ct_Call_init : Value} {od_Call_init an_Call_init : Option Addr} {sl_Call_init : Array (Option Value)} {oc_Scene_init kV_Scene_init dc_Scene_init pm_Scene_init cd_Scene_init ct_Scene_init : Value} {od_Scene_init an_Scene_init : Option Addr} {sl_Scene_init : Array (Option Value)} {oc_Scene_order kV_Scene_order dc_Scene_order pm_Scene_order cd_Scene_order ct_Scene_order : Value} {od_Scene_order an_Scene_order : Option Addr} {sl_Scene_order : Array (Option Value)} {oc_Scene_rank kV_Scene_rank dc_Scene_rank pm_Scene_rank cd_Scene_rank ct_Scene_rank : Value} {od_Scene_rank an_Scene_rank : Option Addr} {sl_Scene_rank : Array (Option Value)} {oc_law_number kV_law_number dc_law_number pm_law_number cd_law_number ct_law_number : Value} {od_law_number an_law_number : Option Addr} {sl_law_number : Array (Option Value)} {oc_law_take kV_law_take dc_law_take pm_law_take cd_law_take ct_law_take : Value} {od_law_take an_law_take : Option Addr} {sl_law_take : Array (Option Value)} {oc_law_pick kV_law_pick dc_law_pick pm_law_pick cd_law_pick ct_law_pick : Value} {od_law_pick an_law_pick : Option Addr} {sl_law_pick : Array (Option Value)} {oc_law_masts kV_law_masts dc_law_masts pm_law_masts cd_law_masts ct_law_masts : Value} {od_law_masts an_law_masts : Option Addr} {sl_law_masts : Array (Option Value)} {oc_law_heard kV_law_heard dc_law_heard pm_law_heard cd_law_heard ct_law_heard : Value} {od_law_heard an_law_heard : Option Addr} {sl_law_heard : Array (Option Value)} {oc_law_scene kV_law_scene dc_law_scene pm_law_scene cd_law_scene ct_law_scene : Value} {od_law_scene an_law_scene : Option Addr} {sl_law_scene : Array (Option Value)} {oc_law kV_law dc_law pm_law cd_law ct_law : Value} {od_law an_law : Option Addr} {sl_law : Array (Option Value)} {t_LETTERS : Tok} {t_FIGURES : Tok} {t_MOST_CHANNELS : Tok}
    (aC_Seats : PySem.W.nsIn K mainGlobals "Seats" = some (some (.ref C_Seats))) (pg_Seats : PySem.W.plainGet K C_Seats Str.empty = true) (hd_Seats : PySem.W.hasDictIn K C_Seats = true) (po_Seats : PySem.W.plainOver K C_Seats = true) (sa_Seats : PySem.W.findIn K (.ref C_Seats) "__setattr__" = some (some (.builtin "object.__setattr__"))) (mk_Seats : PySem.W.makesIn K C_Seats = true) (kc_Seats : PySem.W.keepIn K (.ref C_Seats) = true) (o_Seats_scene : PySem.W.findIn K (.ref C_Seats) "scene" = some none) (o_Seats_seating : PySem.W.findIn K (.ref C_Seats) "seating" = some none) (o_Seats_seated : PySem.W.findIn K (.ref C_Seats) "seated" = some none) (aC_Kept : PySem.W.nsIn K mainGlobals "Kept" = some (some (.ref C_Kept))) (pg_Kept : PySem.W.plainGet K C_Kept Str.empty = true) (hd_Kept : PySem.W.hasDictIn K C_Kept = true) (po_Kept : PySem.W.plainOver K C_Kept = true) (sa_Kept : PySem.W.findIn K (.ref C_Kept) "__setattr__" = some (some (.builtin "object.__setattr__"))) (mk_Kept : PySem.W.makesIn K C_Kept = true) (kc_Kept : PySem.W.keepIn K (.ref C_Kept) = true) (o_Kept_lot : PySem.W.findIn K (.ref C_Kept) "lot" = some none) (o_Kept_seating : PySem.W.findIn K (.ref C_Kept) "seating" = some none) (o_Kept_papers : PySem.W.findIn K (.ref C_Kept) "papers" = some none) (aC_Call : PySem.W.nsIn K mainGlobals "Call" = some (some (.ref C_Call))) (pg_Call : PySem.W.plainGet K C_Call Str.empty = true) (hd_Call : PySem.W.hasDictIn K C_Call = true) (po_Call : PySem.W.plainOver K C_Call = true) (sa_Call : PySem.W.findIn K (.ref C_Call) "__setattr__" = some (some (.builtin "object.__setattr__"))) (mk_Call : PySem.W.makesIn K C_Call = true) (kc_Call : PySem.W.keepIn K (.ref C_Call) = true) (o_Call_worth : PySem.W.findIn K (.ref C_Call) "worth" = some none) (o_Call_heard : PySem.W.findIn K (.ref C_Call) "heard" = some none) (aC_Scene : PySem.W.nsIn K mainGlobals "Scene" = some (some (.ref C_Scene))) (pg_Scene : PySem.W.plainGet K C_Scene Str.empty = true) (hd_Scene : PySem.W.hasDictIn K C_Scene = true) (po_Scene : PySem.W.plainOver K C_Scene = true) (sa_Scene : PySem.W.findIn K (.ref C_Scene) "__setattr__" = some (some (.builtin "object.__setattr__"))) (mk_Scene : PySem.W.makesIn K C_Scene = true) (kc_Scene : PySem.W.keepIn K (.ref C_Scene) = true) (o_Scene_channels : PySem.W.findIn K (.ref C_Scene) "channels" = some none) (o_Scene_calls : PySem.W.findIn K (.ref C_Scene) "calls" = some none) (a_Seats_init : PySem.W.findIn K (.ref C_Seats) "__init__" = some (some (.ref f_Seats_init))) (i_Seats_init : PySem.W.isFn K (.ref f_Seats_init) = true) (l_Seats_init : K.lookup f_Seats_init = some ⟨oc_Seats_init, od_Seats_init, .func (PySem.W.fnOf "__init__" "Seats.__init__" (defArgs s_Seats_init) (defBody s_Seats_init) (defScope s_Seats_init) .none kV_Seats_init dc_Seats_init pm_Seats_init an_Seats_init cd_Seats_init ct_Seats_init), sl_Seats_init⟩) (c_Seats_init : PySem.W.codeIn K cd_Seats_init "Seats.__init__" = true) (k_Seats_init : PySem.W.keepIn K (.ref f_Seats_init) = true) (a_Seats_sit : PySem.W.findIn K (.ref C_Seats) "sit" = some (some (.ref f_Seats_sit))) (i_Seats_sit : PySem.W.isFn K (.ref f_Seats_sit) = true) (l_Seats_sit : K.lookup f_Seats_sit = some ⟨oc_Seats_sit, od_Seats_sit, .func (PySem.W.fnOf "sit" "Seats.sit" (defArgs s_Seats_sit) (defBody s_Seats_sit) (defScope s_Seats_sit) .none kV_Seats_sit dc_Seats_sit pm_Seats_sit an_Seats_sit cd_Seats_sit ct_Seats_sit), sl_Seats_sit⟩) (c_Seats_sit : PySem.W.codeIn K cd_Seats_sit "Seats.sit" = true) (k_Seats_sit : PySem.W.keepIn K (.ref f_Seats_sit) = true) (a_Seats_has_room : PySem.W.findIn K (.ref C_Seats) "has_room" = some (some (.ref f_Seats_has_room))) (i_Seats_has_room : PySem.W.isFn K (.ref f_Seats_has_room) = true) (l_Seats_has_room : K.lookup f_Seats_has_room = some ⟨oc_Seats_has_room, od_Seats_has_room, .func (PySem.W.fnOf "has_room" "Seats.has_room" (defArgs s_Seats_has_room) (defBody s_Seats_has_room) (defScope s_Seats_has_room) .none kV_Seats_has_room dc_Seats_has_room pm_Seats_has_room an_Seats_has_room cd_Seats_has_room ct_Seats_has_room), sl_Seats_has_room⟩) (c_Seats_has_room : PySem.W.codeIn K cd_Seats_has_room "Seats.has_room" = true) (k_Seats_has_room : PySem.W.keepIn K (.ref f_Seats_has_room) = true) (a_Seats_ways_from : PySem.W.findIn K (.ref C_Seats) "ways_from" = some (some (.ref f_Seats_ways_from))) (i_Seats_ways_from : PySem.W.isFn K (.ref f_Seats_ways_from) = true) (l_Seats_ways_from : K.lookup f_Seats_ways_from = some ⟨oc_Seats_ways_from, od_Seats_ways_from, .func (PySem.W.fnOf "ways_from" "Seats.ways_from" (defArgs s_Seats_ways_from) (defBody s_Seats_ways_from) (defScope s_Seats_ways_from) .none kV_Seats_ways_from dc_Seats_ways_from pm_Seats_ways_from an_Seats_ways_from cd_Seats_ways_from ct_Seats_ways_from), sl_Seats_ways_from⟩) (c_Seats_ways_from : PySem.W.codeIn K cd_Seats_ways_from "Seats.ways_from" = true) (k_Seats_ways_from : PySem.W.keepIn K (.ref f_Seats_ways_from) = true) (a_Seats_add : PySem.W.findIn K (.ref C_Seats) "add" = some (some (.ref f_Seats_add))) (i_Seats_add : PySem.W.isFn K (.ref f_Seats_add) = true) (l_Seats_add : K.lookup f_Seats_add = some ⟨oc_Seats_add, od_Seats_add, .func (PySem.W.fnOf "add" "Seats.add" (defArgs s_Seats_add) (defBody s_Seats_add) (defScope s_Seats_add) .none kV_Seats_add dc_Seats_add pm_Seats_add an_Seats_add cd_Seats_add ct_Seats_add), sl_Seats_add⟩) (c_Seats_add : PySem.W.codeIn K cd_Seats_add "Seats.add" = true) (k_Seats_add : PySem.W.keepIn K (.ref f_Seats_add) = true) (a_Seats_lot_against : PySem.W.findIn K (.ref C_Seats) "lot_against" = some (some (.ref f_Seats_lot_against))) (i_Seats_lot_against : PySem.W.isFn K (.ref f_Seats_lot_against) = true) (l_Seats_lot_against : K.lookup f_Seats_lot_against = some ⟨oc_Seats_lot_against, od_Seats_lot_against, .func (PySem.W.fnOf "lot_against" "Seats.lot_against" (defArgs s_Seats_lot_against) (defBody s_Seats_lot_against) (defScope s_Seats_lot_against) .none kV_Seats_lot_against dc_Seats_lot_against pm_Seats_lot_against an_Seats_lot_against cd_Seats_lot_against ct_Seats_lot_against), sl_Seats_lot_against⟩) (c_Seats_lot_against : PySem.W.codeIn K cd_Seats_lot_against "Seats.lot_against" = true) (k_Seats_lot_against : PySem.W.keepIn K (.ref f_Seats_lot_against) = true) (a_Kept_init : PySem.W.findIn K (.ref C_Kept) "__init__" = some (some (.ref f_Kept_init))) (i_Kept_init : PySem.W.isFn K (.ref f_Kept_init) = true) (l_Kept_init : K.lookup f_Kept_init = some ⟨oc_Kept_init, od_Kept_init, .func (PySem.W.fnOf "__init__" "Kept.__init__" (defArgs s_Kept_init) (defBody s_Kept_init) (defScope s_Kept_init) .none kV_Kept_init dc_Kept_init pm_Kept_init an_Kept_init cd_Kept_init ct_Kept_init), sl_Kept_init⟩) (c_Kept_init : PySem.W.codeIn K cd_Kept_init "Kept.__init__" = true) (k_Kept_init : PySem.W.keepIn K (.ref f_Kept_init) = true) (a_kept : PySem.W.nsIn K mainGlobals "kept" = some (some (.ref f_kept))) (l_kept : K.lookup f_kept = some ⟨oc_kept, od_kept, .func (PySem.W.fnOf "kept" "kept" (defArgs s_kept) (defBody s_kept) (defScope s_kept) .none kV_kept dc_kept pm_kept an_kept cd_kept ct_kept), sl_kept⟩) (c_kept : PySem.W.codeIn K cd_kept "kept" = true) (k_kept : PySem.W.keepIn K (.ref f_kept) = true) (a_is_seatable : PySem.W.nsIn K mainGlobals "is_seatable" = some (some (.ref f_is_seatable))) (l_is_seatable : K.lookup f_is_seatable = some ⟨oc_is_seatable, od_is_seatable, .func (PySem.W.fnOf "is_seatable" "is_seatable" (defArgs s_is_seatable) (defBody s_is_seatable) (defScope s_is_seatable) .none kV_is_seatable dc_is_seatable pm_is_seatable an_is_seatable cd_is_seatable ct_is_seatable), sl_is_seatable⟩) (c_is_seatable : PySem.W.codeIn K cd_is_seatable "is_seatable" = true) (k_is_seatable : PySem.W.keepIn K (.ref f_is_seatable) = true) (a_is_whole : PySem.W.nsIn K mainGlobals "is_whole" = some (some (.ref f_is_whole))) (l_is_whole : K.lookup f_is_whole = some ⟨oc_is_whole, od_is_whole, .func (PySem.W.fnOf "is_whole" "is_whole" (defArgs s_is_whole) (defBody s_is_whole) (defScope s_is_whole) .none kV_is_whole dc_is_whole pm_is_whole an_is_whole cd_is_whole ct_is_whole), sl_is_whole⟩) (c_is_whole : PySem.W.codeIn K cd_is_whole "is_whole" = true) (k_is_whole : PySem.W.keepIn K (.ref f_is_whole) = true) (a_is_name : PySem.W.nsIn K mainGlobals "is_name" = some (some (.ref f_is_name))) (l_is_name : K.lookup f_is_name = some ⟨oc_is_name, od_is_name, .func (PySem.W.fnOf "is_name" "is_name" (defArgs s_is_name) (defBody s_is_name) (defScope s_is_name) .none kV_is_name dc_is_name pm_is_name an_is_name cd_is_name ct_is_name), sl_is_name⟩) (c_is_name : PySem.W.codeIn K cd_is_name "is_name" = true) (k_is_name : PySem.W.keepIn K (.ref f_is_name) = true) (a_Call_init : PySem.W.findIn K (.ref C_Call) "__init__" = some (some (.ref f_Call_init))) (i_Call_init : PySem.W.isFn K (.ref f_Call_init) = true) (l_Call_init : K.lookup f_Call_init = some ⟨oc_Call_init, od_Call_init, .func (PySem.W.fnOf "__init__" "Call.__init__" (defArgs s_Call_init) (defBody s_Call_init) (defScope s_Call_init) .none kV_Call_init dc_Call_init pm_Call_init an_Call_init cd_Call_init ct_Call_init), sl_Call_init⟩) (c_Call_init : PySem.W.codeIn K cd_Call_init "Call.__init__" = true) (k_Call_init : PySem.W.keepIn K (.ref f_Call_init) = true) (a_Scene_init : PySem.W.findIn K (.ref C_Scene) "__init__" = some (some (.ref f_Scene_init))) (i_Scene_init : PySem.W.isFn K (.ref f_Scene_init) = true) (l_Scene_init : K.lookup f_Scene_init = some ⟨oc_Scene_init, od_Scene_init, .func (PySem.W.fnOf "__init__" "Scene.__init__" (defArgs s_Scene_init) (defBody s_Scene_init) (defScope s_Scene_init) .none kV_Scene_init dc_Scene_init pm_Scene_init an_Scene_init cd_Scene_init ct_Scene_init), sl_Scene_init⟩) (c_Scene_init : PySem.W.codeIn K cd_Scene_init "Scene.__init__" = true) (k_Scene_init : PySem.W.keepIn K (.ref f_Scene_init) = true) (a_Scene_order : PySem.W.findIn K (.ref C_Scene) "order" = some (some (.ref f_Scene_order))) (i_Scene_order : PySem.W.isFn K (.ref f_Scene_order) = true) (l_Scene_order : K.lookup f_Scene_order = some ⟨oc_Scene_order, od_Scene_order, .func (PySem.W.fnOf "order" "Scene.order" (defArgs s_Scene_order) (defBody s_Scene_order) (defScope s_Scene_order) .none kV_Scene_order dc_Scene_order pm_Scene_order an_Scene_order cd_Scene_order ct_Scene_order), sl_Scene_order⟩) (c_Scene_order : PySem.W.codeIn K cd_Scene_order "Scene.order" = true) (k_Scene_order : PySem.W.keepIn K (.ref f_Scene_order) = true) (a_Scene_rank : PySem.W.findIn K (.ref C_Scene) "rank" = some (some (.ref f_Scene_rank))) (i_Scene_rank : PySem.W.isFn K (.ref f_Scene_rank) = true) (l_Scene_rank : K.lookup f_Scene_rank = some ⟨oc_Scene_rank, od_Scene_rank, .func (PySem.W.fnOf "rank" "Scene.rank" (defArgs s_Scene_rank) (defBody s_Scene_rank) (defScope s_Scene_rank) .none kV_Scene_rank dc_Scene_rank pm_Scene_rank an_Scene_rank cd_Scene_rank ct_Scene_rank), sl_Scene_rank⟩) (c_Scene_rank : PySem.W.codeIn K cd_Scene_rank "Scene.rank" = true) (k_Scene_rank : PySem.W.keepIn K (.ref f_Scene_rank) = true) (gf_Scene_rank : PySem.W.specialIn K (.ref f_Scene_rank) "__get__" = some (some (.builtin "function.__get__"))) (tk_Scene_rank : PySem.W.takesIn K (.ref f_Scene_rank) = some false) (fi_Scene_rank : PySem.W.fnIn K f_Scene_rank = true) (a_law_number : PySem.W.nsIn K mainGlobals "_law_number" = some (some (.ref f_law_number))) (l_law_number : K.lookup f_law_number = some ⟨oc_law_number, od_law_number, .func (PySem.W.fnOf "_law_number" "_law_number" (defArgs s_law_number) (defBody s_law_number) (defScope s_law_number) .none kV_law_number dc_law_number pm_law_number an_law_number cd_law_number ct_law_number), sl_law_number⟩) (c_law_number : PySem.W.codeIn K cd_law_number "_law_number" = true) (k_law_number : PySem.W.keepIn K (.ref f_law_number) = true) (a_law_take : PySem.W.nsIn K mainGlobals "_law_take" = some (some (.ref f_law_take))) (l_law_take : K.lookup f_law_take = some ⟨oc_law_take, od_law_take, .func (PySem.W.fnOf "_law_take" "_law_take" (defArgs s_law_take) (defBody s_law_take) (defScope s_law_take) .none kV_law_take dc_law_take pm_law_take an_law_take cd_law_take ct_law_take), sl_law_take⟩) (c_law_take : PySem.W.codeIn K cd_law_take "_law_take" = true) (k_law_take : PySem.W.keepIn K (.ref f_law_take) = true) (a_law_pick : PySem.W.nsIn K mainGlobals "_law_pick" = some (some (.ref f_law_pick))) (l_law_pick : K.lookup f_law_pick = some ⟨oc_law_pick, od_law_pick, .func (PySem.W.fnOf "_law_pick" "_law_pick" (defArgs s_law_pick) (defBody s_law_pick) (defScope s_law_pick) .none kV_law_pick dc_law_pick pm_law_pick an_law_pick cd_law_pick ct_law_pick), sl_law_pick⟩) (c_law_pick : PySem.W.codeIn K cd_law_pick "_law_pick" = true) (k_law_pick : PySem.W.keepIn K (.ref f_law_pick) = true) (a_law_masts : PySem.W.nsIn K mainGlobals "_law_masts" = some (some (.ref f_law_masts))) (l_law_masts : K.lookup f_law_masts = some ⟨oc_law_masts, od_law_masts, .func (PySem.W.fnOf "_law_masts" "_law_masts" (defArgs s_law_masts) (defBody s_law_masts) (defScope s_law_masts) .none kV_law_masts dc_law_masts pm_law_masts an_law_masts cd_law_masts ct_law_masts), sl_law_masts⟩) (c_law_masts : PySem.W.codeIn K cd_law_masts "_law_masts" = true) (k_law_masts : PySem.W.keepIn K (.ref f_law_masts) = true) (a_law_heard : PySem.W.nsIn K mainGlobals "_law_heard" = some (some (.ref f_law_heard))) (l_law_heard : K.lookup f_law_heard = some ⟨oc_law_heard, od_law_heard, .func (PySem.W.fnOf "_law_heard" "_law_heard" (defArgs s_law_heard) (defBody s_law_heard) (defScope s_law_heard) .none kV_law_heard dc_law_heard pm_law_heard an_law_heard cd_law_heard ct_law_heard), sl_law_heard⟩) (c_law_heard : PySem.W.codeIn K cd_law_heard "_law_heard" = true) (k_law_heard : PySem.W.keepIn K (.ref f_law_heard) = true) (a_law_scene : PySem.W.nsIn K mainGlobals "_law_scene" = some (some (.ref f_law_scene))) (l_law_scene : K.lookup f_law_scene = some ⟨oc_law_scene, od_law_scene, .func (PySem.W.fnOf "_law_scene" "_law_scene" (defArgs s_law_scene) (defBody s_law_scene) (defScope s_law_scene) .none kV_law_scene dc_law_scene pm_law_scene an_law_scene cd_law_scene ct_law_scene), sl_law_scene⟩) (c_law_scene : PySem.W.codeIn K cd_law_scene "_law_scene" = true) (k_law_scene : PySem.W.keepIn K (.ref f_law_scene) = true) (a_law : PySem.W.nsIn K mainGlobals "law" = some (some (.ref f_law))) (l_law : K.lookup f_law = some ⟨oc_law, od_law, .func (PySem.W.fnOf "law" "law" (defArgs s_law) (defBody s_law) (defScope s_law) .none kV_law dc_law pm_law an_law cd_law ct_law), sl_law⟩) (c_law : PySem.W.codeIn K cd_law "law" = true) (k_law : PySem.W.keepIn K (.ref f_law) = true) (z_abs : PySem.W.nsIn K mainGlobals "abs" = some none) (z_all : PySem.W.nsIn K mainGlobals "all" = some none) (z_any : PySem.W.nsIn K mainGlobals "any" = some none) (z_bool : PySem.W.nsIn K mainGlobals "bool" = some none) (z_dict : PySem.W.nsIn K mainGlobals "dict" = some none) (z_int : PySem.W.nsIn K mainGlobals "int" = some none) (z_isinstance : PySem.W.nsIn K mainGlobals "isinstance" = some none) (z_len : PySem.W.nsIn K mainGlobals "len" = some none) (z_list : PySem.W.nsIn K mainGlobals "list" = some none) (z_range : PySem.W.nsIn K mainGlobals "range" = some none) (z_set : PySem.W.nsIn K mainGlobals "set" = some none) (z_sorted : PySem.W.nsIn K mainGlobals "sorted" = some none) (z_str : PySem.W.nsIn K mainGlobals "str" = some none) (z_tuple : PySem.W.nsIn K mainGlobals "tuple" = some none) (g_LETTERS : PySem.W.nsIn K mainGlobals "LETTERS" = some (some (.str "abcdefghijklmnopqrstuvwxyz" t_LETTERS))) (g_FIGURES : PySem.W.nsIn K mainGlobals "FIGURES" = some (some (.str "0123456789" t_FIGURES))) (g_MOST_CHANNELS : PySem.W.nsIn K mainGlobals "MOST_CHANNELS" = some (some (.int 1000 t_MOST_CHANNELS))) :
    ∃ fd : FuncData, (∀ (s : Shared) (v : Value), BindsTo s fd ⟨[v], []⟩ [("_law_script", v)]) ∧ ∀ base : Heap, K.In base → base.Ns mainGlobals mg → FnOk l.prog w K mg base (L2.CX l.prog w) 40 fa fd ["_law_script"] (LSpZ K spLawD) := by
  obtain rfl : f_law = fa := by
    have e := hfa.symm.trans (PySem.W.mg_of X G a_law)
    cases e
    rfl
  have T : Tx K mg { C_Seats := C_Seats, C_Kept := C_Kept, C_Call := C_Call, C_Scene := C_Scene, f_Seats_init := f_Seats_init, d_Seats_init := PySem.W.fnOf "__init__" "Seats.__init__" (defArgs s_Seats_init) (defBody s_Seats_init) (defScope s_Seats_init) .none kV_Seats_init dc_Seats_init pm_Seats_init an_Seats_init cd_Seats_init ct_Seats_init, f_Seats_sit := f_Seats_sit, d_Seats_sit := PySem.W.fnOf "sit" "Seats.sit" (defArgs s_Seats_sit) (defBody s_Seats_sit) (defScope s_Seats_sit) .none kV_Seats_sit dc_Seats_sit pm_Seats_sit an_Seats_sit cd_Seats_sit ct_Seats_sit, f_Seats_has_room := f_Seats_has_room, d_Seats_has_room := PySem.W.fnOf "has_room" "Seats.has_room" (defArgs s_Seats_has_room) (defBody s_Seats_has_room) (defScope s_Seats_has_room) .none kV_Seats_has_room dc_Seats_has_room pm_Seats_has_room an_Seats_has_room cd_Seats_has_room ct_Seats_has_room, f_Seats_ways_from := f_Seats_ways_from, d_Seats_ways_from := PySem.W.fnOf "ways_from" "Seats.ways_from" (defArgs s_Seats_ways_from) (defBody s_Seats_ways_from) (defScope s_Seats_ways_from) .none kV_Seats_ways_from dc_Seats_ways_from pm_Seats_ways_from an_Seats_ways_from cd_Seats_ways_from ct_Seats_ways_from, f_Seats_add := f_Seats_add, d_Seats_add := PySem.W.fnOf "add" "Seats.add" (defArgs s_Seats_add) (defBody s_Seats_add) (defScope s_Seats_add) .none kV_Seats_add dc_Seats_add pm_Seats_add an_Seats_add cd_Seats_add ct_Seats_add, f_Seats_lot_against := f_Seats_lot_against, d_Seats_lot_against := PySem.W.fnOf "lot_against" "Seats.lot_against" (defArgs s_Seats_lot_against) (defBody s_Seats_lot_against) (defScope s_Seats_lot_against) .none kV_Seats_lot_against dc_Seats_lot_against pm_Seats_lot_against an_Seats_lot_against cd_Seats_lot_against ct_Seats_lot_against, f_Kept_init := f_Kept_init, d_Kept_init := PySem.W.fnOf "__init__" "Kept.__init__" (defArgs s_Kept_init) (defBody s_Kept_init) (defScope s_Kept_init) .none kV_Kept_init dc_Kept_init pm_Kept_init an_Kept_init cd_Kept_init ct_Kept_init, f_kept := f_kept, d_kept := PySem.W.fnOf "kept" "kept" (defArgs s_kept) (defBody s_kept) (defScope s_kept) .none kV_kept dc_kept pm_kept an_kept cd_kept ct_kept, f_is_seatable := f_is_seatable, d_is_seatable := PySem.W.fnOf "is_seatable" "is_seatable" (defArgs s_is_seatable) (defBody s_is_seatable) (defScope s_is_seatable) .none kV_is_seatable dc_is_seatable pm_is_seatable an_is_seatable cd_is_seatable ct_is_seatable, f_is_whole := f_is_whole, d_is_whole := PySem.W.fnOf "is_whole" "is_whole" (defArgs s_is_whole) (defBody s_is_whole) (defScope s_is_whole) .none kV_is_whole dc_is_whole pm_is_whole an_is_whole cd_is_whole ct_is_whole, f_is_name := f_is_name, d_is_name := PySem.W.fnOf "is_name" "is_name" (defArgs s_is_name) (defBody s_is_name) (defScope s_is_name) .none kV_is_name dc_is_name pm_is_name an_is_name cd_is_name ct_is_name, f_Call_init := f_Call_init, d_Call_init := PySem.W.fnOf "__init__" "Call.__init__" (defArgs s_Call_init) (defBody s_Call_init) (defScope s_Call_init) .none kV_Call_init dc_Call_init pm_Call_init an_Call_init cd_Call_init ct_Call_init, f_Scene_init := f_Scene_init, d_Scene_init := PySem.W.fnOf "__init__" "Scene.__init__" (defArgs s_Scene_init) (defBody s_Scene_init) (defScope s_Scene_init) .none kV_Scene_init dc_Scene_init pm_Scene_init an_Scene_init cd_Scene_init ct_Scene_init, f_Scene_order := f_Scene_order, d_Scene_order := PySem.W.fnOf "order" "Scene.order" (defArgs s_Scene_order) (defBody s_Scene_order) (defScope s_Scene_order) .none kV_Scene_order dc_Scene_order pm_Scene_order an_Scene_order cd_Scene_order ct_Scene_order, f_Scene_rank := f_Scene_rank, d_Scene_rank := PySem.W.fnOf "rank" "Scene.rank" (defArgs s_Scene_rank) (defBody s_Scene_rank) (defScope s_Scene_rank) .none kV_Scene_rank dc_Scene_rank pm_Scene_rank an_Scene_rank cd_Scene_rank ct_Scene_rank, f_law_number := f_law_number, d_law_number := PySem.W.fnOf "_law_number" "_law_number" (defArgs s_law_number) (defBody s_law_number) (defScope s_law_number) .none kV_law_number dc_law_number pm_law_number an_law_number cd_law_number ct_law_number, f_law_take := f_law_take, d_law_take := PySem.W.fnOf "_law_take" "_law_take" (defArgs s_law_take) (defBody s_law_take) (defScope s_law_take) .none kV_law_take dc_law_take pm_law_take an_law_take cd_law_take ct_law_take, f_law_pick := f_law_pick, d_law_pick := PySem.W.fnOf "_law_pick" "_law_pick" (defArgs s_law_pick) (defBody s_law_pick) (defScope s_law_pick) .none kV_law_pick dc_law_pick pm_law_pick an_law_pick cd_law_pick ct_law_pick, f_law_masts := f_law_masts, d_law_masts := PySem.W.fnOf "_law_masts" "_law_masts" (defArgs s_law_masts) (defBody s_law_masts) (defScope s_law_masts) .none kV_law_masts dc_law_masts pm_law_masts an_law_masts cd_law_masts ct_law_masts, f_law_heard := f_law_heard, d_law_heard := PySem.W.fnOf "_law_heard" "_law_heard" (defArgs s_law_heard) (defBody s_law_heard) (defScope s_law_heard) .none kV_law_heard dc_law_heard pm_law_heard an_law_heard cd_law_heard ct_law_heard, f_law_scene := f_law_scene, d_law_scene := PySem.W.fnOf "_law_scene" "_law_scene" (defArgs s_law_scene) (defBody s_law_scene) (defScope s_law_scene) .none kV_law_scene dc_law_scene pm_law_scene an_law_scene cd_law_scene ct_law_scene, f_law := f_law, d_law := PySem.W.fnOf "law" "law" (defArgs s_law) (defBody s_law) (defScope s_law) .none kV_law dc_law pm_law an_law cd_law ct_law } := { c_Seats := ⟨pg_Seats, hd_Seats, po_Seats, sa_Seats⟩, m_Seats := PySem.W.mg_of X G aC_Seats, k_Seats := ⟨mk_Seats, a_Seats_init, i_Seats_init, kc_Seats⟩, o_Seats_scene := o_Seats_scene, o_Seats_seating := o_Seats_seating, o_Seats_seated := o_Seats_seated, c_Kept := ⟨pg_Kept, hd_Kept, po_Kept, sa_Kept⟩, m_Kept := PySem.W.mg_of X G aC_Kept, k_Kept := ⟨mk_Kept, a_Kept_init, i_Kept_init, kc_Kept⟩, o_Kept_lot := o_Kept_lot, o_Kept_seating := o_Kept_seating, o_Kept_papers := o_Kept_papers, c_Call := ⟨pg_Call, hd_Call, po_Call, sa_Call⟩, m_Call := PySem.W.mg_of X G aC_Call, k_Call := ⟨mk_Call, a_Call_init, i_Call_init, kc_Call⟩, o_Call_worth := o_Call_worth, o_Call_heard := o_Call_heard, c_Scene := ⟨pg_Scene, hd_Scene, po_Scene, sa_Scene⟩, m_Scene := PySem.W.mg_of X G aC_Scene, k_Scene := ⟨mk_Scene, a_Scene_init, i_Scene_init, kc_Scene⟩, o_Scene_channels := o_Scene_channels, o_Scene_calls := o_Scene_calls, F_Seats_init := fun_mk (st := s_Seats_init) l_Seats_init c_Seats_init k_Seats_init, B_Seats_init := (fun_mk (st := s_Seats_init) l_Seats_init c_Seats_init k_Seats_init).binds (ps := ["self", "scene"]) fun _ _ _ _ _ _ us hl => match us, hl with | [_, _], _ => rfl, F_Seats_sit := fun_mk (st := s_Seats_sit) l_Seats_sit c_Seats_sit k_Seats_sit, B_Seats_sit := (fun_mk (st := s_Seats_sit) l_Seats_sit c_Seats_sit k_Seats_sit).binds (ps := ["self", "name", "mast"]) fun _ _ _ _ _ _ us hl => match us, hl with | [_, _, _], _ => rfl, M_Seats_sit := ⟨a_Seats_sit, i_Seats_sit, k_Seats_sit⟩, F_Seats_has_room := fun_mk (st := s_Seats_has_room) l_Seats_has_room c_Seats_has_room k_Seats_has_room, B_Seats_has_room := (fun_mk (st := s_Seats_has_room) l_Seats_has_room c_Seats_has_room k_Seats_has_room).binds (ps := ["self", "mast"]) fun _ _ _ _ _ _ us hl => match us, hl with | [_, _], _ => rfl, M_Seats_has_room := ⟨a_Seats_has_room, i_Seats_has_room, k_Seats_has_room⟩, F_Seats_ways_from := fun_mk (st := s_Seats_ways_from) l_Seats_ways_from c_Seats_ways_from k_Seats_ways_from, B_Seats_ways_from := (fun_mk (st := s_Seats_ways_from) l_Seats_ways_from c_Seats_ways_from k_Seats_ways_from).binds (ps := ["self", "name"]) fun _ _ _ _ _ _ us hl => match us, hl with | [_, _], _ => rfl, M_Seats_ways_from := ⟨a_Seats_ways_from, i_Seats_ways_from, k_Seats_ways_from⟩, F_Seats_add := fun_mk (st := s_Seats_add) l_Seats_add c_Seats_add k_Seats_add, B_Seats_add := (fun_mk (st := s_Seats_add) l_Seats_add c_Seats_add k_Seats_add).binds (ps := ["self", "name"]) fun _ _ _ _ _ _ us hl => match us, hl with | [_, _], _ => rfl, M_Seats_add := ⟨a_Seats_add, i_Seats_add, k_Seats_add⟩, F_Seats_lot_against := fun_mk (st := s_Seats_lot_against) l_Seats_lot_against c_Seats_lot_against k_Seats_lot_against, B_Seats_lot_against := (fun_mk (st := s_Seats_lot_against) l_Seats_lot_against c_Seats_lot_against k_Seats_lot_against).binds (ps := ["self", "name"]) fun _ _ _ _ _ _ us hl => match us, hl with | [_, _], _ => rfl, M_Seats_lot_against := ⟨a_Seats_lot_against, i_Seats_lot_against, k_Seats_lot_against⟩, F_Kept_init := fun_mk (st := s_Kept_init) l_Kept_init c_Kept_init k_Kept_init, B_Kept_init := (fun_mk (st := s_Kept_init) l_Kept_init c_Kept_init k_Kept_init).binds (ps := ["self", "scene"]) fun _ _ _ _ _ _ us hl => match us, hl with | [_, _], _ => rfl, F_kept := fun_mk (st := s_kept) l_kept c_kept k_kept, B_kept := (fun_mk (st := s_kept) l_kept c_kept k_kept).binds (ps := ["scene"]) fun _ _ _ _ _ _ us hl => match us, hl with | [_], _ => rfl, m_kept := PySem.W.mg_of X G a_kept, F_is_seatable := fun_mk (st := s_is_seatable) l_is_seatable c_is_seatable k_is_seatable, B_is_seatable := (fun_mk (st := s_is_seatable) l_is_seatable c_is_seatable k_is_seatable).binds (ps := ["scene", "names"]) fun _ _ _ _ _ _ us hl => match us, hl with | [_, _], _ => rfl, m_is_seatable := PySem.W.mg_of X G a_is_seatable, F_is_whole := fun_mk (st := s_is_whole) l_is_whole c_is_whole k_is_whole, B_is_whole := (fun_mk (st := s_is_whole) l_is_whole c_is_whole k_is_whole).binds (ps := ["thing", "low", "high"]) fun _ _ _ _ _ _ us hl => match us, hl with | [_, _, _], _ => rfl, m_is_whole := PySem.W.mg_of X G a_is_whole, F_is_name := fun_mk (st := s_is_name) l_is_name c_is_name k_is_name, B_is_name := (fun_mk (st := s_is_name) l_is_name c_is_name k_is_name).binds (ps := ["thing"]) fun _ _ _ _ _ _ us hl => match us, hl with | [_], _ => rfl, m_is_name := PySem.W.mg_of X G a_is_name, F_Call_init := fun_mk (st := s_Call_init) l_Call_init c_Call_init k_Call_init, B_Call_init := (fun_mk (st := s_Call_init) l_Call_init c_Call_init k_Call_init).binds (ps := ["self", "worth", "heard"]) fun _ _ _ _ _ _ us hl => match us, hl with | [_, _, _], _ => rfl, F_Scene_init := fun_mk (st := s_Scene_init) l_Scene_init c_Scene_init k_Scene_init, B_Scene_init := (fun_mk (st := s_Scene_init) l_Scene_init c_Scene_init k_Scene_init).binds (ps := ["self", "channels", "calls"]) fun _ _ _ _ _ _ us hl => match us, hl with | [_, _, _], _ => rfl, F_Scene_order := fun_mk (st := s_Scene_order) l_Scene_order c_Scene_order k_Scene_order, B_Scene_order := (fun_mk (st := s_Scene_order) l_Scene_order c_Scene_order k_Scene_order).binds (ps := ["self"]) fun _ _ _ _ _ _ us hl => match us, hl with | [_], _ => rfl, M_Scene_order := ⟨a_Scene_order, i_Scene_order, k_Scene_order⟩, F_Scene_rank := fun_mk (st := s_Scene_rank) l_Scene_rank c_Scene_rank k_Scene_rank, B_Scene_rank := (fun_mk (st := s_Scene_rank) l_Scene_rank c_Scene_rank k_Scene_rank).binds (ps := ["self", "name"]) fun _ _ _ _ _ _ us hl => match us, hl with | [_, _], _ => rfl, M_Scene_rank := ⟨a_Scene_rank, i_Scene_rank, k_Scene_rank⟩, bm_Scene_rank := ⟨⟨a_Scene_rank, i_Scene_rank, k_Scene_rank⟩, gf_Scene_rank, tk_Scene_rank, by decide +kernel, fi_Scene_rank⟩, F_law_number := fun_mk (st := s_law_number) l_law_number c_law_number k_law_number, B_law_number := (fun_mk (st := s_law_number) l_law_number c_law_number k_law_number).binds (ps := ["_law_script", "_law_index"]) fun _ _ _ _ _ _ us hl => match us, hl with | [_, _], _ => rfl, m_law_number := PySem.W.mg_of X G a_law_number, F_law_take := fun_mk (st := s_law_take) l_law_take c_law_take k_law_take, B_law_take := (fun_mk (st := s_law_take) l_law_take c_law_take k_law_take).binds (ps := ["_law_draw", "_law_many"]) fun _ _ _ _ _ _ us hl => match us, hl with | [_, _], _ => rfl, m_law_take := PySem.W.mg_of X G a_law_take, F_law_pick := fun_mk (st := s_law_pick) l_law_pick c_law_pick k_law_pick, B_law_pick := (fun_mk (st := s_law_pick) l_law_pick c_law_pick k_law_pick).binds (ps := ["_law_draw", "_law_items"]) fun _ _ _ _ _ _ us hl => match us, hl with | [_, _], _ => rfl, m_law_pick := PySem.W.mg_of X G a_law_pick, F_law_masts := fun_mk (st := s_law_masts) l_law_masts c_law_masts k_law_masts, B_law_masts := (fun_mk (st := s_law_masts) l_law_masts c_law_masts k_law_masts).binds (ps := ["_law_draw", "_law_most"]) fun _ _ _ _ _ _ us hl => match us, hl with | [_, _], _ => rfl, m_law_masts := PySem.W.mg_of X G a_law_masts, F_law_heard := fun_mk (st := s_law_heard) l_law_heard c_law_heard k_law_heard, B_law_heard := (fun_mk (st := s_law_heard) l_law_heard c_law_heard k_law_heard).binds (ps := ["_law_draw", "_law_channels"]) fun _ _ _ _ _ _ us hl => match us, hl with | [_, _], _ => rfl, m_law_heard := PySem.W.mg_of X G a_law_heard, F_law_scene := fun_mk (st := s_law_scene) l_law_scene c_law_scene k_law_scene, B_law_scene := (fun_mk (st := s_law_scene) l_law_scene c_law_scene k_law_scene).binds (ps := ["_law_draw", "_law_masts_here", "_law_calls"]) fun _ _ _ _ _ _ us hl => match us, hl with | [_, _, _], _ => rfl, m_law_scene := PySem.W.mg_of X G a_law_scene, F_law := fun_mk (st := s_law) l_law c_law k_law, B_law := (fun_mk (st := s_law) l_law c_law k_law).binds (ps := ["_law_script"]) fun _ _ _ _ _ _ us hl => match us, hl with | [_], _ => rfl, m_law := PySem.W.mg_of X G a_law, n_abs := PySem.W.mg_none_of X G z_abs, n_all := PySem.W.mg_none_of X G z_all, n_any := PySem.W.mg_none_of X G z_any, n_bool := PySem.W.mg_none_of X G z_bool, n_dict := PySem.W.mg_none_of X G z_dict, n_int := PySem.W.mg_none_of X G z_int, n_isinstance := PySem.W.mg_none_of X G z_isinstance, n_len := PySem.W.mg_none_of X G z_len, n_list := PySem.W.mg_none_of X G z_list, n_range := PySem.W.mg_none_of X G z_range, n_set := PySem.W.mg_none_of X G z_set, n_sorted := PySem.W.mg_none_of X G z_sorted, n_str := PySem.W.mg_none_of X G z_str, n_tuple := PySem.W.mg_none_of X G z_tuple, g_LETTERS := ⟨_, PySem.W.mg_of X G g_LETTERS⟩, g_FIGURES := ⟨_, PySem.W.mg_of X G g_FIGURES⟩, g_MOST_CHANNELS := ⟨_, PySem.W.mg_of X G g_MOST_CHANNELS⟩ }
  exact ⟨_, fun s v => .of_eq rfl, fun base _ _ => fnok_z ((ok_law T).mono (by decide)) spLaw_len⟩
theorem walk {l : PySem.W.OpenLaw} {q : Program} {loose : List Str} {XP : (Str → Option Value) → Heap → Prop} {YP : World → Heap → Prop} {d : DefRec} {K : Params → PySem.W.Frag} (hn : l.most = some 63) (hdf : d.params.defaults = [])
    (hY : ∀ (w : World) (h : Heap), YP w h → (K w.params).In h)
    (F : ∀ (w : World) (mg : Str → Option Value) (fa : Addr) (h : Heap), (K w.params).In h → h.Ns mainGlobals mg → mg d.name = some (.ref fa) →
      ∃ fd : FuncData, (∀ (s : Shared) (u : Value), BindsTo s fd ⟨[u], []⟩ [("_law_script", u)]) ∧ ∀ base : Heap, (K w.params).In base → base.Ns mainGlobals mg → FnOk l.prog w (K w.params) mg base (L2.CX l.prog w) 40 fa fd ["_law_script"] (LSpZ (K w.params) spLawD)) :
    PySem.W.WalkO q loose XP YP l.row.toRowW d [] (fun f vs => PySem.call f vs) :=
  L2.walk_of (n := 63) (k := 40) (x := "_law_script") (CX := fun w => L2.CX l.prog w) (sp := fun w => LSpZ (K w.params) spLawD) hn (by decide) hdf ⟨rfl, by decide, by decide⟩ hY F (fun _ _ a ns hl _ hS => law_start hl hS) fun _ _ _ _ _ z => law_exc z
end K20
open PySem PySem.W PyProof.Rows in
set_option maxRecDepth 100000 in
set_option maxHeartbeats 0 in
theorem PySem.Challenge.cw_mastcalls_k20_whole_more_holds : PySem.Challenge.rw_mastcalls_k20_whole_more.Holds := by
  w_on; o_law; k_head; (case hw => w_witness2)
  k_fill
  refine K20.walk (l := PySem.Challenge.rw_mastcalls_k20_whole_more) rfl rfl (fun w h Y => PySem.W.kIn_of Y) ?F
  case F =>
    intro w mg fa h KX G hmg
    refine' K20.all_mk KX G hmg ?aC_Seats ?pg_Seats ?hd_Seats ?po_Seats ?sa_Seats ?mk_Seats ?kc_Seats ?o_Seats_scene ?o_Seats_seating ?o_Seats_seated ?aC_Kept ?pg_Kept ?hd_Kept ?po_Kept ?sa_Kept ?mk_Kept ?kc_Kept ?o_Kept_lot ?o_Kept_seating ?o_Kept_papers ?aC_Call ?pg_Call ?hd_Call ?po_Call ?sa_Call ?mk_Call ?kc_Call ?o_Call_worth ?o_Call_heard ?aC_Scene ?pg_Scene ?hd_Scene ?po_Scene ?sa_Scene ?mk_Scene ?kc_Scene ?o_Scene_channels ?o_Scene_calls ?a_Seats_init ?i_Seats_init ?l_Seats_init ?c_Seats_init ?k_Seats_init ?a_Seats_sit ?i_Seats_sit ?l_Seats_sit ?c_Seats_sit ?k_Seats_sit ?a_Seats_has_room ?i_Seats_has_room ?l_Seats_has_room ?c_Seats_has_room ?k_Seats_has_room ?a_Seats_ways_from ?i_Seats_ways_from ?l_Seats_ways_from ?c_Seats_ways_from ?k_Seats_ways_from ?a_Seats_add ?i_Seats_add ?l_Seats_add ?c_Seats_add ?k_Seats_add ?a_Seats_lot_against ?i_Seats_lot_against ?l_Seats_lot_against ?c_Seats_lot_against ?k_Seats_lot_against ?a_Kept_init ?i_Kept_init ?l_Kept_init ?c_Kept_init ?k_Kept_init ?a_kept ?l_kept ?c_kept ?k_kept ?a_is_seatable ?l_is_seatable ?c_is_seatable ?k_is_seatable ?a_is_whole ?l_is_whole ?c_is_whole ?k_is_whole ?a_is_name ?l_is_name ?c_is_name ?k_is_name ?a_Call_init ?i_Call_init ?l_Call_init ?c_Call_init ?k_Call_init ?a_Scene_init ?i_Scene_init ?l_Scene_init ?c_Scene_init ?k_Scene_init ?a_Scene_order ?i_Scene_order ?l_Scene_order ?c_Scene_order ?k_Scene_order ?a_Scene_rank ?i_Scene_rank ?l_Scene_rank ?c_Scene_rank ?k_Scene_rank ?gf_Scene_rank ?tk_Scene_rank ?fi_Scene_rank ?a_law_number ?l_law_number ?c_law_number ?k_law_number ?a_law_take ?l_law_take ?c_law_take ?k_law_take ?a_law_pick ?l_law_pick ?c_law_pick ?k_law_pick ?a_law_masts ?l_law_masts ?c_law_masts ?k_law_masts ?a_law_heard ?l_law_heard ?c_law_heard ?k_law_heard ?a_law_scene ?l_law_scene ?c_law_scene ?k_law_scene ?a_law ?l_law ?c_law ?k_law ?z_abs ?z_all ?z_any ?z_bool ?z_dict ?z_int ?z_isinstance ?z_len ?z_list ?z_range ?z_set ?z_sorted ?z_str ?z_tuple ?g_LETTERS ?g_FIGURES ?g_MOST_CHANNELS
    (case aC_Seats => k_is)
    (case pg_Seats => k_is)
    (case hd_Seats => k_is)
    (case po_Seats => k_is)
    (case sa_Seats => k_is)
    (case mk_Seats => k_is)
    (case kc_Seats => k_is)
    (case o_Seats_scene => k_is)
    (case o_Seats_seating => k_is)
    (case o_Seats_seated => k_is)
    (case aC_Kept => k_is)
    (case pg_Kept => k_is)
    (case hd_Kept => k_is)
    (case po_Kept => k_is)
    (case sa_Kept => k_is)
    (case mk_Kept => k_is)
    (case kc_Kept => k_is)
    (case o_Kept_lot => k_is)
    (case o_Kept_seating => k_is)
    (case o_Kept_papers => k_is)
    (case aC_Call => k_is)
    (case pg_Call => k_is)
    (case hd_Call => k_is)
    (case po_Call => k_is)
    (case sa_Call => k_is)
    (case mk_Call => k_is)
    (case kc_Call => k_is)
    (case o_Call_worth => k_is)
    (case o_Call_heard => k_is)
    (case aC_Scene => k_is)
    (case pg_Scene => k_is)
    (case hd_Scene => k_is)
    (case po_Scene => k_is)
    (case sa_Scene => k_is)
    (case mk_Scene => k_is)
    (case kc_Scene => k_is)
    (case o_Scene_channels => k_is)
    (case o_Scene_calls => k_is)
    (case a_Seats_init => k_is)
    (case i_Seats_init => k_is)
    (case l_Seats_init => k_is)
    (case c_Seats_init => k_is)
    (case k_Seats_init => k_is)
    (case a_Seats_sit => k_is)
    (case i_Seats_sit => k_is)
    (case l_Seats_sit => k_is)
    (case c_Seats_sit => k_is)
    (case k_Seats_sit => k_is)
    (case a_Seats_has_room => k_is)
    (case i_Seats_has_room => k_is)
    (case l_Seats_has_room => k_is)
    (case c_Seats_has_room => k_is)
    (case k_Seats_has_room => k_is)
    (case a_Seats_ways_from => k_is)
    (case i_Seats_ways_from => k_is)
    (case l_Seats_ways_from => k_is)
    (case c_Seats_ways_from => k_is)
    (case k_Seats_ways_from => k_is)
    (case a_Seats_add => k_is)
    (case i_Seats_add => k_is)
    (case l_Seats_add => k_is)
    (case c_Seats_add => k_is)
    (case k_Seats_add => k_is)
    (case a_Seats_lot_against => k_is)
    (case i_Seats_lot_against => k_is)
    (case l_Seats_lot_against => k_is)
    (case c_Seats_lot_against => k_is)
    (case k_Seats_lot_against => k_is)
    (case a_Kept_init => k_is)
    (case i_Kept_init => k_is)
    (case l_Kept_init => k_is)
    (case c_Kept_init => k_is)
    (case k_Kept_init => k_is)
    (case a_kept => k_is)
    (case l_kept => k_is)
    (case c_kept => k_is)
    (case k_kept => k_is)
    (case a_is_seatable => k_is)
    (case l_is_seatable => k_is)
    (case c_is_seatable => k_is)
    (case k_is_seatable => k_is)
    (case a_is_whole => k_is)
    (case l_is_whole => k_is)
    (case c_is_whole => k_is)
    (case k_is_whole => k_is)
    (case a_is_name => k_is)
    (case l_is_name => k_is)
    (case c_is_name => k_is)
    (case k_is_name => k_is)
    (case a_Call_init => k_is)
    (case i_Call_init => k_is)
    (case l_Call_init => k_is)
    (case c_Call_init => k_is)
    (case k_Call_init => k_is)
    (case a_Scene_init => k_is)
    (case i_Scene_init => k_is)
    (case l_Scene_init => k_is)
    (case c_Scene_init => k_is)
    (case k_Scene_init => k_is)
    (case a_Scene_order => k_is)
    (case i_Scene_order => k_is)
    (case l_Scene_order => k_is)
    (case c_Scene_order => k_is)
    (case k_Scene_order => k_is)
    (case a_Scene_rank => k_is)
    (case i_Scene_rank => k_is)
    (case l_Scene_rank => k_is)
    (case c_Scene_rank => k_is)
    (case k_Scene_rank => k_is)
    (case gf_Scene_rank => k_is)
    (case tk_Scene_rank => k_is)
    (case fi_Scene_rank => k_is)
    (case a_law_number => k_is)
    (case l_law_number => k_is)
    (case c_law_number => k_is)
    (case k_law_number => k_is)
    (case a_law_take => k_is)
    (case l_law_take => k_is)
    (case c_law_take => k_is)
    (case k_law_take => k_is)
    (case a_law_pick => k_is)
    (case l_law_pick => k_is)
    (case c_law_pick => k_is)
    (case k_law_pick => k_is)
    (case a_law_masts => k_is)
    (case l_law_masts => k_is)
    (case c_law_masts => k_is)
    (case k_law_masts => k_is)
    (case a_law_heard => k_is)
    (case l_law_heard => k_is)
    (case c_law_heard => k_is)
    (case k_law_heard => k_is)
    (case a_law_scene => k_is)
    (case l_law_scene => k_is)
    (case c_law_scene => k_is)
    (case k_law_scene => k_is)
    (case a_law => k_is)
    (case l_law => k_is)
    (case c_law => k_is)
    (case k_law => k_is)
    (case z_abs => k_is)
    (case z_all => k_is)
    (case z_any => k_is)
    (case z_bool => k_is)
    (case z_dict => k_is)
    (case z_int => k_is)
    (case z_isinstance => k_is)
    (case z_len => k_is)
    (case z_list => k_is)
    (case z_range => k_is)
    (case z_set => k_is)
    (case z_sorted => k_is)
    (case z_str => k_is)
    (case z_tuple => k_is)
    (case g_LETTERS => k_is)
    (case g_FIGURES => k_is)
    (case g_MOST_CHANNELS => k_is)
