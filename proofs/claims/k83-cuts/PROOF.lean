import PyProof.Rows.All
import Wide.All
import OpenK.AllK
import Wide.FinOn
import HandS.ForMost
import HandS.TupAny
import HandS.FStr
import HandS.ForExc
import HandS.CallSlots
import HandS.TryMany
import HandS.IsInst
import HandS.Walk
import HandS.ExcInit
import HandS.SortInts
import PyProof.ReprRoads
import HandS.ExcField
import HandS.Ends
import HandS.WordsExc
import HandS.Text
import PySem.Challenge.RW_cutrows_k83_cuts_written_and_read
set_option Elab.async false
set_option linter.all false
set_option maxRecDepth 100000
/-! F1: the little language's data: values, objects, stores, and what its operations do. -/
namespace MP
open PySem

inductive Val where
  | non | bl (b : Bool) | int (i : Int) | str (s : Str) | tup (vs : List Val) | ref (l : Nat) | scr (ns : List Int)
  deriving Inhabited

inductive Obj where
  | lst (vs : List Val) | dct (kvs : List (Val × Val)) | ins (c : Str) (fs : List (Str × Val))
abbrev Store := List Obj
abbrev Env := List (Option Val)
/-- an operand: a value, or a new object that the store does not hold yet -/
inductive Opd where
  | val (v : Val) | new (o : Obj)
structure Exn where
  cls : Str
  fs : List (Str × Val)
inductive Res where
  | ok (o : Opd) (S : Store) | rz (x : Exn) (S : Store) | stuck
abbrev MX := Env → Store → Res

def Res.bind (r : Res) (k : Opd → Store → Res) : Res := match r with
  | .ok o S => k o S
  | .rz x S => .rz x S
  | .stuck => .stuck
@[simp] theorem Res.bind_ok (o : Opd) (S : Store) (k : Opd → Store → Res) : (Res.ok o S).bind k = k o S := rfl
@[simp] theorem Res.bind_rz (x : Exn) (S : Store) (k : Opd → Store → Res) : (Res.rz x S).bind k = .rz x S := rfl
@[simp] theorem Res.bind_stuck (k : Opd → Store → Res) : Res.stuck.bind k = .stuck := rfl
def ofO (S : Store) : Option Opd → Res
  | some o => .ok o S
  | none => .stuck
@[simp] theorem ofO_some (S : Store) (o : Opd) : ofO S (some o) = .ok o S := rfl
@[simp] theorem ofO_none (S : Store) : ofO S none = .stuck := rfl

/-! ### reading operands -/
def rdL (S : Store) : Opd → Option (List Val)
  | .new (.lst vs) => some vs
  | .val (.ref l) => match S[l]? with
    | some (.lst vs) => some vs
    | _ => none
  | _ => none
def rdT : Opd → Option (List Val)
  | .val (.tup vs) => some vs
  | _ => none
/-- the script's ints -/
def rdS : Opd → Option (List Int)
  | .val (.scr ns) => some ns
  | _ => none
def big : Nat := 16777216
def okLen (n : Nat) : Bool := decide (n ≤ big)

/-! ### operators -/
abbrev F2 := Store → Opd → Opd → Option Opd
abbrev F1 := Store → Opd → Option Opd
def vI (i : Int) : Option Opd := some (.val (.int i))
def vB (b : Bool) : Option Opd := some (.val (.bl b))
def vS (s : Str) : Option Opd := some (.val (.str s))

def fAdd : F2 := fun S a b => match a, b with
  | .val (.int i), .val (.int j) => vI (i + j)
  | .val (.str x), .val (.str y) => if okLen (x.length + y.length) then vS (x ++ y) else none
  | .val (.tup xs), .val (.tup ys) => if okLen (xs.length + ys.length) then some (.val (.tup (xs ++ ys))) else none
  | a, b => match rdL S a, rdL S b with
    | some xs, some ys => if okLen (xs.length + ys.length) then some (.new (.lst (xs ++ ys))) else none
    | _, _ => none
def fSub : F2 := fun _ a b => match a, b with
  | .val (.int i), .val (.int j) => vI (i - j)
  | _, _ => none
def small64 (i : Int) : Bool := decide (-(2 ^ 64) < i) && decide (i < 2 ^ 64)
def rep (xs : List Val) (k : Nat) : List Val := (List.replicate k xs).flatten
def fMul : F2 := fun S a b => match a, b with
  | .val (.int i), .val (.int j) => if small64 i || small64 j then vI (i * j) else none
  | .val (.str z), .val (.int k) => if okLen (z.length * k.toNat) && decide (k < 1000000) && decide (-1000000 < k) then vS (Txt.mul z k) else none
  | a, .val (.int k) => match rdL S a with
    | some xs => if small64 k && okLen (xs.length * k.toNat) && decide (k < 1000000) && decide (-1000000 < k) then some (.new (.lst (rep xs k.toNat))) else none
    | _ => none
  | _, _ => none
def fDiv : F2 := fun _ a b => match a, b with
  | .val (.int i), .val (.int j) => if decide (0 < j) && decide (j < 1073741824) then vI (i / j) else none
  | _, _ => none
def fMod : F2 := fun _ a b => match a, b with
  | .val (.int i), .val (.int j) => if decide (0 < j) then vI (i % j) else none
  | _, _ => none
def fPow : F2 := fun _ a b => match a, b with
  | .val (.int i), .val (.int j) => if decide (0 ≤ j) && decide (j ≤ 1000000) && small64 i then vI (i ^ j.toNat) else none
  | _, _ => none
def fNeg : F1 := fun _ a => match a with
  | .val (.int i) => vI (-i)
  | _ => none

/-! ### comparisons -/
def fLt : F2 := fun _ a b => match a, b with
  | .val (.int i), .val (.int j) => vB (decide (i < j))
  | _, _ => none
def fLe : F2 := fun _ a b => match a, b with
  | .val (.int i), .val (.int j) => vB (decide (i ≤ j))
  | _, _ => none
def fGt : F2 := fun _ a b => match a, b with
  | .val (.int i), .val (.int j) => vB (decide (j < i))
  | _, _ => none
def fGe : F2 := fun _ a b => match a, b with
  | .val (.int i), .val (.int j) => vB (decide (j ≤ i))
  | _, _ => none
mutual
/-- a value without references, as data -/
def pd : Val → Option PyData
  | .non => some .none
  | .bl b => some (.bool b)
  | .int i => some (.int i)
  | .str s => some (.str s)
  | .tup vs => (pds vs).map .tuple
  | .ref _ => none
  | .scr _ => none
def pds : List Val → Option (List PyData)
  | [] => some []
  | v :: vs => match pd v, pds vs with
    | some d, some ds => some (d :: ds)
    | _, _ => none
end
def pdO (S : Store) (o : Opd) : Option PyData := match o with
  | .val v => match pd v with
    | some d => some d
    | none => match rdL S (.val v) with
      | some vs => (pds vs).map .list
      | none => none
  | .new (.lst vs) => (pds vs).map .list
  | _ => none
def fEq : F2 := fun S a b => match pdO S a, pdO S b with
  | some d, some e => if SeqAt.shaped d && SeqAt.shaped e then vB (PyData.eqv d e) else none
  | _, _ => none
def fNe : F2 := fun S a b => match pdO S a, pdO S b with
  | some d, some e => if SeqAt.shaped d && SeqAt.shaped e then vB (!PyData.eqv d e) else none
  | _, _ => none
def fIsN : F1 := fun _ a => match a with
  | .val .non => vB true
  | _ => vB false
def fNotN : F1 := fun _ a => match a with
  | .val .non => vB false
  | _ => vB true

/-! ### parts -/
def cutL {α : Type} (xs : List α) (lo hi : Option Int) : List α := (xs.drop (HT.sIx xs.length 0 lo)).take (HT.sIx xs.length xs.length hi - HT.sIx xs.length 0 lo)
end MP

/-! F2: how the little language's data lie in the layer's heap; the judgement of an expression. -/
namespace MP
open PySem L2

abbrev Frag := PySem.W.Frag
/-! ### what lies where -/
/-- a list that nobody may write -/
def SqF (K : Frag) (H : Hp) (a : Addr) (xs : List V) : Prop := (∃ o, H a = some (.frz o (.lst xs))) ∨ ∃ (o : PySem.Obj) (its : Array Value) (n : Nat), K.lookup a = some o ∧ o.cls = .type "list" ∧ o.dict = none ∧ o.data = .seq its n ∧ its.size ≤ sizeLine ∧ Vals xs its.toList
theorem SqF.l {K : Frag} {H : Hp} {a : Addr} {xs : List V} (h : SqF K H a xs) : SqL K H a xs := h.imp (fun h => .inr h) id
mutual
def VR (K : Frag) (H : Hp) (ρ : List Addr) : Val → V → Prop
  | .non, v => v = .non
  | .bl b, v => v = .bl b
  | .int i, v => v = .int i
  | .str s, v => v = .str s
  | .tup ds, v => ∃ a xs, v = .ref a ∧ SqT K H a xs ∧ VRs K H ρ ds xs
  | .ref l, v => ∃ a, v = .ref a ∧ ρ[l]? = some a
  | .scr ns, v => ∃ a, v = .ref a ∧ SqF K H a (ns.map V.int)
def VRs (K : Frag) (H : Hp) (ρ : List Addr) : List Val → List V → Prop
  | [], xs => xs = []
  | d :: ds, xs => ∃ x r, xs = x :: r ∧ VR K H ρ d x ∧ VRs K H ρ ds r
end
def FRs (K : Frag) (H : Hp) (ρ : List Addr) : List (Str × Val) → List (Str × V) → Prop
  | [], xs => xs = []
  | d :: ds, xs => ∃ x r, xs = (d.1, x) :: r ∧ VR K H ρ d.2 x ∧ FRs K H ρ ds r
/-- an object of the store at its address -/
def OR (K : Frag) (H : Hp) (ρ : List Addr) : Obj → Addr → Prop
  | .lst ds, a => ∃ xs, H a = some (.lst xs) ∧ VRs K H ρ ds xs
  | .dct _, _ => False
  | .ins _ _, _ => False
def SR (K : Frag) (H : Hp) (ρ : List Addr) (S : Store) : Prop :=
  S.length = ρ.length ∧ ρ.Nodup ∧ ∀ (l : Nat) (o : Obj) (a : Addr), S[l]? = some o → ρ[l]? = some a → OR K H ρ o a
def ER (K : Frag) (H : Hp) (ρ : List Addr) (env : Env) (σ : L2.St) : Prop :=
  env.length = σ.length ∧ ∀ (i : Nat) (d : Val), env[i]? = some (some d) → ∃ v, σ[i]? = some (some v) ∧ VR K H ρ d v
/-- an operand at a moment -/
def OP (K : Frag) (H : Hp) (ρ : List Addr) : Opd → V → Prop
  | .val d, v => VR K H ρ d v
  | .new o, v => ∃ a, v = .ref a ∧ a ∉ ρ ∧ OR K H ρ o a
/-- an operand that came about since H -/
def OX (K : Frag) (H : Hp) (ρ : List Addr) (H' : Hp) : Opd → V → Prop
  | .val d, v => VR K H' ρ d v
  | .new o, v => ∃ a, v = .ref a ∧ H a = none ∧ a ∉ ρ ∧ OR K H' ρ o a
/-- the store's addresses may have grown, all else that was tracked stands -/
structure Ext (ρ : List Addr) (H : Hp) (ρ' : List Addr) (H' : Hp) : Prop where
  pre : ∃ t, ρ' = ρ ++ t ∧ ∀ a ∈ t, H a = none
  fix : ∀ b o, H b = some o → b ∉ ρ → H' b = some o
/-- nothing changed but for new objects -/
def Grow (H H' : Hp) : Prop := ∀ b o, H b = some o → H' b = some o

theorem OP.of {K : Frag} {H H' : Hp} {ρ : List Addr} {o : Opd} {v : V} (h : OX K H ρ H' o v) : OP K H' ρ o v := by
  cases o with
  | val d => exact h
  | new o => obtain ⟨a, e, _, n, r⟩ := h; exact ⟨a, e, n, r⟩
theorem Grow.refl (H : Hp) : Grow H H := fun _ _ h => h
theorem Grow.trans {H H1 H2 : Hp} (a : Grow H H1) (b : Grow H1 H2) : Grow H H2 := fun c o h => b c o (a c o h)
theorem Grow.new {H : Hp} {p : Addr} {o : HO} (h : H p = none) : Grow H (upd H p o) := fun b u e => by
  rw [upd_ne (ne_of_none e h)]; exact e
theorem Ext.refl (ρ : List Addr) (H : Hp) : Ext ρ H ρ H := ⟨⟨[], by simp, by simp⟩, fun _ _ h _ => h⟩
theorem Ext.grow {ρ : List Addr} {H H' : Hp} (g : Grow H H') : Ext ρ H ρ H' := ⟨⟨[], by simp, by simp⟩, fun b o h _ => g b o h⟩

theorem OR.there {K : Frag} {H : Hp} {ρ : List Addr} {o : Obj} {a : Addr} (h : OR K H ρ o a) : ∃ u, H a = some u := by
  cases o with
  | lst ds => obtain ⟨xs, e, _⟩ := h; exact ⟨_, e⟩
  | dct _ => exact h.elim
  | ins _ _ => exact h.elim
theorem OR.notTup {K : Frag} {H : Hp} {ρ : List Addr} {o : Obj} {a : Addr} (h : OR K H ρ o a) (xs : List V) : H a ≠ some (.tup xs) ∧ ∀ q, H a ≠ some (.frz q (.tup xs)) := by
  cases o with
  | lst ds => obtain ⟨xs, e, _⟩ := h; exact ⟨(by rw [e]; intro q; cases q), fun q => (by rw [e]; intro z; cases z)⟩
  | dct _ => exact h.elim
  | ins _ _ => exact h.elim
section
variable {K : Frag} {H H' H1 H2 : Hp} {ρ ρ' ρ1 ρ2 : List Addr} {S S' S1 : Store}
theorem SR.mem (h : SR K H ρ S) {a : Addr} (m : a ∈ ρ) : ∃ (l : Nat) (o : Obj), ρ[l]? = some a ∧ S[l]? = some o ∧ OR K H ρ o a := by
  obtain ⟨l, hl, e⟩ := List.getElem_of_mem m
  have hl' : l < S.length := by rw [h.1]; exact hl
  have e1 : ρ[l]? = some a := by rw [List.getElem?_eq_getElem hl, e]
  have e2 : S[l]? = some S[l] := List.getElem?_eq_getElem hl'
  exact ⟨l, S[l], e1, e2, h.2.2 l _ a e2 e1⟩
theorem SR.there (h : SR K H ρ S) {a : Addr} (m : a ∈ ρ) : ∃ u, H a = some u := by
  obtain ⟨l, o, _, _, r⟩ := h.mem m
  exact r.there
theorem SR.none (h : SR K H ρ S) {a : Addr} (e : H a = none) : a ∉ ρ := fun m => by
  obtain ⟨u, q⟩ := h.there m
  rw [e] at q; cases q
theorem Ext.trans {ρ3 : List Addr} {H3 : Hp} (a : Ext ρ H ρ1 H1) (b : Ext ρ1 H1 ρ3 H3) (s : SR K H ρ S) (s1 : SR K H1 ρ1 S1) : Ext ρ H ρ3 H3 := by
  obtain ⟨⟨t, e, n⟩, f⟩ := a
  obtain ⟨⟨t', e', n'⟩, f'⟩ := b
  have key : ∀ a, H1 a = none → H a = none := fun a q => by
    cases z : H a with
    | none => rfl
    | some u =>
      by_cases m : a ∈ ρ
      · obtain ⟨w, hw⟩ := s1.there (a := a) (by rw [e]; exact List.mem_append_left _ m)
        rw [q] at hw; cases hw
      · rw [f a u z m] at q; cases q
  refine ⟨⟨t ++ t', by rw [e', e, List.append_assoc], fun a m => ?_⟩, fun b o h m => ?_⟩
  · rcases List.mem_append.mp m with m | m
    · exact n a m
    · exact key a (n' a m)
  · refine f' b o (f b o h m) fun m' => ?_
    rw [e] at m'
    rcases List.mem_append.mp m' with m' | m'
    · exact m m'
    · rw [n b m'] at h; cases h
theorem Ext.back (a : Ext ρ H ρ1 H1) (s1 : SR K H1 ρ1 S1) {x : Addr} (q : H1 x = none) : H x = none := by
  obtain ⟨⟨t, e, n⟩, f⟩ := a
  cases z : H x with
  | none => rfl
  | some u =>
    by_cases m : x ∈ ρ
    · obtain ⟨w, hw⟩ := s1.there (a := x) (by rw [e]; exact List.mem_append_left _ m)
      rw [q] at hw; cases hw
    · rw [f x u z m] at q; cases q
theorem Ext.get (a : Ext ρ H ρ' H') {l : Nat} {x : Addr} (h : ρ[l]? = some x) : ρ'[l]? = some x := by
  obtain ⟨⟨t, e, _⟩, _⟩ := a
  rw [e, List.getElem?_append_left (List.getElem?_eq_some_iff.mp h).1]
  exact h
theorem Ext.tup (a : Ext ρ H ρ' H') (s : SR K H ρ S) {x : Addr} {xs : List V} (h : SqT K H x xs) : SqT K H' x xs := by
  have nin : ∀ u, H x = some u → (u = .tup xs ∨ ∃ q, u = .frz q (.tup xs)) → x ∉ ρ := fun u e hu m => by
    obtain ⟨l, o, _, _, r⟩ := s.mem m
    rcases hu with hu | ⟨q, hu⟩
    · exact (r.notTup xs).1 (by rw [e, hu])
    · exact (r.notTup xs).2 q (by rw [e, hu])
  rcases h with (h | ⟨o, h⟩) | h
  · exact .inl (.inl (a.fix _ _ h (nin _ h (.inl rfl))))
  · exact .inl (.inr ⟨o, a.fix _ _ h (nin _ h (.inr ⟨o, rfl⟩))⟩)
  · exact .inr h
theorem Ext.frz (a : Ext ρ H ρ' H') (s : SR K H ρ S) {x : Addr} {xs : List V} (h : SqF K H x xs) : SqF K H' x xs := h.imp (fun ⟨o, e⟩ => ⟨o, a.fix _ _ e fun m => by
  obtain ⟨l, q, _, _, r⟩ := s.mem m
  cases q with
  | lst ds => obtain ⟨ys, e1, _⟩ := r; rw [e] at e1; cases e1
  | dct _ => exact r.elim
  | ins _ _ => exact r.elim⟩) id
mutual
theorem VR.ext (a : Ext ρ H ρ' H') (s : SR K H ρ S) : ∀ (d : Val) {v : V}, VR K H ρ d v → VR K H' ρ' d v
  | .non, _, h => h
  | .bl _, _, h => h
  | .int _, _, h => h
  | .str _, _, h => h
  | .tup ds, _, ⟨x, xs, e, q, r⟩ => ⟨x, xs, e, a.tup s q, VRs.ext a s ds r⟩
  | .ref _, _, ⟨x, e, q⟩ => ⟨x, e, a.get q⟩
  | .scr _, _, ⟨x, e, q⟩ => ⟨x, e, a.frz s q⟩
theorem VRs.ext (a : Ext ρ H ρ' H') (s : SR K H ρ S) : ∀ (ds : List Val) {xs : List V}, VRs K H ρ ds xs → VRs K H' ρ' ds xs
  | [], _, h => h
  | d :: ds, _, ⟨x, r, e, h1, h2⟩ => ⟨x, r, e, VR.ext a s d h1, VRs.ext a s ds h2⟩
end
theorem ER.ext (a : Ext ρ H ρ' H') (s : SR K H ρ S) {env : Env} {σ : L2.St} (h : ER K H ρ env σ) : ER K H' ρ' env σ :=
  ⟨h.1, fun i d e => let ⟨v, e1, r⟩ := h.2 i d e; ⟨v, e1, VR.ext a s d r⟩⟩
theorem OP.ext (a : Ext ρ H ρ' H') (s : SR K H ρ S) {o : Opd} {v : V} (h : OP K H ρ o v) : OP K H' ρ' o v := by
  cases o with
  | val d => exact VR.ext a s d h
  | new o =>
    obtain ⟨x, e, n, r⟩ := h
    obtain ⟨u, hu⟩ := r.there
    refine ⟨x, e, fun m => ?_, ?_⟩
    · obtain ⟨⟨t, et, nt⟩, _⟩ := a
      rw [et] at m
      rcases List.mem_append.mp m with m | m
      · exact n m
      · rw [nt x m] at hu; cases hu
    · cases o with
      | lst ds => obtain ⟨xs, e1, r1⟩ := r; exact ⟨xs, a.fix _ _ e1 n, VRs.ext a s ds r1⟩
      | dct _ => exact r.elim
      | ins _ _ => exact r.elim
theorem OX.shift (a : Ext ρ H ρ1 H1) (s1 : SR K H1 ρ1 S1) {ρ2 : List Addr} {H2 : Hp} {o : Opd} {v : V} (h : OX K H1 ρ2 H2 o v) : OX K H ρ2 H2 o v := by
  cases o with
  | val d => exact h
  | new o =>
    obtain ⟨x, e, n, m, r⟩ := h
    exact ⟨x, e, a.back s1 n, m, r⟩
/-- a store whose heap grew -/
theorem SR.grow (g : Grow H H') (s : SR K H ρ S) : SR K H' ρ S := ⟨s.1, s.2.1, fun l o a e1 e2 => by
  have r := s.2.2 l o a e1 e2
  have x : Ext ρ H ρ H' := .grow g
  cases o with
  | lst ds => obtain ⟨xs, e, q⟩ := r; exact ⟨xs, g _ _ e, VRs.ext x s ds q⟩
  | dct _ => exact r.elim
  | ins _ _ => exact r.elim⟩
end

/-! ### exceptions; what is asked behind an expression -/
def XR (K : Frag) (mg : Str → Option Value) (H : Hp) (ρ : List Addr) (x : Exn) (cls : Value) (d : Option Addr) : Prop :=
  ∃ C, mg x.cls = some (.ref C) ∧ cls = .ref C ∧ ((x.fs = [] ∧ d = none) ∨ ∃ dx fs', d = some dx ∧ H dx = some (.xd fs') ∧ FRs K H ρ x.fs fs')
/-- the text's constants: the written part, the module's names -/
structure Tx where
  K : Frag
  mg : Str → Option Value
abbrev XW := Value → Option Addr → Hp → Prop
def Good (T : Tx) (W : XW) (ρ : List Addr) (H : Hp) (r : Res) (Q : VK) : Prop := match r with
  | .ok o S' => ∀ v ρ' H', Ext ρ H ρ' H' → SR T.K H' ρ' S' → OX T.K H ρ' H' o v → Q v H'
  | .rz x S' => ∀ ρ' H' cls d, Ext ρ H ρ' H' → SR T.K H' ρ' S' → XR T.K T.mg H' ρ' x cls d → W cls d H'
  | .stuck => False
section
variable {T : Tx} {W : XW} {H H1 : Hp} {ρ ρ1 : List Addr} {S S1 : Store} {r : Res} {Q Q' : VK}
theorem Good.mono (h : Good T W ρ H r Q) (q : ∀ v H, Q v H → Q' v H) : Good T W ρ H r Q' := by
  cases r with
  | ok o S' => exact fun v ρ' H' a b c => q _ _ (h v ρ' H' a b c)
  | rz x S' => exact h
  | stuck => exact h
theorem Good.shift (h : Good T W ρ H r Q) (a : Ext ρ H ρ1 H1) (s : SR T.K H ρ S) (s1 : SR T.K H1 ρ1 S1) : Good T W ρ1 H1 r Q := by
  cases r with
  | ok o S' => exact fun v ρ' H' b c d => h v ρ' H' (a.trans b s s1) c (d.shift a s1)
  | rz x S' => exact fun ρ' H' cls d b c e => h ρ' H' cls d (a.trans b s s1) c e
  | stuck => exact h
theorem Good.bind {k : Opd → Store → Res} (s : SR T.K H ρ S) (h : Good T W ρ H (r.bind k) Q) :
    Good T W ρ H r (fun v H1 => ∃ ρ1 o S1, r = .ok o S1 ∧ Ext ρ H ρ1 H1 ∧ SR T.K H1 ρ1 S1 ∧ OX T.K H ρ1 H1 o v ∧ Good T W ρ1 H1 (k o S1) Q) := by
  cases r with
  | ok o S' => exact fun v ρ' H' a b c => ⟨ρ', o, S', rfl, a, b, c, Good.shift (r := k o S') h a s b⟩
  | rz x S' => exact h
  | stuck => exact h
/-- the end: a value at the heap as it is -/
theorem Good.val {d : Val} (h : Good T W ρ H (.ok (.val d) S) Q) (s : SR T.K H ρ S) {v : V} (r : VR T.K H ρ d v) : Q v H := h v ρ H (Ext.refl _ _) s r
/-- .. a heap that grew -/
theorem Good.valG {d : Val} (h : Good T W ρ H (.ok (.val d) S) Q) (s : SR T.K H ρ S) {H' : Hp} (g : Grow H H') {v : V} (r : VR T.K H' ρ d v) : Q v H' := h v ρ H' (.grow g) (s.grow g) r
/-- a new object -/
theorem Good.newG {o : Obj} (h : Good T W ρ H (.ok (.new o) S) Q) (s : SR T.K H ρ S) {H' : Hp} (g : Grow H H') {a : Addr} (n : H a = none) (r : OR T.K H' ρ o a) : Q (.ref a) H' :=
  h (.ref a) ρ H' (.grow g) (s.grow g) ⟨a, rfl, n, s.none n, r⟩
end

/-! ### the judgement -/
def TM (T : Tx) (W : WX) (m : MX) : TE := fun σ H Q => ∃ ρ env S, SR T.K H ρ S ∧ ER T.K H ρ env σ ∧ Good T (fun c d H => W c d σ H) ρ H (m env S) Q
theorem _root_.L2.PE.imp {X : Cx} {e : Expr} {t t' : TE} (h : PE X e t) (i : ∀ σ H Q, t' σ H Q → t σ H Q) : PE X e t' := ⟨fun pins s σ H Q I q => h.run pins s σ H Q I (i σ H Q q)⟩
theorem _root_.L2.PT.imp {X : Cx} {e : Expr} {t t' : TT} (h : PT X e t) (i : ∀ σ H Q, t' σ H Q → t σ H Q) : PT X e t' := ⟨fun pins s σ H Q I q => h.run pins s σ H Q I (i σ H Q q)⟩

def mLoc (i : Nat) : MX := fun env S => match env[i]? with
  | some (some v) => .ok (.val v) S
  | _ => .stuck
def mC (v : Val) : MX := fun _ S => .ok (.val v) S
def mUn (f : F1) (m : MX) : MX := fun env S => (m env S).bind fun a S1 => ofO S1 (f S1 a)
def mBin (f : F2) (m n : MX) : MX := fun env S => (m env S).bind fun a S1 => (n env S1).bind fun b S2 => ofO S2 (f S2 a b)

section
variable {X : Cx} {T : Tx} {W : WX} {a b e : Expr} {m n : MX} {pos : Pos}
theorem tm_use {σ : L2.St} {H : Hp} {ρ : List Addr} {env : Env} {S : Store} {Q Q' : VK} (s : SR T.K H ρ S) (er : ER T.K H ρ env σ) (h : Good T (fun c d H => W c d σ H) ρ H (m env S) Q') (i : ∀ v H, Q' v H → Q v H) : TM T W m σ H Q :=
  ⟨ρ, env, S, s, er, h.mono i⟩
theorem pm_loc {i : Nat} {x : Str} (hN : X.N[i]? = some x) (hv : Vis X.env.scope x) (hd : (x == ("__debug__" : Str)) = false) (hcd : (x == ("__classdict__" : Str)) = false) : PE X (.Name x pos) (TM T W (mLoc i)) :=
  (pe_var hN hv hd hcd).imp fun σ H Q ⟨ρ, env, S, s, er, g⟩ => by
    unfold mLoc at g
    split at g
    · rename_i v e
      obtain ⟨u, e1, r⟩ := er.2 i v e
      exact ⟨u, e1, g.val s r⟩
    · exact g.elim
theorem pm_int {i : Int} {j : Nat} : PE X (.Constant (.int i) j pos) (TM T W (mC (.int i))) := pe_int.imp fun σ H Q ⟨ρ, env, S, s, er, g⟩ => g.val s rfl
theorem pm_bl {i : Bool} {j : Nat} : PE X (.Constant (.bool i) j pos) (TM T W (mC (.bl i))) := pe_bl.imp fun σ H Q ⟨ρ, env, S, s, er, g⟩ => g.val s rfl
theorem pm_non {j : Nat} : PE X (.Constant .none j pos) (TM T W (mC .non)) := pe_non.imp fun σ H Q ⟨ρ, env, S, s, er, g⟩ => g.val s rfl
theorem pm_str {x : Str} {j : Nat} : PE X (.Constant (.str x) j pos) (TM T W (mC (.str x))) := pe_str.imp fun σ H Q ⟨ρ, env, S, s, er, g⟩ => g.val s rfl

/-- what a two-place operation on operands asks of the layer's rule -/
def BinOk (T : Tx) (r : R2) (f : F2) : Prop := ∀ (W : XW) (H : Hp) (ρ : List Addr) (S : Store) (x y : Opd) (v u : V) (Q : VK), SR T.K H ρ S → OP T.K H ρ x v → OP T.K H ρ y u → Good T W ρ H (ofO S (f S x y)) Q → r v u H Q
def UnOk (T : Tx) (r : V → Hp → VK → Prop) (f : F1) : Prop := ∀ (W : XW) (H : Hp) (ρ : List Addr) (S : Store) (x : Opd) (v : V) (Q : VK), SR T.K H ρ S → OP T.K H ρ x v → Good T W ρ H (ofO S (f S x)) Q → r v H Q
theorem tm_bin {r : R2} {f : F2} (ok : BinOk T r f) {σ : L2.St} {H : Hp} {Q : VK} (h : TM T W (mBin f m n) σ H Q) : tOp r (TM T W m) (TM T W n) σ H Q := by
  obtain ⟨ρ, env, S, s, er, g⟩ := h
  refine tm_use s er (Good.bind s g) fun v H1 ⟨ρ1, o1, S1, _, x1, s1, p1, g1⟩ => ?_
  refine tm_use s1 (er.ext x1 s) (Good.bind s1 g1) fun u H2 ⟨ρ2, o2, S2, _, x2, s2, p2, g2⟩ => ?_
  exact ok _ H2 ρ2 S2 o1 o2 v u Q s2 ((OP.of p1).ext x2 s1) (OP.of p2) g2
theorem tm_un {r : V → Hp → VK → Prop} {f : F1} (ok : UnOk T r f) {σ : L2.St} {H : Hp} {Q : VK} (h : TM T W (mUn f m) σ H Q) : TM T W m σ H fun v H1 => r v H1 Q := by
  obtain ⟨ρ, env, S, s, er, g⟩ := h
  refine tm_use s er (Good.bind s g) fun v H1 ⟨ρ1, o1, S1, _, x1, s1, p1, g1⟩ => ?_
  exact ok _ H1 ρ1 S1 o1 v Q s1 (OP.of p1) g1
theorem pm_bin {op : Operator} {r : R2} {f : F2} (ho : OpR X (binaryOp op) r) (ok : BinOk T r f) (ha : PE X a (TM T W m)) (hb : PE X b (TM T W n)) : PE X (.BinOp a op b pos) (TM T W (mBin f m n)) :=
  (pe_op ho ha hb).imp fun _ _ _ h => tm_bin ok h
theorem pm_cmp {op : CmpOp} {r : R2} {f : F2} (ho : OpR X (compareOp op) r) (ok : BinOk T r f) (ha : PE X a (TM T W m)) (hb : PE X b (TM T W n)) (hm : behindInMarks op b = false) : PE X (.Compare a [op] [b] pos) (TM T W (mBin f m n)) :=
  (pe_cmpR ho ha hb hm).imp fun _ _ _ h => tm_bin ok h
end
end MP

/-! F3: the operators. -/
namespace MP
open PySem L2

section
variable {K : Frag} {H : Hp} {ρ : List Addr}
theorem VRs.cons {d : Val} {ds : List Val} {x : V} {xs : List V} (h : VR K H ρ d x) (t : VRs K H ρ ds xs) : VRs K H ρ (d :: ds) (x :: xs) := ⟨x, xs, rfl, h, t⟩
theorem VRs.length : ∀ {ds : List Val} {xs : List V}, VRs K H ρ ds xs → ds.length = xs.length
  | [], _, h => by subst h; rfl
  | d :: ds, _, ⟨x, r, e, _, t⟩ => by subst e; rw [List.length_cons, List.length_cons, VRs.length t]
theorem VRs.append : ∀ {ds es : List Val} {xs ys : List V}, VRs K H ρ ds xs → VRs K H ρ es ys → VRs K H ρ (ds ++ es) (xs ++ ys)
  | [], _, _, _, h, q => by subst h; exact q
  | d :: ds, es, _, ys, ⟨x, r, e, h, t⟩, q => by subst e; exact ⟨x, r ++ ys, rfl, h, VRs.append t q⟩
theorem VRs.get : ∀ {ds : List Val} {xs : List V} {i : Nat} {d : Val}, VRs K H ρ ds xs → ds[i]? = some d → ∃ x, xs[i]? = some x ∧ VR K H ρ d x
  | [], _, _, _, _, e => by simp at e
  | c :: ds, _, 0, d, ⟨x, r, e, h, t⟩, q => by
    subst e
    have : c = d := by simpa using q
    subst this
    exact ⟨x, rfl, h⟩
  | c :: ds, _, i + 1, d, ⟨x, r, e, h, t⟩, q => by
    subst e
    obtain ⟨y, e1, r1⟩ := VRs.get (i := i) (d := d) t (by simpa using q)
    exact ⟨y, by simpa using e1, r1⟩
theorem VRs.drop : ∀ (n : Nat) {ds : List Val} {xs : List V}, VRs K H ρ ds xs → VRs K H ρ (ds.drop n) (xs.drop n)
  | 0, _, _, h => h
  | n + 1, [], _, h => by subst h; rfl
  | n + 1, d :: ds, _, ⟨x, r, e, _, t⟩ => by subst e; exact VRs.drop n t
theorem VRs.take : ∀ (n : Nat) {ds : List Val} {xs : List V}, VRs K H ρ ds xs → VRs K H ρ (ds.take n) (xs.take n)
  | 0, _, _, _ => rfl
  | n + 1, [], _, h => by subst h; rfl
  | n + 1, d :: ds, _, ⟨x, r, e, h, t⟩ => by subst e; exact ⟨x, _, rfl, h, VRs.take n t⟩
theorem VRs.set : ∀ (n : Nat) {ds : List Val} {xs : List V} {d : Val} {x : V}, VR K H ρ d x → VRs K H ρ ds xs → VRs K H ρ (ds.set n d) (xs.set n x)
  | _, [], _, _, _, _, h => by subst h; rfl
  | 0, c :: ds, _, d, y, q, ⟨x, r, e, h, t⟩ => by subst e; exact ⟨y, r, rfl, q, t⟩
  | n + 1, c :: ds, _, d, y, q, ⟨x, r, e, h, t⟩ => by subst e; exact ⟨x, _, rfl, h, VRs.set n q t⟩
theorem VRs.flat : ∀ (n : Nat) {ds : List Val} {xs : List V}, VRs K H ρ ds xs → VRs K H ρ ((List.replicate n ds).flatten) ((List.replicate n xs).flatten)
  | 0, _, _, _ => rfl
  | n + 1, ds, xs, h => by rw [List.replicate_succ, List.replicate_succ, List.flatten_cons, List.flatten_cons]; exact h.append (VRs.flat n h)
theorem VRs.reverse : ∀ {ds : List Val} {xs : List V}, VRs K H ρ ds xs → VRs K H ρ ds.reverse xs.reverse
  | [], _, h => by subst h; rfl
  | d :: ds, _, ⟨x, r, e, h, t⟩ => by subst e; rw [List.reverse_cons, List.reverse_cons]; exact (VRs.reverse t).append ⟨x, [], rfl, h, rfl⟩
theorem VRs.eraseIdx : ∀ (n : Nat) {ds : List Val} {xs : List V}, VRs K H ρ ds xs → VRs K H ρ (ds.eraseIdx n) (xs.eraseIdx n)
  | _, [], _, h => by subst h; rfl
  | 0, d :: ds, _, ⟨x, r, e, _, t⟩ => by subst e; exact t
  | n + 1, d :: ds, _, ⟨x, r, e, h, t⟩ => by subst e; exact ⟨x, _, rfl, h, VRs.eraseIdx n t⟩
theorem VRs.ints : ∀ (ns : List Int), VRs K H ρ (ns.map Val.int) (ns.map V.int)
  | [] => rfl
  | n :: ns => ⟨.int n, ns.map V.int, rfl, rfl, VRs.ints ns⟩
theorem VRs.nil {xs : List V} (h : VRs K H ρ [] xs) : xs = [] := h
theorem VRs.nil_iff {ds : List Val} {xs : List V} (h : VRs K H ρ ds xs) : xs = [] ↔ ds = [] := by
  have := h.length
  constructor
  · intro e; subst e; exact List.eq_nil_of_length_eq_zero this
  · intro e; subst e; exact h

variable {S : Store}
theorem rdL_at (s : SR K H ρ S) {x : Opd} {v : V} {ds : List Val} (h : rdL S x = some ds) (p : OP K H ρ x v) : ∃ a xs, v = .ref a ∧ H a = some (.lst xs) ∧ VRs K H ρ ds xs := by
  cases x with
  | val d =>
    cases d with
    | ref l =>
      obtain ⟨a, e, q⟩ := p
      replace h : (match S[l]? with | some (Obj.lst vs) => some vs | _ => none) = some ds := h
      split at h
      · rename_i vs hs
        obtain rfl : vs = ds := by injection h
        obtain ⟨xs, e1, r⟩ := s.2.2 l _ a hs q
        exact ⟨a, xs, e, e1, r⟩
      · cases h
    | non => cases h
    | bl _ => cases h
    | int _ => cases h
    | str _ => cases h
    | tup _ => cases h
    | scr _ => cases h
  | new o =>
    obtain ⟨a, e, n, r⟩ := p
    cases o with
    | lst vs =>
      obtain rfl : vs = ds := by injection h
      obtain ⟨xs, e1, r⟩ := r
      exact ⟨a, xs, e, e1, r⟩
    | dct _ => cases h
    | ins _ _ => cases h
theorem big_eq : big = sizeLine := by rw [sizeLine_eq]; rfl
theorem okLen_le {n : Nat} (h : okLen n = true) : n ≤ sizeLine := by
  rw [← big_eq]; exact of_decide_eq_true h
end

/-! ### + -/
def rAddAll (K : Frag) : R2 := fun x y H Q => (rI0 fun i j => .int (i + j)) x y H Q ∨ (∃ i j, x = .str i ∧ y = .str j ∧ i.length + j.length ≤ sizeLine ∧ Q (.str (i ++ j)) H) ∨ rCatA K x y H Q ∨ rCat x y H Q
theorem op_addAll {X : Cx} : OpR X (binaryOp .Add) (rAddAll X.K) := op_add.or (op_add_str.or (op_catA.or op_cat))
section
variable {T : Tx}
theorem ok_add : BinOk T (rAddAll T.K) fAdd := by
  intro W H ρ S x y v u Q s px py g
  have lists : ∀ xs ys, rdL S x = some xs → rdL S y = some ys → okLen (xs.length + ys.length) = true → Good T W ρ H (.ok (.new (.lst (xs ++ ys))) S) Q → rAddAll T.K v u H Q := by
    intro xs ys hx hy hl g
    obtain ⟨a, vs, rfl, ha, ra⟩ := rdL_at s hx px
    obtain ⟨b, us, rfl, hb, rb⟩ := rdL_at s hy py
    refine .inr (.inr (.inr ⟨a, b, vs, us, rfl, rfl, ha, hb, ?_, fun p hp => ?_⟩))
    · rw [← ra.length, ← rb.length]; exact okLen_le hl
    · exact g.newG s (Grow.new hp) hp ⟨_, upd_same, VRs.ext (.grow (Grow.new hp)) s _ (ra.append rb)⟩
  unfold fAdd at g
  split at g
  · cases px; cases py
    exact .inl ⟨_, _, rfl, rfl, g.val s rfl⟩
  · cases px; cases py
    split at g
    · rename_i hl
      exact .inr (.inl ⟨_, _, rfl, rfl, okLen_le hl, g.val s rfl⟩)
    · exact g.elim
  · obtain ⟨a, vs, rfl, ha, ra⟩ := px
    obtain ⟨b, us, rfl, hb, rb⟩ := py
    split at g
    · rename_i hl
      refine .inr (.inr (.inl ⟨a, b, vs, us, rfl, rfl, ha, hb, ?_, fun e => ?_, fun e1 e2 => ?_, fun e1 e2 p hp => ?_⟩))
      · rw [← ra.length, ← rb.length]; exact okLen_le hl
      · refine g.val s ⟨b, us, rfl, hb, ?_⟩
        rw [ra.nil_iff.mp e]; exact rb
      · refine g.val s ⟨a, vs, rfl, ha, ?_⟩
        rw [rb.nil_iff.mp e2, List.append_nil]; exact ra
      · exact g.valG s (Grow.new hp) ⟨p, _, rfl, SqT.of upd_same, VRs.ext (.grow (Grow.new hp)) s _ (ra.append rb)⟩
    · exact g.elim
  · split at g
    · rename_i xs ys h1 h2
      split at g
      · rename_i hl
        exact lists _ _ h1 h2 hl g
      · exact g.elim
    · exact g.elim
theorem ok_sub : BinOk T (rI0 fun i j => .int (i - j)) fSub := by
  intro W H ρ S x y v u Q s px py g
  unfold fSub at g
  split at g
  · cases px; cases py
    exact ⟨_, _, rfl, rfl, g.val s rfl⟩
  · exact g.elim
/-! ### * -/
def rMulS : R2 := fun x y H Q => ∃ z k, x = .str z ∧ y = .int k ∧ MulOk z k ∧ Q (.str (Txt.mul z k)) H
theorem op_mulS {X : Cx} : OpR X (binaryOp .Mult) rMulS := by
  intro pins s σ H x y v u Q I rx ry h
  obtain ⟨z, k, rfl, rfl, ok, q⟩ := h
  obtain ⟨t, rfl⟩ := rx
  obtain ⟨t2, rfl⟩ := ry
  exact SB.mul ok fun t' k' => ⟨.str (Txt.mul z k), H, I.tok _, ⟨t', rfl⟩, q⟩
theorem mulOk_of {z : Str} {k : Int} (h : z.length * k.toNat ≤ sizeLine) (h1 : k < 1000000) (h2 : -1000000 < k) : MulOk z k := by
  refine ⟨?_, fun h3 _ => ?_, fun h3 _ => ?_⟩
  · simp; omega
  · intro h4
    rw [sizeLine_eq] at h
    have h5 : ((2 ^ 63 - 1 : Int) / k) * k ≥ 2 ^ 63 - 1 - k := by
      have := Int.emod_lt_of_pos (2 ^ 63 - 1 : Int) (show 0 < k by omega)
      have e := Int.mul_ediv_add_emod (2 ^ 63 - 1 : Int) k
      rw [Int.mul_comm] at e
      omega
    have h6 : (z.length : Int) * k ≤ 16777216 := by
      have : ((z.length * k.toNat : Nat) : Int) ≤ ((16777216 : Nat) : Int) := Int.ofNat_le.mpr h
      rw [Int.natCast_mul, Int.toNat_of_nonneg (by omega)] at this
      exact this
    have h7 : ((2 ^ 63 - 1 : Int) / k) * k ≤ (z.length : Int) * k := Int.mul_le_mul_of_nonneg_right (by omega) (by omega)
    omega
  · show decide (z.length * k.toNat > sizeLine) = false
    exact decide_eq_false (by omega)
def rMulAll : R2 := fun x y H Q => ((rI CMul fun i j => .int (i * j)) x y H Q ∨ rRep x y H Q) ∨ rMulS x y H Q
theorem op_mulAll {X : Cx} : OpR X (binaryOp .Mult) rMulAll := (op_mul.or op_rep).or op_mulS
theorem small64_ok {i : Int} (h : small64 i = true) : -(2 ^ 64) < i ∧ i < 2 ^ 64 := by
  unfold small64 at h
  simpa using h
theorem ok_mul : BinOk T rMulAll fMul := by
  intro W H ρ S x y v u Q s px py g
  unfold fMul at g
  split at g
  · cases px; cases py
    split at g
    · rename_i h
      refine .inl (.inl ⟨_, _, rfl, rfl, ?_, g.val s rfl⟩)
      rcases Bool.or_eq_true_iff.mp h with h | h
      · exact .inl (small64_ok h)
      · exact .inr (small64_ok h)
    · exact g.elim
  · cases px; cases py
    split at g
    · rename_i h
      simp only [Bool.and_eq_true, decide_eq_true_eq] at h
      obtain ⟨⟨h, h1⟩, h2⟩ := h
      exact .inr ⟨_, _, rfl, rfl, mulOk_of (okLen_le h) h1 h2, g.val s rfl⟩
    · exact g.elim
  · cases py
    split at g
    · rename_i xs hx
      split at g
      · rename_i hl
        simp only [Bool.and_eq_true, decide_eq_true_eq] at hl
        obtain ⟨⟨⟨_, hl⟩, h1⟩, h2⟩ := hl
        obtain ⟨a, vs, rfl, ha, ra⟩ := rdL_at s hx px
        refine .inl (.inr ⟨a, _, vs, rfl, rfl, ha, by omega, by omega, ?_, fun p hp => ?_⟩)
        · rw [← ra.length]; exact okLen_le hl
        · exact g.newG s (Grow.new hp) hp ⟨_, upd_same, VRs.ext (.grow (Grow.new hp)) s _ (ra.flat _)⟩
      · exact g.elim
    · exact g.elim
  · exact g.elim
theorem ok_div : BinOk T (rI CDiv fun i j => .int (i / j)) fDiv := by
  intro W H ρ S x y v u Q s px py g
  unfold fDiv at g
  split at g
  · cases px; cases py
    split at g
    · rename_i h
      simp only [Bool.and_eq_true, decide_eq_true_eq] at h
      exact ⟨_, _, rfl, rfl, h, g.val s rfl⟩
    · exact g.elim
  · exact g.elim
theorem ok_mod : BinOk T (rI (fun _ j => 0 < j) fun i j => .int (i % j)) fMod := by
  intro W H ρ S x y v u Q s px py g
  unfold fMod at g
  split at g
  · cases px; cases py
    split at g
    · rename_i h
      exact ⟨_, _, rfl, rfl, of_decide_eq_true h, g.val s rfl⟩
    · exact g.elim
  · exact g.elim
theorem ok_pow : BinOk T (rI CPow fun i j => .int (i ^ j.toNat)) fPow := by
  intro W H ρ S x y v u Q s px py g
  unfold fPow at g
  split at g
  · cases px; cases py
    split at g
    · rename_i h
      simp only [Bool.and_eq_true, decide_eq_true_eq] at h
      obtain ⟨⟨h1, h2⟩, h3⟩ := h
      have h4 := small64_ok h3
      exact ⟨_, _, rfl, rfl, ⟨h1, h2, by omega⟩, g.val s rfl⟩
    · exact g.elim
  · exact g.elim
theorem ok_neg : UnOk T (rU fun i => .int (-i)) fNeg := by
  intro W H ρ S x v Q s px g
  unfold fNeg at g
  split at g
  · cases px
    exact ⟨_, rfl, g.val s rfl⟩
  · exact g.elim
/-! ### comparisons -/
theorem ok_lt : BinOk T (rI0 fun i j => .bl (decide (i < j))) fLt := by
  intro W H ρ S x y v u Q s px py g
  unfold fLt at g
  split at g
  · cases px; cases py
    exact ⟨_, _, rfl, rfl, g.val s rfl⟩
  · exact g.elim
theorem ok_le : BinOk T (rI0 fun i j => .bl (decide (i ≤ j))) fLe := by
  intro W H ρ S x y v u Q s px py g
  unfold fLe at g
  split at g
  · cases px; cases py
    exact ⟨_, _, rfl, rfl, g.val s rfl⟩
  · exact g.elim
theorem ok_gt : BinOk T (rI0 fun i j => .bl (decide (j < i))) fGt := by
  intro W H ρ S x y v u Q s px py g
  unfold fGt at g
  split at g
  · cases px; cases py
    exact ⟨_, _, rfl, rfl, g.val s rfl⟩
  · exact g.elim
theorem ok_ge : BinOk T (rI0 fun i j => .bl (decide (j ≤ i))) fGe := by
  intro W H ρ S x y v u Q s px py g
  unfold fGe at g
  split at g
  · cases px; cases py
    exact ⟨_, _, rfl, rfl, g.val s rfl⟩
  · exact g.elim
mutual
theorem pd_dp {K : Frag} {H : Hp} {ρ : List Addr} : ∀ (d : Val) {v : V} {p : PyData}, pd d = some p → VR K H ρ d v → Dp K H v p
  | .non, _, _, h, r => by cases h; cases r; exact .non
  | .bl _, _, _, h, r => by cases h; cases r; exact .bl _
  | .int _, _, _, h, r => by cases h; cases r; exact .int _
  | .str _, _, _, h, r => by cases h; cases r; exact .str _
  | .tup ds, _, _, h, ⟨a, xs, e, q, r⟩ => by
    subst e
    unfold pd at h
    cases e : pds ds with
    | none => rw [e] at h; cases h
    | some ps => rw [e] at h; cases h; exact .tup q (pds_dp ds e r)
  | .ref _, _, _, h, _ => by cases h
  | .scr _, _, _, h, _ => by cases h
theorem pds_dp {K : Frag} {H : Hp} {ρ : List Addr} : ∀ (ds : List Val) {xs : List V} {ps : List PyData}, pds ds = some ps → VRs K H ρ ds xs → DpAll K H xs ps
  | [], _, _, h, r => by cases h; cases r; exact .nil
  | d :: ds, _, _, h, ⟨x, t, e, r1, r2⟩ => by
    subst e
    unfold pds at h
    cases e1 : pd d with
    | none => rw [e1] at h; cases h
    | some p =>
      cases e2 : pds ds with
      | none => rw [e1, e2] at h; cases h
      | some ps => rw [e1, e2] at h; cases h; exact .cons (pd_dp d e1 r1) (pds_dp ds e2 r2)
end
theorem pdO_dp {K : Frag} {H : Hp} {ρ : List Addr} {S : Store} (s : SR K H ρ S) {x : Opd} {v : V} {p : PyData} (h : pdO S x = some p) (r : OP K H ρ x v) : Dp K H v p := by
  have lists : ∀ vs, rdL S x = some vs → (pds vs).map .list = some p → Dp K H v p := fun vs hv h => by
    obtain ⟨a, xs, rfl, ha, ra⟩ := rdL_at s hv r
    cases e : pds vs with
    | none => rw [e] at h; cases h
    | some ps => rw [e] at h; cases h; exact .lst (SqL.of ha) (pds_dp vs e ra)
  cases x with
  | val d =>
    replace h : (match pd d with | some d => some d | none => match rdL S (.val d) with | some vs => (pds vs).map .list | none => none) = some p := h
    split at h
    · rename_i q e1; cases h; exact pd_dp _ e1 r
    · split at h
      · rename_i vs hv; exact lists vs hv h
      · cases h
  | new o =>
    cases o with
    | lst vs => exact lists vs rfl h
    | dct _ => cases h
    | ins _ _ => cases h
theorem ok_eq : BinOk T (rEqD T.K) fEq := by
  intro W H ρ S x y v u Q s px py g
  unfold fEq at g
  split at g
  · rename_i d e h1 h2
    split at g
    · rename_i h
      obtain ⟨a, b⟩ := Bool.and_eq_true_iff.mp h
      exact ⟨d, e, pdO_dp s h1 px, pdO_dp s h2 py, a, b, g.val s rfl⟩
    · exact g.elim
  · exact g.elim
theorem ok_ne : BinOk T (rNeD T.K) fNe := by
  intro W H ρ S x y v u Q s px py g
  unfold fNe at g
  split at g
  · rename_i d e h1 h2
    split at g
    · rename_i h
      obtain ⟨a, b⟩ := Bool.and_eq_true_iff.mp h
      exact ⟨d, e, pdO_dp s h1 px, pdO_dp s h2 py, a, b, g.val s rfl⟩
    · exact g.elim
  · exact g.elim
theorem VR_non {K : Frag} {H : Hp} {ρ : List Addr} {d : Val} {v : V} (h : VR K H ρ d v) : decide (v = .non) = (match d with | .non => true | _ => false) := by
  cases d with
  | non => cases h; rfl
  | bl _ => cases h; rfl
  | int _ => cases h; rfl
  | str _ => cases h; rfl
  | tup _ => obtain ⟨a, _, e, _⟩ := h; subst e; rfl
  | ref _ => obtain ⟨a, e, _⟩ := h; subst e; rfl
  | scr _ => obtain ⟨a, e, _⟩ := h; subst e; rfl
theorem OP_non {K : Frag} {H : Hp} {ρ : List Addr} {x : Opd} {v : V} (h : OP K H ρ x v) : decide (v = .non) = (match x with | .val .non => true | _ => false) := by
  cases x with
  | val d => rw [VR_non h]; cases d <;> rfl
  | new o => obtain ⟨a, e, _⟩ := h; subst e; rfl
theorem ok_isN : UnOk T (fun x H Q => Q (.bl (decide (x = .non))) H) fIsN := by
  intro W H ρ S x v Q s px g
  show Q (.bl (decide (v = .non))) H
  rw [OP_non px]
  unfold fIsN at g
  split at g
  · exact g.val s rfl
  · rename_i h
    split
    · exact absurd rfl h
    · exact g.val s rfl
theorem ok_notN : UnOk T (fun x H Q => Q (.bl (!decide (x = .non))) H) fNotN := by
  intro W H ρ S x v Q s px g
  show Q (.bl (!decide (v = .non))) H
  rw [OP_non px]
  unfold fNotN at g
  split at g
  · exact g.val s rfl
  · rename_i h
    split
    · exact absurd rfl h
    · exact g.val s rfl
end
section
variable {X : Cx} {T : Tx} {W : WX} {a b e : Expr} {m n : MX} {pos : Pos}
theorem pm_neg (ha : PE X a (TM T W m)) : PE X (.UnaryOp .USub a pos) (TM T W (mUn fNeg m)) := (pe_un un_neg ha).imp fun _ _ _ h => tm_un ok_neg h
theorem pm_isN {j : Nat} {pos' : Pos} (ha : PE X a (TM T W m)) : PE X (.Compare a [.Is] [.Constant .none j pos'] pos) (TM T W (mUn fIsN m)) :=
  (pe_cmp (pc_isN ha)).imp fun _ _ _ h => tm_un ok_isN h
theorem pm_notN {j : Nat} {pos' : Pos} (ha : PE X a (TM T W m)) : PE X (.Compare a [.IsNot] [.Constant .none j pos'] pos) (TM T W (mUn fNotN m)) :=
  (pe_cmp (pc_notN ha)).imp fun _ _ _ h => tm_un ok_notN h
end
end MP

/-! F4: tests, displays, subscripts, slices. -/
namespace MP
open PySem L2

/-! ### tests -/
def fTru : F1 := fun S o => match o with
  | .val .non => vB false
  | .val (.bl b) => vB b
  | .val (.int i) => vB (i != 0)
  | .val (.str y) => if okLen y.length then vB ((y.length : Int) != 0) else none
  | .val (.tup vs) => vB (!vs.isEmpty)
  | o => match rdL S o with
    | some vs => vB (!vs.isEmpty)
    | none => none
/-- a test: what comes is a truth value -/
def TMT (T : Tx) (W : WX) (m : MX) : TT := fun σ H Q => TM T W m σ H fun v H1 => ∃ b, v = .bl b ∧ Q b H1
/-- a truth value alone -/
def fBl : F1 := fun _ o => match o with
  | .val (.bl b) => vB b
  | _ => none
theorem isEmpty_VRs {K : Frag} {H : Hp} {ρ : List Addr} {ds : List Val} {xs : List V} (h : VRs K H ρ ds xs) : xs.isEmpty = ds.isEmpty := by
  cases ds with
  | nil => cases h; rfl
  | cons d ds => obtain ⟨x, r, e, _⟩ := h; subst e; rfl
section
variable {X : Cx} {T : Tx} {W : WX} {a b c e : Expr} {m n p : MX} {pos : Pos}
theorem TM.mono {σ : L2.St} {H : Hp} {Q Q' : VK} (h : TM T W m σ H Q) (q : ∀ v H, Q v H → Q' v H) : TM T W m σ H Q' := by
  obtain ⟨ρ, env, S, s, er, g⟩ := h
  exact ⟨ρ, env, S, s, er, g.mono q⟩
theorem ok_tru : UnOk T (fun x H Q => ∃ k, TruV T.K x H k ∧ Q (.bl k) H) fTru := by
  intro W H ρ S x v Q s px g
  unfold fTru at g
  split at g
  · cases px; exact ⟨_, rfl, g.val s rfl⟩
  · cases px; exact ⟨_, rfl, g.val s rfl⟩
  · cases px; exact ⟨_, rfl, g.val s rfl⟩
  · cases px
    split at g
    · rename_i h; exact ⟨_, ⟨okLen_le h, rfl⟩, g.val s rfl⟩
    · exact g.elim
  · obtain ⟨a, xs, rfl, ha, ra⟩ := px
    exact ⟨_, .inr (.inl ⟨xs, ha, rfl⟩), by rw [isEmpty_VRs ra]; exact g.val s rfl⟩
  · split at g
    · rename_i h
      obtain ⟨a, xs, rfl, ha, ra⟩ := rdL_at s h px
      exact ⟨_, .inl ⟨xs, SqL.of ha, rfl⟩, by rw [isEmpty_VRs ra]; exact g.val s rfl⟩
    · exact g.elim
/-- any expression as a test -/
theorem pmt_truth (hK : X.K = T.K) (ha : PE X a (TM T W m)) (he : ∀ whole, isTrue a X.env whole = (do let v ← whole; standAt a.pos; holding [v] (truthy v))) : PT X a (TMT T W (mUn fTru m)) :=
  (pt_truth ha he).imp fun σ H Q h => (tm_un ok_tru h).mono fun v H1 ⟨k, tk, b, e, q⟩ => by
    cases e
    exact ⟨k, by rw [hK]; exact tk, q⟩
theorem pmt_cmp {op : CmpOp} {r : R2} {f : F2} (ho : OpR X (compareOp op) r) (ok : BinOk T r f) (ha : PE X a (TM T W m)) (hb : PE X b (TM T W n)) (hm : behindInMarks op b = false) : PT X (.Compare a [op] [b] pos) (TMT T W (mBin f m n)) :=
  (pt_cmpR ho ha hb hm).imp fun σ H Q h => tm_bin (m := m) (n := n) ok h
theorem pmt_isN {j : Nat} {pos' : Pos} (ha : PE X a (TM T W m)) : PT X (.Compare a [.Is] [.Constant .none j pos'] pos) (TMT T W (mUn fIsN m)) :=
  (pt_cmp (pc_isN ha)).imp fun σ H Q h => tm_un (m := m) ok_isN h
theorem pmt_notN {j : Nat} {pos' : Pos} (ha : PE X a (TM T W m)) : PT X (.Compare a [.IsNot] [.Constant .none j pos'] pos) (TMT T W (mUn fNotN m)) :=
  (pt_cmp (pc_notN ha)).imp fun σ H Q h => tm_un (m := m) ok_notN h
/-- a < b < c -/
def mChain (f g : F2) (m n p : MX) : MX := fun env S => (m env S).bind fun a S1 => (n env S1).bind fun b S2 => (ofO S2 (f S2 a b)).bind fun k S3 => match k with
  | .val (.bl true) => (p env S3).bind fun c S4 => ofO S4 (g S4 b c)
  | .val (.bl false) => .ok (.val (.bl false)) S3
  | _ => .stuck
theorem tm_chain {r r' : R2} {f g : F2} (ok : BinOk T r f) (ok' : BinOk T r' g) {σ : L2.St} {H : Hp} {Q : VK} (h : TM T W (mChain f g m n p) σ H Q) : tChain r r' (TM T W m) (TM T W n) (TM T W p) σ H Q := by
  obtain ⟨ρ, env, S, s, er, gd⟩ := h
  refine tm_use s er (Good.bind s gd) fun v H1 ⟨ρ1, o1, S1, _, x1, s1, p1, g1⟩ => ?_
  have er1 := er.ext x1 s
  refine tm_use s1 er1 (Good.bind s1 g1) fun u H2 ⟨ρ2, o2, S2, _, x2, s2, p2, g2⟩ => ?_
  have er2 := er1.ext x2 s1
  refine ok _ H2 ρ2 S2 o1 o2 v u _ s2 ((OP.of p1).ext x2 s1) (OP.of p2) ((Good.bind s2 g2).mono fun z H3 ⟨ρ3, o3, S3, _, x3, s3, p3, g3⟩ => ?_)
  have er3 := er2.ext x3 s2
  split at g3
  · cases p3
    refine ⟨true, rfl, iteT ?_⟩
    refine tm_use s3 er3 (Good.bind s3 g3) fun w H4 ⟨ρ4, o4, S4, _, x4, s4, p4, g4⟩ => ?_
    exact ok' _ H4 ρ4 S4 o2 o4 u w Q s4 (((OP.of p2).ext x3 s2).ext x4 s3) (OP.of p4) g4
  · cases p3
    exact ⟨false, rfl, iteF (g3.val s3 rfl)⟩
  · exact g3.elim
theorem pm_chain {op op' : CmpOp} {r r' : R2} {f g : F2} (ho : OpR X (compareOp op) r) (ho' : OpR X (compareOp op') r') (ok : BinOk T r f) (ok' : BinOk T r' g) (ha : PE X a (TM T W m)) (hb : PE X b (TM T W n)) (hc : PE X c (TM T W p))
    (hm : lastMarks [op, op'] [b, c] = false) : PE X (.Compare a [op, op'] [b, c] pos) (TM T W (mChain f g m n p)) :=
  (pe_chain ho ho' ha hb hc hm).imp fun _ _ _ h => tm_chain ok ok' h
theorem pmt_chain {op op' : CmpOp} {r r' : R2} {f g : F2} (ho : OpR X (compareOp op) r) (ho' : OpR X (compareOp op') r') (ok : BinOk T r f) (ok' : BinOk T r' g) (ha : PE X a (TM T W m)) (hb : PE X b (TM T W n)) (hc : PE X c (TM T W p))
    (hm : lastMarks [op, op'] [b, c] = false) : PT X (.Compare a [op, op'] [b, c] pos) (TMT T W (mChain f g m n p)) :=
  (pt_chain ho ho' ha hb hc hm).imp fun σ H Q h => tm_chain (m := m) (n := n) (p := p) ok ok' h

/-! ### and, or, not, if-else -/
def mAnd (m n : MX) : MX := fun env S => (m env S).bind fun a S1 => match a with
  | .val (.bl true) => n env S1
  | .val (.bl false) => .ok (.val (.bl false)) S1
  | _ => .stuck
def mOr (m n : MX) : MX := fun env S => (m env S).bind fun a S1 => match a with
  | .val (.bl true) => .ok (.val (.bl true)) S1
  | .val (.bl false) => n env S1
  | _ => .stuck
def fNot : F1 := fun _ o => match o with
  | .val (.bl b) => vB (!b)
  | _ => none
/-- the strict form: only a truth value comes -/
def mB (m : MX) : MX := mUn fBl m
theorem tm_and {σ : L2.St} {H : Hp} {Q : VK} (h : TM T W (mAnd m n) σ H Q) : TM T W m σ H fun x H1 => ∃ c, x = .bl c ∧ if c = true then TM T W n σ H1 Q else Q (.bl false) H1 := by
  obtain ⟨ρ, env, S, s, er, g⟩ := h
  refine tm_use s er (Good.bind s g) fun v H1 ⟨ρ1, o1, S1, _, x1, s1, p1, g1⟩ => ?_
  split at g1
  · cases p1; exact ⟨true, rfl, iteT ⟨ρ1, env, S1, s1, er.ext x1 s, g1⟩⟩
  · cases p1; exact ⟨false, rfl, iteF (g1.val s1 rfl)⟩
  · exact g1.elim
theorem tm_or {σ : L2.St} {H : Hp} {Q : VK} (h : TM T W (mOr m n) σ H Q) : TM T W m σ H fun x H1 => ∃ c, x = .bl c ∧ if c = true then Q (.bl true) H1 else TM T W n σ H1 Q := by
  obtain ⟨ρ, env, S, s, er, g⟩ := h
  refine tm_use s er (Good.bind s g) fun v H1 ⟨ρ1, o1, S1, _, x1, s1, p1, g1⟩ => ?_
  split at g1
  · cases p1; exact ⟨true, rfl, iteT (g1.val s1 rfl)⟩
  · cases p1; exact ⟨false, rfl, iteF ⟨ρ1, env, S1, s1, er.ext x1 s, g1⟩⟩
  · exact g1.elim
theorem ok_not : UnOk T (fun x H Q => ∃ c, x = .bl c ∧ Q (.bl (!c)) H) fNot := by
  intro W H ρ S x v Q s px g
  unfold fNot at g
  split at g
  · cases px; exact ⟨_, rfl, g.val s rfl⟩
  · exact g.elim
theorem pm_one {op : BoolOp} {t : TE} (h : PE X a t) : PE X (.BoolOp op [a] pos) t := pe_one h
theorem pm_and {rest : List Expr} (ha : PE X a (TM T W m)) (hb : PE X (.BoolOp .And (b :: rest) pos) (TM T W n)) : PE X (.BoolOp .And (a :: b :: rest) pos) (TM T W (mAnd m n)) :=
  (pe_and ha hb).imp fun _ _ _ h => tm_and h
theorem pm_or {rest : List Expr} (ha : PE X a (TM T W m)) (hb : PE X (.BoolOp .Or (b :: rest) pos) (TM T W n)) : PE X (.BoolOp .Or (a :: b :: rest) pos) (TM T W (mOr m n)) :=
  (pe_or ha hb).imp fun _ _ _ h => tm_or h
theorem pm_not (ha : PE X a (TM T W m)) : PE X (.UnaryOp .Not a pos) (TM T W (mUn fNot m)) := (pe_not ha).imp fun _ _ _ h => tm_un ok_not h
theorem pmw_and1 (ha : PT X a (TMT T W m)) : PW X (.BoolOp .And [a] pos) (TMT T W m) := pw_and1 ha
theorem pmw_or1 (ha : PT X a (TMT T W m)) : PW X (.BoolOp .Or [a] pos) (TMT T W m) := pw_or1 ha
theorem _root_.L2.PW.imp {t t' : TT} (h : PW X e t) (i : ∀ σ H Q, t' σ H Q → t σ H Q) : PW X e t' := ⟨fun whole pins s σ H Q I q => h.run whole pins s σ H Q I (i σ H Q q)⟩
theorem pmw_and {rest : List Expr} (ha : PT X a (TMT T W m)) (hb : PW X (.BoolOp .And (b :: rest) pos) (TMT T W n)) : PW X (.BoolOp .And (a :: b :: rest) pos) (TMT T W (mAnd m n)) :=
  (pw_and ha hb).imp fun σ H Q h => (tm_and (m := m) (n := n) h).mono fun v H1 ⟨c, e, q⟩ => ⟨c, e, by
    cases c with
    | true => rw [if_pos rfl] at q; exact iteT q
    | false =>
      rw [if_neg Bool.false_ne_true] at q
      obtain ⟨b, e2, q2⟩ := q
      cases e2
      exact iteF q2⟩
theorem pmw_or {rest : List Expr} (ha : PT X a (TMT T W m)) (hb : PW X (.BoolOp .Or (b :: rest) pos) (TMT T W n)) : PW X (.BoolOp .Or (a :: b :: rest) pos) (TMT T W (mOr m n)) :=
  (pw_or ha hb).imp fun σ H Q h => (tm_or (m := m) (n := n) h).mono fun v H1 ⟨c, e, q⟩ => ⟨c, e, by
    cases c with
    | false => rw [if_neg Bool.false_ne_true] at q; exact iteF q
    | true =>
      rw [if_pos rfl] at q
      obtain ⟨b, e2, q2⟩ := q
      cases e2
      exact iteT q2⟩
theorem pmt_not (ha : PT X a (TMT T W m)) : PT X (.UnaryOp .Not a pos) (TMT T W (mUn fNot m)) :=
  (pt_not ha).imp fun σ H Q h => (tm_un (m := m) ok_not h).mono fun v H1 ⟨c, e, b, e2, q⟩ => ⟨c, e, by cases e2; exact q⟩
def mIf (c m n : MX) : MX := fun env S => (c env S).bind fun a S1 => match a with
  | .val (.bl true) => m env S1
  | .val (.bl false) => n env S1
  | _ => .stuck
theorem tm_if {σ : L2.St} {H : Hp} {Q : VK} (h : TM T W (mIf p m n) σ H Q) : TM T W p σ H fun x H1 => ∃ c, x = .bl c ∧ if c = true then TM T W m σ H1 Q else TM T W n σ H1 Q := by
  obtain ⟨ρ, env, S, s, er, g⟩ := h
  refine tm_use s er (Good.bind s g) fun v H1 ⟨ρ1, o1, S1, _, x1, s1, p1, g1⟩ => ?_
  split at g1
  · cases p1; exact ⟨true, rfl, iteT ⟨ρ1, env, S1, s1, er.ext x1 s, g1⟩⟩
  · cases p1; exact ⟨false, rfl, iteF ⟨ρ1, env, S1, s1, er.ext x1 s, g1⟩⟩
  · exact g1.elim
theorem pm_ifExp (hc : PT X c (TMT T W p)) (ha : PE X a (TM T W m)) (hb : PE X b (TM T W n)) : PE X (.IfExp c a b pos) (TM T W (mIf p m n)) :=
  (pe_ifExp hc ha hb).imp fun _ _ _ h => tm_if h

/-! ### arguments: each new object goes into the store -/
inductive RA where
  | ok (vs : List Val) (S : Store) | rz (x : Exn) (S : Store) | stuck
abbrev MAs := Env → Store → RA
def alc (o : Opd) (S : Store) : Val × Store := match o with
  | .val v => (v, S)
  | .new ob => (.ref S.length, S ++ [ob])
def Res.args (r : Res) (k : Val → Store → RA) : RA := match r with
  | .ok o S => k (alc o S).1 (alc o S).2
  | .rz x S => .rz x S
  | .stuck => .stuck
def RA.andThen (r : RA) (k : List Val → Store → Res) : Res := match r with
  | .ok vs S => k vs S
  | .rz x S => .rz x S
  | .stuck => .stuck
def RA.add (v : Val) (r : RA) : RA := match r with
  | .ok vs S => .ok (v :: vs) S
  | r => r
@[simp] theorem RA.andThen_ok (vs : List Val) (S : Store) (k : List Val → Store → Res) : (RA.ok vs S).andThen k = k vs S := rfl
@[simp] theorem RA.add_ok (v : Val) (vs : List Val) (S : Store) : RA.add v (.ok vs S) = .ok (v :: vs) S := rfl
@[simp] theorem Res.args_val (v : Val) (S : Store) (k : Val → Store → RA) : (Res.ok (.val v) S).args k = k v S := rfl
@[simp] theorem Res.args_new (o : Obj) (S : Store) (k : Val → Store → RA) : (Res.ok (.new o) S).args k = k (.ref S.length) (S ++ [o]) := rfl
def aNil : MAs := fun _ S => .ok [] S
def aCons (m : MX) (as : MAs) : MAs := fun env S => (m env S).args fun v S1 => (as env S1).add v
def GoodA (T : Tx) (W : XW) (ρ : List Addr) (H : Hp) (r : RA) (Q : List V → Hp → Prop) : Prop := match r with
  | .ok ds S' => ∀ vs ρ' H', Ext ρ H ρ' H' → SR T.K H' ρ' S' → VRs T.K H' ρ' ds vs → Q vs H'
  | .rz x S' => ∀ ρ' H' cls d, Ext ρ H ρ' H' → SR T.K H' ρ' S' → XR T.K T.mg H' ρ' x cls d → W cls d H'
  | .stuck => False
def TMA (T : Tx) (W : WX) (as : MAs) : TA := fun σ H Q => ∃ ρ env S, SR T.K H ρ S ∧ ER T.K H ρ env σ ∧ GoodA T (fun c d H => W c d σ H) ρ H (as env S) Q
section
variable {K : Frag} {H H1 : Hp} {ρ ρ1 t : List Addr} {S S1 : Store}
mutual
theorem VR.push (t : List Addr) : ∀ (d : Val) {v : V}, VR K H ρ d v → VR K H (ρ ++ t) d v
  | .non, _, h => h
  | .bl _, _, h => h
  | .int _, _, h => h
  | .str _, _, h => h
  | .tup ds, _, ⟨x, xs, e, q, r⟩ => ⟨x, xs, e, q, VRs.push t ds r⟩
  | .ref _, _, ⟨x, e, q⟩ => ⟨x, e, by rw [List.getElem?_append_left (List.getElem?_eq_some_iff.mp q).1]; exact q⟩
  | .scr _, _, h => h
theorem VRs.push (t : List Addr) : ∀ (ds : List Val) {xs : List V}, VRs K H ρ ds xs → VRs K H (ρ ++ t) ds xs
  | [], _, h => h
  | d :: ds, _, ⟨x, r, e, h1, h2⟩ => ⟨x, r, e, VR.push t d h1, VRs.push t ds h2⟩
end
theorem OR.push (t : List Addr) {o : Obj} {a : Addr} (h : OR K H ρ o a) : OR K H (ρ ++ t) o a := by
  cases o with
  | lst ds => obtain ⟨xs, e, r⟩ := h; exact ⟨xs, e, VRs.push t ds r⟩
  | dct _ => exact h
  | ins _ _ => exact h
theorem SR.push (s : SR K H ρ S) {o : Obj} {a : Addr} (n : a ∉ ρ) (r : OR K H ρ o a) : SR K H (ρ ++ [a]) (S ++ [o]) := by
  refine ⟨by rw [List.length_append, List.length_append, s.1]; rfl, ?_, fun l o' b e1 e2 => ?_⟩
  · rw [List.nodup_append]
    exact ⟨s.2.1, by simp, fun x hx y hy => by rw [List.mem_singleton] at hy; subst hy; intro z; subst z; exact n hx⟩
  · by_cases hl : l < S.length
    · rw [List.getElem?_append_left hl] at e1
      rw [List.getElem?_append_left (by rw [← s.1]; exact hl)] at e2
      exact (s.2.2 l o' b e1 e2).push [a]
    · have hl2 : l = S.length := by
        have := (List.getElem?_eq_some_iff.mp e1).1
        rw [List.length_append, List.length_singleton] at this
        omega
      subst hl2
      rw [List.getElem?_append_right (Nat.le_refl _), Nat.sub_self] at e1
      rw [s.1, List.getElem?_append_right (Nat.le_refl _), Nat.sub_self] at e2
      simp at e1 e2
      subst e1; subst e2
      exact r.push [a]
/-- an operand put into the store -/
theorem alc_ok (s : SR K H ρ S) (x : Ext ρ H ρ1 H1) (s1 : SR K H1 ρ1 S1) {o : Opd} {v : V} (p : OX K H ρ1 H1 o v) : ∃ ρ2, Ext ρ H ρ2 H1 ∧ SR K H1 ρ2 (alc o S1).2 ∧ VR K H1 ρ2 (alc o S1).1 v := by
  cases o with
  | val d => exact ⟨ρ1, x, s1, p⟩
  | new o =>
    obtain ⟨a, e, n, m, r⟩ := p
    refine ⟨ρ1 ++ [a], ⟨?_, x.fix⟩, s1.push m r, a, e, ?_⟩
    · obtain ⟨t, e2, n2⟩ := x.pre
      exact ⟨t ++ [a], by rw [e2, List.append_assoc], fun b hb => by
        rcases List.mem_append.mp hb with hb | hb
        · exact n2 b hb
        · rw [List.mem_singleton] at hb; subst hb; exact n⟩
    · show (ρ1 ++ [a])[S1.length]? = some a
      rw [s1.1, List.getElem?_append_right (Nat.le_refl _), Nat.sub_self]; rfl
end
theorem GoodA.mono {W : XW} {H : Hp} {ρ : List Addr} {r : RA} {Q Q' : List V → Hp → Prop} (h : GoodA T W ρ H r Q) (q : ∀ v H, Q v H → Q' v H) : GoodA T W ρ H r Q' := by
  cases r with
  | ok o S' => exact fun v ρ' H' a b c => q _ _ (h v ρ' H' a b c)
  | rz x S' => exact h
  | stuck => exact h
theorem GoodA.shift {W : XW} {H H1 : Hp} {ρ ρ1 : List Addr} {S S1 : Store} {r : RA} {Q : List V → Hp → Prop} (h : GoodA T W ρ H r Q) (a : Ext ρ H ρ1 H1) (s : SR T.K H ρ S) (s1 : SR T.K H1 ρ1 S1) : GoodA T W ρ1 H1 r Q := by
  cases r with
  | ok o S' => exact fun v ρ' H' b c d => h v ρ' H' (a.trans b s s1) c d
  | rz x S' => exact fun ρ' H' cls d b c e => h ρ' H' cls d (a.trans b s s1) c e
  | stuck => exact h
theorem pma_nil : PA X [] (TMA T W aNil) := by
  have h := pa_nil (X := X)
  exact ⟨fun pos pins s σ H Q I ⟨ρ, env, S, sr, er, g⟩ => h.run pos pins s σ H Q I (g [] ρ H (Ext.refl _ _) sr rfl)⟩
theorem _root_.L2.PA.imp {es : List Expr} {t t' : TA} (h : PA X es t) (i : ∀ σ H Q, t' σ H Q → t σ H Q) : PA X es t' := ⟨fun pos pins s σ H Q I q => h.run pos pins s σ H Q I (i σ H Q q)⟩
theorem pma_cons {es : List Expr} {as : MAs} (ha : PE X e (TM T W m)) (hr : PA X es (TMA T W as)) (hs : starEach (e :: es) X.env = (false, eval e X.env) :: starEach es X.env) : PA X (e :: es) (TMA T W (aCons m as)) :=
  (pa_cons ha hr hs).imp fun σ H Q ⟨ρ, env, S, s, er, g⟩ => by
    unfold aCons Res.args at g
    show TM T W m σ H fun x H1 => TMA T W as σ H1 fun xs H2 => Q (x :: xs) H2
    refine ⟨ρ, env, S, s, er, ?_⟩
    cases hr : m env S with
    | ok o S1 =>
      rw [hr] at g
      intro v ρ1 H1 x1 s1 p1
      obtain ⟨ρ2, x2, s2, r2⟩ := alc_ok s x1 s1 p1
      refine ⟨ρ2, env, (alc o S1).2, s2, er.ext x2 s, ?_⟩
      replace g : GoodA T (fun c d H => W c d σ H) ρ H (RA.add (alc o S1).1 (as env (alc o S1).2)) Q := g
      cases ha : as env (alc o S1).2 with
      | ok ds S3 =>
        rw [ha] at g
        intro vs ρ3 H3 x3 s3 r3
        exact g (v :: vs) ρ3 H3 (x2.trans x3 s s2) s3 ⟨v, vs, rfl, VR.ext x3 s2 _ r2, r3⟩
      | rz y S3 =>
        rw [ha] at g
        exact fun ρ3 H3 cls d x3 s3 r3 => g ρ3 H3 cls d (x2.trans x3 s s2) s3 r3
      | stuck => rw [ha] at g; exact g
    | rz y S1 => rw [hr] at g; exact g
    | stuck => rw [hr] at g; exact g
/-- what follows evaluated arguments -/
theorem tma_use {as : MAs} {k : List Val → Store → Res} {σ : L2.St} {H : Hp} {Q : VK} {Q' : List V → Hp → Prop} (h : TM T W (fun env S => (as env S).andThen k) σ H Q)
    (i : ∀ vs H1 ρ1 ds S1, SR T.K H1 ρ1 S1 → VRs T.K H1 ρ1 ds vs → Good T (fun c d H => W c d σ H) ρ1 H1 (k ds S1) Q → Q' vs H1) : TMA T W as σ H Q' := by
  obtain ⟨ρ, env, S, s, er, g⟩ := h
  refine ⟨ρ, env, S, s, er, ?_⟩
  replace g : Good T (fun c d H => W c d σ H) ρ H ((as env S).andThen k) Q := g
  cases ha : as env S with
  | ok ds S1 =>
    rw [ha] at g
    intro vs ρ1 H1 x1 s1 r1
    exact i vs H1 ρ1 ds S1 s1 r1 (g.shift x1 s s1)
  | rz y S1 => rw [ha] at g; exact g
  | stuck => rw [ha] at g; exact g

/-! ### displays -/
def mTup (as : MAs) : MX := fun env S => (as env S).andThen fun vs S1 => if okLen vs.length then .ok (.val (.tup vs)) S1 else .stuck
def mLst (as : MAs) : MX := fun env S => (as env S).andThen fun vs S1 => if okLen vs.length then .ok (.new (.lst vs)) S1 else .stuck
theorem pm_tup {es : List Expr} {as : MAs} {k : Nat} (h : PA X es (TMA T W as)) : PE X (.Tuple es k pos) (TM T W (mTup as)) :=
  (pe_tup h).imp fun σ H Q h => tma_use h fun vs H1 ρ1 ds S1 s1 r1 g => by
    split at g
    · rename_i hl
      refine ⟨by rw [← r1.length]; exact okLen_le hl, fun p hp => ?_⟩
      exact g.valG s1 (Grow.new hp) ⟨p, _, rfl, SqT.of upd_same, VRs.ext (.grow (Grow.new hp)) s1 _ r1⟩
    · exact g.elim
theorem pm_lst {es : List Expr} {as : MAs} (h : PA X es (TMA T W as)) : PE X (.List es pos) (TM T W (mLst as)) :=
  (pe_lst h).imp fun σ H Q h => tma_use h fun vs H1 ρ1 ds S1 s1 r1 g => by
    split at g
    · rename_i hl
      refine ⟨by rw [← r1.length]; exact okLen_le hl, fun p hp => ?_⟩
      exact g.newG s1 (Grow.new hp) hp ⟨_, upd_same, VRs.ext (.grow (Grow.new hp)) s1 _ r1⟩
    · exact g.elim

/-! ### subscripts -/
def fIx : F2 := fun S a b => match a, b with
  | .val (.tup vs), .val (.int i) => (atI vs i).map .val
  | .val (.str z), .val (.int i) => if okLen z.length then (atI z.cps.toList i).map fun c => .val (.str ⟨#[c]⟩) else none
  | a, .val (.int i) => match rdL S a with
    | some vs => (atI vs i).map .val
    | none => none
  | _, _ => none
theorem atI_VRs {K : Frag} {H : Hp} {ρ : List Addr} {ds : List Val} {xs : List V} {i : Int} {d : Val} (h : VRs K H ρ ds xs) (e : atI ds i = some d) : ∃ x, atI xs i = some x ∧ VR K H ρ d x := by
  unfold atI at e ⊢
  rw [← h.length]
  cases q : ixN ds.length i with
  | none => rw [q] at e; cases e
  | some j =>
    rw [q] at e
    obtain ⟨x, e1, r⟩ := h.get (show ds[j]? = some d from e)
    exact ⟨x, e1, r⟩
theorem ok_ix (hK : X.K = T.K) : BinOk T (rIx X.K) fIx := by
  intro W H ρ S x y v u Q s px py g
  unfold fIx at g
  split at g
  · cases py
    obtain ⟨a, xs, rfl, ha, ra⟩ := px
    rename_i vs i
    cases e : atI vs i with
    | none => rw [e] at g; exact g.elim
    | some d =>
      rw [e] at g
      obtain ⟨z, e1, r1⟩ := atI_VRs ra e
      exact .inr (.inl ⟨a, xs, _, z, rfl, rfl, by rw [hK]; exact ha, e1, g.val s r1⟩)
  · cases px; cases py
    split at g
    · rename_i z i hl
      cases e : atI z.cps.toList i with
      | none => rw [e] at g; exact g.elim
      | some c => rw [e] at g; exact .inr (.inr ⟨z, i, c, rfl, rfl, okLen_le hl, e, g.val s rfl⟩)
    · exact g.elim
  · cases py
    split at g
    · rename_i vs hv
      obtain ⟨a, xs, rfl, ha, ra⟩ := rdL_at s hv px
      revert g
      generalize e : atI vs _ = w
      intro g
      cases w with
      | none => exact g.elim
      | some d =>
        obtain ⟨z, e1, r1⟩ := atI_VRs ra e
        exact .inl ⟨a, xs, _, z, rfl, rfl, SqL.of ha, e1, g.val s r1⟩
    · exact g.elim
  · exact g.elim
theorem pm_ix (hK : X.K = T.K) (ha : PE X a (TM T W m)) (hb : PE X b (TM T W n)) (hs : PlainIx b) : PE X (.Subscript a b pos) (TM T W (mBin fIx m n)) :=
  (pe_ix ix_seq ha hb hs).imp fun _ _ _ h => tm_bin (ok_ix hK) h
end
end MP

/-! F5: slices, targets, what is walked, comprehensions, statements. -/
namespace MP
open PySem L2

section
variable {X : Cx} {T : Tx} {W : WX} {a b c e : Expr} {m n p : MX} {pos : Pos}
/-! ### slices -/
def prt : Opd → Option (Option Int)
  | .val .non => some none
  | .val (.int i) => some (some i)
  | _ => none
def fSl (S : Store) (a : Opd) (lo hi : Option Int) : Option Opd := match a with
  | .val (.tup vs) => some (.val (.tup (cutL vs lo hi)))
  | .val (.str z) => if okLen z.length then vS (cutS z lo hi) else none
  | a => match rdL S a with
    | some vs => some (.new (.lst (cutL vs lo hi)))
    | none => match rdS a with
      | some ns => some (.new (.lst ((cutL ns lo hi).map .int)))
      | none => none
def mSl (m l h : MX) : MX := fun env S => (m env S).bind fun a S1 => (l env S1).bind fun b S2 => match prt b with
  | some lo => (h env S2).bind fun c S3 => match prt c with
    | some hi => ofO S3 (fSl S3 a lo hi)
    | none => .stuck
  | none => .stuck
/-- a part of a slice -/
def TMO (T : Tx) (W : WX) (m : MX) : TO := fun σ H Q => TM T W m σ H fun v H1 => (v = .non ∧ Q none H1) ∨ ∃ i, v = .int i ∧ Q (some i) H1
theorem _root_.L2.PO.imp {o : Option Expr} {t t' : TO} (h : PO X o t) (i : ∀ σ H Q, t' σ H Q → t σ H Q) : PO X o t' := ⟨fun pins s σ H Q I q => h.run pins s σ H Q I (i σ H Q q)⟩
theorem pmo_none : PO X none (TMO T W (mC .non)) := po_none.imp fun σ H Q ⟨ρ, env, S, s, er, g⟩ => by
  rcases g.val s rfl with ⟨_, q⟩ | ⟨i, e, _⟩
  · exact q
  · cases e
/-- an int's value alone -/
def fInt : F1 := fun _ o => match o with
  | .val (.int i) => vI i
  | _ => none
theorem pmo_some (h : PE X e (TM T W m)) : PO X (some e) (TMO T W (mUn fInt m)) := (po_some h).imp fun σ H Q ⟨ρ, env, S, s, er, g⟩ => by
  refine tm_use s er (Good.bind s g) fun v H1 ⟨ρ1, o1, S1, _, x1, s1, p1, g1⟩ => ?_
  unfold fInt at g1
  split at g1
  · cases p1
    rcases g1.val s1 rfl with ⟨e, _⟩ | ⟨i, e, q⟩
    · cases e
    · cases e; exact ⟨_, rfl, q⟩
  · exact g1.elim
theorem VRs.cut {K : Frag} {H : Hp} {ρ : List Addr} {ds : List Val} {xs : List V} (h : VRs K H ρ ds xs) (lo hi : Option Int) : VRs K H ρ (cutL ds lo hi) (cutV xs lo hi) := by
  unfold cutL cutV
  rw [h.length]
  exact VRs.take _ (VRs.drop _ h)
theorem cutV_map (ns : List Int) (lo hi : Option Int) : cutV (ns.map V.int) lo hi = (cutL ns lo hi).map V.int := by
  unfold cutL cutV
  rw [List.length_map, List.map_take, List.map_drop]
theorem rdS_at {K : Frag} {H : Hp} {ρ : List Addr} {x : Opd} {v : V} {ns : List Int} (h : rdS x = some ns) (p : OP K H ρ x v) : ∃ a, v = .ref a ∧ SqL K H a (ns.map V.int) := by
  cases x with
  | val d =>
    cases d with
    | scr ms =>
      obtain rfl : ms = ns := by injection h
      obtain ⟨a, e, q⟩ := p
      exact ⟨a, e, q.l⟩
    | ref _ => cases h
    | non => cases h
    | bl _ => cases h
    | int _ => cases h
    | str _ => cases h
    | tup _ => cases h
  | new o => cases h
def rSlAll (K : Frag) : V → Option Int → Option Int → Hp → VK → Prop := fun x lo hi H Q => rSlA K x lo hi H Q ∨ rSlS x lo hi H Q ∨ rSlL K x lo hi H Q
theorem cutL_all {α : Type} (xs : List α) (lo hi : Option Int) (h : HT.sIx xs.length 0 lo = 0 ∧ HT.sIx xs.length xs.length hi = xs.length) : cutL xs lo hi = xs := by
  unfold cutL
  rw [h.1, h.2]
  simp
theorem pm_slice (hK : X.K = T.K) {l h : MX} {lo hi : Option Expr} {p2 : Pos} (ha : PE X a (TM T W m)) (hl : PO X lo (TMO T W l)) (hh : PO X hi (TMO T W h)) : PE X (.Subscript a (.Slice lo hi none p2) pos) (TM T W (mSl m l h)) :=
  (pe_slice (sl_tupA.or (sl_str.or sl_list)) ha hl hh).imp fun σ H Q ⟨ρ, env, S, s, er, g⟩ => by
    refine tm_use s er (Good.bind s g) fun v H1 ⟨ρ1, o1, S1, _, x1, s1, p1, g1⟩ => ?_
    have er1 := er.ext x1 s
    refine tm_use s1 er1 (Good.bind s1 g1) fun u H2 ⟨ρ2, o2, S2, _, x2, s2, p2, g2⟩ => ?_
    have er2 := er1.ext x2 s1
    have q1 := (OP.of p1).ext x2 s1
    have fin : ∀ lo, prt o2 = some lo → TMO T W h σ H2 fun hi H3 => rSlAll X.K v lo hi H3 Q := by
      intro lo e2
      rw [e2] at g2
      refine tm_use s2 er2 (Good.bind s2 g2) fun w H3 ⟨ρ3, o3, S3, _, x3, s3, p3, g3⟩ => ?_
      have q1 := q1.ext x3 s2
      have main : ∀ hi, Good T (fun c d H => W c d σ H) ρ3 H3 (ofO S3 (fSl S3 o1 lo hi)) Q → rSlAll X.K v lo hi H3 Q := by
        intro hi g
        unfold fSl at g
        split at g
        · obtain ⟨a, xs, rfl, ha, ra⟩ := q1
          refine .inl ⟨a, xs, rfl, by rw [hK]; exact ha, fun e => ?_, fun _ p hp => ?_⟩
          · refine g.val s3 ⟨a, xs, rfl, ha, ?_⟩
            rw [cutL_all _ _ _ (by rw [ra.length]; exact e)]
            exact ra
          · exact g.valG s3 (Grow.new hp) ⟨p, _, rfl, SqT.of upd_same, VRs.ext (.grow (Grow.new hp)) s3 _ (ra.cut lo hi)⟩
        · cases q1
          split at g
          · rename_i hz; exact .inr (.inl ⟨_, rfl, okLen_le hz, g.val s3 rfl⟩)
          · exact g.elim
        · split at g
          · rename_i vs hv
            obtain ⟨a, xs, rfl, ha, ra⟩ := rdL_at s3 hv q1
            refine .inr (.inr ⟨a, xs, rfl, SqL.of ha, fun p hp => ?_⟩)
            exact g.newG s3 (Grow.new hp) hp ⟨_, upd_same, VRs.ext (.grow (Grow.new hp)) s3 _ (ra.cut lo hi)⟩
          · split at g
            · rename_i ns hv
              obtain ⟨a, rfl, ha⟩ := rdS_at hv q1
              refine .inr (.inr ⟨a, _, rfl, by rw [hK]; exact ha, fun p hp => ?_⟩)
              refine g.newG s3 (Grow.new hp) hp ⟨_, upd_same, ?_⟩
              rw [cutV_map]
              exact VRs.ints _
            · exact g.elim
      cases o3 with
      | val d3 => cases d3 with
        | non => cases p3; exact .inl ⟨rfl, main none g3⟩
        | int i => cases p3; exact .inr ⟨i, rfl, main (some i) g3⟩
        | bl _ => exact g3.elim
        | str _ => exact g3.elim
        | tup _ => exact g3.elim
        | ref _ => exact g3.elim
        | scr _ => exact g3.elim
      | new _ => exact g3.elim
    cases o2 with
    | val d2 => cases d2 with
      | non => cases p2; exact .inl ⟨rfl, fin none rfl⟩
      | int i => cases p2; exact .inr ⟨i, rfl, fin (some i) rfl⟩
      | bl _ => exact g2.elim
      | str _ => exact g2.elim
      | tup _ => exact g2.elim
      | ref _ => exact g2.elim
      | scr _ => exact g2.elim
    | new _ => exact g2.elim

/-! ### targets -/
/-- how a target takes a value: the slots that it sets -/
inductive Tgt where
  | nm (i : Nat) | tp (is : List Nat)
def setAll : List Nat → List Val → Env → Option Env
  | [], [], env => some env
  | i :: is, d :: ds, env => setAll is ds (env.set i (some d))
  | _, _, _ => none
def Tgt.put (t : Tgt) (d : Val) (env : Env) : Option Env := match t with
  | .nm i => some (env.set i (some d))
  | .tp is => match d with
    | .tup ds => setAll is ds env
    | _ => none
def Tgt.slots : Tgt → List Nat
  | .nm i => [i]
  | .tp is => is
/-- the layer's target is this one -/
def GOk (T : Tx) (g : TG) (t : Tgt) : Prop := ∀ (ρ : List Addr) (env : Env) (S : Store) (σ : L2.St) (H : Hp) (d : Val) (v : V) (Q : L2.St → Hp → Prop) (env' : Env), SR T.K H ρ S → ER T.K H ρ env σ → VR T.K H ρ d v → t.put d env = some env' →
  (∀ σ', ER T.K H ρ env' σ' → (∀ vs : List Nat, (∀ i ∈ t.slots, i ∈ vs) → wipe σ' vs = wipe σ vs) → Q σ' H) → g v σ H Q
theorem ER.set {K : Frag} {H : Hp} {ρ : List Addr} {env : Env} {σ : L2.St} (h : ER K H ρ env σ) (i : Nat) {d : Val} {v : V} (r : VR K H ρ d v) : ER K H ρ (env.set i (some d)) (σ.set i (some v)) := by
  refine ⟨by rw [List.length_set, List.length_set, h.1], fun j d' e => ?_⟩
  by_cases hj : i = j
  · subst hj
    have hl : i < env.length := by
      have := (List.getElem?_eq_some_iff.mp e).1
      rwa [List.length_set] at this
    rw [List.getElem?_set_self hl] at e
    rw [List.getElem?_set_self (by rw [← h.1]; exact hl)]
    cases e
    exact ⟨v, rfl, r⟩
  · rw [List.getElem?_set_ne hj] at e ⊢
    exact h.2 j d' e
theorem wipe_get (σ : L2.St) : ∀ (vs : List Nat) (i : Nat), (wipe σ vs)[i]? = if i ∈ vs then (if i < σ.length then some none else none) else σ[i]?
  | [], i => by simp [wipe]
  | v :: vs, i => by
    unfold wipe
    by_cases hi : v = i
    · subst hi
      by_cases hl : v < σ.length
      · rw [List.getElem?_set_self (by rw [wipe_length]; exact hl)]; simp [hl]
      · rw [List.getElem?_eq_none (by rw [List.length_set, wipe_length]; omega)]; simp [hl]
    · rw [List.getElem?_set_ne hi, wipe_get σ vs i]
      have : i ≠ v := fun e => hi e.symm
      simp [this]
theorem wipe_set {σ : L2.St} {vs : List Nat} {i : Nat} (h : i ∈ vs) (v : Option V) : wipe (σ.set i v) vs = wipe σ vs := by
  apply List.ext_getElem?
  intro j
  rw [wipe_get, wipe_get, List.length_set]
  by_cases hj : j ∈ vs
  · simp [hj]
  · simp only [hj, if_false]
    rw [List.getElem?_set_ne (fun e : i = j => hj (e ▸ h))]
theorem gok_nm {i : Nat} : GOk T (gName i) (.nm i) := fun ρ env S σ H d v Q env' s er r e k => by
  cases e
  exact k _ (er.set i r) fun vs h => wipe_set (h i (List.mem_singleton.mpr rfl)) _
/-- the layer's names of a tuple target -/
def gNames : List Nat → TGs
  | [] => gNil
  | i :: is => gCons (gName i) (gNames is)
theorem gnames_ok : ∀ (is : List Nat) (ρ : List Addr) (env : Env) (S : Store) (σ : L2.St) (H : Hp) (ds : List Val) (vs : List V) (Q : L2.St → Hp → Prop) (env' : Env), SR T.K H ρ S → ER T.K H ρ env σ → VRs T.K H ρ ds vs → setAll is ds env = some env' →
    (∀ σ', ER T.K H ρ env' σ' → (∀ ws : List Nat, (∀ i ∈ is, i ∈ ws) → wipe σ' ws = wipe σ ws) → Q σ' H) → gNames is vs σ H Q
  | [], ρ, env, S, σ, H, ds, vs, Q, env', s, er, r, e, k => by
    cases ds with
    | nil => cases r; cases e; exact ⟨rfl, k σ er fun _ _ => rfl⟩
    | cons d ds => cases e
  | i :: is, ρ, env, S, σ, H, ds, vs, Q, env', s, er, r, e, k => by
    cases ds with
    | nil => cases e
    | cons d ds =>
      obtain ⟨x, t, rfl, r1, r2⟩ := r
      refine ⟨x, t, rfl, ?_⟩
      refine gnames_ok is ρ _ S _ H ds t Q env' s (er.set i r1) r2 e fun σ' er' hw => k σ' er' fun ws h => ?_
      rw [hw ws fun j hj => h j (List.mem_cons_of_mem _ hj), wipe_set (h i List.mem_cons_self)]
theorem gok_tp {is : List Nat} : GOk T (gTup T.K is.length (gNames is)) (.tp is) := fun ρ env S σ H d v Q env' s er r e k => by
  cases d with
  | tup ds =>
    obtain ⟨a, xs, rfl, ha, ra⟩ := r
    replace e : setAll is ds env = some env' := e
    refine ⟨a, xs, rfl, ha, ?_, gnames_ok is ρ env S σ H ds xs Q env' s er ra e k⟩
    rw [← ra.length]
    have len : ∀ (is : List Nat) (ds : List Val) (env env' : Env), setAll is ds env = some env' → ds.length = is.length := by
      intro is
      induction is with
      | nil => intro ds env env' e; cases ds with | nil => rfl | cons d ds => cases e
      | cons i is ih => intro ds env env' e; cases ds with | nil => cases e | cons d ds => rw [List.length_cons, List.length_cons, ih ds _ env' e]
    exact len is ds env env' e
  | non => cases e
  | bl _ => cases e
  | int _ => cases e
  | str _ => cases e
  | ref _ => cases e
  | scr _ => cases e

/-! ### what is walked -/
inductive RI where
  | ok (ds : List Val) (live : Option (Nat × List Val)) (S : Store) | rz (x : Exn) (S : Store) | stuck
abbrev MI := Env → Store → RI
/-- the walk gives the items in order, as long as the list that it reads stands -/
def WalkOk (T : Tx) (ρ : List Addr) (H : Hp) (ds : List Val) (live : Option (Nat × List Val)) (J : It) : Prop := ∃ (G : Hp → Prop) (Y : Nat → Hp → V → Hp → Prop), Walk J ds.length G Y ∧
  (∀ ρ' H' S', Ext ρ H ρ' H' → SR T.K H' ρ' S' → (∀ l us, live = some (l, us) → rdL S' (.val (.ref l)) = some us) → G H') ∧
  (∀ i d ρ' H' S' x H'', ds[i]? = some d → Ext ρ H ρ' H' → SR T.K H' ρ' S' → (∀ l us, live = some (l, us) → rdL S' (.val (.ref l)) = some us) → Y i H' x H'' → Grow H' H'' ∧ VR T.K H'' ρ' d x)
def TMI (T : Tx) (W : WX) (mi : MI) : TI := fun σ H R => ∃ ρ env S, SR T.K H ρ S ∧ ER T.K H ρ env σ ∧ match mi env S with
  | .ok ds live S' => ∀ J ρ' H', Ext ρ H ρ' H' → SR T.K H' ρ' S' → WalkOk T ρ' H' ds live J → R J H'
  | .rz x S' => ∀ ρ' H' cls d, Ext ρ H ρ' H' → SR T.K H' ρ' S' → XR T.K T.mg H' ρ' x cls d → W cls d σ H'
  | .stuck => False
theorem _root_.L2.PI.imp {tg : Expr} {t t' : TI} (h : PI X tg e t) (i : ∀ σ H Q, t' σ H Q → t σ H Q) : PI X tg e t' := ⟨fun pins s σ H Q I q => h.run pins s σ H Q I (i σ H Q q)⟩
theorem _root_.L2.PI.or {tg : Expr} {t t' : TI} (h : PI X tg e t) (h' : PI X tg e t') : PI X tg e (fun σ H Q => t σ H Q ∨ t' σ H Q) := ⟨fun pins s σ H Q I q => q.elim (h.run pins s σ H Q I) (h'.run pins s σ H Q I)⟩
def chars (z : Str) : List Val := z.cps.toList.map fun c => .str ⟨#[c]⟩
/-- a list, a tuple, a text's signs -/
def mItr (m : MX) : MI := fun env S => match m env S with
  | .ok (.val (.tup vs)) S1 => .ok vs none S1
  | .ok (.val (.str z)) S1 => .ok (chars z) none S1
  | .ok (.new (.lst vs)) S1 => .ok vs none S1
  | .ok (.val (.ref l)) S1 => match rdL S1 (.val (.ref l)) with
    | some vs => .ok vs (some (l, vs)) S1
    | none => .stuck
  | .rz x S1 => .rz x S1
  | _ => .stuck
theorem walkOk_str {ρ : List Addr} {H : Hp} {z : Str} : WalkOk T ρ H (chars z) none (Its z) := by
  refine ⟨fun _ => True, fun i H v H' => H' = H ∧ ∃ c, z.cps[i]? = some c ∧ v = .str ⟨#[c]⟩, ?_, fun _ _ _ _ _ _ => trivial, fun i d ρ' H' S' x H'' e x' s' _ y => ?_⟩
  · have : (chars z).length = z.cps.size := by unfold chars; rw [List.length_map, Array.length_toList]
    rw [this]; exact walk_str
  · obtain ⟨rfl, c, hc, rfl⟩ := y
    unfold chars at e
    rw [List.getElem?_map, Array.getElem?_toList, hc] at e
    cases e
    exact ⟨Grow.refl _, rfl⟩
theorem walkOk_tup {ρ : List Addr} {H : Hp} {S : Store} {ds : List Val} {a : Addr} {xs : List V} (s : SR T.K H ρ S) (h : SqT T.K H a xs) (r : VRs T.K H ρ ds xs) : WalkOk T ρ H ds none (Itt T.K a) := by
  refine ⟨fun H => SqT T.K H a xs, YAt xs, by rw [r.length]; exact walk_tup, fun ρ' H' S' x s' _ => x.tup s h, fun i d ρ' H' S' x H'' e x' s' _ y => ?_⟩
  obtain ⟨rfl, y⟩ := y
  obtain ⟨z, e1, r1⟩ := (VRs.ext x' s _ r).get e
  rw [y] at e1; cases e1
  exact ⟨Grow.refl _, r1⟩
theorem walkOk_new {ρ : List Addr} {H : Hp} {S : Store} {ds : List Val} {a : Addr} {xs : List V} (s : SR T.K H ρ S) (n : a ∉ ρ) (h : H a = some (.lst xs)) (r : VRs T.K H ρ ds xs) : WalkOk T ρ H ds none (Itl T.K a) := by
  refine ⟨fun H => SqL T.K H a xs, YAt xs, by rw [r.length]; exact walk_list, fun ρ' H' S' x s' _ => SqL.of (x.fix _ _ h n), fun i d ρ' H' S' x H'' e x' s' _ y => ?_⟩
  obtain ⟨rfl, y⟩ := y
  obtain ⟨z, e1, r1⟩ := (VRs.ext x' s _ r).get e
  rw [y] at e1; cases e1
  exact ⟨Grow.refl _, r1⟩
theorem walkOk_live {ρ : List Addr} {H : Hp} {S : Store} {ds : List Val} {a : Addr} {l : Nat} (s : SR T.K H ρ S) (hl : ρ[l]? = some a) : WalkOk T ρ H ds (some (l, ds)) (Itl T.K a) := by
  refine ⟨fun H => ∃ (xs : List V) (ρ' : List Addr), SqL T.K H a xs ∧ VRs T.K H ρ' ds xs, fun i H x H' => H' = H ∧ ∀ xs, SqL T.K H a xs → xs[i]? = some x, ⟨fun i H hi ⟨xs, ρ', q, r⟩ => ?_, fun H ⟨xs, ρ', q, r⟩ => ?_, fun i H x H' hi _ y => y⟩, fun ρ' H' S' x s' hv => ?_, fun i d ρ' H' S' x H'' e x' s' hv y => ?_⟩
  · rw [r.length] at hi
    exact ⟨xs, xs[i], q, by simp [hi]⟩
  · exact ⟨xs, q, by rw [r.length]; exact Nat.le_refl _⟩
  · obtain ⟨a', xs, e, ha, ra⟩ := rdL_at s' (hv l ds rfl) (show OP T.K H' ρ' (.val (.ref l)) (.ref a) from ⟨a, rfl, x.get hl⟩)
    cases e
    exact ⟨xs, ρ', SqL.of ha, ra⟩
  · obtain ⟨a', xs, e', ha, ra⟩ := rdL_at s' (hv l ds rfl) (show OP T.K H' ρ' (.val (.ref l)) (.ref a) from ⟨a, rfl, x'.get hl⟩)
    cases e'
    obtain ⟨rfl, y⟩ := y
    obtain ⟨z, e1, r1⟩ := ra.get e
    rw [y xs (SqL.of ha)] at e1; cases e1
    exact ⟨Grow.refl _, r1⟩
theorem pmi_itr (hK : X.K = T.K) {tg : Expr} (ha : PE X e (TM T W m)) : PI X tg e (TMI T W (mItr m)) :=
  (((pi_list ha).or (pi_tup ha)).or (pi_str ha)).imp fun σ H R ⟨ρ, env, S, s, er, g⟩ => by
    unfold mItr at g
    cases hr : m env S with
    | ok o S1 =>
      rw [hr] at g
      cases o with
      | val d => cases d with
        | tup vs =>
          refine .inl (.inr ⟨ρ, env, S, s, er, ?_⟩)
          rw [hr]
          intro v ρ1 H1 x1 s1 p1
          obtain ⟨a, xs, rfl, ha, ra⟩ := p1
          exact ⟨a, rfl, ⟨xs, by rw [hK]; exact ha⟩, by rw [hK]; exact g _ ρ1 H1 x1 s1 (walkOk_tup s1 ha ra)⟩
        | ref l =>
          replace g : (match (match rdL S1 (.val (.ref l)) with | some vs => RI.ok vs (some (l, vs)) S1 | none => .stuck) with
            | .ok ds live S' => ∀ J ρ' H', Ext ρ H ρ' H' → SR T.K H' ρ' S' → WalkOk T ρ' H' ds live J → R J H'
            | .rz x S' => ∀ ρ' H' cls d, Ext ρ H ρ' H' → SR T.K H' ρ' S' → XR T.K T.mg H' ρ' x cls d → W cls d σ H'
            | .stuck => False) := g
          cases hv : rdL S1 (.val (.ref l)) with
          | none => rw [hv] at g; exact g.elim
          | some vs =>
            rw [hv] at g
            refine .inl (.inl ⟨ρ, env, S, s, er, ?_⟩)
            rw [hr]
            intro v ρ1 H1 x1 s1 p1
            obtain ⟨a, xs, rfl, ha, ra⟩ := rdL_at s1 hv p1
            obtain ⟨a', e, hl⟩ := p1
            cases e
            exact ⟨a, rfl, ⟨xs, SqL.of ha⟩, by rw [hK]; exact g _ ρ1 H1 x1 s1 (walkOk_live s1 hl)⟩
        | non => exact g.elim
        | bl _ => exact g.elim
        | int _ => exact g.elim
        | scr _ => exact g.elim
        | str z =>
          refine .inr ⟨ρ, env, S, s, er, ?_⟩
          rw [hr]
          intro v ρ1 H1 x1 s1 p1
          cases p1
          exact ⟨z, rfl, g _ ρ1 H1 x1 s1 walkOk_str⟩
      | new ob => cases ob with
        | lst vs =>
          refine .inl (.inl ⟨ρ, env, S, s, er, ?_⟩)
          rw [hr]
          intro v ρ1 H1 x1 s1 p1
          obtain ⟨a, rfl, n, n2, xs, ha, ra⟩ := p1
          exact ⟨a, rfl, ⟨xs, SqL.of ha⟩, by rw [hK]; exact g _ ρ1 H1 x1 s1 (walkOk_new s1 n2 ha ra)⟩
        | dct _ => exact g.elim
        | ins _ _ => exact g.elim
    | rz x S1 =>
      rw [hr] at g
      refine .inl (.inl ⟨ρ, env, S, s, er, ?_⟩)
      rw [hr]; exact g
    | stuck => rw [hr] at g; exact g.elim
end
end MP

/-! F6: comprehensions and statements. -/
namespace MP
open PySem L2

/-! ### values where another object changed -/
section
variable {K : Frag} {H H' : Hp} {ρ : List Addr} {S : Store}
mutual
theorem VR.frame (k : (∀ x xs, SqT K H x xs → SqT K H' x xs) ∧ ∀ x xs, SqF K H x xs → SqF K H' x xs) : ∀ (d : Val) {v : V}, VR K H ρ d v → VR K H' ρ d v
  | .non, _, h => h
  | .bl _, _, h => h
  | .int _, _, h => h
  | .str _, _, h => h
  | .tup ds, _, ⟨x, xs, e, q, r⟩ => ⟨x, xs, e, k.1 _ _ q, VRs.frame k ds r⟩
  | .ref _, _, h => h
  | .scr _, _, ⟨x, e, q⟩ => ⟨x, e, k.2 _ _ q⟩
theorem VRs.frame (k : (∀ x xs, SqT K H x xs → SqT K H' x xs) ∧ ∀ x xs, SqF K H x xs → SqF K H' x xs) : ∀ (ds : List Val) {xs : List V}, VRs K H ρ ds xs → VRs K H' ρ ds xs
  | [], _, h => h
  | d :: ds, _, ⟨x, r, e, h1, h2⟩ => ⟨x, r, e, VR.frame k d h1, VRs.frame k ds h2⟩
end
theorem tup_upd {D : Addr} {xs ys : List V} (h : H D = some (.lst xs)) : (∀ x zs, SqT K H x zs → SqT K (upd H D (.lst ys)) x zs) ∧ ∀ x zs, SqF K H x zs → SqF K (upd H D (.lst ys)) x zs := ⟨fun x zs q => by
  rcases q with (q | ⟨o, q⟩) | q
  · exact .inl (.inl (by rw [upd_ne (fun e => by rw [e, h] at q; cases q)]; exact q))
  · exact .inl (.inr ⟨o, by rw [upd_ne (fun e => by rw [e, h] at q; cases q)]; exact q⟩)
  · exact .inr q, fun x zs q => by
  rcases q with ⟨o, q⟩ | q
  · exact .inl ⟨o, by rw [upd_ne (fun e => by rw [e, h] at q; cases q)]; exact q⟩
  · exact .inr q⟩
/-- a list that the store does not hold changes -/
theorem SR.poke {D : Addr} {xs ys : List V} (s : SR K H ρ S) (n : D ∉ ρ) (h : H D = some (.lst xs)) : SR K (upd H D (.lst ys)) ρ S := by
  refine ⟨s.1, s.2.1, fun l o a e1 e2 => ?_⟩
  have r := s.2.2 l o a e1 e2
  have ne : a ≠ D := fun e => n (e ▸ List.mem_of_getElem? e2)
  cases o with
  | lst ds => obtain ⟨zs, e, q⟩ := r; exact ⟨zs, by rw [upd_ne ne]; exact e, VRs.frame (tup_upd h) ds q⟩
  | dct _ => exact r.elim
  | ins _ _ => exact r.elim
/-- a list of the store changes -/
theorem SR.write {l : Nat} {D : Addr} {xs ys : List V} {es : List Val} (s : SR K H ρ S) (hl : ρ[l]? = some D) (h : H D = some (.lst xs)) (r : VRs K H ρ es ys) : SR K (upd H D (.lst ys)) ρ (S.set l (.lst es)) := by
  refine ⟨by rw [List.length_set, s.1], s.2.1, fun j o a e1 e2 => ?_⟩
  by_cases hj : l = j
  · subst hj
    rw [hl] at e2; cases e2
    rw [List.getElem?_set_self (by rw [s.1]; exact (List.getElem?_eq_some_iff.mp hl).1)] at e1
    cases e1
    exact ⟨ys, upd_same, VRs.frame (tup_upd h) es r⟩
  · rw [List.getElem?_set_ne hj] at e1
    have q := s.2.2 j o a e1 e2
    have ne : a ≠ D := fun e => hj (by
      subst e
      exact (List.getElem?_inj (List.getElem?_eq_some_iff.mp hl).1 s.2.1).mp (hl.trans e2.symm))
    cases o with
    | lst ds => obtain ⟨zs, e, q⟩ := q; exact ⟨zs, by rw [upd_ne ne]; exact e, VRs.frame (tup_upd h) ds q⟩
    | dct _ => exact q.elim
    | ins _ _ => exact q.elim
theorem Ext.write {D : Addr} {o : HO} (m : D ∈ ρ) : Ext ρ H ρ (upd H D o) := ⟨⟨[], by simp, by simp⟩, fun b u e n => by rw [upd_ne (fun z : b = D => n (z ▸ m))]; exact e⟩
end

/-! ### comprehensions -/
def wipeE (env : Env) : List Nat → Env
  | [] => env
  | v :: vs => (wipeE env vs).set v none
theorem ER.wipe {K : Frag} {H : Hp} {ρ : List Addr} {env : Env} {σ : L2.St} (h : ER K H ρ env σ) : ∀ vs : List Nat, ER K H ρ (wipeE env vs) (wipe σ vs)
  | [] => h
  | v :: vs => by
    have ih := ER.wipe h vs
    unfold wipeE L2.wipe
    refine ⟨by rw [List.length_set, List.length_set, ih.1], fun j d e => ?_⟩
    by_cases hj : v = j
    · subst hj
      have hl : v < (wipeE env vs).length := by
        have := (List.getElem?_eq_some_iff.mp e).1
        rwa [List.length_set] at this
      rw [List.getElem?_set_self hl] at e
      cases e
    · rw [List.getElem?_set_ne hj] at e ⊢
      exact ih.2 j d e
def liveOk (live : Option (Nat × List Val)) (S : Store) : Prop := ∀ l us, live = some (l, us) → rdL S (.val (.ref l)) = some us
mutual
def decV : (a b : Val) → Decidable (a = b)
  | .non, .non => .isTrue rfl
  | .bl a, .bl b => if h : a = b then .isTrue (by rw [h]) else .isFalse (by intro e; injection e; contradiction)
  | .int a, .int b => if h : a = b then .isTrue (by rw [h]) else .isFalse (by intro e; injection e; contradiction)
  | .str a, .str b => if h : a = b then .isTrue (by rw [h]) else .isFalse (by intro e; injection e; contradiction)
  | .ref a, .ref b => if h : a = b then .isTrue (by rw [h]) else .isFalse (by intro e; injection e; contradiction)
  | .tup a, .tup b => match decVs a b with
    | .isTrue h => .isTrue (by rw [h])
    | .isFalse h => .isFalse (by intro e; injection e; contradiction)
  | .non, .bl _ => .isFalse (by intro e; cases e)
  | .non, .int _ => .isFalse (by intro e; cases e)
  | .non, .str _ => .isFalse (by intro e; cases e)
  | .non, .tup _ => .isFalse (by intro e; cases e)
  | .non, .ref _ => .isFalse (by intro e; cases e)
  | .bl _, .non => .isFalse (by intro e; cases e)
  | .bl _, .int _ => .isFalse (by intro e; cases e)
  | .bl _, .str _ => .isFalse (by intro e; cases e)
  | .bl _, .tup _ => .isFalse (by intro e; cases e)
  | .bl _, .ref _ => .isFalse (by intro e; cases e)
  | .int _, .non => .isFalse (by intro e; cases e)
  | .int _, .bl _ => .isFalse (by intro e; cases e)
  | .int _, .str _ => .isFalse (by intro e; cases e)
  | .int _, .tup _ => .isFalse (by intro e; cases e)
  | .int _, .ref _ => .isFalse (by intro e; cases e)
  | .str _, .non => .isFalse (by intro e; cases e)
  | .str _, .bl _ => .isFalse (by intro e; cases e)
  | .str _, .int _ => .isFalse (by intro e; cases e)
  | .str _, .tup _ => .isFalse (by intro e; cases e)
  | .str _, .ref _ => .isFalse (by intro e; cases e)
  | .tup _, .non => .isFalse (by intro e; cases e)
  | .tup _, .bl _ => .isFalse (by intro e; cases e)
  | .tup _, .int _ => .isFalse (by intro e; cases e)
  | .tup _, .str _ => .isFalse (by intro e; cases e)
  | .tup _, .ref _ => .isFalse (by intro e; cases e)
  | .non, .scr _ => .isFalse (by intro e; cases e)
  | .scr _, .non => .isFalse (by intro e; cases e)
  | .bl _, .scr _ => .isFalse (by intro e; cases e)
  | .scr _, .bl _ => .isFalse (by intro e; cases e)
  | .int _, .scr _ => .isFalse (by intro e; cases e)
  | .scr _, .int _ => .isFalse (by intro e; cases e)
  | .str _, .scr _ => .isFalse (by intro e; cases e)
  | .scr _, .str _ => .isFalse (by intro e; cases e)
  | .tup _, .scr _ => .isFalse (by intro e; cases e)
  | .scr _, .tup _ => .isFalse (by intro e; cases e)
  | .ref _, .scr _ => .isFalse (by intro e; cases e)
  | .scr _, .ref _ => .isFalse (by intro e; cases e)
  | .scr a, .scr b => if h : a = b then .isTrue (by rw [h]) else .isFalse (by intro e; cases e; exact h rfl)
  | .ref _, .non => .isFalse (by intro e; cases e)
  | .ref _, .bl _ => .isFalse (by intro e; cases e)
  | .ref _, .int _ => .isFalse (by intro e; cases e)
  | .ref _, .str _ => .isFalse (by intro e; cases e)
  | .ref _, .tup _ => .isFalse (by intro e; cases e)
def decVs : (a b : List Val) → Decidable (a = b)
  | [], [] => .isTrue rfl
  | x :: xs, y :: ys => match decV x y, decVs xs ys with
    | .isTrue h, .isTrue k => .isTrue (by rw [h, k])
    | .isFalse h, _ => .isFalse (by intro e; injection e; contradiction)
    | _, .isFalse h => .isFalse (by intro e; injection e; contradiction)
  | [], _ :: _ => .isFalse (by intro e; cases e)
  | _ :: _, [] => .isFalse (by intro e; cases e)
end
instance : DecidableEq Val := decV
instance (live : Option (Nat × List Val)) (S : Store) : Decidable (liveOk live S) := match live with
  | none => .isTrue fun _ _ e => by cases e
  | some (l, us) => if h : rdL S (.val (.ref l)) = some us then .isTrue fun _ _ e => by cases e; exact h else .isFalse fun k => h (k l us rfl)

/-- the turns of a comprehension -/
def loopC (t : Tgt) (cond elt : MX) (env0 : Env) (live : Option (Nat × List Val)) : List Val → List Val → Store → Res
  | [], acc, S => if liveOk live S then .ok (.new (.lst acc)) S else .stuck
  | d :: ds, acc, S => if liveOk live S then match t.put d env0 with
    | some env1 => match cond env1 S with
      | .ok (.val (.bl true)) S1 => match elt env1 S1 with
        | .ok o S2 => if acc.length < 1000000 then loopC t cond elt env0 live ds (acc ++ [(alc o S2).1]) (alc o S2).2 else .stuck
        | _ => .stuck
      | .ok (.val (.bl false)) S1 => loopC t cond elt env0 live ds acc S1
      | _ => .stuck
    | none => .stuck
    else .stuck
def mComp (mi : MI) (t : Tgt) (cond elt : MX) (own : List Nat) : MX := fun env S => match mi env S with
  | .ok ds live S1 => loopC t cond elt (wipeE env own) live ds [] S1
  | .rz x S1 => .rz x S1
  | .stuck => .stuck
abbrev W0 : WX := fun _ _ _ _ => False
section
variable {X : Cx} {T : Tx} {W : WX} {a b c e : Expr} {m n p : MX} {pos : Pos}
theorem wipe_wipe (σ : L2.St) (vs : List Nat) : L2.wipe (L2.wipe σ vs) vs = L2.wipe σ vs := by
  apply List.ext_getElem?
  intro j
  rw [wipe_get, wipe_get, wipe_length]
  by_cases hj : j ∈ vs <;> simp [hj]
theorem drop_cons {α : Type} {l : List α} {i : Nat} (h : i < l.length) : l.drop i = l[i] :: l.drop (i + 1) := List.drop_eq_getElem_cons h
theorem tm_comp {mi : MI} {t : Tgt} {g : TG} {cond elt : MX} {own : List Nat} (hg : GOk T g t) (hs : ∀ i ∈ t.slots, i ∈ own) {σ : L2.St} {H : Hp} {Q : VK} (h : TM T W (mComp mi t cond elt own) σ H Q) :
    tLc (TMI T W mi) g (TMT T W0 cond) (TM T W0 elt) own σ H Q := by
  obtain ⟨ρ, env, S, s, er, gd⟩ := h
  unfold mComp at gd
  refine ⟨ρ, env, S, s, er, ?_⟩
  cases hr : mi env S with
  | ok ds live S1 =>
    rw [hr] at gd
    intro J ρ1 H1 x1 s1 ⟨G, Y, wk, hG, hY⟩ D hD
    have er1 := er.ext x1 s
    have nD : D ∉ ρ1 := s1.none hD
    have gd1 : Good T (fun c d H => W c d σ H) ρ1 H1 (loopC t cond elt (wipeE env own) live ds [] S1) Q := gd.shift x1 s s1
    refine lc_it wk (fun i H' => ∃ ρ2 S2 acc xs, i ≤ ds.length ∧ Ext ρ1 H1 ρ2 H' ∧ SR T.K H' ρ2 S2 ∧ H' D = some (.lst xs) ∧ D ∉ ρ2 ∧ VRs T.K H' ρ2 acc xs ∧ Good T (fun c d H => W c d σ H) ρ1 H1 (loopC t cond elt (wipeE env own) live (ds.drop i) acc S2) Q)
      ⟨ρ1, S1, [], [], Nat.zero_le _, .grow (Grow.new hD), s1.grow (Grow.new hD), upd_same, nD, rfl, gd1⟩ ?_ ?_ ?_
    · rintro i H' _ ⟨ρ2, S2, acc, xs, hi, x2, s2, _, _, _, g2⟩
      refine hG ρ2 H' S2 x2 s2 ?_
      cases e : ds.drop i with
      | nil =>
        rw [e] at g2; unfold loopC at g2
        split at g2
        · rename_i hl; exact hl
        · exact g2.elim
      | cons d r =>
        rw [e] at g2; unfold loopC at g2
        split at g2
        · rename_i hl; exact hl
        · exact g2.elim
    · rintro i x H' H'' hi ⟨ρ2, S2, acc, xs, _, x2, s2, hD2, nD2, ra, g2⟩ y
      rw [drop_cons hi] at g2
      unfold loopC at g2
      split at g2
      · rename_i hl
        obtain ⟨gr, rx⟩ := hY i ds[i] ρ2 H' S2 x H'' (List.getElem?_eq_getElem hi) x2 s2 hl y
        have s3 := s2.grow gr
        have x3 : Ext ρ1 H1 ρ2 H'' := x2.trans (.grow gr) s1 s2
        split at g2
        · rename_i env1 hp
          have er2 : ER T.K H'' ρ2 env σ := er1.ext x3 s1
          refine hg ρ2 (wipeE env own) S2 (L2.wipe σ own) H'' ds[i] x _ env1 s3 (er2.wipe own) rx hp fun σ' er' hw => ⟨?_, ?_⟩
          · rw [hw own hs, wipe_wipe]
          · refine ⟨ρ2, env1, S2, s3, er', ?_⟩
            cases hc : cond env1 S2 with
            | ok o S3 =>
              rw [hc] at g2
              intro v ρ3 H3 x4 s4 p4
              cases o with
              | val d => cases d with
                | bl k => 
                  cases p4
                  have x5 : Ext ρ1 H1 ρ3 H3 := x3.trans x4 s1 s3
                  have er3 : ER T.K H3 ρ3 env1 σ' := er'.ext x4 s3
                  have hD3 : H3 D = some (.lst xs) := x4.fix _ _ (gr _ _ hD2) nD2
                  have nD3 : D ∉ ρ3 := fun m => by
                    obtain ⟨tt, et, nt⟩ := x4.pre
                    rw [et] at m
                    rcases List.mem_append.mp m with m | m
                    · exact nD2 m
                    · have := nt D m; rw [gr _ _ hD2] at this; cases this
                  have ra3 : VRs T.K H3 ρ3 acc xs := VRs.ext x4 s3 _ (VRs.ext (.grow gr) s2 _ ra)
                  refine ⟨k, rfl, ?_⟩
                  cases k with
                  | true =>
                    refine iteT ⟨ρ3, env1, S3, s4, er3, ?_⟩
                    cases he : elt env1 S3 with
                    | ok o2 S4 =>
                      replace g2 : Good T (fun c d H => W c d σ H) ρ1 H1 (match elt env1 S3 with | .ok o S2 => if acc.length < 1000000 then loopC t cond elt (wipeE env own) live (ds.drop (i + 1)) (acc ++ [(alc o S2).1]) (alc o S2).2 else .stuck | _ => .stuck) Q := g2
                      rw [he] at g2
                      dsimp only at g2
                      intro y ρ4 H4 x6 s6 p6
                      obtain ⟨ρ5, x7, s7, r7⟩ := alc_ok s4 x6 s6 p6
                      split at g2
                      · rename_i hlen
                        have hD4 : H4 D = some (.lst xs) := x6.fix _ _ hD3 nD3
                        have nD5 : D ∉ ρ5 := fun m => by
                          obtain ⟨tt, et, nt⟩ := x7.pre
                          rw [et] at m
                          rcases List.mem_append.mp m with m | m
                          · exact nD3 m
                          · have := nt D m; rw [hD3] at this; cases this
                        have ra5 : VRs T.K H4 ρ5 (acc ++ [(alc o2 S4).1]) (xs ++ [y]) := (VRs.ext x7 s4 _ ra3).append ⟨y, [], rfl, r7, rfl⟩
                        refine ⟨xs, hD4, ?_, ρ5, _, _, _, hi, ?_, s7.poke nD5 hD4, upd_same, nD5, VRs.frame (tup_upd hD4) _ ra5, g2⟩
                        · rw [← ra3.length, sizeLine_eq]; omega
                        · have x8 := x5.trans x7 s1 s4
                          exact ⟨x8.pre, fun b o e nb => by rw [upd_ne (fun z => by rw [z, hD] at e; cases e)]; exact x8.fix b o e nb⟩
                      · exact g2.elim
                    | rz x' S4 =>
                      replace g2 : Good T (fun c d H => W c d σ H) ρ1 H1 (match elt env1 S3 with | .ok o S2 => if acc.length < 1000000 then loopC t cond elt (wipeE env own) live (ds.drop (i + 1)) (acc ++ [(alc o S2).1]) (alc o S2).2 else .stuck | _ => .stuck) Q := g2
                      rw [he] at g2; exact g2.elim
                    | stuck =>
                      replace g2 : Good T (fun c d H => W c d σ H) ρ1 H1 (match elt env1 S3 with | .ok o S2 => if acc.length < 1000000 then loopC t cond elt (wipeE env own) live (ds.drop (i + 1)) (acc ++ [(alc o S2).1]) (alc o S2).2 else .stuck | _ => .stuck) Q := g2
                      rw [he] at g2; exact g2.elim
                  | false => exact iteF ⟨ρ3, S3, acc, xs, hi, x5, s4, hD3, nD3, ra3, g2⟩
                | non => exact g2.elim
                | int _ => exact g2.elim
                | str _ => exact g2.elim
                | tup _ => exact g2.elim
                | ref _ => exact g2.elim
                | scr _ => exact g2.elim
              | new _ => exact g2.elim
            | rz x' S3 => rw [hc] at g2; exact g2.elim
            | stuck => rw [hc] at g2; exact g2.elim
        · exact g2.elim
      · exact g2.elim
    · rintro H' ⟨ρ2, S2, acc, xs, _, x2, s2, hD2, nD2, ra, g2⟩
      rw [List.drop_length] at g2
      unfold loopC at g2
      split at g2
      · exact g2 (.ref D) ρ2 H' x2 s2 ⟨D, rfl, hD, nD2, xs, hD2, ra⟩
      · exact g2.elim
  | rz x S1 => rw [hr] at gd; exact gd
  | stuck => rw [hr] at gd; exact gd.elim
end
end MP

/-! F7: statements. -/
namespace MP
open PySem L2

inductive RS where
  | nx (env : Env) (S : Store) | ret (o : Opd) (S : Store) | brk (env : Env) (S : Store) | cnt (env : Env) (S : Store) | rz (x : Exn) (env : Env) (S : Store) | stuck
abbrev MS := Env → Store → RS
def GoodS (T : Tx) (W : WX) (ρ : List Addr) (H : Hp) (r : RS) (D : Ends) : Prop := match r with
  | .nx env' S' => ∀ ρ' σ' H', Ext ρ H ρ' H' → SR T.K H' ρ' S' → ER T.K H' ρ' env' σ' → D.nx σ' H'
  | .brk env' S' => ∀ ρ' σ' H', Ext ρ H ρ' H' → SR T.K H' ρ' S' → ER T.K H' ρ' env' σ' → D.bk σ' H'
  | .cnt env' S' => ∀ ρ' σ' H', Ext ρ H ρ' H' → SR T.K H' ρ' S' → ER T.K H' ρ' env' σ' → D.ct σ' H'
  | .ret o S' => ∀ v ρ' H', Ext ρ H ρ' H' → SR T.K H' ρ' S' → OX T.K H ρ' H' o v → D.rt v H'
  | .rz x env' S' => ∀ ρ' σ' H' cls d, Ext ρ H ρ' H' → SR T.K H' ρ' S' → ER T.K H' ρ' env' σ' → XR T.K T.mg H' ρ' x cls d → W cls d σ' H'
  | .stuck => False
def TMS (T : Tx) (W : WX) (s : MS) : TS := fun D σ H => ∃ ρ env S, SR T.K H ρ S ∧ ER T.K H ρ env σ ∧ GoodS T W ρ H (s env S) D
section
variable {T : Tx} {W : WX} {H H1 : Hp} {ρ ρ1 : List Addr} {S S1 : Store} {r : RS} {D D' : Ends}
theorem GoodS.shift (h : GoodS T W ρ H r D) (a : Ext ρ H ρ1 H1) (s : SR T.K H ρ S) (s1 : SR T.K H1 ρ1 S1) : GoodS T W ρ1 H1 r D := by
  cases r with
  | nx e S' => exact fun ρ' σ' H' b c d => h ρ' σ' H' (a.trans b s s1) c d
  | brk e S' => exact fun ρ' σ' H' b c d => h ρ' σ' H' (a.trans b s s1) c d
  | cnt e S' => exact fun ρ' σ' H' b c d => h ρ' σ' H' (a.trans b s s1) c d
  | ret o S' => exact fun v ρ' H' b c d => h v ρ' H' (a.trans b s s1) c (d.shift a s1)
  | rz x e S' => exact fun ρ' σ' H' cls d b c f g => h ρ' σ' H' cls d (a.trans b s s1) c f g
  | stuck => exact h
theorem _root_.L2.PS.imp {X : Cx} {st : Stmt} {t t' : TS} (h : PS X st t) (i : ∀ D σ H, t' D σ H → t D σ H) : PS X st t' := ⟨fun pins s σ H D I q => h.run pins s σ H D I (i D σ H q)⟩
theorem _root_.L2.PSs.imp {X : Cx} {st : List Stmt} {t t' : TS} (h : PSs X st t) (i : ∀ D σ H, t' D σ H → t D σ H) : PSs X st t' := ⟨fun pins s σ H D I q => h.run pins s σ H D I (i D σ H q)⟩
end
/-! ### from expressions to statements -/
def Res.st (r : Res) (env : Env) (k : Opd → Store → RS) : RS := match r with
  | .ok o S => k o S
  | .rz x S => .rz x env S
  | .stuck => .stuck
@[simp] theorem Res.st_ok (o : Opd) (S : Store) (env : Env) (k : Opd → Store → RS) : (Res.ok o S).st env k = k o S := rfl
@[simp] theorem Res.st_rz (x : Exn) (S : Store) (env : Env) (k : Opd → Store → RS) : (Res.rz x S).st env k = .rz x env S := rfl
section
variable {X : Cx} {T : Tx} {W : WX} {a b c e : Expr} {m n p : MX} {pos : Pos} {D : Ends} {σ : L2.St} {H : Hp}
/-- an expression within a statement -/
theorem GoodS.expr {ρ : List Addr} {env : Env} {S : Store} {k : Opd → Store → RS} {Q : VK} (s : SR T.K H ρ S) (er : ER T.K H ρ env σ) (h : GoodS T W ρ H ((m env S).st env k) D)
    (i : ∀ v H1 ρ1 o S1, Ext ρ H ρ1 H1 → SR T.K H1 ρ1 S1 → ER T.K H1 ρ1 env σ → OX T.K H ρ1 H1 o v → GoodS T W ρ H (k o S1) D → Q v H1) : TM T W m σ H Q := by
  refine ⟨ρ, env, S, s, er, ?_⟩
  cases hr : m env S with
  | ok o S1 =>
    rw [hr] at h
    exact fun v ρ1 H1 x1 s1 p1 => i v H1 ρ1 o S1 x1 s1 (er.ext x1 s) p1 h
  | rz x S1 =>
    rw [hr] at h
    exact fun ρ1 H1 cls d x1 s1 r1 => h ρ1 σ H1 cls d x1 s1 (er.ext x1 s) r1
  | stuck => rw [hr] at h; exact h
def sNil : MS := fun env S => .nx env S
def sSeq (s t : MS) : MS := fun env S => match s env S with
  | .nx e S1 => t e S1
  | r => r
theorem GoodS.seq {ρ : List Addr} {s : RS} {t : MS} {S : Store} (sr : SR T.K H ρ S) (h : GoodS T W ρ H (match s with | .nx e S1 => t e S1 | r => r) D) : GoodS T W ρ H s { D with nx := fun σ' H' => TMS T W t D σ' H' } := by
  cases s with
  | nx e S1 => exact fun ρ' σ' H' x s' er' => ⟨ρ', e, S1, s', er', GoodS.shift (r := t e S1) h x sr s'⟩
  | brk e S1 => exact h
  | cnt e S1 => exact h
  | ret o S1 => exact h
  | rz x e S1 => exact h
  | stuck => exact h
theorem psm_nil : PSs X [] (TMS T W sNil) := pss_nil.imp fun D σ H ⟨ρ, env, S, s, er, g⟩ => g ρ σ H (Ext.refl _ _) s er
theorem psm_cons {st : Stmt} {rest : List Stmt} {s t : MS} (h1 : PS X st (TMS T W s)) (h2 : PSs X rest (TMS T W t)) : PSs X (st :: rest) (TMS T W (sSeq s t)) :=
  (pss_cons h1 h2).imp fun D σ H ⟨ρ, env, S, sr, er, g⟩ => ⟨ρ, env, S, sr, er, GoodS.seq (s := s env S) sr g⟩
def sBrk : MS := fun env S => .brk env S
def sCnt : MS := fun env S => .cnt env S
theorem psm_pass : PS X (.Pass pos) (TMS T W sNil) := ps_pass.imp fun D σ H ⟨ρ, env, S, s, er, g⟩ => g ρ σ H (Ext.refl _ _) s er
theorem psm_brk : PS X (.Break pos) (TMS T W sBrk) := ps_break.imp fun D σ H ⟨ρ, env, S, s, er, g⟩ => g ρ σ H (Ext.refl _ _) s er
theorem psm_cnt : PS X (.Continue pos) (TMS T W sCnt) := ps_continue.imp fun D σ H ⟨ρ, env, S, s, er, g⟩ => g ρ σ H (Ext.refl _ _) s er
def sDrop (m : MX) : MS := fun env S => (m env S).st env fun _ S1 => .nx env S1
theorem psm_expr (he : PE X e (TM T W m)) (hs : swapsWith e none pos.line X.env = pure false) : PS X (.Expr e pos) (TMS T W (sDrop m)) :=
  (ps_expr he hs).imp fun D σ H ⟨ρ, env, S, s, er, g⟩ => g.expr s er fun v H1 ρ1 o S1 x1 s1 er1 p1 g1 => g1 ρ1 σ H1 x1 s1 er1
def sRet (m : MX) : MS := fun env S => (m env S).st env fun o S1 => .ret o S1
theorem psm_ret (he : PE X e (TM T W m)) : PS X (.Return (some e) pos) (TMS T W (sRet m)) :=
  (ps_ret he).imp fun D σ H ⟨ρ, env, S, s, er, g⟩ => g.expr s er fun v H1 ρ1 o S1 x1 s1 er1 p1 g1 => g1 v ρ1 H1 x1 s1 p1
def sRetN : MS := fun env S => .ret (.val .non) S
theorem psm_retN : PS X (.Return none pos) (TMS T W sRetN) := ps_retN.imp fun D σ H ⟨ρ, env, S, s, er, g⟩ => g .non ρ H (Ext.refl _ _) s rfl
def sAsg (t : Tgt) (m : MX) : MS := fun env S => (m env S).st env fun o S1 => match t.put (alc o S1).1 env with
  | some e => .nx e (alc o S1).2
  | none => .stuck
theorem tms_asg {t : Tgt} {g : TG} (hg : GOk T g t) {te : TE} (ht : ∀ Q, TM T W m σ H Q → te σ H Q) (h : TMS T W (sAsg t m) D σ H) : tAsg te g D σ H := by
  obtain ⟨ρ, env, S, s, er, gd⟩ := h
  refine ht _ (gd.expr s er fun v H1 ρ1 o S1 x1 s1 er1 p1 g1 => ?_)
  obtain ⟨ρ2, x2, s2, r2⟩ := alc_ok s x1 s1 p1
  split at g1
  · rename_i e he
    have er2 : ER T.K H1 ρ2 env σ := er.ext x2 s
    exact hg ρ2 env _ σ H1 _ v _ e s2 er2 r2 he fun σ' er' _ => g1 ρ2 σ' H1 x2 s2 er'
  · exact g1.elim
theorem psm_set {i : Nat} {x : Str} {pos' : Pos} (hN : X.N.Nodup) (hi : X.N[i]? = some x) (hx : Loc X.env.scope x) (he : PE X e (TM T W m)) (hs : swapsWith e (some (.Name x pos')) pos.line X.env = pure false)
    (hf : X.fn x = true ∨ X.env.scope.names.lookup x = some .local) : PS X (.Assign [.Name x pos'] e pos) (TMS T W (sAsg (.nm i) m)) :=
  (ps_set hN hi hx he hs hf).imp fun D σ H h => tms_asg gok_nm (fun _ q => q) h
theorem psm_asg {tg : Expr} {t : Tgt} {g : TG} (hg : GOk T g t) (he : PE X e (TM T W m)) (hp : PG X tg g) (hs : swapsWithSole [tg] e pos.line X.env = pure false) (hw : swappedStores [tg] e X.env = pure none)
    (h1 : (assignEach [tg] X.env).map (·.2) = [assign tg X.env]) : PS X (.Assign [tg] e pos) (TMS T W (sAsg t m)) :=
  (ps_asg he hp hs hw h1).imp fun D σ H h => tms_asg hg (fun _ q => q) h
/-- a, b = e1, e2 -/
def sPar (i j : Nat) (as : MAs) : MS := fun env S => match as env S with
  | .ok [v, w] S1 => .nx ((env.set i (some v)).set j (some w)) S1
  | .ok _ _ => .stuck
  | .rz x S1 => .rz x env S1
  | .stuck => .stuck
theorem tms_par {i j : Nat} {as : MAs} (h : TMS T W (sPar i j as) D σ H) : tPar i j (TMA T W as) D σ H := by
  obtain ⟨ρ, env, S, s, er, g⟩ := h
  refine ⟨ρ, env, S, s, er, ?_⟩
  unfold sPar at g
  split at g
  · rename_i v w S1 hr
    rw [hr]
    intro vs ρ1 H1 x1 s1 r1
    obtain ⟨x, _, rfl, r1, y, _, rfl, r2, rfl⟩ := r1
    exact ⟨x, y, rfl, g ρ1 _ H1 x1 s1 (((er.ext x1 s).set i r1).set j r2)⟩
  · exact g.elim
  · rename_i x S1 hr
    rw [hr]
    exact fun ρ1 H1 cls d x1 s1 r1 => g ρ1 σ H1 cls d x1 s1 (er.ext x1 s) r1
  · exact g.elim
def sIf (c : MX) (s t : MS) : MS := fun env S => (c env S).st env fun o S1 => match o with
  | .val (.bl true) => s env S1
  | .val (.bl false) => t env S1
  | _ => .stuck
theorem psm_if {sa sb : List Stmt} {s t : MS} (hc : PT X c (TMT T W p)) (ha : PSs X sa (TMS T W s)) (hb : PSs X sb (TMS T W t)) : PS X (.If c sa sb pos) (TMS T W (sIf p s t)) :=
  (ps_if hc ha hb).imp fun D σ H ⟨ρ, env, S, sr, er, g⟩ => by
    refine g.expr sr er fun v H1 ρ1 o S1 x1 s1 er1 p1 g1 => ?_
    split at g1
    · cases p1; exact ⟨true, rfl, iteT ⟨ρ1, env, S1, s1, er1, g1.shift x1 sr s1⟩⟩
    · cases p1; exact ⟨false, rfl, iteF ⟨ρ1, env, S1, s1, er1, g1.shift x1 sr s1⟩⟩
    · exact g1.elim
/-! ### for -/
def loopF (t : Tgt) (body : MS) (live : Option (Nat × List Val)) : List Val → Env → Store → RS
  | [], env, S => if liveOk live S then .nx env S else .stuck
  | d :: ds, env, S => if liveOk live S then match t.put d env with
    | some env1 => match body env1 S with
      | .nx e S1 => loopF t body live ds e S1
      | .cnt e S1 => loopF t body live ds e S1
      | .brk e S1 => .nx e S1
      | r => r
    | none => .stuck
    else .stuck
def sFor (mi : MI) (t : Tgt) (body : MS) : MS := fun env S => match mi env S with
  | .ok ds live S1 => loopF t body live ds env S1
  | .rz x S1 => .rz x env S1
  | .stuck => .stuck
theorem tms_for {mi : MI} {t : Tgt} {g : TG} {body : MS} (hg : GOk T g t) (h : TMS T W (sFor mi t body) D σ H) : tFor (TMI T W mi) g (TMS T W body) D σ H := by
  obtain ⟨ρ, env, S, s, er, gd⟩ := h
  unfold sFor at gd
  refine ⟨ρ, env, S, s, er, ?_⟩
  cases hr : mi env S with
  | ok ds live S1 =>
    rw [hr] at gd
    intro J ρ1 H1 x1 s1 ⟨G, Y, wk, hG, hY⟩
    refine for_it wk (fun i σ' H' => ∃ ρ2 env2 S2, i ≤ ds.length ∧ Ext ρ1 H1 ρ2 H' ∧ SR T.K H' ρ2 S2 ∧ ER T.K H' ρ2 env2 σ' ∧ GoodS T W ρ2 H' (loopF t body live (ds.drop i) env2 S2) D)
      ⟨ρ1, env, S1, Nat.zero_le _, Ext.refl _ _, s1, er.ext x1 s, GoodS.shift gd x1 s s1⟩ ?_ ?_ ?_
    · rintro i σ' H' _ ⟨ρ2, env2, S2, hi, x2, s2, er2, g2⟩
      refine hG ρ2 H' S2 x2 s2 ?_
      cases e : ds.drop i with
      | nil =>
        rw [e] at g2; unfold loopF at g2
        split at g2
        · rename_i hl; exact hl
        · exact g2.elim
      | cons d r =>
        rw [e] at g2; unfold loopF at g2
        split at g2
        · rename_i hl; exact hl
        · exact g2.elim
    · rintro i x σ' H' H'' hi ⟨ρ2, env2, S2, _, x2, s2, er2, g2⟩ y
      rw [drop_cons hi] at g2
      unfold loopF at g2
      split at g2
      · rename_i hl
        obtain ⟨gr, rx⟩ := hY i ds[i] ρ2 H' S2 x H'' (List.getElem?_eq_getElem hi) x2 s2 hl y
        have s3 := s2.grow gr
        have x3 : Ext ρ1 H1 ρ2 H'' := x2.trans (.grow gr) s1 s2
        split at g2
        · rename_i env1 hp
          refine hg ρ2 env2 S2 σ' H'' ds[i] x _ env1 s3 (er2.ext (.grow gr) s2) rx hp fun σ3 er3 _ => ?_
          refine ⟨ρ2, env1, S2, s3, er3, ?_⟩
          cases hb : body env1 S2 with
          | nx e S3 =>
            rw [hb] at g2
            exact fun ρ4 σ4 H4 x4 s4 er4 => ⟨ρ4, e, S3, hi, x3.trans x4 s1 s3, s4, er4, GoodS.shift g2 (Ext.trans (.grow gr) x4 s2 s3) s2 s4⟩
          | cnt e S3 =>
            rw [hb] at g2
            exact fun ρ4 σ4 H4 x4 s4 er4 => ⟨ρ4, e, S3, hi, x3.trans x4 s1 s3, s4, er4, GoodS.shift g2 (Ext.trans (.grow gr) x4 s2 s3) s2 s4⟩
          | brk e S3 =>
            rw [hb] at g2
            exact fun ρ4 σ4 H4 x4 s4 er4 => g2 ρ4 σ4 H4 (Ext.trans (.grow gr) x4 s2 s3) s4 er4
          | ret o S3 =>
            rw [hb] at g2
            exact fun v ρ4 H4 x4 s4 p4 => g2 v ρ4 H4 (Ext.trans (.grow gr) x4 s2 s3) s4 (p4.shift (.grow gr) s3)
          | rz x' e S3 =>
            rw [hb] at g2
            exact fun ρ4 σ4 H4 cls d x4 s4 er4 r4 => g2 ρ4 σ4 H4 cls d (Ext.trans (.grow gr) x4 s2 s3) s4 er4 r4
          | stuck => rw [hb] at g2; exact g2
        · exact g2.elim
      · exact g2.elim
    · rintro σ' H' ⟨ρ2, env2, S2, _, x2, s2, er2, g2⟩
      rw [List.drop_length] at g2
      unfold loopF at g2
      split at g2
      · exact g2 ρ2 σ' H' (Ext.refl _ _) s2 er2
      · exact g2.elim
  | rz x S1 =>
    rw [hr] at gd
    exact fun ρ1 H1 cls d x1 s1 r1 => gd ρ1 σ H1 cls d x1 s1 (er.ext x1 s) r1
  | stuck => rw [hr] at gd; exact gd.elim
theorem psm_for {tg iter : Expr} {body : List Stmt} {mi : MI} {t : Tgt} {g : TG} {s : MS} (hp : PassesOwn (model X.prog X.w) X.A X.env X.xe) (hc : X.calm = true) (hi : PI X tg iter (TMI T W mi)) (hg : GOk T g t) (hpg : PG X tg g) (hb : PSs X body (TMS T W s))
    (hs : ∀ x, foldedSetIterable iter X.env x = pure x) : PS X (.For tg iter body [] pos) (TMS T W (sFor mi t s)) :=
  (ps_for hp hc hi hpg hb hs).imp fun D σ H h => tms_for hg h
/-! ### while -/
def loopW (c : MX) (body : MS) : Nat → Env → Store → RS
  | 0, _, _ => .stuck
  | k + 1, env, S => (c env S).st env fun o S1 => match o with
    | .val (.bl true) => match body env S1 with
      | .nx e S2 => loopW c body k e S2
      | .cnt e S2 => loopW c body k e S2
      | .brk e S2 => .nx e S2
      | r => r
    | .val (.bl false) => .nx env S1
    | _ => .stuck
def sWhile (k : Nat) (c : MX) (body : MS) : MS := fun env S => loopW c body k env S
theorem tms_while {k : Nat} {body : MS} (h : TMS T W (sWhile k p body) D σ H) : tWhile (TMT T W p) (TMS T W body) D σ H := by
  obtain ⟨ρ, env, S, s, er, gd⟩ := h
  refine ⟨fun j σ' H' => ∃ ρ2 env2 S2, SR T.K H' ρ2 S2 ∧ ER T.K H' ρ2 env2 σ' ∧ GoodS T W ρ2 H' (loopW p body j env2 S2) D, ⟨k, ρ, env, S, s, er, gd⟩, ?_⟩
  rintro j σ1 H1 ⟨ρ1, env1, S1, s1, er1, g1⟩
  cases j with
  | zero => exact g1.elim
  | succ j =>
    unfold loopW at g1
    refine g1.expr s1 er1 fun v H2 ρ2 o S2 x2 s2 er2 p2 g2 => ?_
    split at g2
    · cases p2
      refine ⟨true, rfl, iteT ⟨fun σ' H' => ∃ ρ3 env3 S3, SR T.K H' ρ3 S3 ∧ ER T.K H' ρ3 env3 σ' ∧ GoodS T W ρ3 H' (loopW p body j env3 S3) D, fun σ' H' q => ⟨j, Nat.lt_succ_self j, q⟩, ρ2, env1, S2, s2, er2, ?_⟩⟩
      cases hb : body env1 S2 with
      | nx e S3 => rw [hb] at g2; exact fun ρ4 σ4 H4 x4 s4 er4 => ⟨ρ4, e, S3, s4, er4, GoodS.shift g2 (x2.trans x4 s1 s2) s1 s4⟩
      | cnt e S3 => rw [hb] at g2; exact fun ρ4 σ4 H4 x4 s4 er4 => ⟨ρ4, e, S3, s4, er4, GoodS.shift g2 (x2.trans x4 s1 s2) s1 s4⟩
      | brk e S3 => rw [hb] at g2; exact fun ρ4 σ4 H4 x4 s4 er4 => g2 ρ4 σ4 H4 (x2.trans x4 s1 s2) s4 er4
      | ret o S3 => rw [hb] at g2; exact fun v ρ4 H4 x4 s4 p4 => g2 v ρ4 H4 (x2.trans x4 s1 s2) s4 (p4.shift x2 s2)
      | rz x' e S3 => rw [hb] at g2; exact fun ρ4 σ4 H4 cls d x4 s4 er4 r4 => g2 ρ4 σ4 H4 cls d (x2.trans x4 s1 s2) s4 er4 r4
      | stuck => rw [hb] at g2; exact g2
    · cases p2
      exact ⟨false, rfl, iteF (g2 ρ2 σ1 H2 x2 s2 er2)⟩
    · exact g2.elim
theorem psm_while {k : Nat} {body : List Stmt} {s : MS} (hp : PassesOwn (model X.prog X.w) X.A X.env X.xe) (hc : PT X c (TMT T W p)) (hb : PSs X body (TMS T W s)) : PS X (.While c body [] pos) (TMS T W (sWhile k p s)) :=
  (ps_while hp hc hb).imp fun D σ H h => tms_while h
/-! ### xs[i] = e -/
def sSub (m o ix : MX) : MS := fun env S => (m env S).st env fun d S0 => (o env (alc d S0).2).st env fun a S1 => (ix env S1).st env fun b S2 => match a, b with
  | .val (.ref l), .val (.int i) => match rdL S2 (.val (.ref l)) with
    | some vs => match ixN vs.length i with
      | some j => .nx env (S2.set l (.lst (vs.set j (alc d S0).1)))
      | none => .stuck
    | none => .stuck
  | _, _ => .stuck
end
end MP

/-! F8: calls of defs; a def keeps its promise; writes to lists. -/
namespace MP
open PySem L2 PySem.Spec PyProof.Rows

/-! ### xs[i] = e -/
section
variable {X : Cx} {T : Tx} {W : WX} {a b c e : Expr} {m n p : MX} {pos : Pos} {D : Ends} {σ : L2.St} {H : Hp}
theorem tms_sub {o ix : MX} (h : TMS T W (sSub m o ix) D σ H) : tAsg (TM T W m) (gSub (TM T W o) (TM T W ix) rSetL) D σ H := by
  obtain ⟨ρ, env, S, s, er, gd⟩ := h
  refine gd.expr s er fun v H1 ρ1 o1 S1 x1 s1 er1 p1 g1 => ?_
  obtain ⟨ρ2, x2, s2, r2⟩ := alc_ok s x1 s1 p1
  have er2 : ER T.K H1 ρ2 env σ := er.ext x2 s
  refine GoodS.expr (m := o) s2 er2 (GoodS.shift g1 x2 s s2) fun u H3 ρ3 o3 S3 x3 s3 er3 p3 g3 => ?_
  refine GoodS.expr (m := ix) s3 er3 (GoodS.shift g3 x3 s2 s3) fun w H4 ρ4 o4 S4 x4 s4 er4 p4 g4 => ?_
  split at g4
  · rename_i l i
    split at g4
    · rename_i vs hv
      split at g4
      · rename_i j hj
        cases p4
        have q3 : OP T.K H4 ρ4 (.val (.ref l)) u := (OP.of p3).ext x4 s3
        obtain ⟨A, xs, rfl, hA, rA⟩ := rdL_at s4 hv q3
        obtain ⟨A', eA, hl⟩ := q3
        cases eA
        have r4 : VR T.K H4 ρ4 (alc o1 S1).1 v := VR.ext (x3.trans x4 s2 s3) s2 _ r2
        refine ⟨A, xs, i, j, rfl, rfl, hA, by rw [← rA.length]; exact hj, ?_⟩
        have er5 : ER T.K (upd H4 A (.lst (xs.set j v))) ρ4 env σ := er4.ext (Ext.write (List.mem_of_getElem? hl)) s4
        exact g4 ρ4 σ _ (Ext.trans x4 (Ext.write (List.mem_of_getElem? hl)) s3 s4) (s4.write hl hA (rA.set j r4)) er5
      · exact g4.elim
    · exact g4.elim
  · exact g4.elim
theorem psm_sub {o i : Expr} {mo ix : MX} {p2 : Pos} (ho : PE X o (TM T W mo)) (hi : PE X i (TM T W ix)) (he : PE X e (TM T W m)) (hs : swapsWithSole [.Subscript o i p2] e pos.line X.env = pure false) (hw : swappedStores [.Subscript o i p2] e X.env = pure none)
    (h1 : (assignEach [.Subscript o i p2] X.env).map (·.2) = [assign (.Subscript o i p2) X.env])
    (ha : ∀ v, assign (.Subscript o i p2) X.env v = (do
      let ov ← holding [v] (eval o X.env)
      let iv ← holding [v, ov] (eval i X.env)
      standAt p2
      holding [v, ov, iv] (setItem ov iv v)
      release [v, ov, iv] [])) : PS X (.Assign [.Subscript o i p2] e pos) (TMS T W (sSub m mo ix)) :=
  (ps_asg he (pg_sub ho hi set_list ha) hs hw h1).imp fun D σ H h => tms_sub h

/-! ### calls -/
/-- room, and nothing is being written out around -/
structure RmG (k : Nat) (A : Around) : Prop where
  rm : Room k A
  gd : A.guards = some []
theorem RmG.mono {j k : Nat} {A : Around} (r : RmG k A) (h : j ≤ k) : RmG j A := ⟨r.rm.mono h, r.gd⟩
theorem RmG.deeper {k : Nat} {A : Around} (r : RmG (k + 1) A) (env : PySem.Env) : RmG k (A.deeper env) := ⟨r.rm.deeper env, r.gd⟩
/-- a def's promise wherever nothing is being written out -/
structure FnG (P : Program) (w : World) (K : PySem.W.Frag) (mg : Str → Option Value) (base : Heap) (CX : CXT) (k : Nat) (f : Addr) (fd : FuncData) (ps : List Str) (sp : Sp) : Prop where
  len : ∀ vs H Q E, sp vs H Q E → vs.length = ps.length
  run : ∀ (A : Around) (outer : List PySem.Env) (s : Shared) (H : Hp) (args : Args) (us : List Value) (vs : List V) (Q : VK) (E : XK), RmG k A → Env0 P w K mg base A outer s H → BindsTo s fd args (ps.zip us) → Vals vs us → sp vs H Q E →
    codeAny (model P w) A (.call (.ref f) args) (CR CX outer P w H s Q E) s
theorem FnG.mono {P : Program} {w : World} {K : PySem.W.Frag} {mg : Str → Option Value} {base : Heap} {CX : CXT} {j k : Nat} {f : Addr} {fd : FuncData} {ps : List Str} {sp : Sp} (F : FnG P w K mg base CX j f fd ps sp) (h : j ≤ k) :
    FnG P w K mg base CX k f fd ps sp := ⟨F.len, fun A outer s H args us vs Q E hr => F.run A outer s H args us vs Q E (hr.mono h)⟩
theorem fnG_of {CX : CXT} {P : Program} {w : World} {K : PySem.W.Frag} {mg : Str → Option Value} {base : Heap} {k : Nat} {f : Addr} {name qual : Str} {params : Arguments} {body : List Stmt} {scope : Scope} {dV kV doc pm cdv ct oc : Value} {an od : Option Addr}
    {osl : Array (Option Value)} {N ps : List Str} {sp : Sp} (lk : K.lookup f = some ⟨oc, od, .func (PySem.W.fnOf name qual params body scope dV kV doc pm an cdv ct), osl⟩) (hcd : PySem.W.codeIn K cdv qual = true) (S : FnScope N ps scope)
    (len : ∀ vs H Q E, sp vs H Q E → vs.length = ps.length)
    (hbody : ∀ (A : Around) (outer : List PySem.Env) (s : Shared) (H : Hp) (vs : List V) (Q : VK) (E : XK), RmG k (A.deeper (envOfC qual scope s.heap.objs.size f cdv)) → sp vs H Q E →
      ∃ t, PSs (cxOf CX P w K mg base N qual scope f cdv A outer s H E) body t ∧ t { nx := fun _ H' => Q .non H', rt := Q } (L2.start N vs) H) :
    FnG P w K mg base CX (k + 1) f (PySem.W.fnOf name qual params body scope dV kV doc pm an cdv ct) ps sp := by
  refine ⟨len, fun A outer s H args us vs Q E hr e0 hb r hsp => ?_⟩
  have hl := len _ _ _ _ hsp
  have KX : K.In s.heap := e0.mod.kin.keeps fun b o e => (e0.bs b o e).1
  have lim : s.heap.NoLimit := e0.mod.nolimit.keeps fun b o e => (e0.bs b o e).1
  have hkind : ∀ y ∈ ps.zip us, scope.names.lookup y.1 = some .local ∨ (scope.names.lookup y.1 = some .cell ∧ ((cellsFrom (s.heap.objs.size + 1) scope.names []).lookup y.1).isSome = true) := fun ⟨n, v⟩ hy => by
    rcases S.par n (List.of_mem_zip hy).1 with q | q
    · exact .inl q
    · exact .inr ⟨q, PySem.W.cellsFrom_some _ _ _ (.inl q)⟩
  refine codeAny_call_function hr.rm.depth (KX _ _ lk) rfl S.co S.gen rfl (PySem.W.codeRec_of KX hcd) (hb _ _ _ _ ?_)
  refine wpAny_newFunctionEnv_cells S.kind hkind fun env he s1 x => ?_
  subst he
  refine ⟨lim.keeps x.toInCall.keep, codeAny_func ?_⟩
  obtain ⟨t, ht, hq⟩ := hbody A outer s H vs Q E (hr.deeper _) hsp
  have I : Inv (cxOf CX P w K mg base N qual scope f cdv A outer s H E) [] (L2.start N vs) H s1 := inv_start S hr.rm.hd e0 hl r x
  refine wpAny_mono (ht.run [] s1 (L2.start N vs) H _ I hq) (fun fl s' hs => ?_) fun e s' hs => hs
  have fin : ∀ {σ' : L2.St} {H' : Hp} {v : V} {u : Value}, Inv (cxOf CX P w K mg base N qual scope f cdv A outer s H E) [] σ' H' s' → RelV v u → Q v H' → CE outer P w H s Q u s' :=
    fun {σ' H' v u} J rv q => ⟨v, H', J.os, J.bare, J.base, J.hok, rv, q⟩
  cases fl with
  | ret u =>
    obtain ⟨v, σ', H', J, rv, q⟩ := hs
    exact fin J rv q
  | next =>
    obtain ⟨σ', H', J, q⟩ := hs
    exact fin (v := V.non) (u := Value.none) J rfl q
  | brk =>
    obtain ⟨_, _, _, q⟩ := hs
    exact False.elim q
  | cont =>
    obtain ⟨_, _, _, q⟩ := hs
    exact False.elim q
theorem run_fnG {X : Cx} {CX : CXT} {k : Nat} {f : Addr} {fd : FuncData} {ps : List Str} {sp : Sp} {ds : List Value} {E : L2.St → XK} {σ : L2.St} {dvs : List V} {pins : List (Addr × PySem.Obj)} {H : Hp} {s : Shared} {Q : VK} {us : List Value} {vs : List V} (F : FnG X.prog X.w X.K X.mg X.base CX k f fd ps sp) (hr : RmG k X.A) (hb : Binds X.K fd ps ds)
    (hd : Vals dvs ds) (hx : PassesAt CX X σ (E σ)) (I : Inv X pins σ H s) (r : Vals vs us) (h : sp (vs ++ dvs) H Q (E σ)) : wpAny (model X.prog X.w) X.A (PySem.call (.ref f) us) (EP X pins σ Q) X.xe s := by
  have r2 : Vals (vs ++ dvs) (us ++ ds) := r.append hd
  have hl : (us ++ ds).length = ps.length := by rw [← r2.length]; exact F.len _ _ _ _ h
  refine wpAny_call (codeAny_mono (F.run X.A X.stack s H ⟨us, []⟩ (us ++ ds) (vs ++ dvs) Q (E σ) hr I.env0 (hb s us I.kIn hl) r2 h) fun r s' hq => ?_)
  cases r with
  | error e => exact hx pins H s e s' I hq
  | ok fl =>
    cases fl with
    | ret u => exact I.after hq
    | next => exact False.elim hq
    | brk => exact False.elim hq
    | cont => exact False.elim hq
abbrev Run := List Val → Store → Res
def spF (T : Tx) (run : Run) : Sp := fun vs H Q E => ∃ ρ S ds, SR T.K H ρ S ∧ VRs T.K H ρ ds vs ∧ Good T E ρ H (run ds S) Q
def mCall (run : Run) (as : MAs) : MX := fun env S => (as env S).andThen run
theorem pm_call {k : Nat} {f : Addr} {fd : FuncData} {ps : List Str} {run : Run} {as : MAs} {x : Str} {q : Pos} {es : List Expr} {dds : List Val} {dvs : List V} {dws : List Value} (F : FnG X.prog X.w X.K X.mg X.base (L2.CX X.prog X.w) k f fd ps (spF T run)) (hr : RmG k X.A) (hg : Gl X x) (hm : X.mg x = some (.ref f))
    (hk : PySem.W.keepIn X.K (.ref f) = true) (hb : Binds X.K fd ps dws) (hd : Vals dvs dws) (hdd : ∀ H ρ, VRs T.K H ρ dds dvs) (tk : Takes X W) (ha : PA X (e :: es) (TMA T W as)) (hdb : (x == ("__debug__" : Str)) = false) (he : starEach (e :: es) X.env = (false, eval e X.env) :: starEach es X.env)
    (hpl : (backTo pos (starEach es X.env)).any (·.1) = false) : PE X (.Call (.Name x q) (e :: es) [] pos) (TM T W (mCall (fun ds S => run (ds ++ dds) S) as)) := by
  refine ⟨fun pins s σ H Q I h => ?_⟩
  refine wpAny_Call_Name_kw (ld_glob I hg hm ?_ hdb)
  have h2 : TMA T W as σ H fun vs H1 => spF T run (vs ++ dvs) H1 Q (fun c d H => W c d σ H) := tma_use h fun vs H1 ρ1 ds S1 s1 r1 g => ⟨ρ1, S1, ds ++ dds, s1, r1.append (hdd H1 ρ1), g⟩
  refine PySem.W.callWith_K (h₀ := X.base) I.ok.mod.kin hk (thn (ha.run pos pins s σ H _ I h2) fun us s1 ⟨vs, H1, I1, r, q⟩ => ⟨I1.kIn, ?_⟩) he hpl
  exact run_fnG (E := WE W) F hr hb hd (passAt tk σ) I1 r q
theorem pm_call0 {k : Nat} {f : Addr} {fd : FuncData} {ps : List Str} {run : Run} {x : Str} {q : Pos} (F : FnG X.prog X.w X.K X.mg X.base (L2.CX X.prog X.w) k f fd ps (spF T run)) (hr : RmG k X.A) (hg : Gl X x) (hm : X.mg x = some (.ref f))
    (hk : PySem.W.keepIn X.K (.ref f) = true) (hb : Binds X.K fd ps []) (tk : Takes X W) (hdb : (x == ("__debug__" : Str)) = false) : PE X (.Call (.Name x q) [] [] pos) (TM T W (mCall run aNil)) := by
  refine ⟨fun pins s σ H Q I h => ?_⟩
  obtain ⟨ρ, env, S, sr, er, g⟩ := h
  refine wpAny_Call_Name_kw (ld_glob I hg hm ?_ hdb)
  exact PySem.W.callWith_K0 I.kIn hk (run_fnG (us := []) (dvs := []) (ds := []) (E := WE W) F hr hb .nil (passAt tk σ) I .nil ⟨ρ, S, [], sr, rfl, g⟩)
end

/-! ### what a def may forget -/
mutual
/-- every reference lies below n -/
def vcl (n : Nat) : Val → Bool
  | .tup vs => vcls n vs
  | .ref l => decide (l < n)
  | _ => true
def vcls (n : Nat) : List Val → Bool
  | [] => true
  | v :: vs => vcl n v && vcls n vs
end
def ocl (n : Nat) : Obj → Bool
  | .lst vs => vcls n vs
  | _ => false
def fcls (n : Nat) : List (Str × Val) → Bool
  | [] => true
  | f :: fs => vcl n f.2 && fcls n fs
section
variable {K : Frag} {H : Hp} {ρ t : List Addr}
mutual
theorem VR.vcl : ∀ (d : Val) {v : V}, VR K H ρ d v → vcl ρ.length d = true
  | .non, _, _ => rfl
  | .bl _, _, _ => rfl
  | .int _, _, _ => rfl
  | .str _, _, _ => rfl
  | .tup ds, _, ⟨x, xs, e, q, r⟩ => VRs.vcl ds r
  | .scr _, _, _ => rfl
  | .ref l, _, ⟨x, e, q⟩ => decide_eq_true (List.getElem?_eq_some_iff.mp q).1
theorem VRs.vcl : ∀ (ds : List Val) {xs : List V}, VRs K H ρ ds xs → vcls ρ.length ds = true
  | [], _, _ => rfl
  | d :: ds, _, ⟨x, r, e, h1, h2⟩ => by unfold vcls; rw [VR.vcl d h1, VRs.vcl ds h2]; rfl
end
mutual
theorem VR.pop : ∀ (d : Val) {v : V}, VR K H (ρ ++ t) d v → vcl ρ.length d = true → VR K H ρ d v
  | .non, _, h, _ => h
  | .bl _, _, h, _ => h
  | .int _, _, h, _ => h
  | .str _, _, h, _ => h
  | .tup ds, _, ⟨x, xs, e, q, r⟩, c => ⟨x, xs, e, q, VRs.pop ds r c⟩
  | .scr _, _, h, _ => h
  | .ref l, _, ⟨x, e, q⟩, c => ⟨x, e, by rw [List.getElem?_append_left (of_decide_eq_true c)] at q; exact q⟩
theorem VRs.pop : ∀ (ds : List Val) {xs : List V}, VRs K H (ρ ++ t) ds xs → vcls ρ.length ds = true → VRs K H ρ ds xs
  | [], _, h, _ => h
  | d :: ds, _, ⟨x, r, e, h1, h2⟩, c => by
    unfold vcls at c
    obtain ⟨c1, c2⟩ := Bool.and_eq_true_iff.mp c
    exact ⟨x, r, e, VR.pop d h1 c1, VRs.pop ds h2 c2⟩
end
theorem FRs.pop : ∀ (ds : List (Str × Val)) {xs : List (Str × V)}, FRs K H (ρ ++ t) ds xs → fcls ρ.length ds = true → FRs K H ρ ds xs
  | [], _, h, _ => h
  | d :: ds, _, ⟨x, r, e, h1, h2⟩, c => by
    unfold fcls at c
    obtain ⟨c1, c2⟩ := Bool.and_eq_true_iff.mp c
    exact ⟨x, r, e, VR.pop d.2 h1 c1, FRs.pop ds h2 c2⟩
theorem OR.pop {o : Obj} {a : Addr} (h : OR K H (ρ ++ t) o a) (c : ocl ρ.length o = true) : OR K H ρ o a := by
  cases o with
  | lst ds => obtain ⟨xs, e, r⟩ := h; exact ⟨xs, e, VRs.pop ds r c⟩
  | dct _ => exact h
  | ins _ _ => exact h
theorem OR.ocl {o : Obj} {a : Addr} (h : OR K H ρ o a) : ocl ρ.length o = true := by
  cases o with
  | lst ds => obtain ⟨xs, e, r⟩ := h; exact VRs.vcl ds r
  | dct _ => exact h.elim
  | ins _ _ => exact h.elim
end
/-- the old objects' part of the store behind a def: each as it was, or one that speaks of old ones alone -/
def Kept (S S' : Store) : Prop := S'.length = S.length ∧ ∀ (l : Nat) (o : Obj), S'[l]? = some o → S[l]? = some o ∨ ocl S.length o = true
theorem Kept.refl (S : Store) : Kept S S := ⟨rfl, fun _ _ h => .inl h⟩
/-- what a def's body comes to, told without what nobody can reach any more -/
inductive Cl (S : Store) : Res → Res → Prop where
  | same (r : Res) : Cl S r r
  | val (d : Val) (S' G : Store) (k : Kept S S') (c : vcl S.length d = true) : Cl S (.ok (.val d) (S' ++ G)) (.ok (.val d) S')
  | fresh (l : Nat) (S' G : Store) (o : Obj) (k : Kept S S') (h : S.length ≤ l) (e : (S' ++ G)[l]? = some o) (c : ocl S.length o = true) : Cl S (.ok (.val (.ref l)) (S' ++ G)) (.ok (.new o) S')
  | new (o : Obj) (S' G : Store) (k : Kept S S') (c : ocl S.length o = true) : Cl S (.ok (.new o) (S' ++ G)) (.ok (.new o) S')
  | rz (x : Exn) (S' G : Store) (k : Kept S S') (c : fcls S.length x.fs = true) : Cl S (.rz x (S' ++ G)) (.rz x S')
  | stuck (r : Res) : Cl S r .stuck
section
variable {T : Tx} {W : XW} {H H' : Hp} {ρ ρ' : List Addr} {S S' G : Store} {Q : VK}
theorem SR.forget (s : SR T.K H ρ S) (x : Ext ρ H ρ' H') (s' : SR T.K H' ρ' (S' ++ G)) (k : Kept S S') : SR T.K H' ρ S' ∧ Ext ρ H ρ H' ∧ ∃ t, ρ' = ρ ++ t := by
  obtain ⟨⟨t, e, n⟩, f⟩ := x
  subst e
  refine ⟨⟨by rw [k.1, s.1], (List.nodup_append.mp s'.2.1).1, fun l o a e1 e2 => ?_⟩, ⟨⟨[], by simp, by simp⟩, f⟩, t, rfl⟩
  have hl := (List.getElem?_eq_some_iff.mp e1).1
  have r := s'.2.2 l o a (by rw [List.getElem?_append_left hl]; exact e1) (by rw [List.getElem?_append_left (List.getElem?_eq_some_iff.mp e2).1]; exact e2)
  refine r.pop ?_
  rw [← s.1]
  rcases k.2 l o e1 with h | h
  · have := (s.2.2 l o a h e2).ocl
    rw [← s.1] at this; exact this
  · exact h
theorem Good.cl {raw clean : Res} (c : Cl S raw clean) (s : SR T.K H ρ S) (g : Good T W ρ H clean Q) : Good T W ρ H raw Q := by
  cases c with
  | same r => exact g
  | val d S' G k c =>
    intro v ρ' H' x s' p
    obtain ⟨s2, x2, t, rfl⟩ := s.forget x s' k
    exact g v ρ H' x2 s2 (VR.pop d p (by rw [← s.1]; exact c))
  | fresh l S' G o k h e c =>
    intro v ρ' H' x s' p
    obtain ⟨a, rfl, q⟩ := p
    obtain ⟨s2, x2, t, rfl⟩ := s.forget x s' k
    have r := s'.2.2 l o a e q
    have ha : a ∈ t := by
      rw [List.getElem?_append_right (by rw [← s.1]; exact h)] at q
      exact List.mem_of_getElem? q
    have na : H a = none := by
      obtain ⟨t', e', n'⟩ := x.pre
      rw [List.append_cancel_left e'] at ha
      exact n' a ha
    exact g (.ref a) ρ H' x2 s2 ⟨a, rfl, na, s.none na, r.pop (by rw [← s.1]; exact c)⟩
  | new o S' G k c =>
    intro v ρ' H' x s' p
    obtain ⟨s2, x2, t, rfl⟩ := s.forget x s' k
    obtain ⟨a, e, n, n2, r⟩ := p
    exact g v ρ H' x2 s2 ⟨a, e, n, fun m => n2 (List.mem_append_left _ m), r.pop (by rw [← s.1]; exact c)⟩
  | rz y S' G k c =>
    intro ρ' H' cls d x s' p
    obtain ⟨s2, x2, t, rfl⟩ := s.forget x s' k
    obtain ⟨C, h1, h2, h3⟩ := p
    refine g ρ H' cls d x2 s2 ⟨C, h1, h2, ?_⟩
    rcases h3 with h3 | ⟨dx, fs', e1, e2, r⟩
    · exact .inl h3
    · exact .inr ⟨dx, fs', e1, e2, r.pop _ (by rw [← s.1]; exact c)⟩
  | stuck r => exact g.elim
end
/-! ### a def -/
def RS.out : RS → Res
  | .nx _ S => .ok (.val .non) S
  | .ret o S => .ok o S
  | .rz x _ S => .rz x S
  | _ => .stuck
def startE (n : Nat) (ds : List Val) : Env := ds.map some ++ List.replicate (n - ds.length) none
theorem start_er {T : Tx} {H : Hp} {ρ : List Addr} {N : List Str} {ds : List Val} {vs : List V} (r : VRs T.K H ρ ds vs) : ER T.K H ρ (startE N.length ds) (L2.start N vs) := by
  refine ⟨by unfold startE L2.start; simp [r.length], fun i d e => ?_⟩
  unfold startE at e
  by_cases hi : i < ds.length
  · rw [List.getElem?_append_left (by simpa using hi)] at e
    rw [List.getElem?_map] at e
    cases q : ds[i]? with
    | none => rw [q] at e; cases e
    | some d' =>
      rw [q] at e
      cases e
      obtain ⟨x, e1, r1⟩ := r.get q
      refine ⟨x, ?_, r1⟩
      unfold L2.start
      rw [List.getElem?_append_left (by rw [List.length_map, ← r.length]; exact hi), List.getElem?_map, e1]
      rfl
  · rw [List.getElem?_append_right (by simpa using Nat.le_of_not_lt hi)] at e
    rw [List.getElem?_replicate] at e
    split at e <;> cases e
theorem out_good {T : Tx} {W : XW} {H : Hp} {ρ : List Addr} {r : RS} {Q : VK} (h : Good T W ρ H r.out Q) : GoodS T (fun c d _ H => W c d H) ρ H r { nx := fun _ H' => Q .non H', rt := Q } := by
  cases r with
  | nx e S => exact fun ρ' σ' H' x s er => h .non ρ' H' x s rfl
  | ret o S => exact h
  | brk e S => exact h.elim
  | cnt e S => exact h.elim
  | rz x e S => exact fun ρ' σ' H' cls d x s er r => h ρ' H' cls d x s r
  | stuck => exact h
/-- THE RULE for a def: its body as the little language's statement s, which comes to run -/
theorem def_ok {P : Program} {w : World} {K : PySem.W.Frag} {mg : Str → Option Value} {base : Heap} {x qual : Str} {st : Stmt} {f : Addr} {fd : FuncData} {N ps : List Str} {k : Nat} {T : Tx} {run : Run} {s : MS} (hT : T.K = K) (F : Fun K x qual st f fd) (Sc : FnScope N ps (defScope st))
    (len : ∀ ds S, run ds S ≠ .stuck → ds.length = ps.length)
    (hbody : ∀ (cdv : Value) (A : Around) (outer : List PySem.Env) (sh : Shared) (H : Hp) (E : XK), RmG k (A.deeper (envOfC qual (defScope st) sh.heap.objs.size f cdv)) →
      PSs (cxOf (L2.CX P w) P w K mg base N qual (defScope st) f cdv A outer sh H E) (defBody st) (TMS T (fun c d _ H => E c d H) s))
    (hrun : ∀ ds S, ds.length = ps.length → Cl S (s (startE N.length ds) S).out (run ds S)) : FnG P w K mg base (L2.CX P w) (k + 1) f fd ps (spF T run) := by
  obtain ⟨oc, od, kV, doc, pm, an, cdv, ct, osl, rfl, lk, hcd⟩ := F.ex
  refine fnG_of lk hcd Sc (fun vs H Q E h => ?_) (fun A outer sh H vs Q E hr h => ?_)
  · obtain ⟨ρ, S, ds, sr, r, g⟩ := h
    rw [← r.length]
    exact len ds S fun e => by rw [e] at g; exact g
  · obtain ⟨ρ, S, ds, sr, r, g⟩ := h
    refine ⟨_, hbody cdv A outer sh H E hr, ρ, startE N.length ds, S, sr, start_er r, ?_⟩
    exact out_good (Good.cl (hrun ds S (len ds S fun e => by rw [e] at g; exact g)) sr g)
end MP

/-! F9: built-in functions and methods. -/
namespace MP
open PySem L2 PySem.Spec PyProof.Rows

section
variable {X : Cx} {T : Tx} {W : WX} {a b c e : Expr} {m n p : MX} {pos q : Pos} {D : Ends} {σ : L2.St} {H : Hp} {x : Str}
/-! ### a built-in of one argument, of two -/
theorem pa_one (h : PE X e (TM T W m)) (hs : starEach [e] X.env = [(false, eval e X.env)]) (hs0 : starEach [] X.env = []) : PA X [e] (tCons (TM T W m) tNil) := pa_cons h pa_nil (by rw [hs, hs0])
theorem pm_b1 {f : Value} {id : String} {r : List V → Hp → VK → Prop} {g : F1} (hc : CallR X (.builtin id) r) (ok : UnOk T (fun x H Q => r [x] H Q) g) (hg : Gl X x) (hm : X.mg x = none) (hv : bootBuiltins x = some (.builtin id)) (h : PE X e (TM T W m))
    (hn : x ≠ "__name__") (hdb : (x == ("__debug__" : Str)) = false) (hs : starEach [e] X.env = (false, eval e X.env) :: starEach [] X.env) (hpl : (backTo pos (starEach [] X.env)).any (·.1) = false) :
    PE X (.Call (.Name x q) [e] [] pos) (TM T W (mUn g m)) :=
  (pe_callB hc hg hm hv (pa_cons h pa_nil hs) hn hdb hs hpl).imp fun σ H Q h => tm_un (m := m) ok h
theorem pm_t1 {ty : String} {r : List V → Hp → VK → Prop} {g : F1} (hc : CallR X (.type ty) r) (ok : UnOk T (fun x H Q => r [x] H Q) g) (hg : Gl X x) (hm : X.mg x = none) (hv : bootBuiltins x = some (.type ty)) (h : PE X e (TM T W m))
    (hn : x ≠ "__name__") (hdb : (x == ("__debug__" : Str)) = false) (hs : starEach [e] X.env = (false, eval e X.env) :: starEach [] X.env) (hpl : (backTo pos (starEach [] X.env)).any (·.1) = false) :
    PE X (.Call (.Name x q) [e] [] pos) (TM T W (mUn g m)) :=
  (pe_callTy hc hg hm hv (pa_cons h pa_nil hs) hn hdb hs hpl).imp fun σ H Q h => tm_un (m := m) ok h
theorem pm_b2 {id : String} {r : List V → Hp → VK → Prop} {g : F2} (hc : CallR X (.builtin id) r) (ok : BinOk T (fun x y H Q => r [x, y] H Q) g) (hg : Gl X x) (hm : X.mg x = none) (hv : bootBuiltins x = some (.builtin id)) (ha : PE X a (TM T W m)) (hb : PE X b (TM T W n))
    (hn : x ≠ "__name__") (hdb : (x == ("__debug__" : Str)) = false) (hs : starEach [a, b] X.env = (false, eval a X.env) :: starEach [b] X.env) (hs2 : starEach [b] X.env = (false, eval b X.env) :: starEach [] X.env) (hpl : (backTo pos (starEach [b] X.env)).any (·.1) = false) :
    PE X (.Call (.Name x q) [a, b] [] pos) (TM T W (mBin g m n)) :=
  (pe_callB hc hg hm hv (pa_cons ha (pa_cons hb pa_nil hs2) hs) hn hdb hs hpl).imp fun σ H Q h => tm_bin (m := m) (n := n) ok h

/-! ### len, abs, min, max, int, str, tuple, list -/
def fLen : F1 := fun S o => match o with
  | .val (.str z) => if okLen z.length then vI z.length else none
  | .val (.tup vs) => vI vs.length
  | o => match rdL S o with
    | some vs => vI vs.length
    | none => match rdS o with
      | some ns => vI ns.length
      | none => none
def rLenAll (K : Frag) : List V → Hp → VK → Prop := fun xs H Q => (∃ p ys, xs = [.ref p] ∧ (SqL K H p ys ∨ SqT K H p ys) ∧ Q (.int ys.length) H) ∨ (∃ z, xs = [.str z] ∧ z.length ≤ sizeLine ∧ Q (.int z.length) H)
theorem cr_lenAll : CallR X (.builtin "len") (rLenAll X.K) := call_len_seq.or call_len_str
theorem ok_len : UnOk T (fun x H Q => rLenAll T.K [x] H Q) fLen := by
  intro W H ρ S x v Q s px g
  unfold fLen at g
  split at g
  · cases px
    split at g
    · rename_i h; exact .inr ⟨_, rfl, okLen_le h, g.val s rfl⟩
    · exact g.elim
  · obtain ⟨a, xs, rfl, ha, ra⟩ := px
    exact .inl ⟨a, xs, rfl, .inr ha, g.val s (by rw [ra.length]; rfl)⟩
  · split at g
    · rename_i h
      obtain ⟨a, xs, rfl, ha, ra⟩ := rdL_at s h px
      exact .inl ⟨a, xs, rfl, .inl (SqL.of ha), g.val s (by rw [ra.length]; rfl)⟩
    · split at g
      · rename_i ns h
        obtain ⟨a, rfl, ha⟩ := rdS_at h px
        exact .inl ⟨a, _, rfl, .inl ha, g.val s (by rw [List.length_map]; rfl)⟩
      · exact g.elim
def fAbs : F1 := fun _ o => match o with
  | .val (.int i) => vI (if i < 0 then -i else i)
  | _ => none
theorem ok_abs : UnOk T (fun x H Q => (fun xs H Q => ∃ i, xs = [V.int i] ∧ Q (.int (if i < 0 then -i else i)) H) [x] H Q) fAbs := by
  intro W H ρ S x v Q s px g
  unfold fAbs at g
  split at g
  · cases px; exact ⟨_, rfl, g.val s rfl⟩
  · exact g.elim
def fMax2 : F2 := fun _ a b => match a, b with
  | .val (.int i), .val (.int j) => vI (if j > i then j else i)
  | _, _ => none
def fMin2 : F2 := fun _ a b => match a, b with
  | .val (.int i), .val (.int j) => vI (if j < i then j else i)
  | _, _ => none
theorem ok_max2 : BinOk T (fun x y H Q => (fun xs H Q => ∃ i j, xs = [V.int i, V.int j] ∧ Q (.int (if j > i then j else i)) H) [x, y] H Q) fMax2 := by
  intro W H ρ S x y v u Q s px py g
  unfold fMax2 at g
  split at g
  · cases px; cases py; exact ⟨_, _, rfl, g.val s rfl⟩
  · exact g.elim
theorem ok_min2 : BinOk T (fun x y H Q => (fun xs H Q => ∃ i j, xs = [V.int i, V.int j] ∧ Q (.int (if j < i then j else i)) H) [x, y] H Q) fMin2 := by
  intro W H ρ S x y v u Q s px py g
  unfold fMin2 at g
  split at g
  · cases px; cases py; exact ⟨_, _, rfl, g.val s rfl⟩
  · exact g.elim
def fIntC : F1 := fun _ o => match o with
  | .val (.int i) => vI i
  | .val (.bl k) => vI (if k then 1 else 0)
  | .val (.str a) => if decide (a.length ≤ 640) then (match PySem.intText? a with | some n => vI n | none => none) else none
  | _ => none
def rIntAll : List V → Hp → VK → Prop := fun xs H Q => ((∃ i, xs = [.int i] ∧ Q (.int i) H) ∨ ∃ k, xs = [.bl k] ∧ Q (.int (if k then 1 else 0)) H) ∨ ∃ a n, xs = [.str a] ∧ PySem.intText? a = some n ∧ a.length ≤ 640 ∧ Q (.int n) H
theorem cr_intAll : CallR X (.type "int") rIntAll := call_int1.or call_int_str
theorem ok_intC : UnOk T (fun x H Q => rIntAll [x] H Q) fIntC := by
  intro W H ρ S x v Q s px g
  unfold fIntC at g
  split at g
  · cases px; exact .inl (.inl ⟨_, rfl, g.val s rfl⟩)
  · cases px; exact .inl (.inr ⟨_, rfl, g.val s rfl⟩)
  · cases px
    split at g
    · rename_i hl
      split at g
      · rename_i n hn; exact .inr ⟨_, n, rfl, hn, of_decide_eq_true hl, g.val s rfl⟩
      · exact g.elim
    · exact g.elim
  · exact g.elim
def fStrC : F1 := fun _ o => match o with
  | .val (.int i) => if decide (i.natAbs.log2 < 1920) then vS (toString i) else none
  | _ => none
theorem ok_strC : UnOk T (fun x H Q => (fun xs H Q => ∃ i : Int, xs = [V.int i] ∧ i.natAbs.log2 < 1920 ∧ Q (.str (toString i)) H) [x] H Q) fStrC := by
  intro W H ρ S x v Q s px g
  unfold fStrC at g
  split at g
  · cases px
    split at g
    · rename_i h; exact ⟨_, rfl, of_decide_eq_true h, g.val s rfl⟩
    · exact g.elim
  · exact g.elim
def fTupC : F1 := fun S o => match o with
  | .val (.tup vs) => some (.val (.tup vs))
  | o => match rdL S o with
    | some vs => some (.val (.tup vs))
    | none => none
theorem ok_tupC : UnOk T (fun x H Q => (fun xs H Q => ∃ p ys, xs = [V.ref p] ∧ ((SqL T.K H p ys ∧ ∀ l, H l = none → Q (.ref l) (upd H l (.tup ys))) ∨ (SqT T.K H p ys ∧ Q (.ref p) H))) [x] H Q) fTupC := by
  intro W H ρ S x v Q s px g
  unfold fTupC at g
  split at g
  · obtain ⟨a, xs, rfl, ha, ra⟩ := px
    exact ⟨a, xs, rfl, .inr ⟨ha, g.val s ⟨a, xs, rfl, ha, ra⟩⟩⟩
  · split at g
    · rename_i h
      obtain ⟨a, xs, rfl, ha, ra⟩ := rdL_at s h px
      exact ⟨a, xs, rfl, .inl ⟨SqL.of ha, fun p hp => g.valG s (Grow.new hp) ⟨p, xs, rfl, SqT.of upd_same, VRs.ext (.grow (Grow.new hp)) s _ ra⟩⟩⟩
    · exact g.elim
def fLstC : F1 := fun S o => match o with
  | .val (.tup vs) => some (.new (.lst vs))
  | o => match rdL S o with
    | some vs => some (.new (.lst vs))
    | none => none
theorem ok_lstC : UnOk T (fun x H Q => (fun xs H Q => ∃ p ys, xs = [V.ref p] ∧ (SqL T.K H p ys ∨ SqT T.K H p ys) ∧ ∀ l, H l = none → Q (.ref l) (upd H l (.lst ys))) [x] H Q) fLstC := by
  intro W H ρ S x v Q s px g
  unfold fLstC at g
  split at g
  · obtain ⟨a, xs, rfl, ha, ra⟩ := px
    exact ⟨a, xs, rfl, .inr ha, fun p hp => g.newG s (Grow.new hp) hp ⟨xs, upd_same, VRs.ext (.grow (Grow.new hp)) s _ ra⟩⟩
  · split at g
    · rename_i h
      obtain ⟨a, xs, rfl, ha, ra⟩ := rdL_at s h px
      exact ⟨a, xs, rfl, .inl (SqL.of ha), fun p hp => g.newG s (Grow.new hp) hp ⟨xs, upd_same, VRs.ext (.grow (Grow.new hp)) s _ ra⟩⟩
    · exact g.elim
/-! ### all, any, sum, sorted -/
def bls : List Val → Option (List Bool)
  | [] => some []
  | .bl b :: r => (bls r).map (b :: ·)
  | _ => none
def gInts : List Val → Option (List Int)
  | [] => some []
  | .int b :: r => (gInts r).map (b :: ·)
  | _ => none
def gStrs : List Val → Option (List Str)
  | [] => some []
  | .str b :: r => (gStrs r).map (b :: ·)
  | _ => none
theorem VRs.bls {K : Frag} {ρ : List Addr} : ∀ {ds : List Val} {xs : List V} {bs : List Bool}, VRs K H ρ ds xs → bls ds = some bs → xs = bs.map V.bl
  | [], _, _, h, e => by cases e; exact h
  | d :: ds, _, bs, ⟨x, r, e, h, t⟩, q => by
    subst e
    cases d with
    | bl b =>
      cases h
      have q' : (MP.bls ds).map (b :: ·) = some bs := q
      cases e : MP.bls ds with
      | none => rw [e] at q'; cases q'
      | some l => rw [e] at q'; cases q'; rw [VRs.bls t e]; rfl
    | non => cases q
    | int _ => cases q
    | str _ => cases q
    | tup _ => cases q
    | ref _ => cases q
    | scr _ => cases q
theorem VRs.toInts {K : Frag} {ρ : List Addr} : ∀ {ds : List Val} {xs : List V} {bs : List Int}, VRs K H ρ ds xs → gInts ds = some bs → xs = bs.map V.int
  | [], _, _, h, e => by cases e; exact h
  | d :: ds, _, bs, ⟨x, r, e, h, t⟩, q => by
    subst e
    cases d with
    | int b =>
      cases h
      have q' : (MP.gInts ds).map (b :: ·) = some bs := q
      cases e : MP.gInts ds with
      | none => rw [e] at q'; cases q'
      | some l => rw [e] at q'; cases q'; rw [VRs.toInts t e]; rfl
    | non => cases q
    | bl _ => cases q
    | str _ => cases q
    | tup _ => cases q
    | ref _ => cases q
    | scr _ => cases q
theorem VRs.toStrs {K : Frag} {ρ : List Addr} : ∀ {ds : List Val} {xs : List V} {bs : List Str}, VRs K H ρ ds xs → gStrs ds = some bs → xs = bs.map V.str
  | [], _, _, h, e => by cases e; exact h
  | d :: ds, _, bs, ⟨x, r, e, h, t⟩, q => by
    subst e
    cases d with
    | str b =>
      cases h
      have q' : (MP.gStrs ds).map (b :: ·) = some bs := q
      cases e : MP.gStrs ds with
      | none => rw [e] at q'; cases q'
      | some l => rw [e] at q'; cases q'; rw [VRs.toStrs t e]; rfl
    | non => cases q
    | bl _ => cases q
    | int _ => cases q
    | tup _ => cases q
    | ref _ => cases q
    | scr _ => cases q
theorem VRs.ofStrs {K : Frag} {ρ : List Addr} : ∀ (ns : List Str), VRs K H ρ (ns.map Val.str) (ns.map V.str)
  | [] => rfl
  | n :: ns => ⟨.str n, ns.map V.str, rfl, rfl, VRs.ofStrs ns⟩
def fAll : F1 := fun S o => match rdL S o with
  | some vs => match bls vs with
    | some bs => vB (bs.all id)
    | none => none
  | none => none
def fAny : F1 := fun S o => match rdL S o with
  | some vs => match bls vs with
    | some bs => vB (bs.any id)
    | none => none
  | none => none
theorem ok_all : UnOk T (fun x H Q => rAll T.K [x] H Q) fAll := by
  intro W H ρ S x v Q s px g
  unfold fAll at g
  split at g
  · rename_i vs h
    split at g
    · rename_i bs hb
      obtain ⟨a, xs, rfl, ha, ra⟩ := rdL_at s h px
      exact ⟨a, bs, rfl, by rw [← ra.bls hb]; exact SqL.of ha, g.val s rfl⟩
    · exact g.elim
  · exact g.elim
theorem ok_any : UnOk T (fun x H Q => rAny T.K [x] H Q) fAny := by
  intro W H ρ S x v Q s px g
  unfold fAny at g
  split at g
  · rename_i vs h
    split at g
    · rename_i bs hb
      obtain ⟨a, xs, rfl, ha, ra⟩ := rdL_at s h px
      exact ⟨a, bs, rfl, by rw [← ra.bls hb]; exact SqL.of ha, g.val s rfl⟩
    · exact g.elim
  · exact g.elim
def fSum : F1 := fun S o => match rdL S o with
  | some vs => match gInts vs with
    | some bs => vI bs.sum
    | none => none
  | none => none
theorem ok_sum : UnOk T (fun x H Q => rSum T.K [x] H Q) fSum := by
  intro W H ρ S x v Q s px g
  unfold fSum at g
  split at g
  · rename_i vs h
    split at g
    · rename_i bs hb
      obtain ⟨a, xs, rfl, ha, ra⟩ := rdL_at s h px
      exact ⟨a, bs, rfl, by rw [← ra.toInts hb]; exact SqL.of ha, g.val s rfl⟩
    · exact g.elim
  · exact g.elim
def insI (x : Int) : List Int → List Int
  | [] => [x]
  | y :: ys => if x ≤ y then x :: y :: ys else y :: insI x ys
def sortI : List Int → List Int
  | [] => []
  | x :: xs => insI x (sortI xs)
theorem insI_perm (x : Int) : ∀ ys, (insI x ys).Perm (x :: ys)
  | [] => List.Perm.refl _
  | y :: ys => by
    unfold insI
    split
    · exact List.Perm.refl _
    · exact ((insI_perm x ys).cons y).trans (List.Perm.swap x y ys)
theorem sortI_perm : ∀ xs, (sortI xs).Perm xs
  | [] => List.Perm.refl _
  | x :: xs => (insI_perm x _).trans ((sortI_perm xs).cons x)
theorem insI_sorted (x : Int) : ∀ {ys : List Int}, ys.Pairwise (· ≤ ·) → (insI x ys).Pairwise (· ≤ ·)
  | [], _ => List.pairwise_singleton _ _
  | y :: ys, h => by
    unfold insI
    split
    · rename_i hx
      refine List.pairwise_cons.mpr ⟨fun z hz => ?_, h⟩
      rcases List.mem_cons.mp hz with rfl | hz
      · exact hx
      · exact Int.le_trans hx ((List.pairwise_cons.mp h).1 z hz)
    · rename_i hx
      refine List.pairwise_cons.mpr ⟨fun z hz => ?_, insI_sorted x (List.pairwise_cons.mp h).2⟩
      rcases List.mem_cons.mp ((insI_perm x ys).mem_iff.mp hz) with rfl | hz
      · omega
      · exact (List.pairwise_cons.mp h).1 z hz
theorem sortI_sorted : ∀ xs, (sortI xs).Pairwise (· ≤ ·)
  | [] => List.Pairwise.nil
  | x :: xs => insI_sorted x (sortI_sorted xs)
theorem sorted_uniq : ∀ {a b : List Int}, a.Pairwise (· ≤ ·) → b.Pairwise (· ≤ ·) → a.Perm b → a = b
  | [], b, _, _, p => (List.perm_nil.mp p.symm).symm
  | x :: xs, [], _, _, p => by cases List.perm_nil.mp p
  | x :: xs, y :: ys, ha, hb, p => by
    have hxy : x = y := by
      have h1 : x ∈ y :: ys := p.mem_iff.mp List.mem_cons_self
      have h2 : y ∈ x :: xs := p.mem_iff.mpr List.mem_cons_self
      have a1 := List.pairwise_cons.mp ha
      have b1 := List.pairwise_cons.mp hb
      rcases List.mem_cons.mp h1 with h1 | h1
      · exact h1
      · rcases List.mem_cons.mp h2 with h2 | h2
        · exact h2.symm
        · have := a1.1 y h2; have := b1.1 x h1; omega
    subst hxy
    rw [sorted_uniq (List.pairwise_cons.mp ha).2 (List.pairwise_cons.mp hb).2 p.cons_inv]
def fSortI : F1 := fun S o => match rdL S o with
  | some vs => match gInts vs with
    | some bs => some (.new (.lst ((sortI bs).map .int)))
    | none => none
  | none => none
theorem ok_sortI : UnOk T (fun x H Q => rSortedI T.K [x] H Q) fSortI := by
  intro W H ρ S x v Q s px g
  unfold fSortI at g
  split at g
  · rename_i vs h
    split at g
    · rename_i bs hb
      obtain ⟨a, xs, rfl, ha, ra⟩ := rdL_at s h px
      refine ⟨a, bs, rfl, by rw [← ra.toInts hb]; exact SqL.of ha, fun ns' p h1 h2 hp => ?_⟩
      have e := sorted_uniq h2 (sortI_sorted bs) (h1.trans (sortI_perm bs).symm)
      subst e
      exact g.newG s (Grow.new hp) hp ⟨_, upd_same, VRs.ints _⟩
    · exact g.elim
  · exact g.elim
/-! ### in -/
def fv : Val → V
  | .non => .non
  | .bl b => .bl b
  | .int i => .int i
  | .str s => .str s
  | _ => .byt #[]
def flat : Val → Bool
  | .non => true
  | .bl _ => true
  | .int _ => true
  | .str _ => true
  | _ => false
theorem VR_fv {K : Frag} {ρ : List Addr} {d : Val} {v : V} (h : VR K H ρ d v) (f : flat d = true) : v = fv d ∧ flatV v = true := by
  cases d with
  | non => cases h; exact ⟨rfl, rfl⟩
  | bl _ => cases h; exact ⟨rfl, rfl⟩
  | int _ => cases h; exact ⟨rfl, rfl⟩
  | str _ => cases h; exact ⟨rfl, rfl⟩
  | tup _ => cases f
  | ref _ => cases f
  | scr _ => cases f
theorem VRs_fv {K : Frag} {ρ : List Addr} : ∀ {ds : List Val} {xs : List V}, VRs K H ρ ds xs → ds.all flat = true → xs = ds.map fv ∧ xs.all flatV = true
  | [], _, h, _ => by cases h; exact ⟨rfl, rfl⟩
  | d :: ds, _, ⟨x, r, e, h, t⟩, f => by
    subst e
    rw [List.all_cons] at f
    obtain ⟨f1, f2⟩ := Bool.and_eq_true_iff.mp f
    obtain ⟨e1, g1⟩ := VR_fv h f1
    obtain ⟨e2, g2⟩ := VRs_fv t f2
    exact ⟨by rw [e1, e2]; rfl, by rw [List.all_cons, g1, g2]; rfl⟩
def inF (x : Val) (xs : List Val) : Bool := inV (fv x) (xs.map fv)
def sq (S : Store) (o : Opd) : Option (List Val) := match o with
  | .val (.tup vs) => some vs
  | o => rdL S o
theorem sq_at {K : Frag} {ρ : List Addr} {S : Store} (s : SR K H ρ S) {x : Opd} {v : V} {ds : List Val} (h : sq S x = some ds) (p : OP K H ρ x v) : ∃ a xs, v = .ref a ∧ (SqL K H a xs ∨ SqT K H a xs) ∧ VRs K H ρ ds xs := by
  unfold sq at h
  split at h
  · cases h
    obtain ⟨a, xs, rfl, ha, ra⟩ := p
    exact ⟨a, xs, rfl, .inr ha, ra⟩
  · obtain ⟨a, xs, rfl, ha, ra⟩ := rdL_at s h p
    exact ⟨a, xs, rfl, .inl (SqL.of ha), ra⟩
def one (z : Str) : Option Nat := match z.cps.toList with
  | [c] => some c
  | _ => none
theorem one_eq {z : Str} {c : Nat} (h : one z = some c) : z = ⟨#[c]⟩ := by
  unfold one at h
  split at h
  · rename_i d e
    cases h
    exact TL.ext_tl e
  · cases h
def fIn (neg : Bool) : F2 := fun S x y => match x, y with
  | .val (.str w), .val (.str z) => match one w with
    | some c => vB (if neg then !decide (c ∈ z.cps.toList) else decide (c ∈ z.cps.toList))
    | none => none
  | .val d, y => match sq S y with
    | some vs => if flat d && vs.all flat then vB (if neg then !inF d vs else inF d vs) else none
    | none => none
  | _, _ => none
def rInAll (K : Frag) (neg : Bool) : R2 := fun x y H Q => (∃ (c : Nat) (z : Str), x = .str ⟨#[c]⟩ ∧ y = .str z ∧ Q (.bl (if neg then !decide (c ∈ z.cps.toList) else decide (c ∈ z.cps.toList))) H) ∨ rIn K neg x y H Q
theorem op_inAll : OpR X (compareOp .In) (rInAll X.K false) := OpR.or (r := fun x y H Q => ∃ (c : Nat) (z : Str), x = .str ⟨#[c]⟩ ∧ y = .str z ∧ Q (.bl (decide (c ∈ z.cps.toList))) H) op_in_sign op_in_seq
theorem op_notInAll : OpR X (compareOp .NotIn) (rInAll X.K true) := OpR.or (r := fun x y H Q => ∃ (c : Nat) (z : Str), x = .str ⟨#[c]⟩ ∧ y = .str z ∧ Q (.bl (!decide (c ∈ z.cps.toList))) H) op_notIn_sign op_notIn_seq
theorem ok_in {neg : Bool} : BinOk T (rInAll T.K neg) (fIn neg) := by
  intro W H ρ S x y v u Q s px py g
  unfold fIn at g
  split at g
  · cases px; cases py
    split at g
    · rename_i c hc
      have e := one_eq hc
      subst e
      exact .inl ⟨_, _, rfl, rfl, g.val s rfl⟩
    · exact g.elim
  · split at g
    · rename_i vs h
      split at g
      · rename_i hf
        obtain ⟨f1, f2⟩ := Bool.and_eq_true_iff.mp hf
        obtain ⟨a, xs, rfl, ha, ra⟩ := sq_at s h py
        obtain ⟨e1, g1⟩ := VR_fv px f1
        obtain ⟨e2, g2⟩ := VRs_fv ra f2
        refine .inr ⟨a, xs, rfl, ha, g1, g2, g.val s ?_⟩
        rw [e1, e2]; rfl
      · exact g.elim
    · exact g.elim
  · exact g.elim
end
end MP

/-! F10: methods, ranges, enumerate, comprehensions, constants of the module. -/
namespace MP
open PySem L2 PySem.Spec PyProof.Rows

section
variable {X : Cx} {T : Tx} {W : WX} {a b c e o : Expr} {m n p : MX} {pos q apos cpos : Pos} {D : Ends} {σ : L2.St} {H : Hp} {x : Str}
theorem Good.bind' {W : XW} {ρ : List Addr} {H : Hp} {r : Res} {Q : VK} {k : Opd → Store → Res} (h : Good T W ρ H (r.bind k) Q) :
    Good T W ρ H r (fun v H1 => ∃ ρ1 o S1, r = .ok o S1 ∧ Ext ρ H ρ1 H1 ∧ SR T.K H1 ρ1 S1 ∧ OX T.K H ρ1 H1 o v ∧ Good T W ρ H (k o S1) Q) := by
  cases r with
  | ok o S' => exact fun v ρ' H' a b c => ⟨ρ', o, S', rfl, a, b, c, h⟩
  | rz x S' => exact h
  | stuck => exact h
/-! ### text methods of one argument -/
def mSM (f : Store → Str → Opd → Option Opd) (m n : MX) : MX := fun env S => (m env S).bind fun a S1 => match a with
  | .val (.str z) => (n env S1).bind fun b S2 => ofO S2 (f S2 z b)
  | _ => .stuck
def SmOk (T : Tx) (r : V → List V → Hp → VK → Prop) (f : Store → Str → Opd → Option Opd) : Prop := ∀ (W : XW) (H : Hp) (ρ : List Addr) (S : Store) (z : Str) (y : Opd) (u : V) (Q : VK), SR T.K H ρ S → OP T.K H ρ y u → Good T W ρ H (ofO S (f S z y)) Q → r (.str z) [u] H Q
theorem tm_sm {r : V → List V → Hp → VK → Prop} {f : Store → Str → Opd → Option Opd} (ok : SmOk T r f) {Q : VK} (h : TM T W (mSM f m n) σ H Q) : tM1 r (TM T W m) (TM T W n) σ H Q := by
  obtain ⟨ρ, env, S, s, er, g⟩ := h
  refine tm_use s er (Good.bind s g) fun v H1 ⟨ρ1, o1, S1, he1, x1, s1, p1, g1⟩ => ?_
  clear he1
  split at g1
  · rename_i z
    cases p1
    refine ⟨⟨z, rfl⟩, tm_use s1 (er.ext x1 s) (Good.bind s1 g1) fun u H2 ⟨ρ2, o2, S2, _, x2, s2, p2, g2⟩ => ?_⟩
    exact ok _ H2 ρ2 S2 z o2 u Q s2 (OP.of p2) g2
  · exact g1.elim
def gSplit : Store → Str → Opd → Option Opd := fun _ z b => match b with
  | .val (.str y) => if decide (0 < y.length) && okLen (z.length + 2) then some (.new (.lst ((Txt.split z y).map .str))) else none
  | _ => none
theorem ok_split : SmOk T (fun x xs H Q => ∃ a b, x = V.str a ∧ xs = [V.str b] ∧ (b.length == 0) = false ∧ a.length + 2 ≤ sizeLine ∧ rNewStrs (Txt.split a b) H Q) gSplit := by
  intro W H ρ S z y u Q s py g
  unfold gSplit at g
  split at g
  · cases py
    split at g
    · rename_i h
      obtain ⟨h1, h2⟩ := Bool.and_eq_true_iff.mp h
      have h1 := of_decide_eq_true h1
      refine ⟨z, _, rfl, rfl, by simp; omega, okLen_le h2, fun p hp => ?_⟩
      exact g.newG s (Grow.new hp) hp ⟨_, upd_same, VRs.ofStrs _⟩
    · exact g.elim
  · exact g.elim
theorem pm_split (ho : PE X o (TM T W m)) (he : PE X e (TM T W n)) (hs : starEach [e] X.env = [(false, eval e X.env)]) (hbase : attributeBase o "split" X.env (eval o X.env) = eval o X.env) (hline : (apos.endLine == pos.line) = true) :
    PE X (.Call (.Attribute o "split" apos) [e] [] pos) (TM T W (mSM gSplit m n)) := (pe_split ho he hs hbase hline).imp fun σ H Q h => tm_sm ok_split h
def gJoin : Store → Str → Opd → Option Opd := fun S z b => match sq S b with
  | some vs => match gStrs vs with
    | some ys => if okLen ((ys.map (·.length)).sum + ys.length * z.length) then vS (Txt.join z ys) else none
    | none => none
  | none => none
theorem ok_join : SmOk T (fun x xs H Q => ∃ a p, ∃ ys : List Str, x = V.str a ∧ xs = [V.ref p] ∧ (SqL T.K H p (ys.map V.str) ∨ SqT T.K H p (ys.map V.str)) ∧
      (ys.map (·.length)).sum + ys.length * a.length ≤ 16777216 ∧ Q (.str (Txt.join a ys)) H) gJoin := by
  intro W H ρ S z y u Q s py g
  unfold gJoin at g
  split at g
  · rename_i vs hv
    split at g
    · rename_i ys hy
      split at g
      · rename_i hl
        obtain ⟨a, xs, rfl, ha, ra⟩ := sq_at s hv py
        rw [ra.toStrs hy] at ha
        exact ⟨z, a, ys, rfl, rfl, ha, of_decide_eq_true hl, g.val s rfl⟩
      · exact g.elim
    · exact g.elim
  · exact g.elim
theorem pm_join (hK : X.K = T.K) (ho : PE X o (TM T W m)) (he : PE X e (TM T W n)) (hs : starEach [e] X.env = [(false, eval e X.env)]) (hbase : attributeBase o "join" X.env (eval o X.env) = eval o X.env) (hline : (apos.endLine == pos.line) = true) :
    PE X (.Call (.Attribute o "join" apos) [e] [] pos) (TM T W (mSM gJoin m n)) := (pe_join ho he hs hbase hline).imp fun σ H Q h => by rw [hK]; exact tm_sm ok_join h
/-! ### list methods of one argument -/
def mLM (f : Store → Nat → List Val → Opd → Option (Opd × Store)) (m n : MX) : MX := fun env S => (m env S).bind fun a S1 => match a with
  | .val (.ref l) => match rdL S1 (.val (.ref l)) with
    | some _ => (n env S1).bind fun b S2 => match rdL S2 (.val (.ref l)) with
      | some vs => match f S2 l vs b with
        | some (o, S3) => .ok o S3
        | none => .stuck
      | none => .stuck
    | none => .stuck
  | _ => .stuck
def LmOk (T : Tx) (r : V → List V → Hp → VK → Prop) (f : Store → Nat → List Val → Opd → Option (Opd × Store)) : Prop :=
  ∀ (W : XW) (H H0 : Hp) (ρ ρ0 : List Addr) (S S0 S3 : Store) (l : Nat) (A : Addr) (vs : List Val) (xs : List V) (y o : Opd) (u : V) (Q : VK), SR T.K H0 ρ0 S0 → Ext ρ0 H0 ρ H → SR T.K H ρ S → ρ[l]? = some A → H A = some (.lst xs) → VRs T.K H ρ vs xs → OX T.K H0 ρ H y u → f S l vs y = some (o, S3) →
    Good T W ρ0 H0 (.ok o S3) Q → r (.ref A) [u] H Q
theorem tm_lm {r : V → List V → Hp → VK → Prop} {f : Store → Nat → List Val → Opd → Option (Opd × Store)} (ok : LmOk T r f) {Q : VK} (h : TM T W (mLM f m n) σ H Q) : tBM T.K "list" r (TM T W m) (tCons (TM T W n) tNil) σ H Q := by
  obtain ⟨ρ, env, S, s, er, g⟩ := h
  refine tm_use s er (Good.bind s g) fun v H1 ⟨ρ1, o1, S1, he1, x1, s1, p1, g1⟩ => ?_
  clear he1
  split at g1
  · rename_i l
    split at g1
    · rename_i vs0 h0
      obtain ⟨A, xs0, rfl, hA0, _⟩ := rdL_at s1 h0 p1
      obtain ⟨A', eA, hl⟩ := p1
      cases eA
      refine ⟨.inl ⟨rfl, xs0, SqL.of hA0⟩, tm_use s1 (er.ext x1 s) (Good.bind' g1) fun u H2 ⟨ρ2, o2, S2, he2, x2, s2, p2, g2⟩ => ?_⟩
      clear he2
      split at g2
      · rename_i vs hv
        have hl2 := x2.get hl
        obtain ⟨A', xs, eA, hA, rA⟩ := rdL_at s2 hv (show OP T.K H2 ρ2 (.val (.ref l)) (.ref A) from ⟨A, rfl, hl2⟩)
        cases eA
        split at g2
        · rename_i o S3 hf
          exact ok _ H2 H1 ρ2 ρ1 S2 S1 S3 l A vs xs o2 o u Q s1 x2 s2 hl2 hA rA p2 hf g2
        · exact g2.elim
      · exact g2.elim
    · exact g1.elim
  · exact g1.elim

theorem ext_write {ρ0 ρ : List Addr} {H0 H : Hp} {S0 S : Store} {A : Addr} {u : HO} (x : Ext ρ0 H0 ρ H) (s0 : SR T.K H0 ρ0 S0) (s : SR T.K H ρ S) (m : A ∈ ρ) : Ext ρ0 H0 ρ (upd H A u) := x.trans (Ext.write m) s0 s
theorem alc_ok' {K : Frag} {H H1 : Hp} {ρ ρ1 : List Addr} {S S1 : Store} (s : SR K H ρ S) (x : Ext ρ H ρ1 H1) (s1 : SR K H1 ρ1 S1) {o : Opd} {v : V} (p : OX K H ρ1 H1 o v) : ∃ t, Ext ρ H (ρ1 ++ t) H1 ∧ SR K H1 (ρ1 ++ t) (alc o S1).2 ∧ VR K H1 (ρ1 ++ t) (alc o S1).1 v := by
  cases o with
  | val d => exact ⟨[], by rw [List.append_nil]; exact ⟨x, s1, p⟩⟩
  | new o =>
    obtain ⟨a, e, n, m, r⟩ := p
    refine ⟨[a], ⟨?_, x.fix⟩, s1.push m r, a, e, ?_⟩
    · obtain ⟨t, e2, n2⟩ := x.pre
      exact ⟨t ++ [a], by rw [e2, List.append_assoc], fun b hb => by
        rcases List.mem_append.mp hb with hb | hb
        · exact n2 b hb
        · rw [List.mem_singleton] at hb; subst hb; exact n⟩
    · show (ρ1 ++ [a])[S1.length]? = some a
      rw [s1.1, List.getElem?_append_right (Nat.le_refl _), Nat.sub_self]; rfl
def gAppend : Store → Nat → List Val → Opd → Option (Opd × Store) := fun S l vs b => if decide (vs.length < 1000000) then some (.val .non, (alc b S).2.set l (.lst (vs ++ [(alc b S).1]))) else none
theorem ok_append : LmOk T rAppend gAppend := by
  intro W H H0 ρ ρ0 S S0 S3 l A vs xs y o u Q s0 x s hl hA rA py hf g
  unfold gAppend at hf
  split at hf
  · rename_i hz
    cases hf
    have hz := of_decide_eq_true hz
    refine ⟨A, xs, u, rfl, rfl, hA, by rw [← rA.length, sizeLine_eq]; omega, ?_⟩
    obtain ⟨t, x2, s2, r2⟩ := alc_ok' s0 x s py
    have hl2 : (ρ ++ t)[l]? = some A := by rw [List.getElem?_append_left (List.getElem?_eq_some_iff.mp hl).1]; exact hl
    have rA2 : VRs T.K H (ρ ++ t) (vs ++ [(alc y S).1]) (xs ++ [u]) := (VRs.push t _ rA).append ⟨u, [], rfl, r2, rfl⟩
    exact g .non (ρ ++ t) _ (ext_write x2 s0 s2 (List.mem_of_getElem? hl2)) (s2.write hl2 hA rA2) rfl
  · cases hf
theorem pm_append (hK : X.K = T.K) (ho : PE X o (TM T W m)) (he : PE X e (TM T W n)) (hbase : attributeBase o "append" X.env (eval o X.env) = eval o X.env)
    (hfew : ((backTo cpos (starEach [e] X.env)).all (fun x => !x.1) && (backToKw cpos (keywordEach [] X.env)).all (fun x => x.1.isSome) && decide ([e].length + ([] : List Keyword).length + (if ([] : List Keyword).isEmpty then 0 else 1) < 30)) = true)
    (hline : (apos.endLine == cpos.line) = true) (hs : starEach [e] X.env = (false, eval e X.env) :: starEach [] X.env) (hplain : (backTo cpos (starEach [] X.env)).any (·.1) = false) :
    PE X (.Call (.Attribute o "append" apos) [e] [] cpos) (TM T W (mLM gAppend m n)) :=
  (pe_bm PySem.F.plainAttrs_list PySem.F.slot_list_append PySem.F.type_list_append mt_append ho (pa_cons he pa_nil hs) hbase hfew hline hs hplain).imp fun σ H Q h => by rw [hK]; exact tm_lm ok_append h
def gExtend : Store → Nat → List Val → Opd → Option (Opd × Store) := fun S l vs b => match rdL S b with
  | some us => if okLen (vs.length + us.length) then some (.val .non, S.set l (.lst (vs ++ us))) else none
  | none => none
theorem ok_extend : LmOk T rExtend gExtend := by
  intro W H H0 ρ ρ0 S S0 S3 l A vs xs y o u Q s0 x s hl hA rA py hf g
  unfold gExtend at hf
  split at hf
  · rename_i us hus
    split at hf
    · rename_i hz
      cases hf
      obtain ⟨B, ys, rfl, hB, rB⟩ := rdL_at s hus (OP.of py)
      refine ⟨A, B, xs, ys, rfl, rfl, hA, hB, by rw [← rA.length, ← rB.length]; exact okLen_le hz, ?_⟩
      exact g .non ρ _ (ext_write x s0 s (List.mem_of_getElem? hl)) (s.write hl hA (rA.append rB)) rfl
    · cases hf
  · cases hf
theorem pm_extend (hK : X.K = T.K) (ho : PE X o (TM T W m)) (he : PE X e (TM T W n)) (hbase : attributeBase o "extend" X.env (eval o X.env) = eval o X.env)
    (hfew : ((backTo cpos (starEach [e] X.env)).all (fun x => !x.1) && (backToKw cpos (keywordEach [] X.env)).all (fun x => x.1.isSome) && decide ([e].length + ([] : List Keyword).length + (if ([] : List Keyword).isEmpty then 0 else 1) < 30)) = true)
    (hline : (apos.endLine == cpos.line) = true) (hs : starEach [e] X.env = (false, eval e X.env) :: starEach [] X.env) (hplain : (backTo cpos (starEach [] X.env)).any (·.1) = false) :
    PE X (.Call (.Attribute o "extend" apos) [e] [] cpos) (TM T W (mLM gExtend m n)) :=
  (pe_bm PySem.F.plainAttrs_list PySem.F.slot_list_extend PySem.F.type_list_extend mt_extend ho (pa_cons he pa_nil hs) hbase hfew hline hs hplain).imp fun σ H Q h => by rw [hK]; exact tm_lm ok_extend h

/-! ### range, enumerate -/
def rangeL (lo : Int) (n : Nat) : List Val := (List.range n).map fun i => .int (lo + (i : Nat))
def mRng1 (m : MX) : MI := fun env S => match m env S with
  | .ok (.val (.int j)) S1 => if decide (-1000000 < j) && decide (j < 1000000) then .ok (rangeL 0 j.toNat) none S1 else .stuck
  | .rz x S1 => .rz x S1
  | _ => .stuck
theorem walkOk_range {ρ : List Addr} {H : Hp} (lo : Int) (k : Nat) : WalkOk T ρ H (rangeL lo k) none (Itr lo k) := by
  refine ⟨fun _ => True, YFn fun i => .int (lo + i), ?_, fun _ _ _ _ _ _ => trivial, fun i d ρ' H' S' x H'' e x' s' _ y => ?_⟩
  · unfold rangeL; rw [List.length_map, List.length_range]; exact walk_range
  · obtain ⟨rfl, rfl⟩ := y
    unfold rangeL at e
    rw [List.getElem?_map] at e
    cases q : (List.range k)[i]? with
    | none => rw [q] at e; cases e
    | some j =>
      rw [q] at e
      have : j = i := by
        rw [List.getElem?_range (by have := (List.getElem?_eq_some_iff.mp q).1; rwa [List.length_range] at this)] at q
        exact (Option.some.inj q).symm
      subst this
      cases e
      exact ⟨Grow.refl _, rfl⟩
theorem pmi_rng1 {tg : Expr} (hg : Gl X "range") (hm : X.mg "range" = none) (ha : PE X a (TM T W m)) (hs : starEach [a] X.env = [(false, eval a X.env)]) (hs2 : starEach [a] X.env = (false, eval a X.env) :: starEach [] X.env) : PI X tg (.Call (.Name "range" q) [a] [] pos) (TMI T W (mRng1 m)) :=
  (pi_range1 hg hm (pa_cons ha pa_nil hs2) hs).imp fun σ H R ⟨ρ, env, S, s, er, g⟩ => by
    refine ⟨ρ, env, S, s, er, ?_⟩
    unfold mRng1 at g
    cases hr : m env S with
    | stuck => rw [hr] at g; exact g.elim
    | rz x S1 => rw [hr] at g; exact g
    | ok o S1 =>
      rw [hr] at g
      intro v ρ1 H1 x1 s1 p1
      cases o with
      | new o => exact g.elim
      | val d => cases d with
        | int j =>
          cases p1
          dsimp only at g
          cases h : decide (-1000000 < j) && decide (j < 1000000) with
          | false => rw [h] at g; exact g.elim
          | true =>
            rw [h] at g
            obtain ⟨h1, h2⟩ := Bool.and_eq_true_iff.mp h
            have h1 := of_decide_eq_true h1
            have h2 := of_decide_eq_true h2
            exact ⟨j, rfl, by omega, by omega, g _ ρ1 H1 x1 s1 (walkOk_range 0 _)⟩
        | non => exact g.elim
        | bl _ => exact g.elim
        | str _ => exact g.elim
        | tup _ => exact g.elim
        | ref _ => exact g.elim
        | scr _ => exact g.elim
def mRng2 (m n : MX) : MI := fun env S => match m env S with
  | .ok (.val (.int i)) S1 => match n env S1 with
    | .ok (.val (.int j)) S2 => if decide (-1000000 < i) && decide (i < 1000000) && decide (-1000000 < j) && decide (j < 1000000) then .ok (rangeL i (j - i).toNat) none S2 else .stuck
    | .rz x S2 => .rz x S2
    | _ => .stuck
  | .rz x S1 => .rz x S1
  | _ => .stuck
theorem pmi_rng2 {tg : Expr} (hg : Gl X "range") (hm : X.mg "range" = none) (ha : PE X a (TM T W m)) (hb : PE X b (TM T W n)) (hs : starEach [a, b] X.env = [(false, eval a X.env), (false, eval b X.env)]) (hs2 : starEach [b] X.env = [(false, eval b X.env)])
    (hs3 : starEach [a, b] X.env = (false, eval a X.env) :: starEach [b] X.env) (hs4 : starEach [b] X.env = (false, eval b X.env) :: starEach [] X.env) : PI X tg (.Call (.Name "range" q) [a, b] [] pos) (TMI T W (mRng2 m n)) :=
  (pi_range2 hg hm (pa_cons ha (pa_cons hb pa_nil hs4) hs3) hs hs2).imp fun σ H R ⟨ρ, env, S, s, er, g⟩ => by
    refine ⟨ρ, env, S, s, er, ?_⟩
    unfold mRng2 at g
    cases hr : m env S with
    | stuck => rw [hr] at g; exact g.elim
    | rz x S1 => rw [hr] at g; exact g
    | ok o S1 =>
      rw [hr] at g
      intro v ρ1 H1 x1 s1 p1
      refine ⟨ρ1, env, S1, s1, er.ext x1 s, ?_⟩
      cases o with
      | new o => exact g.elim
      | val d => cases d with
        | int i =>
          cases p1
          dsimp only at g
          cases hr2 : n env S1 with
          | stuck => rw [hr2] at g; exact g.elim
          | rz x S2 => rw [hr2] at g; exact fun ρ2 H2 cls d x2 s2 r2 => g ρ2 H2 cls d (x1.trans x2 s s1) s2 r2
          | ok o S2 =>
            rw [hr2] at g
            intro u ρ2 H2 x2 s2 p2
            cases o with
            | new o => exact g.elim
            | val d => cases d with
              | int j =>
                cases p2
                dsimp only at g
                cases h : decide (-1000000 < i) && decide (i < 1000000) && decide (-1000000 < j) && decide (j < 1000000) with
                | false => rw [h] at g; exact g.elim
                | true =>
                  rw [h] at g
                  simp only [Bool.and_eq_true, decide_eq_true_eq] at h
                  obtain ⟨⟨⟨h1, h2⟩, h3⟩, h4⟩ := h
                  exact ⟨i, j, rfl, ⟨by omega, by omega, by omega, by omega⟩, g _ ρ2 H2 (x1.trans x2 s s1) s2 (walkOk_range i _)⟩
              | non => exact g.elim
              | bl _ => exact g.elim
              | str _ => exact g.elim
              | tup _ => exact g.elim
              | ref _ => exact g.elim
              | scr _ => exact g.elim
        | non => exact g.elim
        | bl _ => exact g.elim
        | str _ => exact g.elim
        | tup _ => exact g.elim
        | ref _ => exact g.elim
        | scr _ => exact g.elim
/-- enumerate of a list -/
def enumL (k : Nat) : List Val → List Val
  | [] => []
  | d :: ds => .tup [.int (k : Nat), d] :: enumL (k + 1) ds
theorem enumL_get : ∀ (ds : List Val) (k i : Nat) (d : Val), (enumL k ds)[i]? = some d → ∃ d', ds[i]? = some d' ∧ d = .tup [.int ((k + i : Nat) : Int), d']
  | [], _, _, _, e => by simp [enumL] at e
  | c :: ds, k, 0, d, e => by
    unfold enumL at e
    exact ⟨c, rfl, by simpa using e.symm⟩
  | c :: ds, k, i + 1, d, e => by
    unfold enumL at e
    obtain ⟨d', h1, h2⟩ := enumL_get ds (k + 1) i d (by simpa using e)
    exact ⟨d', by simpa using h1, by rw [h2]; congr 4; omega⟩
theorem enumL_len : ∀ (ds : List Val) (k : Nat), (enumL k ds).length = ds.length
  | [], _ => rfl
  | d :: ds, k => by unfold enumL; rw [List.length_cons, enumL_len, List.length_cons]
def mEnumL (m : MX) : MI := fun env S => match m env S with
  | .ok (.new (.lst vs)) S1 => .ok (enumL 0 vs) none S1
  | .ok (.val (.ref l)) S1 => match rdL S1 (.val (.ref l)) with
    | some vs => .ok (enumL 0 vs) none (S1)
    | none => .stuck
  | .rz x S1 => .rz x S1
  | _ => .stuck
end
end MP

/-! F11: repr, enumerate, comprehensions, the module's constants. -/
namespace MP
open PySem L2 PySem.Spec PyProof.Rows

/-! ### repr of a tuple, a list of plain data -/
def rRepr (K : Frag) : List V → Hp → VK → Prop := fun xs H Q => ∃ a d, xs = [.ref a] ∧ Dp K H (.ref a) d ∧ d.showable = true ∧ d.hasDict = false ∧ d.depth < 30 ∧ d.shown.length ≤ sizeLine ∧ Q (.str d.shown) H
theorem call_repr {X : Cx} {k : Nat} (hr : RmG k X.A) : CallR X (.builtin "repr") (rRepr X.K) := by
  intro pins s σ H xs us Q I r h
  obtain ⟨a, d, rfl, hd, h1, h2, h3, h4, q⟩ := h
  obtain ⟨u, rfl, ru⟩ := vals1 r
  obtain rfl : u = Value.ref a := ru
  obtain ⟨as, rd⟩ := Dp.reads I d _ _ hd rfl
  refine repr_of_reads' rd h1 (fun h' => by rw [h2] at h'; cases h') hr.gd (by have := hr.rm.un; omega) (fun b o e => e) (fun h' u tk hk => ?_) h4
  exact ⟨.str d.shown, H, I.kept (t' := tk) hk, ⟨u, rfl⟩, q⟩
def seqD : PyData → Bool
  | .list _ => true
  | .tuple _ => true
  | _ => false
def fRepr : F1 := fun S o => match pdO S o with
  | some d => if seqD d && d.showable && !d.hasDict && decide (d.depth < 30) && okLen d.shown.length then vS d.shown else none
  | none => none
theorem seq_ref {K : Frag} {H : Hp} {v : V} {d : PyData} (h : Dp K H v d) (q : seqD d = true) : ∃ a, v = .ref a := by
  cases h with
  | lst _ _ => exact ⟨_, rfl⟩
  | tup _ _ => exact ⟨_, rfl⟩
  | non => cases q
  | bl _ => cases q
  | int _ => cases q
  | str _ => cases q
theorem ok_repr {T : Tx} : UnOk T (fun x H Q => rRepr T.K [x] H Q) fRepr := by
  intro W H ρ S x v Q s px g
  unfold fRepr at g
  split at g
  · rename_i d hd
    split at g
    · rename_i h
      simp only [Bool.and_eq_true, decide_eq_true_eq, Bool.not_eq_true'] at h
      obtain ⟨⟨⟨⟨h1, h2⟩, h3⟩, h4⟩, h5⟩ := h
      have dp := pdO_dp s hd px
      obtain ⟨a, rfl⟩ := seq_ref dp h1
      exact ⟨a, d, rfl, dp, h2, h3, h4, okLen_le h5, g.val s rfl⟩
    · exact g.elim
  · exact g.elim

section
variable {X : Cx} {T : Tx} {W : WX} {a b c e o : Expr} {m n p : MX} {pos q apos cpos : Pos} {D : Ends} {σ : L2.St} {H : Hp} {x : Str}
/-! ### enumerate -/
def mEnum (m : MX) : MI := fun env S => match m env S with
  | .ok (.new (.lst vs)) S1 => .ok (enumL 0 vs) none S1
  | .ok (.val (.ref l)) S1 => match rdL S1 (.val (.ref l)) with
    | some vs => .ok (enumL 0 vs) (some (l, vs)) S1
    | none => .stuck
  | .rz x S1 => .rz x S1
  | _ => .stuck
theorem enum_item {K : Frag} {H H' : Hp} {ρ : List Addr} {S : Store} {ds : List Val} {xs : List V} {i : Nat} {d : Val} {x : V} (s : SR K H ρ S) (r : VRs K H ρ ds xs) (e : (enumL 0 ds)[i]? = some d)
    (y : ∃ (T : Addr) (x' : V), x = .ref T ∧ H T = none ∧ H' = upd H T (.tup [.int (i : Nat), x']) ∧ xs[i]? = some x') : Grow H H' ∧ VR K H' ρ d x := by
  obtain ⟨T, x', rfl, hT, rfl, hx⟩ := y
  obtain ⟨d', h1, rfl⟩ := enumL_get ds 0 i d e
  obtain ⟨z, e1, r1⟩ := r.get h1
  rw [hx] at e1
  cases e1
  refine ⟨Grow.new hT, T, [.int (i : Nat), x'], rfl, SqT.of upd_same, .int (i : Nat), [x'], rfl, ?_, x', [], rfl, VR.ext (.grow (Grow.new hT)) s _ r1, rfl⟩
  rw [Nat.zero_add]
  rfl
theorem walkOk_enumNew {ρ : List Addr} {H : Hp} {S : Store} {ds : List Val} {a : Addr} {xs : List V} (s : SR T.K H ρ S) (n : a ∉ ρ) (h : H a = some (.lst xs)) (r : VRs T.K H ρ ds xs) : WalkOk T ρ H (enumL 0 ds) none (Ite T.K a) := by
  refine ⟨fun H => SqL T.K H a xs, fun i H v H' => ∃ (T : Addr) (x' : V), v = .ref T ∧ H T = none ∧ H' = upd H T (.tup [.int (i : Nat), x']) ∧ xs[i]? = some x', ?_, fun ρ' H' S' x s' _ => SqL.of (x.fix _ _ h n), fun i d ρ' H' S' x H'' e x' s' _ y => enum_item s' (VRs.ext x' s _ r) e y⟩
  rw [enumL_len, r.length]
  exact walk_enum.mono (fun _ h => h) fun i H v H' _ _ ⟨T, x1, x2, e1, e2, e3, e4, e5⟩ => ⟨T, x2, e1, e2, by rw [e3]; cases e4; rfl, e5⟩
theorem walkOk_enumLive {ρ : List Addr} {H : Hp} {S : Store} {ds : List Val} {a : Addr} {l : Nat} (s : SR T.K H ρ S) (hl : ρ[l]? = some a) : WalkOk T ρ H (enumL 0 ds) (some (l, ds)) (Ite T.K a) := by
  refine ⟨fun H => ∃ (xs : List V) (ρ' : List Addr), SqL T.K H a xs ∧ VRs T.K H ρ' ds xs,
    fun i H v H' => ∃ (T' : Addr) (x' : V), v = .ref T' ∧ H T' = none ∧ H' = upd H T' (.tup [.int (i : Nat), x']) ∧ ∀ xs, SqL T.K H a xs → xs[i]? = some x', ⟨fun i H hi ⟨xs, ρ', q, r⟩ => ?_, fun H ⟨xs, ρ', q, r⟩ => ?_, fun i H x H' hi _ y => y⟩, fun ρ' H' S' x s' hv => ?_, fun i d ρ' H' S' x H'' e x' s' hv y => ?_⟩
  · rw [enumL_len, r.length] at hi
    exact ⟨xs, xs[i], q, by simp [hi]⟩
  · exact ⟨xs, q, by rw [enumL_len, r.length]; exact Nat.le_refl _⟩
  · obtain ⟨a', xs, e, ha, ra⟩ := rdL_at s' (hv l ds rfl) (show OP T.K H' ρ' (.val (.ref l)) (.ref a) from ⟨a, rfl, x.get hl⟩)
    cases e
    exact ⟨xs, ρ', SqL.of ha, ra⟩
  · obtain ⟨a', xs, e', ha, ra⟩ := rdL_at s' (hv l ds rfl) (show OP T.K H' ρ' (.val (.ref l)) (.ref a) from ⟨a, rfl, x'.get hl⟩)
    cases e'
    obtain ⟨T', x1, e1, e2, e3, e4⟩ := y
    exact enum_item s' ra e ⟨T', x1, e1, e2, e3, e4 xs (SqL.of ha)⟩
theorem pmi_enum (hK : X.K = T.K) {elts : List Expr} {kk : Nat} {tpos : Pos} (hg : Gl X "enumerate") (hm : X.mg "enumerate" = none) (ha : PE X e (TM T W m)) (hs : starEach [e] X.env = [(false, eval e X.env)]) (hs2 : starEach [e] X.env = (false, eval e X.env) :: starEach [] X.env) :
    PI X (.Tuple elts kk tpos) (.Call (.Name "enumerate" q) [e] [] pos) (TMI T W (mEnum m)) :=
  (pi_enum hg hm (pa_cons ha pa_nil hs2) hs).imp fun σ H R ⟨ρ, env, S, s, er, g⟩ => by
    refine ⟨ρ, env, S, s, er, ?_⟩
    unfold mEnum at g
    cases hr : m env S with
    | stuck => rw [hr] at g; exact g.elim
    | rz x S1 => rw [hr] at g; exact g
    | ok o S1 =>
      rw [hr] at g
      intro v ρ1 H1 x1 s1 p1
      cases o with
      | new ob => cases ob with
        | lst vs =>
          obtain ⟨a, rfl, n, n2, xs, ha, ra⟩ := p1
          exact ⟨a, xs, rfl, SqL.of ha, by rw [hK]; exact g _ ρ1 H1 x1 s1 (walkOk_enumNew s1 n2 ha ra)⟩
        | dct _ => exact g.elim
        | ins _ _ => exact g.elim
      | val d => cases d with
        | ref l =>
          replace g : (match (match rdL S1 (.val (.ref l)) with | some vs => RI.ok (enumL 0 vs) (some (l, vs)) S1 | none => .stuck) with
            | .ok ds live S' => ∀ J ρ' H', Ext ρ H ρ' H' → SR T.K H' ρ' S' → WalkOk T ρ' H' ds live J → R J H'
            | .rz x S' => ∀ ρ' H' cls d, Ext ρ H ρ' H' → SR T.K H' ρ' S' → XR T.K T.mg H' ρ' x cls d → W cls d σ H'
            | .stuck => False) := g
          cases hv : rdL S1 (.val (.ref l)) with
          | none => rw [hv] at g; exact g.elim
          | some vs =>
            rw [hv] at g
            obtain ⟨a, xs, rfl, ha, ra⟩ := rdL_at s1 hv p1
            obtain ⟨a', e, hl⟩ := p1
            cases e
            exact ⟨a, xs, rfl, SqL.of ha, by rw [hK]; exact g _ ρ1 H1 x1 s1 (walkOk_enumLive s1 hl)⟩
        | non => exact g.elim
        | bl _ => exact g.elim
        | int _ => exact g.elim
        | str _ => exact g.elim
        | tup _ => exact g.elim
        | scr _ => exact g.elim

/-! ### the module's constants -/
theorem pm_glob {u : Value} {d : Val} {v : V} (hg : Gl X x) (hm : X.mg x = some u) (r : RelV v u) (hv : ∀ H ρ, VR T.K H ρ d v) (hd : (x == ("__debug__" : Str)) = false) : PE X (.Name x pos) (TM T W (mC d)) :=
  (pe_glob hg hm r hd).imp fun σ H Q ⟨ρ, env, S, s, er, g⟩ => g.val s (hv H ρ)

/-! ### comprehensions -/
theorem ptm_nil : PTs X [] (TMT T W (mC (.bl true))) := ⟨fun pins s σ H Q I ⟨ρ, env, S, sr, er, g⟩ => pts_nil.run pins s σ H Q I (by
  obtain ⟨b, e, q⟩ := g (.bl true) ρ H (Ext.refl _ _) sr rfl
  cases e
  exact q)⟩
theorem ptm_one (h : PT X c (TMT T W p)) : PTs X [c] (TMT T W p) := pts_one h
theorem pm_lc {elt tg iter : Expr} {ifs : List Expr} {scope : Scope} {own : List (Str × Nat)} {mi : MI} {t : Tgt} {g : TG} (hc : X.calm = true) (hN : X.N.Nodup) (hg : GOk T g t) (hsl : ∀ i ∈ t.slots, i ∈ own.map (·.2)) (ok : BlkOk X.N X.env.scope scope own) (hi : PI X tg iter (TMI T W mi))
    (hpg : ∀ (s : Shared) (H : Hp) (C : Addr) (cl : List (Str × Addr)) (fp : List Addr), PG (X.blk s H scope (compEnvC scope cl C X.env) fp) tg g) (ht : ∀ (s : Shared) (H : Hp) (C : Addr) (cl : List (Str × Addr)) (fp : List Addr), PTs (X.blk s H scope (compEnvC scope cl C X.env) fp) ifs (TMT T W0 n))
    (he : ∀ (s : Shared) (H : Hp) (C : Addr) (cl : List (Str × Addr)) (fp : List Addr), PE (X.blk s H scope (compEnvC scope cl C X.env) fp) elt (TM T W0 m)) (hs : ∀ x, foldedSetIterable iter X.env x = pure x) :
    PE X (.ListComp elt [⟨tg, iter, ifs, 0⟩] scope pos) (TM T W (mComp mi t n m (own.map (·.2)))) :=
  (pe_lc hc hN hi ok hpg ht he hs).imp fun σ H Q h => tm_comp hg hsl h
theorem psm_setLc {i : Nat} {y : Str} {py spos : Pos} {elt tg iter : Expr} {ifs : List Expr} {scope : Scope} {own : List (Str × Nat)} {mi : MI} {t : Tgt} {g : TG} (hc : X.calm = true) (hN : X.N.Nodup) (hy : X.N[i]? = some y) (hyl : X.env.scope.names.lookup y = some .local)
    (hsw : swapsWith (.ListComp elt [⟨tg, iter, ifs, 0⟩] scope pos) (some (.Name y py)) spos.line X.env = pure true) (hg : GOk T g t) (hsl : ∀ i ∈ t.slots, i ∈ own.map (·.2)) (ok : BlkOk X.N X.env.scope scope own) (hi : PI X tg iter (TMI T W mi))
    (hpg : ∀ (s : Shared) (H : Hp) (C : Addr) (cl : List (Str × Addr)) (fp : List Addr), PG (X.blk s H scope (compEnvC scope cl C X.env) fp) tg g) (ht : ∀ (s : Shared) (H : Hp) (C : Addr) (cl : List (Str × Addr)) (fp : List Addr), PTs (X.blk s H scope (compEnvC scope cl C X.env) fp) ifs (TMT T W0 n))
    (he : ∀ (s : Shared) (H : Hp) (C : Addr) (cl : List (Str × Addr)) (fp : List Addr), PE (X.blk s H scope (compEnvC scope cl C X.env) fp) elt (TM T W0 m)) (hs : ∀ x, foldedSetIterable iter X.env x = pure x) :
    PS X (.Assign [.Name y py] (.ListComp elt [⟨tg, iter, ifs, 0⟩] scope pos) spos) (TMS T W (sAsg (.nm i) (mComp mi t n m (own.map (·.2))))) :=
  (ps_setLc hc hN hy hyl hsw hi ok hpg ht he hs).imp fun D σ H h => tms_asg gok_nm (fun _ q => tm_comp hg hsl q) h
end
end MP

/-! F12: own errors: made, raised, caught. -/
namespace MP
open PySem L2 PySem.Spec PyProof.Rows

/-! ### __init__(self, f): ValueError.__init__(self, ..); self.f = f -/
def spI (C : Addr) (f : Str) : Sp := fun vs H Q E => ∃ (a : Addr) (i : Int), vs = [.ref a, .int i] ∧ i.natAbs.log2 < 1900 ∧ H a = some (exo a C none) ∧ ∀ dx, H dx = none → dx ≠ a → Q .non (upd (upd H dx (exd dx [(f, .int i)])) a (exo a C (some dx)))
section
variable {X : Cx} {T : Tx} {W : WX} {a b c e o : Expr} {m n p : MX} {pos q apos cpos : Pos} {D : Ends} {σ : L2.St} {H : Hp} {x : Str}
/-- C(e) where e is a small int: field f holds it -/
def one1 : List Val → Option Int
  | [.int i] => some i
  | _ => none
theorem one1_eq {ds : List Val} {i : Int} (h : one1 ds = some i) : ds = [.int i] := by
  unfold one1 at h
  split at h
  · cases h; rfl
  · cases h
def sRaise (cls f : Str) (as : MAs) : MS := fun env S => match as env S with
  | .ok ds S1 => match one1 ds with
    | some i => if decide (i.natAbs.log2 < 1900) then .rz ⟨cls, [(f, .int i)]⟩ env S1 else .stuck
    | none => .stuck
  | .rz x S1 => .rz x env S1
  | .stuck => .stuck
theorem exo_lst {e C : Addr} {d : Option Addr} {xs : List V} : exo e C d ≠ .lst xs := fun z => by
  have z' : HO.ext _ = HO.lst xs := z
  cases z'
theorem psm_raise {cls f : Str} {as : MAs} {C fI : Addr} {k : Nat} {fd : FuncData} {ps : List Str} {p2 : Pos} {es : List Expr} (hc : X.calm = true) (TO : OexC X.K C) (iC : PySem.W.findIn X.K (.ref C) "__init__" = some (some (.ref fI))) (tI : PySem.W.typeIn X.K (.ref fI) = some (.type "function"))
    (F1 : FnOk X.prog X.w X.K X.mg X.base (L2.CX X.prog X.w) k fI fd ps (spI C f)) (hr : Room (k + 1) X.A) (hb : Binds X.K fd ps []) (hg : Gl X cls) (hm : X.mg cls = some (.ref C)) (hmT : T.mg cls = some (.ref C)) (tk : Takes X W) (ha : PA X (e :: es) (TMA T W as))
    (hdb : (cls == ("__debug__" : Str)) = false) (he : starEach (e :: es) X.env = (false, eval e X.env) :: starEach es X.env) (hpl : (backTo q (starEach es X.env)).any (·.1) = false) :
    PS X (.Raise (some (.Call (.Name cls p2) (e :: es) [] q)) none pos) (TMS T W (sRaise cls f as)) :=
  (ps_raise (W := W) hc tk (pmk_oex (dvs := []) TO iC tI F1 hr hb .nil (fun _ _ _ _ _ _ _ ⟨_, _, _, _, _, _, _, _, _, _, _, _, z⟩ => z.elim) hg hm ha hdb he hpl)).imp fun D σ H ⟨ρ, env, S, s, er, g⟩ => by
    show TMA T W as σ H fun vs H1 => vs.length ≤ 1000 ∧ ∀ a, H1 a = none → spI C f (.ref a :: (vs ++ [])) (upd H1 a (exo a C none)) (fun v H2 => v = .non ∧ ∃ (d : Addr) (fs : List (Str × V)), H2 a = some (exo a C (some d)) ∧ H2 d = some (exd d fs) ∧ H1 d = none ∧ W (.ref C) (some d) σ (upd (del H2 a) d (.xd fs))) (fun _ _ _ => False)
    refine ⟨ρ, env, S, s, er, ?_⟩
    unfold sRaise at g
    cases hr : as env S with
    | stuck => rw [hr] at g; exact g.elim
    | rz x S1 =>
      rw [hr] at g
      exact fun ρ' H' cls d x' s' r' => g ρ' σ H' cls d x' s' (er.ext x' s) r'
    | ok ds S1 =>
      rw [hr] at g
      intro vs ρ1 H1 x1 s1 r1
      dsimp only at g
      cases h1 : one1 ds with
      | none => rw [h1] at g; exact g.elim
      | some i =>
        rw [h1] at g
        obtain rfl := one1_eq h1
        obtain ⟨v, t, e1, r2, r3⟩ := r1
        cases r2
        obtain rfl : t = [] := r3
        subst e1
        dsimp only at g
        cases hi : decide (i.natAbs.log2 < 1900) with
        | false => rw [hi] at g; exact g.elim
        | true =>
          rw [hi] at g
          refine ⟨by show 1 ≤ 1000; decide, fun a ha => ⟨a, i, rfl, of_decide_eq_true hi, upd_same, fun dx hdx nda => ⟨rfl, dx, [(f, .int i)], upd_same, by rw [upd_ne nda, upd_same], ?_, ?_⟩⟩⟩
          · rw [upd_ne nda] at hdx; exact hdx
          · rw [upd_ne nda] at hdx
            have gr : Grow H1 (upd (del (upd (upd (upd H1 a (exo a C none)) dx (exd dx [(f, .int i)])) a (exo a C (some dx))) a) dx (.xd [(f, .int i)])) := fun b o e => by
              have n1 : b ≠ dx := ne_of_none e hdx
              have n2 : b ≠ a := ne_of_none e ha
              rw [upd_ne n1, del_ne n2, upd_ne n2, upd_ne n1, upd_ne n2]
              exact e
            exact g ρ1 σ _ _ _ (x1.trans (.grow gr) s s1) (s1.grow gr) ((er.ext x1 s).ext (.grow gr) s1) ⟨C, hmT, rfl, .inr ⟨dx, [(f, .int i)], rfl, upd_same, .int i, [], rfl, rfl, rfl⟩⟩
/-! ### try: .. except C as n: y = n.f -/
theorem FRs.lookup {K : Frag} {H : Hp} {ρ : List Addr} {f : Str} : ∀ {ds : List (Str × Val)} {xs : List (Str × V)} {d : Val}, FRs K H ρ ds xs → ds.lookup f = some d → ∃ v, xs.lookup f = some v ∧ VR K H ρ d v
  | [], _, _, _, e => by cases e
  | (g, d') :: ds, _, d, ⟨x, r, e1, h1, h2⟩, e => by
    subst e1
    rw [List.lookup_cons] at e ⊢
    cases hq : f == g with
    | true => rw [hq] at e; cases e; exact ⟨x, rfl, h1⟩
    | false => rw [hq] at e; exact FRs.lookup h2 e
def sTryF (cat : Str → Option Bool) (i j : Nat) (f : Str) (s : MS) : MS := fun env S => match s env S with
  | .rz x e S1 => match cat x.cls with
    | some true => match x.fs.lookup f with
      | some v => if decide (i < e.length) then .nx ((e.set j (some v)).set i none) S1 else .stuck
      | none => .stuck
    | some false => .rz x e S1
    | none => .stuck
  | .nx e S1 => .nx e S1
  | .ret o S1 => .ret o S1
  | .brk e S1 => .brk e S1
  | .cnt e S1 => .cnt e S1
  | .stuck => .stuck
theorem ER.unset {K : Frag} {H : Hp} {ρ : List Addr} {env : Env} {σ : L2.St} (er : ER K H ρ env σ) (i : Nat) (w : Option V) : ER K H ρ (env.set i none) (σ.set i w) := by
  refine ⟨by rw [List.length_set, List.length_set, er.1], fun j d e => ?_⟩
  by_cases h : i = j
  · subst h
    by_cases hl : i < env.length
    · rw [List.getElem?_set_self hl] at e; cases e
    · rw [List.getElem?_eq_none (by rw [List.length_set]; omega)] at e; cases e
  · rw [List.getElem?_set_ne h] at e ⊢
    exact er.2 j d e
theorem psm_tryF {cat : Str → Option Bool} {cn n y f : Str} {cv : Value} {i j : Nat} {body : List Stmt} {s : MS} {np yp ep ap sp pos' : Pos} (hK : X.K = T.K) (hs : X.stack = X.env :: X.outer) (hf : X.env.frame = some X.env.locals) (hN : X.N.Nodup) (hi : X.N[i]? = some n) (hj : X.N[j]? = some y) (hij : i ≠ j)
    (hln : X.env.kindOf n = some .local) (hly : X.env.scope.names.lookup y = some .local) (hc : Names X cn cv) (tk : Takes X W)
    (hcat : ∀ z b C', cat z = some b → T.mg z = some (.ref C') → PySem.W.exmOne X.K (.ref C') cv = some b) (hfld : ∀ z C', cat z = some true → T.mg z = some (.ref C') → XfC X.K C' ∧ PySem.W.findIn X.K (.ref C') f = some none)
    (hdb : (n == ("__debug__" : Str)) = false) (hcd : (n == ("__classdict__" : Str)) = false) (hat : attributeBase (.Name n ep) f X.env (eval (.Name n ep) X.env) = eval (.Name n ep) X.env) (hsw : swapsWith (.Attribute (.Name n ep) f ap) (some (.Name y yp)) sp.line X.env = pure false)
    (hb : ∀ (W : WX) (pn : List (Addr × PySem.Obj)) (xe : Value → Shared → Prop), Takes (X.tr pn xe) W → PassesOwn (model X.prog X.w) X.A X.env xe → PSs (X.tr pn xe) body (TMS T W s)) :
    PS X (.Try body [.ExceptHandler (some (.Name cn np)) (some n) [.Assign [.Name y yp] (.Attribute (.Name n ep) f ap) sp] pos'] [] [] pos) (TMS T W (sTryF cat i j f s)) := by
  have hsu : ∀ (a : Addr) (oe : PySem.Obj) (cls : Value) (d : Option Addr) (pn : List (Addr × PySem.Obj)), Zc cls d oe → (∃ vs, oe.data = .fields vs) → PSs (X.suite a ((a, oe) :: pn)) [.Assign [.Name y yp] (.Attribute (.Name n ep) f ap) sp]
      (fun D σ H => ∃ C, XfC X.K C ∧ PySem.W.findIn X.K (.ref C) f = some none ∧ tAsg (tXf a cls d C f (tVar i)) (gName j) D σ H) := fun a oe cls d pn hz hfd => ⟨fun pins s σ H D I ⟨C, h1, h2, h3⟩ =>
    (pss_one (ps_set (X := X.suite a ((a, oe) :: pn)) hN hj (.inl hly) (pe_xf h1 h2 hz hfd (pe_var hi (.inl hln) hdb hcd) hat) hsw (.inr hly))).run pins s σ H D I h3⟩
  refine (ps_try_as hs hf hN hi hln hc tk hb hsu).imp fun D σ H ⟨ρ, env, S, sr, er, g⟩ => ⟨ρ, env, S, sr, er, ?_⟩
  unfold sTryF at g
  cases hr : s env S with
  | stuck => rw [hr] at g; exact g.elim
  | nx e S1 => rw [hr] at g; exact g
  | ret o S1 => rw [hr] at g; exact g
  | brk e S1 => rw [hr] at g; exact g
  | cnt e S1 => rw [hr] at g; exact g
  | rz x e S1 =>
    rw [hr] at g
    intro ρ1 σ1 H1 cls d x1 s1 er1 xr
    dsimp only at g
    cases hcx : cat x.cls with
    | none => rw [hcx] at g; exact g.elim
    | some b =>
      rw [hcx] at g
      obtain ⟨C, hC, rfl, hd⟩ := xr
      refine ⟨b, hcat _ _ _ hcx hC, fun hbt a ha => ?_, fun hbf => ?_⟩
      · subst hbt
        dsimp only at g
        cases hv : x.fs.lookup f with
        | none => rw [hv] at g; exact g.elim
        | some v =>
          rw [hv] at g
          rcases hd with ⟨e0, _⟩ | ⟨dx, fs', rfl, hdx, rf⟩
          · rw [e0] at hv; cases hv
          · obtain ⟨w, hw, rw'⟩ := FRs.lookup rf hv
            obtain ⟨hX, hno⟩ := hfld _ _ hcx hC
            dsimp only at g
            cases hl : decide (i < e.length) with
            | false => rw [hl] at g; exact g.elim
            | true =>
              rw [hl] at g
              have hl : i < σ1.length := by rw [← er1.1]; exact of_decide_eq_true hl
              refine ⟨C, hX, hno, ?_⟩
              have key : ER T.K H1 ρ1 ((e.set j (some v)).set i none) (((σ1.set i (some (.ref a))).set j (some w)).set i none) := by
                have h1 := (er1.set j rw').unset i none
                have h2 : ((σ1.set i (some (V.ref a))).set j (some w)).set i none = (σ1.set j (some w)).set i none := by
                  rw [List.set_comm _ _ hij, List.set_set]
                rw [h2]; exact h1
              exact ⟨.ref a, List.getElem?_set_self hl, rfl, rfl, dx, fs', w, rfl, hdx, hw, g ρ1 _ H1 x1 s1 key⟩
      · subst hbf
        exact g ρ1 σ1 H1 _ d x1 s1 er1 ⟨C, hC, rfl, hd⟩
end
end MP

/-! F13: the ends of a law's row (turned from the kit's own ends, for promises that know the guards). -/
namespace MP
open PySem L2 PySem.Spec PyProof.Rows
theorem law_callG {P : Program} {w : World} {K : PySem.W.Frag} {mg mb : Str → Option Value} {CX : CXT} {k : Nat} {fa a : Addr} {fd : FuncData} {x : Str} {sp : Sp} {s₁ : Shared} {vs : List Value} {ns : List Int}
    (KX : K.In s₁.heap) (hns : s₁.heap.Ns mainGlobals mg) (hb : s₁.heap.Ns builtinsNs mb) (hbb : ∀ x : Str, x ≠ "__name__" → mb x = bootBuiltins x) (hlim : s₁.heap.NoLimit) (hg : s₁.gens = #[])
    (ha : s₁.heap.get? a = some { cls := .type "list", data := .seq vs.toArray }) (hi : IntsAre vs ns) (hl : ns.length ≤ sizeLine) (hr : RmG k callerA)
    (F : ∀ base : Heap, K.In base → base.Ns mainGlobals mg → FnG P w K mg base CX k fa fd [x] sp) (hbind : ∀ (s : Shared) (u : Value), BindsTo s fd ⟨[u], []⟩ [(x, u)])
    (hsp : ∀ H : Hp, Only H → SqL K H a (ns.map V.int) → sp [.ref a] H (fun v _ => v = .bl true) fun _ _ _ => False)
    (hCX : ∀ H e s', CX [] H s₁ (fun _ _ _ => False) e s' → False) :
    codeAny (model P w) callerA (.call (.ref fa) ⟨[.ref a], []⟩) (fun r s' => r = .ok (.ret (.bool true)) ∧ OldK s₁.heap s'.heap ∧ s'.os = s₁.os ∧ AllBare s'.gens) s₁ := by
  have rv := vals_ints hi
  have lenV := hi.length
  -- from an abstract heap in which nothing but the script may be tracked
  have core : ∀ H : Hp, Only H → SqL K H a (ns.map V.int) → HOk P w H s₁.heap → (∀ b, H b ≠ none → b = a) → (H a ≠ none → K.lookup a = none) →
      codeAny (model P w) callerA (.call (.ref fa) ⟨[.ref a], []⟩) (fun r s' => r = .ok (.ret (.bool true)) ∧ OldK s₁.heap s'.heap ∧ s'.os = s₁.os ∧ AllBare s'.gens) s₁ := by
    intro H hO hS hok hA hK
    have base_of : ∀ {b : Addr} {o : PySem.Obj}, s₁.heap.get? b = some o → H b = none → (hidT s₁.heap H).get? b = some o := fun e n => hidT_get e n
    have noA : ∀ {b : Addr} {o : PySem.Obj} {es : Array DictEntry} {ep : Nat}, s₁.heap.get? b = some o → o.data = .dict es ep → H b = none := fun {b o es ep} e d => by
      cases q : H b with
      | none => rfl
      | some u =>
        have e' : b = a := hA b (by rw [q]; simp)
        subst e'
        rw [ha] at e; cases e
        have d' : Data.seq vs.toArray _ = Data.dict es ep := d
        cases d'
    have nsK : ∀ {b : Addr} {m : Str → Option Value}, s₁.heap.Ns b m → (hidT s₁.heap H).Ns b m := fun {b m} ⟨o, es, ep, e, d, r⟩ => ⟨o, es, ep, base_of e (noA e d), d, r⟩
    have hKb : K.In (hidT s₁.heap H) := fun b o e => base_of (KX b o e) (by
      cases q : H b with
      | none => rfl
      | some u =>
        have e' : b = a := hA b (by rw [q]; simp)
        subst e'
        rw [hK (by rw [q]; simp)] at e; cases e)
    have hM : Mod K mg (hidT s₁.heap H) := ⟨hKb, nsK hns, ⟨mb, nsK hb, hbb⟩, let ⟨mc, h1, h2⟩ := hlim; ⟨mc, nsK h1, h2⟩⟩
    have e0 : Env0 P w K mg (hidT s₁.heap H) callerA [] s₁ H := ⟨rfl, hM, fun b o e => of_hidT e, Nat.le_of_eq (hidT_size _ _), trivial, fun b hb => absurd (show b ∈ ([] : List Addr) from hb) (by simp), hok, .of_eq hg⟩
    refine codeAny_mono ((F _ hKb (nsK hns)).run callerA [] s₁ H ⟨[.ref a], []⟩ [.ref a] [.ref a] _ _ hr e0 (hbind s₁ (.ref a)) (.cons rfl .nil) (hsp H hO hS)) fun r s' h => ?_
    cases r with
    | error e => exact (hCX H e s' h).elim
    | ok fl =>
      cases fl with
      | next => exact False.elim h
      | brk => exact False.elim h
      | cont => exact False.elim h
      | ret u =>
        obtain ⟨v, H', os, bare, un, hok', r', q⟩ := h
        have q' : v = .bl true := q
        subst q'
        obtain rfl : u = Value.bool true := r'
        refine ⟨rfl, OldK.of_keep fun b o e => ?_, os, bare⟩
        cases q : H b with
        | none => exact un.keep b o e q (by intro z; exact absurd (show b ∈ ([] : List Addr) from z) (by simp)) (by simp)
        | some u =>
          rcases hO b with z | ⟨ob, xs, z⟩
          · rw [q] at z; cases z
          · have z2 := un.frzs b ob _ z
            obtain ⟨e1, _⟩ := hok b _ z
            obtain ⟨e2, _⟩ := hok' b _ z2
            rw [e] at e1; cases e1
            exact e2
  cases hk : K.lookup a with
  | some o =>
    -- the script is one of the module's own objects
    have e := KX a o hk
    rw [ha] at e
    cases e
    refine core (fun _ => none) (fun _ => .inl rfl) (.inr ⟨_, vs.toArray, _, hk, rfl, rfl, rfl, by rw [List.size_toArray, lenV]; exact hl, by simpa using rv⟩) (fun b u z => by have z' : (none : Option HO) = some u := z; cases z') (fun b z => absurd rfl z) fun z => absurd rfl z
  | none =>
    refine core (fun b => if b = a then some (.frz { cls := .type "list", data := .seq vs.toArray } (.lst (ns.map V.int))) else none) (fun b => ?_) (.inl (.inr ⟨{ cls := .type "list", data := .seq vs.toArray }, if_pos rfl⟩)) (fun b u z => ?_) (fun b z => ?_) fun _ => hk
    · by_cases hb : b = a
      · exact .inr ⟨_, _, if_pos hb⟩
      · exact .inl (if_neg hb)
    · by_cases hb : b = a
      · have z' := (if_pos hb).symm.trans z
        cases z'
        subst hb
        exact ⟨ha, by rw [List.length_map]; exact hl, vs, _, rv, ha⟩
      · have z' := (if_neg hb).symm.trans z
        cases z'
    · by_cases hb : b = a
      · exact hb
      · exact absurd (if_neg hb) z
theorem walk_ofG {l : PySem.W.OpenLaw} {n k : Nat} {q : Program} {loose : List Str} {XP : (Str → Option Value) → Heap → Prop} {YP : World → Heap → Prop} {d : DefRec} {K : Params → PySem.W.Frag} {x : Str}
    (hn : l.most = some n) (hn2 : n ≤ sizeLine) (hdf : d.params.defaults = []) (hr : RmG k callerA)
    (hY : ∀ (w : World) (h : Heap), YP w h → (K w.params).In h)
    (F : ∀ (w : World) (mg : Str → Option Value) (fa : Addr) (h : Heap), (K w.params).In h → h.Ns mainGlobals mg → mg d.name = some (.ref fa) →
      ∃ (fd : FuncData) (sp : Sp), (∀ (s : Shared) (u : Value), BindsTo s fd ⟨[u], []⟩ [(x, u)]) ∧ (∀ (H : Hp) (a : Addr) (ns : List Int), ns.length ≤ n → Only H → SqL (K w.params) H a (ns.map V.int) → sp [.ref a] H (fun v _ => v = .bl true) fun _ _ _ => False) ∧
        ∀ base : Heap, (K w.params).In base → base.Ns mainGlobals mg → FnG l.prog w (K w.params) mg base (L2.CX l.prog w) k fa fd [x] sp) :
    PySem.W.WalkO q loose XP YP l.row.toRowW d [] (fun f vs => PySem.call f vs) := by
  refine Att.attach_call hn hdf fun w s₀ s₁ mg mb fa o pm cd doc a vs ns G Y ho hd hcd hmg hobj hints hlen hg => ?_
  have KX := hY w _ Y
  obtain ⟨fd, sp, hb, hsp, hF⟩ := F w mg fa _ KX G.T.g hmg
  exact law_callG KX G.T.g G.T.b G.T.builtins G.T.nolimit hg hobj hints (Nat.le_trans hlen hn2) hr hF hb (fun H hO hS => hsp H a ns hlen hO hS) fun H e s' h => by
    obtain ⟨_, _, _, _, _, _, _, _, _, _, _, _, z⟩ := h
    exact z
/-- the law by the little language: whatever the script, run gives True -/
theorem law_run {T : Tx} {K : Frag} (hK : T.K = K) {run : Run} {H : Hp} {a : Addr} {ns : List Int} (hO : Only H) (hS : SqL K H a (ns.map V.int)) (h : ∃ S, run [.scr ns] [] = .ok (.val (.bl true)) S) : spF T run [.ref a] H (fun v _ => v = .bl true) fun _ _ _ => False := by
  subst hK
  obtain ⟨S, e⟩ := h
  have f : SqF T.K H a (ns.map V.int) := by
    rcases hS with (h | ⟨o, h⟩) | h
    · rcases hO a with z | ⟨o, xs, z⟩
      · rw [z] at h; cases h
      · rw [z] at h; cases h
    · exact .inl ⟨o, h⟩
    · exact .inr h
  refine ⟨[], [], [.scr ns], ⟨rfl, .nil, fun l o a e => by simp at e⟩, ⟨.ref a, [], rfl, ⟨a, rfl, f⟩, rfl⟩, ?_⟩
  rw [e]
  intro v ρ' H' x s p
  exact p
end MP

/-! F14: the rules with their small print filled in. -/
namespace MP
open PySem L2 PySem.Spec PyProof.Rows

section
variable {X : Cx} {T : Tx} {W : WX} {a b c e o : Expr} {m n p : MX} {pos q apos cpos : Pos} {D : Ends} {σ : L2.St} {H : Hp} {x : Str} {k : Nat}
theorem yl (i : Nat) (hN : X.N[i]? = some x := by rfl) (hv : Vis X.env.scope x := by first | exact Or.inl rfl | exact Or.inr (Or.inl rfl) | exact Or.inr (Or.inr rfl)) (hd : (x == ("__debug__" : Str)) = false := by decide) (hcd : (x == ("__classdict__" : Str)) = false := by decide) : PE X (.Name x pos) (TM T W (mLoc i)) := pm_loc hN hv hd hcd
theorem yg {u : Value} {d : Val} {v : V} (hm : X.mg x = some u) (r : RelV v u) (hv : ∀ H ρ, VR T.K H ρ d v) (hg : Gl X x := by rfl) (hd : (x == ("__debug__" : Str)) = false := by decide) : PE X (.Name x pos) (TM T W (mC d)) := pm_glob hg hm r hv hd
theorem yadd (ha : PE X a (TM T W m)) (hb : PE X b (TM T W n)) (hK : X.K = T.K := by rfl) : PE X (.BinOp a .Add b pos) (TM T W (mBin fAdd m n)) := pm_bin (r := rAddAll T.K) (by rw [← hK]; exact op_addAll) ok_add ha hb
theorem ysub (ha : PE X a (TM T W m)) (hb : PE X b (TM T W n)) : PE X (.BinOp a .Sub b pos) (TM T W (mBin fSub m n)) := pm_bin op_sub ok_sub ha hb
theorem ymul (ha : PE X a (TM T W m)) (hb : PE X b (TM T W n)) : PE X (.BinOp a .Mult b pos) (TM T W (mBin fMul m n)) := pm_bin op_mulAll ok_mul ha hb
theorem ydiv (ha : PE X a (TM T W m)) (hb : PE X b (TM T W n)) : PE X (.BinOp a .FloorDiv b pos) (TM T W (mBin fDiv m n)) := pm_bin op_fdiv ok_div ha hb
theorem ymod (ha : PE X a (TM T W m)) (hb : PE X b (TM T W n)) : PE X (.BinOp a .Mod b pos) (TM T W (mBin fMod m n)) := pm_bin op_mod ok_mod ha hb
theorem ypow (ha : PE X a (TM T W m)) (hb : PE X b (TM T W n)) : PE X (.BinOp a .Pow b pos) (TM T W (mBin fPow m n)) := pm_bin op_pow ok_pow ha hb
/-! comparisons: as a value (y..), as a test (t..) -/
theorem ylt (ha : PE X a (TM T W m)) (hb : PE X b (TM T W n)) : PE X (.Compare a [.Lt] [b] pos) (TM T W (mBin fLt m n)) := pm_cmp op_lt ok_lt ha hb (nomark b)
theorem yle (ha : PE X a (TM T W m)) (hb : PE X b (TM T W n)) : PE X (.Compare a [.LtE] [b] pos) (TM T W (mBin fLe m n)) := pm_cmp op_le ok_le ha hb (nomark b)
theorem ygt (ha : PE X a (TM T W m)) (hb : PE X b (TM T W n)) : PE X (.Compare a [.Gt] [b] pos) (TM T W (mBin fGt m n)) := pm_cmp op_gt ok_gt ha hb (nomark b)
theorem yge (ha : PE X a (TM T W m)) (hb : PE X b (TM T W n)) : PE X (.Compare a [.GtE] [b] pos) (TM T W (mBin fGe m n)) := pm_cmp op_ge ok_ge ha hb (nomark b)
theorem yeq (hr : RmG k X.A) (ha : PE X a (TM T W m)) (hb : PE X b (TM T W n)) (hK : X.K = T.K := by rfl) : PE X (.Compare a [.Eq] [b] pos) (TM T W (mBin fEq m n)) := pm_cmp (r := rEqD T.K) (by rw [← hK]; exact op_eqD hr.rm.units) ok_eq ha hb (nomark b)
theorem yne (hr : RmG k X.A) (ha : PE X a (TM T W m)) (hb : PE X b (TM T W n)) (hK : X.K = T.K := by rfl) : PE X (.Compare a [.NotEq] [b] pos) (TM T W (mBin fNe m n)) := pm_cmp (r := rNeD T.K) (by rw [← hK]; exact op_neD hr.rm.units) ok_ne ha hb (nomark b)
theorem yin (ha : PE X a (TM T W m)) (hb : PE X b (TM T W n)) (hm : behindInMarks .In b = false := by with_unfolding_all rfl) (hK : X.K = T.K := by rfl) : PE X (.Compare a [.In] [b] pos) (TM T W (mBin (fIn false) m n)) := pm_cmp (r := rInAll T.K false) (by rw [← hK]; exact op_inAll) ok_in ha hb hm
theorem ynin (ha : PE X a (TM T W m)) (hb : PE X b (TM T W n)) (hm : behindInMarks .NotIn b = false := by with_unfolding_all rfl) (hK : X.K = T.K := by rfl) : PE X (.Compare a [.NotIn] [b] pos) (TM T W (mBin (fIn true) m n)) := pm_cmp (r := rInAll T.K true) (by rw [← hK]; exact op_notInAll) ok_in ha hb hm
theorem tlt (ha : PE X a (TM T W m)) (hb : PE X b (TM T W n)) : PT X (.Compare a [.Lt] [b] pos) (TMT T W (mBin fLt m n)) := pmt_cmp op_lt ok_lt ha hb (nomark b)
theorem tle (ha : PE X a (TM T W m)) (hb : PE X b (TM T W n)) : PT X (.Compare a [.LtE] [b] pos) (TMT T W (mBin fLe m n)) := pmt_cmp op_le ok_le ha hb (nomark b)
theorem tgt (ha : PE X a (TM T W m)) (hb : PE X b (TM T W n)) : PT X (.Compare a [.Gt] [b] pos) (TMT T W (mBin fGt m n)) := pmt_cmp op_gt ok_gt ha hb (nomark b)
theorem tge (ha : PE X a (TM T W m)) (hb : PE X b (TM T W n)) : PT X (.Compare a [.GtE] [b] pos) (TMT T W (mBin fGe m n)) := pmt_cmp op_ge ok_ge ha hb (nomark b)
theorem teq (hr : RmG k X.A) (ha : PE X a (TM T W m)) (hb : PE X b (TM T W n)) (hK : X.K = T.K := by rfl) : PT X (.Compare a [.Eq] [b] pos) (TMT T W (mBin fEq m n)) := pmt_cmp (r := rEqD T.K) (by rw [← hK]; exact op_eqD hr.rm.units) ok_eq ha hb (nomark b)
theorem tne (hr : RmG k X.A) (ha : PE X a (TM T W m)) (hb : PE X b (TM T W n)) (hK : X.K = T.K := by rfl) : PT X (.Compare a [.NotEq] [b] pos) (TMT T W (mBin fNe m n)) := pmt_cmp (r := rNeD T.K) (by rw [← hK]; exact op_neD hr.rm.units) ok_ne ha hb (nomark b)
theorem tin (ha : PE X a (TM T W m)) (hb : PE X b (TM T W n)) (hm : behindInMarks .In b = false := by with_unfolding_all rfl) (hK : X.K = T.K := by rfl) : PT X (.Compare a [.In] [b] pos) (TMT T W (mBin (fIn false) m n)) := pmt_cmp (r := rInAll T.K false) (by rw [← hK]; exact op_inAll) ok_in ha hb hm
theorem tnin (ha : PE X a (TM T W m)) (hb : PE X b (TM T W n)) (hm : behindInMarks .NotIn b = false := by with_unfolding_all rfl) (hK : X.K = T.K := by rfl) : PT X (.Compare a [.NotIn] [b] pos) (TMT T W (mBin (fIn true) m n)) := pmt_cmp (r := rInAll T.K true) (by rw [← hK]; exact op_notInAll) ok_in ha hb hm
theorem ttru (ha : PE X a (TM T W m)) (he : ∀ whole, isTrue a X.env whole = (do let v ← whole; standAt a.pos; holding [v] (truthy v)) := by intro _; rfl) (hK : X.K = T.K := by rfl) : PT X a (TMT T W (mUn fTru m)) := pmt_truth hK ha he
theorem tpw (h : PW X e (TMT T W m)) : PT X e (TMT T W m) := h.pt
/-! parts, displays, arguments -/
theorem yix (ha : PE X a (TM T W m)) (hb : PE X b (TM T W n)) (hs : PlainIx b := by intro _ _; rfl) (hK : X.K = T.K := by rfl) : PE X (.Subscript a b pos) (TM T W (mBin fIx m n)) := pm_ix hK ha hb hs
theorem ysl {l h : MX} {lo hi : Option Expr} {p2 : Pos} (ha : PE X a (TM T W m)) (hl : PO X lo (TMO T W l)) (hh : PO X hi (TMO T W h)) (hK : X.K = T.K := by rfl) : PE X (.Subscript a (.Slice lo hi none p2) pos) (TM T W (mSl m l h)) := pm_slice hK ha hl hh
theorem ac {es : List Expr} {as : MAs} (ha : PE X e (TM T W m)) (hr : PA X es (TMA T W as)) (hs : starEach (e :: es) X.env = (false, eval e X.env) :: starEach es X.env := by rfl) : PA X (e :: es) (TMA T W (aCons m as)) := pma_cons ha hr hs
/-! built-ins -/
theorem b_len (hm : X.mg "len" = none) (h : PE X e (TM T W m)) (hg : Gl X "len" := by rfl) (hs : starEach [e] X.env = (false, eval e X.env) :: starEach [] X.env := by rfl) (hpl : (backTo pos (starEach [] X.env)).any (·.1) = false := by rfl) (hK : X.K = T.K := by rfl) : PE X (.Call (.Name "len" q) [e] [] pos) (TM T W (mUn fLen m)) :=
  pm_b1 (f := .none) (r := rLenAll T.K) (by rw [← hK]; exact cr_lenAll) ok_len hg hm boot_len h (by decide) (by decide) hs hpl
theorem b_abs (hm : X.mg "abs" = none) (h : PE X e (TM T W m)) (hg : Gl X "abs" := by rfl) (hs : starEach [e] X.env = (false, eval e X.env) :: starEach [] X.env := by rfl) (hpl : (backTo pos (starEach [] X.env)).any (·.1) = false := by rfl) : PE X (.Call (.Name "abs" q) [e] [] pos) (TM T W (mUn fAbs m)) :=
  pm_b1 (f := .none) call_abs ok_abs hg hm boot_abs h (by decide) (by decide) hs hpl
theorem b_int (hm : X.mg "int" = none) (h : PE X e (TM T W m)) (hg : Gl X "int" := by rfl) (hs : starEach [e] X.env = (false, eval e X.env) :: starEach [] X.env := by rfl) (hpl : (backTo pos (starEach [] X.env)).any (·.1) = false := by rfl) : PE X (.Call (.Name "int" q) [e] [] pos) (TM T W (mUn fIntC m)) :=
  pm_t1 cr_intAll ok_intC hg hm boot_int h (by decide) (by decide) hs hpl
theorem b_str (hm : X.mg "str" = none) (h : PE X e (TM T W m)) (hg : Gl X "str" := by rfl) (hs : starEach [e] X.env = (false, eval e X.env) :: starEach [] X.env := by rfl) (hpl : (backTo pos (starEach [] X.env)).any (·.1) = false := by rfl) : PE X (.Call (.Name "str" q) [e] [] pos) (TM T W (mUn fStrC m)) :=
  pm_t1 call_str_int ok_strC hg hm boot_str h (by decide) (by decide) hs hpl
theorem b_tuple (hm : X.mg "tuple" = none) (h : PE X e (TM T W m)) (hg : Gl X "tuple" := by rfl) (hs : starEach [e] X.env = (false, eval e X.env) :: starEach [] X.env := by rfl) (hpl : (backTo pos (starEach [] X.env)).any (·.1) = false := by rfl) (hK : X.K = T.K := by rfl) : PE X (.Call (.Name "tuple" q) [e] [] pos) (TM T W (mUn fTupC m)) :=
  pm_t1 (r := fun xs H Q => ∃ p ys, xs = [V.ref p] ∧ ((SqL T.K H p ys ∧ ∀ l, H l = none → Q (.ref l) (upd H l (.tup ys))) ∨ (SqT T.K H p ys ∧ Q (.ref p) H))) (by rw [← hK]; exact call_tuple_of) ok_tupC hg hm boot_tuple h (by decide) (by decide) hs hpl
theorem b_list (hm : X.mg "list" = none) (h : PE X e (TM T W m)) (hg : Gl X "list" := by rfl) (hs : starEach [e] X.env = (false, eval e X.env) :: starEach [] X.env := by rfl) (hpl : (backTo pos (starEach [] X.env)).any (·.1) = false := by rfl) (hK : X.K = T.K := by rfl) : PE X (.Call (.Name "list" q) [e] [] pos) (TM T W (mUn fLstC m)) :=
  pm_t1 (r := fun xs H Q => ∃ p ys, xs = [V.ref p] ∧ (SqL T.K H p ys ∨ SqT T.K H p ys) ∧ ∀ l, H l = none → Q (.ref l) (upd H l (.lst ys))) (by rw [← hK]; exact call_list_of) ok_lstC hg hm boot_list h (by decide) (by decide) hs hpl
theorem b_all (hm : X.mg "all" = none) (h : PE X e (TM T W m)) (hc : X.calm = true := by rfl) (hg : Gl X "all" := by rfl) (hs : starEach [e] X.env = (false, eval e X.env) :: starEach [] X.env := by rfl) (hpl : (backTo pos (starEach [] X.env)).any (·.1) = false := by rfl) (hK : X.K = T.K := by rfl) : PE X (.Call (.Name "all" q) [e] [] pos) (TM T W (mUn fAll m)) :=
  pm_b1 (f := .none) (r := rAll T.K) (by rw [← hK]; exact cr_all hc) ok_all hg hm boot_all h (by decide) (by decide) hs hpl
theorem b_any (hm : X.mg "any" = none) (h : PE X e (TM T W m)) (hc : X.calm = true := by rfl) (hg : Gl X "any" := by rfl) (hs : starEach [e] X.env = (false, eval e X.env) :: starEach [] X.env := by rfl) (hpl : (backTo pos (starEach [] X.env)).any (·.1) = false := by rfl) (hK : X.K = T.K := by rfl) : PE X (.Call (.Name "any" q) [e] [] pos) (TM T W (mUn fAny m)) :=
  pm_b1 (f := .none) (r := rAny T.K) (by rw [← hK]; exact cr_any hc) ok_any hg hm boot_any h (by decide) (by decide) hs hpl
theorem b_sum (hm : X.mg "sum" = none) (h : PE X e (TM T W m)) (hc : X.calm = true := by rfl) (hg : Gl X "sum" := by rfl) (hs : starEach [e] X.env = (false, eval e X.env) :: starEach [] X.env := by rfl) (hpl : (backTo pos (starEach [] X.env)).any (·.1) = false := by rfl) (hK : X.K = T.K := by rfl) : PE X (.Call (.Name "sum" q) [e] [] pos) (TM T W (mUn fSum m)) :=
  pm_b1 (f := .none) (r := rSum T.K) (by rw [← hK]; exact cr_sum hc) ok_sum hg hm boot_sum h (by decide) (by decide) hs hpl
theorem b_sorted (hm : X.mg "sorted" = none) (h : PE X e (TM T W m)) (hg : Gl X "sorted" := by rfl) (hs : starEach [e] X.env = (false, eval e X.env) :: starEach [] X.env := by rfl) (hpl : (backTo pos (starEach [] X.env)).any (·.1) = false := by rfl) (hK : X.K = T.K := by rfl) : PE X (.Call (.Name "sorted" q) [e] [] pos) (TM T W (mUn fSortI m)) :=
  pm_b1 (f := .none) (r := rSortedI T.K) (by rw [← hK]; exact cr_sortedI) ok_sortI hg hm boot_sorted h (by decide) (by decide) hs hpl
theorem b_repr (hr : RmG k X.A) (hm : X.mg "repr" = none) (h : PE X e (TM T W m)) (hg : Gl X "repr" := by rfl) (hs : starEach [e] X.env = (false, eval e X.env) :: starEach [] X.env := by rfl) (hpl : (backTo pos (starEach [] X.env)).any (·.1) = false := by rfl) (hK : X.K = T.K := by rfl) : PE X (.Call (.Name "repr" q) [e] [] pos) (TM T W (mUn fRepr m)) :=
  pm_b1 (f := .none) (r := rRepr T.K) (by rw [← hK]; exact call_repr hr) ok_repr hg hm boot_repr h (by decide) (by decide) hs hpl
theorem b_max (hm : X.mg "max" = none) (ha : PE X a (TM T W m)) (hb : PE X b (TM T W n)) (hc : X.calm = true := by rfl) (hg : Gl X "max" := by rfl) (hs : starEach [a, b] X.env = (false, eval a X.env) :: starEach [b] X.env := by rfl) (hs2 : starEach [b] X.env = (false, eval b X.env) :: starEach [] X.env := by rfl)
    (hpl : (backTo pos (starEach [b] X.env)).any (·.1) = false := by rfl) : PE X (.Call (.Name "max" q) [a, b] [] pos) (TM T W (mBin fMax2 m n)) := pm_b2 (call_max2 hc) ok_max2 hg hm boot_max ha hb (by decide) (by decide) hs hs2 hpl
theorem b_min (hm : X.mg "min" = none) (ha : PE X a (TM T W m)) (hb : PE X b (TM T W n)) (hc : X.calm = true := by rfl) (hg : Gl X "min" := by rfl) (hs : starEach [a, b] X.env = (false, eval a X.env) :: starEach [b] X.env := by rfl) (hs2 : starEach [b] X.env = (false, eval b X.env) :: starEach [] X.env := by rfl)
    (hpl : (backTo pos (starEach [b] X.env)).any (·.1) = false := by rfl) : PE X (.Call (.Name "min" q) [a, b] [] pos) (TM T W (mBin fMin2 m n)) := pm_b2 (call_min2 hc) ok_min2 hg hm boot_min ha hb (by decide) (by decide) hs hs2 hpl
/-! methods -/
theorem m_split (ho : PE X o (TM T W m)) (he : PE X e (TM T W n)) (hs : starEach [e] X.env = [(false, eval e X.env)] := by rfl) (hbase : attributeBase o "split" X.env (eval o X.env) = eval o X.env := by rfl) (hline : (apos.endLine == pos.line) = true := by rfl) :
    PE X (.Call (.Attribute o "split" apos) [e] [] pos) (TM T W (mSM gSplit m n)) := pm_split ho he hs hbase hline
theorem m_join (ho : PE X o (TM T W m)) (he : PE X e (TM T W n)) (hs : starEach [e] X.env = [(false, eval e X.env)] := by rfl) (hbase : attributeBase o "join" X.env (eval o X.env) = eval o X.env := by rfl) (hline : (apos.endLine == pos.line) = true := by rfl) (hK : X.K = T.K := by rfl) :
    PE X (.Call (.Attribute o "join" apos) [e] [] pos) (TM T W (mSM gJoin m n)) := pm_join hK ho he hs hbase hline
theorem m_append (ho : PE X o (TM T W m)) (he : PE X e (TM T W n)) (hbase : attributeBase o "append" X.env (eval o X.env) = eval o X.env := by rfl)
    (hfew : ((backTo cpos (starEach [e] X.env)).all (fun x => !x.1) && (backToKw cpos (keywordEach [] X.env)).all (fun x => x.1.isSome) && decide ([e].length + ([] : List Keyword).length + (if ([] : List Keyword).isEmpty then 0 else 1) < 30)) = true := by rfl)
    (hline : (apos.endLine == cpos.line) = true := by rfl) (hs : starEach [e] X.env = (false, eval e X.env) :: starEach [] X.env := by rfl) (hplain : (backTo cpos (starEach [] X.env)).any (·.1) = false := by rfl) (hK : X.K = T.K := by rfl) :
    PE X (.Call (.Attribute o "append" apos) [e] [] cpos) (TM T W (mLM gAppend m n)) := pm_append hK ho he hbase hfew hline hs hplain
theorem m_extend (ho : PE X o (TM T W m)) (he : PE X e (TM T W n)) (hbase : attributeBase o "extend" X.env (eval o X.env) = eval o X.env := by rfl)
    (hfew : ((backTo cpos (starEach [e] X.env)).all (fun x => !x.1) && (backToKw cpos (keywordEach [] X.env)).all (fun x => x.1.isSome) && decide ([e].length + ([] : List Keyword).length + (if ([] : List Keyword).isEmpty then 0 else 1) < 30)) = true := by rfl)
    (hline : (apos.endLine == cpos.line) = true := by rfl) (hs : starEach [e] X.env = (false, eval e X.env) :: starEach [] X.env := by rfl) (hplain : (backTo cpos (starEach [] X.env)).any (·.1) = false := by rfl) (hK : X.K = T.K := by rfl) :
    PE X (.Call (.Attribute o "extend" apos) [e] [] cpos) (TM T W (mLM gExtend m n)) := pm_extend hK ho he hbase hfew hline hs hplain
/-! walks -/
theorem w_itr {tg : Expr} (ha : PE X e (TM T W m)) (hK : X.K = T.K := by rfl) : PI X tg e (TMI T W (mItr m)) := pmi_itr hK ha
theorem w_rng1 {tg : Expr} (hm : X.mg "range" = none) (ha : PE X a (TM T W m)) (hg : Gl X "range" := by rfl) (hs : starEach [a] X.env = [(false, eval a X.env)] := by rfl) (hs2 : starEach [a] X.env = (false, eval a X.env) :: starEach [] X.env := by rfl) : PI X tg (.Call (.Name "range" q) [a] [] pos) (TMI T W (mRng1 m)) := pmi_rng1 hg hm ha hs hs2
theorem w_rng2 {tg : Expr} (hm : X.mg "range" = none) (ha : PE X a (TM T W m)) (hb : PE X b (TM T W n)) (hg : Gl X "range" := by rfl) (hs : starEach [a, b] X.env = [(false, eval a X.env), (false, eval b X.env)] := by rfl) (hs2 : starEach [b] X.env = [(false, eval b X.env)] := by rfl)
    (hs3 : starEach [a, b] X.env = (false, eval a X.env) :: starEach [b] X.env := by rfl) (hs4 : starEach [b] X.env = (false, eval b X.env) :: starEach [] X.env := by rfl) : PI X tg (.Call (.Name "range" q) [a, b] [] pos) (TMI T W (mRng2 m n)) := pmi_rng2 hg hm ha hb hs hs2 hs3 hs4
theorem w_enum {elts : List Expr} {kk : Nat} {tpos : Pos} (hm : X.mg "enumerate" = none) (ha : PE X e (TM T W m)) (hg : Gl X "enumerate" := by rfl) (hs : starEach [e] X.env = [(false, eval e X.env)] := by rfl) (hs2 : starEach [e] X.env = (false, eval e X.env) :: starEach [] X.env := by rfl) (hK : X.K = T.K := by rfl) :
    PI X (.Tuple elts kk tpos) (.Call (.Name "enumerate" q) [e] [] pos) (TMI T W (mEnum m)) := pmi_enum hK hg hm ha hs hs2
/-! targets -/
theorem g_nm (i : Nat) (hN : X.N.Nodup) (hi : X.N[i]? = some x := by rfl) (hx : Loc X.env.scope x := by first | exact Or.inl rfl | exact Or.inr rfl) (hf : X.fn x = true ∨ X.env.scope.names.lookup x = some .local := by first | exact .inl rfl | exact .inr rfl) : PG X (.Name x pos) (gName i) := pg_name hN hi hx hf
theorem g_tp {es : List Expr} {is : List Nat} {kk : Nat} (h : PGs X es (gNames is)) (hc : X.calm = true := by rfl) (hn : (assignEach es X.env).length = is.length := by rfl) (hst : (assignEach es X.env).findIdx? (·.1) = none := by rfl) (hK : X.K = T.K := by rfl) : PG X (.Tuple es kk pos) (gTup T.K is.length (gNames is)) := by
  rw [← hK]; exact pg_tup hc h hn hst
/-! statements -/
theorem s_set (i : Nat) {p2 : Pos} (hN : X.N.Nodup) (he : PE X e (TM T W m)) (hi : X.N[i]? = some x := by rfl) (hx : Loc X.env.scope x := by first | exact Or.inl rfl | exact Or.inr rfl) (hs : swapsWith e (some (.Name x p2)) pos.line X.env = pure false := by rfl) (hf : X.fn x = true ∨ X.env.scope.names.lookup x = some .local := by first | exact .inl rfl | exact .inr rfl) :
    PS X (.Assign [.Name x p2] e pos) (TMS T W (sAsg (.nm i) m)) := psm_set hN hi hx he hs hf
theorem s_tup {tg : Expr} {t : Tgt} {g : TG} (hg : GOk T g t) (hp : PG X tg g) (he : PE X e (TM T W m)) (hs : swapsWithSole [tg] e pos.line X.env = pure false := by rfl) (hw : swappedStores [tg] e X.env = pure none := by rfl) (h1 : (assignEach [tg] X.env).map (·.2) = [assign tg X.env] := by rfl) : PS X (.Assign [tg] e pos) (TMS T W (sAsg t m)) := psm_asg hg he hp hs hw h1
theorem s_expr (he : PE X e (TM T W m)) (hs : swapsWith e none pos.line X.env = pure false := by rfl) : PS X (.Expr e pos) (TMS T W (sDrop m)) := psm_expr he hs
theorem s_for {tg iter : Expr} {body : List Stmt} {mi : MI} {t : Tgt} {g : TG} {s : MS} (hp : PassesOwn (model X.prog X.w) X.A X.env X.xe) (hg : GOk T g t) (hpg : PG X tg g) (hi : PI X tg iter (TMI T W mi)) (hb : PSs X body (TMS T W s)) (hc : X.calm = true := by rfl)
    (hs : ∀ x, foldedSetIterable iter X.env x = pure x := by intro _; rfl) : PS X (.For tg iter body [] pos) (TMS T W (sFor mi t s)) := psm_for hp hc hi hg hpg hb hs
theorem s_sub {o i : Expr} {mo ix : MX} {p2 : Pos} (ho : PE X o (TM T W mo)) (hi : PE X i (TM T W ix)) (he : PE X e (TM T W m)) (hs : swapsWithSole [.Subscript o i p2] e pos.line X.env = pure false := by rfl) (hw : swappedStores [.Subscript o i p2] e X.env = pure none := by rfl)
    (h1 : (assignEach [.Subscript o i p2] X.env).map (·.2) = [assign (.Subscript o i p2) X.env] := by rfl)
    (ha : ∀ v, assign (.Subscript o i p2) X.env v = (do
      let ov ← holding [v] (eval o X.env)
      let iv ← holding [v, ov] (eval i X.env)
      standAt p2
      holding [v, ov, iv] (setItem ov iv v)
      release [v, ov, iv] []) := by intro _; rfl) : PS X (.Assign [.Subscript o i p2] e pos) (TMS T W (sSub m mo ix)) := psm_sub ho hi he hs hw h1 ha
/-! defs -/
structure Df (P : Program) (w : World) (K : Frag) (mg : Str → Option Value) (base : Heap) (k : Nat) (x : Str) (ps : List Str) (run : Run) : Prop where
  ex : ∃ (f : Addr) (fd : FuncData), FnG P w K mg base (L2.CX P w) k f fd ps (spF ⟨K, mg⟩ run) ∧ mg x = some (.ref f) ∧ PySem.W.keepIn K (.ref f) = true ∧ Binds K fd ps []
structure Raw (K : Frag) (mg : Str → Option Value) (x : Str) (st : Stmt) (ps : List Str) : Prop where
  ex : ∃ (f : Addr) (fd : FuncData), Fun K x x st f fd ∧ mg x = some (.ref f) ∧ Binds K fd ps []
theorem y_call {j : Nat} {ps : List Str} {run : Run} {as : MAs} {es : List Expr} {K : Frag} {mg : Str → Option Value} (D : Df X.prog X.w K mg X.base k x ps run) (hr : RmG j X.A) (tk : Takes X W) (ha : PA X (e :: es) (TMA ⟨K, mg⟩ W as)) (hj : k ≤ j := by decide) (hK : X.K = K := by rfl) (hM : X.mg = mg := by rfl) (hg : Gl X x := by rfl)
    (hdb : (x == ("__debug__" : Str)) = false := by decide) (he : starEach (e :: es) X.env = (false, eval e X.env) :: starEach es X.env := by rfl) (hpl : (backTo pos (starEach es X.env)).any (·.1) = false := by rfl) :
    PE X (.Call (.Name x q) (e :: es) [] pos) (TM ⟨K, mg⟩ W (mCall run as)) := by
  subst hK hM
  obtain ⟨f, fd, F, hm, hk, hb⟩ := D.ex
  refine (pm_call (T := ⟨X.K, X.mg⟩) (dds := []) (dvs := []) (dws := []) (F.mono hj) hr hg hm hk hb .nil (fun _ _ => rfl) tk ha hdb he hpl).imp fun σ H Q h => ?_
  have e : (fun ds S => run (ds ++ []) S) = run := by funext ds S; rw [List.append_nil]
  rw [e]; exact h
theorem Df.mk' {P : Program} {w : World} {K : Frag} {mg : Str → Option Value} {base : Heap} {x : Str} {st : Stmt} {N ps : List Str} {k : Nat} {run : Run} {s : MS} (R : Raw K mg x st ps) (Sc : FnScope N ps (defScope st)) (len : ∀ ds S, run ds S ≠ .stuck → ds.length = ps.length)
    (hrun : ∀ ds S, ds.length = ps.length → Cl S (s (startE N.length ds) S).out (run ds S))
    (hbody : ∀ (f : Addr) (cdv : Value) (A : Around) (outer : List PySem.Env) (sh : Shared) (H : Hp) (E : XK), RmG k (A.deeper (envOfC x (defScope st) sh.heap.objs.size f cdv)) →
      PSs (cxOf (L2.CX P w) P w K mg base N x (defScope st) f cdv A outer sh H E) (defBody st) (TMS ⟨K, mg⟩ (fun c d _ H => E c d H) s)) : Df P w K mg base (k + 1) x ps run := by
  obtain ⟨f, fd, F, hm, hb⟩ := R.ex
  exact ⟨f, fd, def_ok (T := ⟨K, mg⟩) rfl F Sc len (hbody f) hrun, hm, F.kp, hb⟩
theorem tkD {P : Program} {w : World} {K : Frag} {mg : Str → Option Value} {base : Heap} {N : List Str} {x : Str} {sc : Scope} {f : Addr} {cdv : Value} {A : Around} {outer : List PySem.Env} {sh : Shared} {H : Hp} {E : XK} :
    Takes (cxOf (L2.CX P w) P w K mg base N x sc f cdv A outer sh H E) (fun c d _ H => E c d H) := takes_of rfl rfl rfl rfl
theorem owD {P : Program} {w : World} {K : Frag} {mg : Str → Option Value} {base : Heap} {N : List Str} {x : Str} {sc : Scope} {f : Addr} {cdv : Value} {A : Around} {outer : List PySem.Env} {sh : Shared} {H : Hp} {E : XK} :
    PassesOwn (model P w) (cxOf (L2.CX P w) P w K mg base N x sc f cdv A outer sh H E).A (cxOf (L2.CX P w) P w K mg base N x sc f cdv A outer sh H E).env (cxOf (L2.CX P w) P w K mg base N x sc f cdv A outer sh H E).xe :=
  passes_of (X := cxOf (L2.CX P w) P w K mg base N x sc f cdv A outer sh H E) rfl
end
end MP

/-! F15: constants, pairs, own errors, with their small print. -/
namespace MP
open PySem L2 PySem.Spec PyProof.Rows
section
variable {X : Cx} {T : Tx} {W : WX} {a b c e o : Expr} {m n p : MX} {pos q apos cpos : Pos} {D : Ends} {σ : L2.St} {H : Hp} {x : Str} {k : Nat}
theorem yg_str {z : Str} (h : ∃ t, X.mg x = some (.str z t)) (hg : Gl X x := by rfl) (hd : (x == ("__debug__" : Str)) = false := by decide) : PE X (.Name x pos) (TM T W (mC (.str z))) := by
  obtain ⟨t, h⟩ := h
  exact pm_glob (v := .str z) hg h ⟨t, rfl⟩ (fun _ _ => rfl) hd
theorem yg_int {i : Int} (h : ∃ t, X.mg x = some (.int i t)) (hg : Gl X x := by rfl) (hd : (x == ("__debug__" : Str)) = false := by decide) : PE X (.Name x pos) (TM T W (mC (.int i))) := by
  obtain ⟨t, h⟩ := h
  exact pm_glob (v := .int i) hg h ⟨t, rfl⟩ (fun _ _ => rfl) hd
theorem s_par (i j : Nat) {x y : Str} {as : MAs} {px py pt : Pos} {kt k2 : Nat} {pt2 : Pos} (hN : X.N.Nodup) (ha : PA X [a, b] (TMA T W as)) (hi : X.N[i]? = some x := by rfl) (hj : X.N[j]? = some y := by rfl) (hij : i ≠ j := by decide)
    (hx : X.env.scope.names.lookup x = some .local := by rfl) (hy : X.env.scope.names.lookup y = some .local := by rfl) (hw : swappedStores [.Tuple [.Name x px, .Name y py] kt pt] (.Tuple [a, b] k2 pt2) X.env = pure (some [x, y]) := by rfl)
    (hs : swapsWithSole [.Tuple [.Name x px, .Name y py] kt pt] (.Tuple [a, b] k2 pt2) pos.line X.env = pure false := by rfl) (hc : X.calm = true := by rfl) :
    PS X (.Assign [.Tuple [.Name x px, .Name y py] kt pt] (.Tuple [a, b] k2 pt2) pos) (TMS T W (sPar i j as)) := (ps_par hc hN hi hj hij hx hy ha hw hs).imp fun D σ H h => tms_par h
/-- an own error with one field -/
structure Err (P : Program) (w : World) (K : Frag) (mg : Str → Option Value) (base : Heap) (cls f : Str) : Prop where
  ex : ∃ (C fI : Addr) (fd : FuncData) (ps : List Str), OexC K C ∧ PySem.W.findIn K (.ref C) "__init__" = some (some (.ref fI)) ∧ PySem.W.typeIn K (.ref fI) = some (.type "function") ∧ FnOk P w K mg base (L2.CX P w) 1 fI fd ps (spI C f) ∧ Binds K fd ps [] ∧ mg cls = some (.ref C)
theorem s_raise {j : Nat} {cls f : Str} {as : MAs} {p2 : Pos} {es : List Expr} {K : Frag} {mg : Str → Option Value} (Z : Err X.prog X.w K mg X.base cls f) (hr : RmG j X.A) (tk : Takes X W) (ha : PA X (e :: es) (TMA ⟨K, mg⟩ W as)) (hj : 2 ≤ j := by decide) (hc : X.calm = true := by rfl) (hK : X.K = K := by rfl) (hM : X.mg = mg := by rfl)
    (hg : Gl X cls := by rfl) (hdb : (cls == ("__debug__" : Str)) = false := by decide) (he : starEach (e :: es) X.env = (false, eval e X.env) :: starEach es X.env := by rfl) (hpl : (backTo q (starEach es X.env)).any (·.1) = false := by rfl) :
    PS X (.Raise (some (.Call (.Name cls p2) (e :: es) [] q)) none pos) (TMS ⟨K, mg⟩ W (sRaise cls f as)) := by
  subst hK hM
  obtain ⟨C, fI, fd, ps, h1, h2, h3, h4, h5, h6⟩ := Z.ex
  exact psm_raise hc h1 h2 h3 h4 (hr.rm.mono hj) h5 hg h6 h6 tk ha hdb he hpl
structure Cat (K : Frag) (mg : Str → Option Value) (cls f : Str) : Prop where
  ex : ∃ C : Addr, mg cls = some (.ref C) ∧ PySem.W.exmOne K (.ref C) (.ref C) = some true ∧ XfC K C ∧ PySem.W.findIn K (.ref C) f = some none
def cat1 (cls : Str) : Str → Option Bool := fun z => if z = cls then some true else none
theorem s_tryF {i j : Nat} {cls n y f : Str} {body : List Stmt} {s : MS} {np yp ep ap sp pos' : Pos} {K : Frag} {mg : Str → Option Value} (Z : Cat K mg cls f) (hN : X.N.Nodup) (tk : Takes X W)
    (hb : ∀ (W : WX) (pn : List (Addr × PySem.Obj)) (xe : Value → Shared → Prop), Takes (X.tr pn xe) W → PassesOwn (model X.prog X.w) X.A X.env xe → PSs (X.tr pn xe) body (TMS ⟨K, mg⟩ W s))
    (hK : X.K = K := by rfl) (hM : X.mg = mg := by rfl) (hs : X.stack = X.env :: X.outer := by rfl) (hf : X.env.frame = some X.env.locals := by rfl) (hi : X.N[i]? = some n := by rfl) (hj : X.N[j]? = some y := by rfl) (hij : i ≠ j := by decide)
    (hln : X.env.kindOf n = some .local := by rfl) (hly : X.env.scope.names.lookup y = some .local := by rfl) (hg : Gl X cls := by rfl) (hgd : (cls == ("__debug__" : Str)) = false := by decide)
    (hdb : (n == ("__debug__" : Str)) = false := by decide) (hcd : (n == ("__classdict__" : Str)) = false := by decide) (hat : attributeBase (.Name n ep) f X.env (eval (.Name n ep) X.env) = eval (.Name n ep) X.env := by rfl) (hsw : swapsWith (.Attribute (.Name n ep) f ap) (some (.Name y yp)) sp.line X.env = pure false := by rfl) :
    PS X (.Try body [.ExceptHandler (some (.Name cls np)) (some n) [.Assign [.Name y yp] (.Attribute (.Name n ep) f ap) sp] pos'] [] [] pos) (TMS ⟨K, mg⟩ W (sTryF (cat1 cls) i j f s)) := by
  subst hK hM
  obtain ⟨C, h1, h2, h3, h4⟩ := Z.ex
  have key : ∀ {z b C'}, cat1 cls z = some b → X.mg z = some (.ref C') → C' = C ∧ b = true := fun {z b C'} hz hm => by
    unfold cat1 at hz
    split at hz
    · rename_i e
      subst e
      cases hz
      rw [h1] at hm
      cases hm
      exact ⟨rfl, rfl⟩
    · cases hz
  exact psm_tryF (cv := .ref C) rfl hs hf hN hi hj hij hln hly ⟨hg, hgd, .inl h1⟩ tk (fun z b C' hz hm => by obtain ⟨rfl, rfl⟩ := key hz hm; exact h2) (fun z C' hz hm => by obtain ⟨rfl, _⟩ := key hz hm; exact ⟨h3, h4⟩) hdb hcd hat hsw hb
end
end MP

/-! F16: how the little language's loops come out. -/
namespace MP
open PySem

theorem loopC_ind {t : Tgt} {cond elt : MX} {env0 : Env} {live : Option (Nat × List Val)} (P : List Val → List Val → Store → Prop) (hl : ∀ ds acc S, P ds acc S → liveOk live S)
    (hz : ∀ d ds acc S, P (d :: ds) acc S → acc.length < 1000000)
    (step : ∀ d ds acc S, P (d :: ds) acc S → ∃ env1, t.put d env0 = some env1 ∧ ((∃ S1, cond env1 S = .ok (.val (.bl false)) S1 ∧ P ds acc S1) ∨
      ∃ S1 o S2, cond env1 S = .ok (.val (.bl true)) S1 ∧ elt env1 S1 = .ok o S2 ∧ P ds (acc ++ [(alc o S2).1]) (alc o S2).2)) :
    ∀ ds acc S, P ds acc S → ∃ acc' S', loopC t cond elt env0 live ds acc S = .ok (.new (.lst acc')) S' ∧ P [] acc' S'
  | [], acc, S, h => ⟨acc, S, by unfold loopC; rw [if_pos (hl _ _ _ h)], h⟩
  | d :: ds, acc, S, h => by
    obtain ⟨env1, h1, h2⟩ := step d ds acc S h
    rcases h2 with ⟨S1, h3, h4⟩ | ⟨S1, o, S2, h3, h4, h5⟩
    · obtain ⟨acc', S', e, q⟩ := loopC_ind P hl hz step ds acc S1 h4
      refine ⟨acc', S', ?_, q⟩
      unfold loopC
      rw [if_pos (hl _ _ _ h), h1]
      simp only [h3]
      exact e
    · obtain ⟨acc', S', e, q⟩ := loopC_ind P hl hz step ds _ _ h5
      refine ⟨acc', S', ?_, q⟩
      unfold loopC
      rw [if_pos (hl _ _ _ h), h1]
      simp only [h3, h4, if_pos (hz _ _ _ _ h)]
      exact e
/-- a comprehension that leaves the store alone -/
theorem loopC_fm {t : Tgt} {cond elt : MX} {env0 : Env} {live : Option (Nat × List Val)} {S : Store} (p : Val → Bool) (f : Val → Val) (hl : liveOk live S) : ∀ (ds acc : List Val),
    (∀ d ∈ ds, ∃ env1, t.put d env0 = some env1 ∧ cond env1 S = .ok (.val (.bl (p d))) S ∧ (p d = true → elt env1 S = .ok (.val (f d)) S)) → acc.length + ds.length ≤ 1000000 →
    loopC t cond elt env0 live ds acc S = .ok (.new (.lst (acc ++ (ds.filter p).map f))) S
  | [], acc, _, _ => by unfold loopC; rw [if_pos hl]; simp
  | d :: ds, acc, h, z => by
    obtain ⟨env1, h1, h2, h3⟩ := h d List.mem_cons_self
    have hr : ∀ d ∈ ds, ∃ env1, t.put d env0 = some env1 ∧ cond env1 S = .ok (.val (.bl (p d))) S ∧ (p d = true → elt env1 S = .ok (.val (f d)) S) := fun d hd => h d (List.mem_cons_of_mem _ hd)
    rw [List.length_cons] at z
    unfold loopC
    rw [if_pos hl, h1]
    cases hp : p d with
    | false =>
      simp only [h2, hp]
      rw [loopC_fm p f hl ds acc hr (by omega), List.filter_cons_of_neg (by simp [hp])]
    | true =>
      simp only [h2, hp, h3 hp, if_pos (show acc.length < 1000000 by omega)]
      rw [show (alc (.val (f d)) S) = (f d, S) from rfl]
      rw [loopC_fm p f hl ds _ hr (by rw [List.length_append, List.length_singleton]; omega), List.filter_cons_of_pos (by simp [hp])]
      simp
theorem loopF_ind {t : Tgt} {body : MS} {live : Option (Nat × List Val)} (P : List Val → Env → Store → Prop) (R : RS → Prop) (hl : ∀ ds env S, P ds env S → liveOk live S)
    (step : ∀ d ds env S, P (d :: ds) env S → ∃ env1, t.put d env = some env1 ∧ ((∃ e S1, body env1 S = .nx e S1 ∧ P ds e S1) ∨ (∃ o S1, body env1 S = .ret o S1 ∧ R (.ret o S1)) ∨ ∃ x e S1, body env1 S = .rz x e S1 ∧ R (.rz x e S1))) :
    ∀ ds env S, P ds env S → (∃ e S', loopF t body live ds env S = .nx e S' ∧ P [] e S') ∨ R (loopF t body live ds env S)
  | [], env, S, h => .inl ⟨env, S, by unfold loopF; rw [if_pos (hl _ _ _ h)], h⟩
  | d :: ds, env, S, h => by
    obtain ⟨env1, h1, h2⟩ := step d ds env S h
    unfold loopF
    rw [if_pos (hl _ _ _ h), h1]
    rcases h2 with ⟨e, S1, h3, h4⟩ | ⟨o, S1, h3, h4⟩ | ⟨x, e, S1, h3, h4⟩
    · simp only [h3]
      exact loopF_ind P R hl step ds e S1 h4
    · simp only [h3]; exact .inr h4
    · simp only [h3]; exact .inr h4
theorem liveOk_none {S : Store} : liveOk none S := fun _ _ e => by cases e
theorem liveOk_some {S : Store} {l : Nat} {us : List Val} (h : S[l]? = some (.lst us)) : liveOk (some (l, us)) S := fun l' us' e => by
  cases e
  show (match S[l]? with | some (Obj.lst vs) => some vs | _ => none) = some us
  rw [h]
theorem rdL_ref {S : Store} {l : Nat} {us : List Val} (h : S[l]? = some (.lst us)) : rdL S (.val (.ref l)) = some us := by
  show (match S[l]? with | some (Obj.lst vs) => some vs | _ => none) = some us
  rw [h]
/-! ### steps -/
section
variable {m n p c : MX} {s t : MS} {env : Env} {S S1 S2 : Store} {a b : Bool} {o o' : Opd}
theorem mOr_val (h : m env S = .ok (.val (.bl a)) S1) (h2 : a = false → n env S1 = .ok (.val (.bl b)) S1) : mOr m n env S = .ok (.val (.bl (a || b))) S1 := by
  unfold mOr; rw [h]; cases a with
  | true => rfl
  | false => exact h2 rfl
theorem mAnd_val (h : m env S = .ok (.val (.bl a)) S1) (h2 : a = true → n env S1 = .ok (.val (.bl b)) S1) : mAnd m n env S = .ok (.val (.bl (a && b))) S1 := by
  unfold mAnd; rw [h]; cases a with
  | false => rfl
  | true => exact h2 rfl
theorem mNot_val (h : m env S = .ok (.val (.bl a)) S1) : mUn fNot m env S = .ok (.val (.bl (!a))) S1 := by
  unfold mUn; rw [h]; rfl
theorem mTru_bl (h : m env S = .ok (.val (.bl a)) S1) : mUn fTru m env S = .ok (.val (.bl a)) S1 := by
  unfold mUn; rw [h]; rfl
theorem mIf_val (h : c env S = .ok (.val (.bl a)) S1) : mIf c m n env S = if a then m env S1 else n env S1 := by
  unfold mIf; rw [h]; cases a <;> rfl
theorem sIf_val (h : c env S = .ok (.val (.bl a)) S1) : sIf c s t env S = if a then s env S1 else t env S1 := by
  unfold sIf; rw [h]; cases a <;> rfl
theorem mBin_val {f : F2} (h : m env S = .ok o S1) (h2 : n env S1 = .ok o' S2) : mBin f m n env S = ofO S2 (f S2 o o') := by
  unfold mBin; rw [h, Res.bind_ok, h2, Res.bind_ok]
theorem mUn_val {f : F1} (h : m env S = .ok o S1) : mUn f m env S = ofO S1 (f S1 o) := by
  unfold mUn; rw [h, Res.bind_ok]
theorem sSeq_nx {e : Env} (h : s env S = .nx e S1) : sSeq s t env S = t e S1 := by unfold sSeq; rw [h]
theorem sSeq_ret (h : s env S = .ret o S1) : sSeq s t env S = .ret o S1 := by unfold sSeq; rw [h]
theorem sSeq_rz {x : Exn} {e : Env} (h : s env S = .rz x e S1) : sSeq s t env S = .rz x e S1 := by unfold sSeq; rw [h]
theorem sRet_val (h : m env S = .ok o S1) : sRet m env S = .ret o S1 := by unfold sRet; rw [h]; rfl
theorem sAsg_val {i : Nat} {d : Val} (h : m env S = .ok (.val d) S1) : sAsg (.nm i) m env S = .nx (env.set i (some d)) S1 := by unfold sAsg; rw [h]; rfl
theorem sAsg_new {i : Nat} {ob : Obj} (h : m env S = .ok (.new ob) S1) : sAsg (.nm i) m env S = .nx (env.set i (some (.ref S1.length))) (S1 ++ [ob]) := by unfold sAsg; rw [h]; rfl
theorem aNil_val : aNil env S = .ok [] S := rfl
theorem aCons_val {as : MAs} {v : Val} {vs : List Val} (h : m env S = .ok (.val v) S1) (h2 : as env S1 = .ok vs S2) : aCons m as env S = .ok (v :: vs) S2 := by
  unfold aCons; rw [h]
  show (as env S1).add v = _
  rw [h2]; rfl
theorem aCons_new {as : MAs} {ob : Obj} {vs : List Val} (h : m env S = .ok (.new ob) S1) (h2 : as env (S1 ++ [ob]) = .ok vs S2) : aCons m as env S = .ok (.ref S1.length :: vs) S2 := by
  unfold aCons; rw [h]
  show (as env (S1 ++ [ob])).add _ = _
  rw [h2]; rfl
theorem mCall_val {as : MAs} {run : Run} {vs : List Val} (h : as env S = .ok vs S1) : mCall run as env S = run vs S1 := by unfold mCall; rw [h]; rfl
theorem mTup_val {as : MAs} {vs : List Val} (h : as env S = .ok vs S1) (hz : vs.length ≤ 16777216) : mTup as env S = .ok (.val (.tup vs)) S1 := by
  unfold mTup; rw [h]
  show (if okLen vs.length then Res.ok (.val (.tup vs)) S1 else .stuck) = _
  rw [show okLen vs.length = true from decide_eq_true hz, if_pos rfl]
theorem mLst_val {as : MAs} {vs : List Val} (h : as env S = .ok vs S1) (hz : vs.length ≤ 16777216) : mLst as env S = .ok (.new (.lst vs)) S1 := by
  unfold mLst; rw [h]
  show (if okLen vs.length then Res.ok (.new (.lst vs)) S1 else .stuck) = _
  rw [show okLen vs.length = true from decide_eq_true hz, if_pos rfl]
theorem mLoc_val {i : Nat} {v : Val} (h : env[i]? = some (some v)) : mLoc i env S = .ok (.val v) S := by unfold mLoc; rw [h]
theorem mSM_val {f : Store → Str → Opd → Option Opd} {z : Str} (h : m env S = .ok (.val (.str z)) S1) (h2 : n env S1 = .ok o S2) : mSM f m n env S = ofO S2 (f S2 z o) := by
  unfold mSM; rw [h, Res.bind_ok]
  show (n env S1).bind _ = _
  rw [h2, Res.bind_ok]
theorem mComp_val {mi : MI} {t : Tgt} {own : List Nat} {ds : List Val} {live : Option (Nat × List Val)} (h : mi env S = .ok ds live S1) : mComp mi t c m own env S = loopC t c m (wipeE env own) live ds [] S1 := by unfold mComp; rw [h]
theorem sFor_val {mi : MI} {t : Tgt} {ds : List Val} {live : Option (Nat × List Val)} (h : mi env S = .ok ds live S1) : sFor mi t s env S = loopF t s live ds env S1 := by unfold sFor; rw [h]
end
end MP

namespace MP
namespace Lk83
open PySem L2 PySem.Spec PyProof.Rows
def top (i : Nat) : Stmt := PySem.Challenge.pw_cutrows_k83_cuts_written_and_read.main.body.getD i (.Pass ⟨0, 0, 0, 0⟩)
abbrev st_format_cuts : Stmt := top 6
abbrev st_number_in : Stmt := top 7
abbrev st_numbers_in : Stmt := top 8
abbrev st_parse_cuts : Stmt := top 9
abbrev st__law_pen : Stmt := top 11
abbrev st__law_fresh : Stmt := top 12
abbrev st__law_draw : Stmt := top 13
abbrev st__law_due : Stmt := top 14
abbrev st__law_raised : Stmt := top 15
abbrev st__law_number : Stmt := top 16
abbrev st_law : Stmt := top 17
abbrev st_ParseError_init : Stmt := inClass (top 1) 0
/-- the built-ins are the built-ins -/
structure Blt (mg : Str → Option Value) : Prop where
  all_ : mg "all" = none
  enumerate_ : mg "enumerate" = none
  int_ : mg "int" = none
  len_ : mg "len" = none
  list_ : mg "list" = none
  range_ : mg "range" = none
  repr_ : mg "repr" = none
  str_ : mg "str" = none
  tuple_ : mg "tuple" = none
/-- the module's constants -/
structure Cst (mg : Str → Option Value) : Prop where
  DIGITS : ∃ t, mg "DIGITS" = some (.str "0123456789" t)
  MAX_COUNT : ∃ t, mg "MAX_COUNT" = some (.int 64 t)
  MAX_CUTS : ∃ t, mg "MAX_CUTS" = some (.int 8 t)

/-! ### what the defs compute -/
def txtOk (z : Str) : Bool := PyData.strOk z && decide (z.length ≤ 100000)
def numI (i : Int) : Str := Str.ofString (toString i)
def numS (n : Nat) : Str := numI ((n : Nat) : Int)
def numIn (w : Str) (most : Int) : Option Int := match (List.range 100).find? (fun n => decide (numS n = w)) with
  | some n => if (n : Int) ≤ most then some (n : Int) else none
  | none => none
def optV : Option Int → Val
  | some i => .int i
  | none => .non
def lineP (kept : Int) (line : Str) : Option (Int × List Int) := match Txt.split line " " with
  | w0 :: w1 :: ws => if w1 = "picks" ∧ (ws.length : Int) = kept then match numIn w0 64, ws.mapM (fun w => numIn w 64) with
    | some c, some ps => some (c, ps)
    | _, _ => none
    else none
  | _ => none
def parseLines (kept : Int) : Nat → List Str → Except Nat (List (Int × List Int))
  | _, [] => .ok []
  | i, l :: ls => match lineP kept l with
    | none => .error i
    | some c => if i = 8 then .error i else match parseLines kept (i + 1) ls with
      | .ok cs => .ok (c :: cs)
      | .error j => .error j
def parseP (text : Str) (kept : Int) : Except Nat (List (Int × List Int)) := match parseLines kept 0 (Txt.split text "\n").dropLast with
  | .error i => .error i
  | .ok cs => if (Txt.split text "\n").getLast? = some ("" : Str) then .ok cs else .error (Txt.split text "\n").dropLast.length
def cutV (c : Int × List Int) : Val := .tup [.int c.1, .tup (c.2.map .int)]
def cutsV (cs : List (Int × List Int)) : Val := .tup (cs.map cutV)
def cutOf : Val → Option (Int × List Int)
  | .tup [.int c, .tup ps] => (gInts ps).map fun ps => (c, ps)
  | _ => none
def small (i : Int) : Bool := decide (0 ≤ i) && decide (i < 100)
def cutOk (c : Int × List Int) : Bool := small c.1 && c.2.all small && decide (c.2.length ≤ 100)
def lineS (c : Int × List Int) : Str := Txt.join " " ([numI c.1, "picks"] ++ c.2.map numI)
def fmt (cs : List (Int × List Int)) : Str := Txt.join "" (cs.map fun c => lineS c ++ "\n")
def m_format_cuts : MS :=
    (sSeq (sAsg (.nm 1) (mComp (mItr (mLoc 0)) (.tp [2, 3]) (mC (.bl true)) (mSM gJoin (mC (.str " ")) (mBin fAdd (mLst (aCons (mUn fStrC (mLoc 2)) (aCons (mC (.str "picks")) aNil))) (mComp (mItr (mLoc 3)) (.nm 5) (mC (.bl true)) (mUn fStrC (mLoc 5)) [5]))) [2, 3]))
    (sSeq (sRet (mSM gJoin (mC (.str "")) (mComp (mItr (mLoc 1)) (.nm 4) (mC (.bl true)) (mBin fAdd (mLoc 4) (mC (.str "\n"))) [4])))
    sNil))
def r_format_cuts : Run := fun ds S => match ds with
  | [.tup vs] => match vs.mapM cutOf with
    | some cs => if cs.all cutOk && decide (cs.length ≤ 100) then .ok (.val (.str (fmt cs))) S else .stuck
    | none => .stuck
  | _ => .stuck
def m_number_in : MS :=
    (sSeq (sIf (mOr (mBin fEq (mLoc 0) (mC (.str ""))) (mOr (mBin fGt (mUn fLen (mLoc 0)) (mC (.int 2))) (mUn fNot (mUn fTru (mUn fAll (mComp (mItr (mLoc 0)) (.nm 2) (mC (.bl true)) (mBin (fIn false) (mLoc 2) (mC (.str "0123456789"))) [2]))))))
    (sSeq (sRet (mC .non))
    sNil)
    sNil)
    (sSeq (sIf (mAnd (mBin fEq (mBin fIx (mLoc 0) (mC (.int 0))) (mC (.str "0"))) (mBin fNe (mLoc 0) (mC (.str "0"))))
    (sSeq (sRet (mC .non))
    sNil)
    sNil)
    (sSeq (sRet (mIf (mBin fLe (mUn fIntC (mLoc 0)) (mLoc 1)) (mUn fIntC (mLoc 0)) (mC .non)))
    sNil)))
def r_number_in : Run := fun ds S => match ds with
  | [.str w, .int most] => if txtOk w then .ok (.val (optV (numIn w most))) S else .stuck
  | _ => .stuck
def m_numbers_in : MS :=
    (sSeq (sRet (mUn fTupC (mComp (mItr (mLoc 0)) (.nm 2) (mC (.bl true)) (mCall r_number_in (aCons (mLoc 2) (aCons (mLoc 1) aNil))) [2])))
    sNil)
def r_numbers_in : Run := fun ds S => match ds with
  | [d, .int most] => match rdL S (.val d) with
    | some vs => match gStrs vs with
      | some ws => if ws.all txtOk && decide (ws.length ≤ 100000) then .ok (.val (.tup (ws.map fun w => optV (numIn w most)))) S else .stuck
      | none => .stuck
    | none => .stuck
  | _ => .stuck
def m_parse_cuts : MS :=
    (sSeq (sAsg (.nm 2) (mSM gSplit (mLoc 0) (mC (.str "\n"))))
    (sSeq (sAsg (.nm 3) (mSl (mLoc 2) (mC .non) (mUn fInt (mUn fNeg (mC (.int 1))))))
    (sSeq (sAsg (.nm 4) (mLst aNil))
    (sSeq (sFor (mEnum (mLoc 3)) (.tp [5, 6])
    (sSeq (sAsg (.nm 7) (mSM gSplit (mLoc 6) (mC (.str " "))))
    (sSeq (sPar 8 9 (aCons (mCall r_number_in (aCons (mBin fIx (mLoc 7) (mC (.int 0))) (aCons (mC (.int 64)) aNil))) (aCons (mCall r_numbers_in (aCons (mSl (mLoc 7) (mUn fInt (mC (.int 2))) (mC .non)) (aCons (mC (.int 64)) aNil))) aNil)))
    (sSeq (sIf (mOr (mUn fIsN (mLoc 8)) (mOr (mBin fNe (mSl (mLoc 7) (mUn fInt (mC (.int 1))) (mUn fInt (mC (.int 2)))) (mLst (aCons (mC (.str "picks")) aNil))) (mOr (mBin fNe (mUn fLen (mLoc 9)) (mLoc 1)) (mOr (mBin (fIn false) (mC .non) (mLoc 9)) (mBin fEq (mLoc 5) (mC (.int 8)))))))
    (sSeq (sRaise "ParseError" "line" (aCons (mLoc 5) aNil))
    sNil)
    sNil)
    (sSeq (sDrop (mLM gAppend (mLoc 4) (mTup (aCons (mLoc 8) (aCons (mLoc 9) aNil)))))
    sNil)))))
    (sSeq (sIf (mBin fNe (mBin fIx (mLoc 2) (mUn fNeg (mC (.int 1)))) (mC (.str "")))
    (sSeq (sRaise "ParseError" "line" (aCons (mUn fLen (mLoc 3)) aNil))
    sNil)
    sNil)
    (sSeq (sRet (mUn fTupC (mLoc 4)))
    sNil))))))
def r_parse_cuts : Run := fun ds S => match ds with
  | [.str text, .int kept] => if txtOk text then match parseP text kept with
    | .error i => .rz ⟨"ParseError", [("line", .int (i : Nat))]⟩ S
    | .ok cs => .ok (.val (cutsV cs)) S
    else .stuck
  | _ => .stuck
def m__law_pen : MS :=
    (sSeq (sRet (mLst (aCons (mUn fLstC (mSl (mLoc 0) (mC .non) (mUn fInt (mC (.int 63))))) (aCons (mC (.int 0)) (aCons (mC (.int 0)) aNil)))))
    sNil)
def r__law_pen : Run := fun ds S => if ds.length = 1 then (m__law_pen (startE 1 ds) S).out else .stuck
def m__law_fresh : MS :=
    (sSeq (sAsg (.nm 1) (mBin fIx (mLoc 0) (mC (.int 1))))
    (sSeq (sSub (mBin fAdd (mLoc 1) (mC (.int 1))) (mLoc 0) (mC (.int 1)))
    (sSeq (sAsg (.nm 2) (mC (.int 0)))
    (sSeq (sIf (mBin fNe (mBin fIx (mLoc 0) (mC (.int 0))) (mLst aNil))
    (sSeq (sAsg (.nm 2) (mBin fIx (mBin fIx (mLoc 0) (mC (.int 0))) (mBin fMod (mUn fIntC (mLoc 1)) (mUn fLen (mBin fIx (mLoc 0) (mC (.int 0)))))))
    sNil)
    sNil)
    (sSeq (sIf (mAnd (mBin fLt (mLoc 1) (mUn fLen (mBin fIx (mLoc 0) (mC (.int 0))))) (mBin fGe (mLoc 2) (mBin fPow (mC (.int 10)) (mC (.int 18)))))
    (sSeq (sRet (mBin fSub (mLoc 2) (mBin fPow (mC (.int 10)) (mC (.int 18)))))
    sNil)
    sNil)
    (sSeq (sAsg (.nm 3) (mC (.int 2305843009213693951)))
    (sSeq (sAsg (.nm 4) (mBin fMod (mUn fIntC (mBin fAdd (mBin fAdd (mBin fMul (mLoc 2) (mC (.int 48271))) (mBin fMul (mC (.int 40692)) (mLoc 1))) (mC (.int 31)))) (mLoc 3)))
    (sSeq (sAsg (.nm 5) (mLoc 4))
    (sSeq (sFor (mRng1 (mC (.int 6))) (.nm 6)
    (sSeq (sAsg (.nm 4) (mBin fMod (mUn fIntC (mBin fAdd (mBin fAdd (mBin fMul (mLoc 4) (mLoc 4)) (mBin fMul (mBin fMul (mC (.int 69621)) (mBin fAdd (mLoc 6) (mC (.int 1)))) (mBin fAdd (mLoc 1) (mC (.int 1))))) (mLoc 2))) (mLoc 3)))
    (sSeq (sAsg (.nm 5) (mBin fAdd (mBin fMul (mLoc 5) (mLoc 3)) (mLoc 4)))
    sNil)))
    (sSeq (sRet (mLoc 5))
    sNil))))))))))
def r__law_fresh : Run := fun ds S => if ds.length = 1 then (m__law_fresh (startE 7 ds) S).out else .stuck
def m__law_draw : MS :=
    (sSeq (sIf (mBin fLt (mBin fIx (mLoc 0) (mC (.int 2))) (mLoc 1))
    (sSeq (sSub (mCall r__law_fresh (aCons (mLoc 0) aNil)) (mLoc 0) (mC (.int 2)))
    sNil)
    sNil)
    (sSeq (sAsg (.nm 2) (mBin fMod (mUn fIntC (mBin fIx (mLoc 0) (mC (.int 2)))) (mLoc 1)))
    (sSeq (sSub (mBin fDiv (mUn fIntC (mBin fIx (mLoc 0) (mC (.int 2)))) (mLoc 1)) (mLoc 0) (mC (.int 2)))
    (sSeq (sRet (mLoc 2))
    sNil))))
def r__law_draw : Run := fun ds S => if ds.length = 2 then (m__law_draw (startE 3 ds) S).out else .stuck
def m__law_due : MS :=
    (sSeq (sAsg (.tp [2, 3]) (mTup (aCons (mComp (mRng1 (mC (.int 65))) (.nm 7) (mC (.bl true)) (mUn fStrC (mLoc 7)) [7]) (aCons (mSM gSplit (mLoc 0) (mC (.str "\n"))) aNil))))
    (sSeq (sFor (mEnum (mSl (mLoc 3) (mC .non) (mUn fInt (mUn fNeg (mC (.int 1)))))) (.tp [4, 5])
    (sSeq (sAsg (.nm 6) (mSM gSplit (mLoc 5) (mC (.str " "))))
    (sSeq (sIf (mOr (mBin fNe (mUn fLen (mLoc 6)) (mBin fAdd (mLoc 1) (mC (.int 2)))) (mOr (mBin fNe (mBin fIx (mLoc 6) (mC (.int 1))) (mC (.str "picks"))) (mBin fGt (mLoc 4) (mC (.int 7)))))
    (sSeq (sRet (mLoc 4))
    sNil)
    sNil)
    (sSeq (sIf (mBin fNe (mComp (mItr (mBin fAdd (mSl (mLoc 6) (mC .non) (mUn fInt (mC (.int 1)))) (mSl (mLoc 6) (mUn fInt (mC (.int 2))) (mC .non)))) (.nm 8) (mBin (fIn true) (mLoc 8) (mLoc 2)) (mLoc 8) [8]) (mLst aNil))
    (sSeq (sRet (mLoc 4))
    sNil)
    sNil)
    sNil))))
    (sSeq (sRet (mIf (mBin fEq (mBin fIx (mLoc 3) (mUn fNeg (mC (.int 1)))) (mC (.str ""))) (mC .non) (mBin fSub (mUn fLen (mLoc 3)) (mC (.int 1)))))
    sNil)))
def r__law_due : Run := fun ds S => match ds with
  | [.str text, .int kept] => if txtOk text && decide (0 ≤ kept) then .ok (.val (match parseP text kept with
    | .error i => .int (i : Nat)
    | .ok _ => .non)) S
    else .stuck
  | _ => .stuck
def m__law_raised : MS :=
    (sSeq (sAsg (.nm 2) (mC .non))
    (sSeq (sTryF (cat1 "ParseError") 3 2 "line"
    (sSeq (sAsg (.nm 2) (mIf (mBin fEq (mCall r_format_cuts (aCons (mCall r_parse_cuts (aCons (mLoc 0) (aCons (mLoc 1) aNil))) aNil)) (mLoc 0)) (mC .non) (mC (.str "other"))))
    sNil))
    (sSeq (sRet (mLoc 2))
    sNil)))
def r__law_raised : Run := fun ds S => match ds with
  | [.str text, .int kept] => if txtOk text && decide (kept ≤ 100) then .ok (.val (match parseP text kept with
    | .error i => .int (i : Nat)
    | .ok _ => .non)) S
    else .stuck
  | _ => .stuck
def m__law_number : MS :=
    (sSeq (sRet (mBin fIx (mLst (aCons (mC (.int 0)) (aCons (mC (.int 1)) (aCons (mC (.int 9)) (aCons (mC (.int 10)) (aCons (mC (.int 63)) (aCons (mC (.int 64)) (aCons (mCall r__law_draw (aCons (mLoc 0) (aCons (mC (.int 65)) aNil))) aNil)))))))) (mCall r__law_draw (aCons (mLoc 0) (aCons (mC (.int 7)) aNil)))))
    sNil)
def r__law_number : Run := fun ds S => if ds.length = 1 then (m__law_number (startE 1 ds) S).out else .stuck
def m_law : MS :=
    (sSeq (sAsg (.nm 1) (mCall r__law_pen (aCons (mLoc 0) aNil)))
    (sSeq (sFor (mRng1 (mC (.int 8))) (.nm 2)
    (sSeq (sPar 3 9 (aCons (mCall r__law_draw (aCons (mLoc 1) (aCons (mC (.int 5)) aNil))) (aCons (mTup aNil) aNil)))
    (sSeq (sFor (mRng1 (mCall r__law_draw (aCons (mLoc 1) (aCons (mC (.int 9)) aNil)))) (.nm 5)
    (sSeq (sAsg (.nm 10) (mUn fTupC (mComp (mRng1 (mLoc 3)) (.nm 16) (mC (.bl true)) (mCall r__law_number (aCons (mLoc 1) aNil)) [16])))
    (sSeq (sAsg (.nm 9) (mBin fAdd (mLoc 9) (mTup (aCons (mTup (aCons (mCall r__law_number (aCons (mLoc 1) aNil)) (aCons (mLoc 10) aNil))) aNil))))
    sNil)))
    (sSeq (sAsg (.nm 6) (mComp (mItr (mLoc 9)) (.tp [13, 10]) (mC (.bl true)) (mBin fAdd (mLst (aCons (mUn fStrC (mLoc 13)) (aCons (mC (.str "picks")) aNil))) (mComp (mItr (mLoc 10)) (.nm 17) (mC (.bl true)) (mUn fStrC (mLoc 17)) [17])) [13, 10]))
    (sSeq (sAsg (.nm 7) (mSM gJoin (mC (.str "")) (mComp (mItr (mLoc 6)) (.nm 14) (mC (.bl true)) (mBin fAdd (mSM gJoin (mC (.str " ")) (mLoc 14)) (mC (.str "\n"))) [14])))
    (sSeq (sIf (mOr (mBin fNe (mCall r_format_cuts (aCons (mLoc 9) aNil)) (mLoc 7)) (mBin fNe (mUn fRepr (mCall r_parse_cuts (aCons (mLoc 7) (aCons (mLoc 3) aNil)))) (mUn fRepr (mLoc 9))))
    (sSeq (sRet (mC (.bl false)))
    sNil)
    sNil)
    (sSeq (sIf (mBin fNe (mCall r__law_raised (aCons (mLoc 7) (aCons (mBin fMod (mBin fAdd (mLoc 3) (mC (.int 1))) (mC (.int 5))) aNil))) (mCall r__law_due (aCons (mLoc 7) (aCons (mBin fMod (mBin fAdd (mLoc 3) (mC (.int 1))) (mC (.int 5))) aNil))))
    (sSeq (sRet (mC (.bl false)))
    sNil)
    sNil)
    (sSeq (sFor (mRng1 (mCall r__law_draw (aCons (mLoc 1) (aCons (mC (.int 3)) aNil)))) (.nm 5)
    (sSeq (sPar 12 11 (aCons (mCall r__law_draw (aCons (mLoc 1) (aCons (mBin fAdd (mUn fLen (mLoc 7)) (mC (.int 1))) aNil))) (aCons (mBin fIx (mC (.str " 0123456789picks-\n\t_+")) (mCall r__law_draw (aCons (mLoc 1) (aCons (mC (.int 21)) aNil)))) aNil)))
    (sSeq (sAsg (.nm 11) (mIf (mBin fEq (mCall r__law_draw (aCons (mLoc 1) (aCons (mC (.int 5)) aNil))) (mC (.int 0))) (mC (.str "")) (mLoc 11)))
    (sSeq (sAsg (.nm 7) (mBin fAdd (mBin fAdd (mSl (mLoc 7) (mC .non) (mUn fInt (mLoc 12))) (mLoc 11)) (mSl (mLoc 7) (mUn fInt (mBin fAdd (mLoc 12) (mCall r__law_draw (aCons (mLoc 1) (aCons (mC (.int 2)) aNil))))) (mC .non))))
    sNil))))
    (sSeq (sIf (mBin fNe (mCall r__law_raised (aCons (mLoc 7) (aCons (mLoc 3) aNil))) (mCall r__law_due (aCons (mLoc 7) (aCons (mLoc 3) aNil))))
    (sSeq (sRet (mC (.bl false)))
    sNil)
    sNil)
    sNil)))))))))
    (sSeq (sFor (mRng1 (mC (.int 5))) (.nm 3)
    (sSeq (sAsg (.nm 8) (mBin fAdd (mBin fAdd (mC (.str "64 picks")) (mBin fMul (mC (.str " 64")) (mLoc 3))) (mC (.str "\n"))))
    (sSeq (sIf (mOr (mUn fNotN (mCall r__law_raised (aCons (mBin fMul (mLoc 8) (mC (.int 8))) (aCons (mLoc 3) aNil)))) (mBin fNe (mCall r__law_raised (aCons (mBin fMul (mLoc 8) (mC (.int 9))) (aCons (mLoc 3) aNil))) (mC (.int 8))))
    (sSeq (sRet (mC (.bl false)))
    sNil)
    sNil)
    sNil)))
    (sSeq (sAsg (.nm 4) (mLst (aCons (mTup (aCons (mC (.str "")) (aCons (mC (.int 0)) (aCons (mC .non) aNil)))) (aCons (mTup (aCons (mBin fMul (mC (.str "0 picks\n")) (mC (.int 8))) (aCons (mC (.int 0)) (aCons (mC .non) aNil)))) (aCons (mTup (aCons (mBin fMul (mC (.str "0 picks\n")) (mC (.int 9))) (aCons (mC (.int 0)) (aCons (mC (.int 8)) aNil)))) (aCons (mTup (aCons (mC (.str "65 picks\n")) (aCons (mC (.int 0)) (aCons (mC (.int 0)) aNil)))) aNil))))))
    (sSeq (sAsg (.nm 4) (mBin fAdd (mLoc 4) (mLst (aCons (mTup (aCons (mC (.str "0 picks 65\n")) (aCons (mC (.int 1)) (aCons (mC (.int 0)) aNil)))) (aCons (mTup (aCons (mC (.str "0 picks")) (aCons (mC (.int 0)) (aCons (mC (.int 0)) aNil)))) aNil)))))
    (sSeq (sAsg (.nm 4) (mBin fAdd (mLoc 4) (mLst (aCons (mTup (aCons (mC (.str "0 picks\n0")) (aCons (mC (.int 0)) (aCons (mC (.int 1)) aNil)))) (aCons (mTup (aCons (mC (.str "0 picks 0\n1 picks\n")) (aCons (mC (.int 1)) (aCons (mC (.int 1)) aNil)))) (aCons (mTup (aCons (mC (.str "0 picks 00\n")) (aCons (mC (.int 1)) (aCons (mC (.int 0)) aNil)))) aNil))))))
    (sSeq (sAsg (.nm 4) (mBin fAdd (mLoc 4) (mLst (aCons (mTup (aCons (mBin fMul (mC (.str "0 picks\n")) (mC (.int 10))) (aCons (mC (.int 0)) (aCons (mC (.int 8)) aNil)))) (aCons (mTup (aCons (mBin fAdd (mBin fMul (mC (.str "0 picks\n")) (mC (.int 9))) (mC (.str "x\n"))) (aCons (mC (.int 0)) (aCons (mC (.int 8)) aNil)))) (aCons (mTup (aCons (mBin fAdd (mBin fMul (mC (.str "0 picks\n")) (mC (.int 9))) (mC (.str "0"))) (aCons (mC (.int 0)) (aCons (mC (.int 8)) aNil)))) aNil))))))
    (sSeq (sAsg (.nm 4) (mBin fAdd (mLoc 4) (mLst (aCons (mTup (aCons (mC (.str "3 5 picks\n")) (aCons (mC (.int 1)) (aCons (mC (.int 0)) aNil)))) (aCons (mTup (aCons (mC (.str "picks 3 5\n")) (aCons (mC (.int 1)) (aCons (mC (.int 0)) aNil)))) aNil)))))
    (sSeq (sAsg (.nm 4) (mBin fAdd (mLoc 4) (mLst (aCons (mTup (aCons (mBin fAdd (mBin fMul (mC (.str "1")) (mC (.int 4400))) (mC (.str " picks\n"))) (aCons (mC (.int 0)) (aCons (mC (.int 0)) aNil)))) (aCons (mTup (aCons (mBin fAdd (mBin fAdd (mC (.str "0 picks ")) (mBin fMul (mC (.str "0")) (mC (.int 4400)))) (mC (.str "\n"))) (aCons (mC (.int 1)) (aCons (mC (.int 0)) aNil)))) (aCons (mTup (aCons (mC (.str "0 picks \n")) (aCons (mC (.int 0)) (aCons (mC (.int 0)) aNil)))) aNil))))))
    (sSeq (sRet (mBin fEq (mComp (mItr (mLoc 4)) (.tp [7, 3, 15]) (mC (.bl true)) (mCall r__law_raised (aCons (mLoc 7) (aCons (mLoc 3) aNil))) [7, 3, 15]) (mComp (mItr (mLoc 4)) (.tp [7, 3, 15]) (mC (.bl true)) (mLoc 15) [7, 3, 15])))
    sNil))))))))))
def r_law : Run := fun ds S => if ds.length = 1 then (m_law (startE 18 ds) S).out else .stuck
end Lk83
end MP

namespace MP
namespace Lk83
open PySem L2 PySem.Spec PyProof.Rows

theorem txt_ok {z : Str} (h : txtOk z = true) : PyData.strOk z = true ∧ z.length ≤ 100000 := by
  unfold txtOk at h
  obtain ⟨h1, h2⟩ := Bool.and_eq_true_iff.mp h
  exact ⟨h1, of_decide_eq_true h2⟩
theorem okLen_of {n : Nat} (h : n ≤ 16777216) : okLen n = true := decide_eq_true h
theorem shaped_str {z : Str} (h : PyData.strOk z = true) : SeqAt.shaped (.str z) = true := by
  simp [SeqAt.shaped, PyData.canLay0, PyData.depth, h]
theorem fEq_str {S : Store} {x y : Str} (hx : PyData.strOk x = true) (hy : PyData.strOk y = true) : fEq S (.val (.str x)) (.val (.str y)) = some (.val (.bl (x == y))) := by
  have e1 : pdO S (.val (.str x)) = some (.str x) := rfl
  have e2 : pdO S (.val (.str y)) = some (.str y) := rfl
  unfold fEq
  rw [e1, e2]
  simp only [shaped_str hx, shaped_str hy, Bool.and_self, if_true]
  rfl
theorem fNe_str {S : Store} {x y : Str} (hx : PyData.strOk x = true) (hy : PyData.strOk y = true) : fNe S (.val (.str x)) (.val (.str y)) = some (.val (.bl (!(x == y)))) := by
  have e1 : pdO S (.val (.str x)) = some (.str x) := rfl
  have e2 : pdO S (.val (.str y)) = some (.str y) := rfl
  unfold fNe
  rw [e1, e2]
  simp only [shaped_str hx, shaped_str hy, Bool.and_self, if_true]
  rfl
theorem at_zero {α : Type} (c : α) (r : List α) : atI (c :: r) 0 = some c := by
  unfold atI
  simp [ixN]
def digits : List Nat := ("0123456789" : Str).cps.toList
def badW (w : Str) : Bool := w == "" || decide (2 < w.length) || !(w.cps.toList.all fun c => decide (c ∈ digits)) || ((w.cps[0]? == some 48) && !(w == "0"))
/-- the texts of one or two digits -/
def dig2 : List Str := ((List.range 10).map fun a => (⟨#[48 + a]⟩ : Str)) ++ ((List.range 10).flatMap fun a => (List.range 10).map fun b => (⟨#[48 + a, 48 + b]⟩ : Str))
theorem dig2_ok : dig2.all (fun w => badW w || match PySem.intText? w with | some i => decide (0 ≤ i) && decide (i < 100) && decide (numS i.toNat = w) | none => false) = true := by decide +kernel
theorem num_good : (List.range 100).all (fun n => !badW (numS n)) = true := by decide +kernel
theorem numS_inj : (List.range 100).all (fun a => (List.range 100).all fun b => decide (numS a = numS b) == decide (a = b)) = true := by decide +kernel
theorem mem_digits {c : Nat} (h : c ∈ digits) : ∃ a, a < 10 ∧ c = 48 + a := by
  have e : digits = [48, 49, 50, 51, 52, 53, 54, 55, 56, 57] := by decide +kernel
  rw [e] at h
  simp only [List.mem_cons, List.not_mem_nil, or_false] at h
  exact ⟨c - 48, by omega, by omega⟩
theorem good_dig2 {w : Str} (h : badW w = false) : w ∈ dig2 := by
  unfold badW at h
  simp only [Bool.or_eq_false_iff, Bool.not_eq_false', decide_eq_false_iff_not, List.all_eq_true, decide_eq_true_eq] at h
  obtain ⟨⟨⟨h1, h2⟩, h3⟩, h4⟩ := h
  obtain ⟨⟨l⟩⟩ := w
  replace h2 : ¬ 2 < l.length := h2
  replace h3 : ∀ c ∈ l, c ∈ digits := h3
  match l, h1, h2, h3 with
  | [], h1, _, _ => exact absurd h1 (by decide)
  | [c], _, _, h3 =>
    obtain ⟨a, ha, rfl⟩ := mem_digits (h3 _ List.mem_cons_self)
    exact List.mem_append_left _ (List.mem_map.mpr ⟨a, List.mem_range.mpr ha, rfl⟩)
  | [c, d], _, _, h3 =>
    obtain ⟨a, ha, rfl⟩ := mem_digits (h3 _ List.mem_cons_self)
    obtain ⟨b, hb, rfl⟩ := mem_digits (h3 _ (List.mem_cons_of_mem _ List.mem_cons_self))
    exact List.mem_append_right _ (List.mem_flatMap.mpr ⟨a, List.mem_range.mpr ha, List.mem_map.mpr ⟨b, List.mem_range.mpr hb, rfl⟩⟩)
  | c :: d :: e :: r, _, h2, _ => exact absurd (by simp) h2
theorem good_num {w : Str} (h : badW w = false) : ∃ n : Nat, n < 100 ∧ PySem.intText? w = some (n : Int) ∧ numS n = w := by
  have := List.all_eq_true.mp dig2_ok w (good_dig2 h)
  rw [h, Bool.false_or] at this
  split at this
  · rename_i i hi
    simp only [Bool.and_eq_true, decide_eq_true_eq] at this
    obtain ⟨⟨h1, h2⟩, h3⟩ := this
    exact ⟨i.toNat, by omega, by rw [hi]; congr 1; omega, h3⟩
  · cases this
theorem find_num {n : Nat} (hn : n < 100) : (List.range 100).find? (fun m => decide (numS m = numS n)) = some n := by
  have h := numS_inj
  cases e : (List.range 100).find? (fun m => decide (numS m = numS n)) with
  | none =>
    have := List.find?_eq_none.mp e n (List.mem_range.mpr hn)
    simp at this
  | some m =>
    have h1 := List.find?_some e
    have h2 := List.mem_of_find?_eq_some e
    have h3 := List.all_eq_true.mp (List.all_eq_true.mp h m h2) n (List.mem_range.mpr hn)
    have h4 : numS m = numS n := of_decide_eq_true h1
    rw [decide_eq_true h4] at h3
    have : m = n := by simpa using h3
    rw [this]
theorem numIn_good {w : Str} {most : Int} (h : badW w = false) : ∃ n : Nat, n < 100 ∧ PySem.intText? w = some (n : Int) ∧ numS n = w ∧ numIn w most = if (n : Int) ≤ most then some (n : Int) else none := by
  obtain ⟨n, h1, h2, h3⟩ := good_num h
  refine ⟨n, h1, h2, h3, ?_⟩
  unfold numIn
  rw [← h3, find_num h1]
theorem numIn_bad {w : Str} {most : Int} (h : badW w = true) : numIn w most = none := by
  unfold numIn
  have : (List.range 100).find? (fun n => decide (numS n = w)) = none := by
    refine List.find?_eq_none.mpr fun n hn e => ?_
    have h1 := List.all_eq_true.mp num_good n hn
    rw [of_decide_eq_true e, h] at h1
    cases h1
  rw [this]
/-- the signs' test -/
theorem sign_loop {w : Str} {most : Int} {S : Store} (hz : w.length ≤ 100000) :
    mComp (mItr (mLoc 0)) (.nm 2) (mC (.bl true)) (mBin (fIn false) (mLoc 2) (mC (.str "0123456789"))) [2] [some (.str w), some (.int most), none] S = .ok (.new (.lst ((chars w).map fun d => match d with | .str z => .bl (z.cps.toList.all fun c => decide (c ∈ digits)) | _ => .non))) S := by
  unfold mComp mItr
  show loopC _ _ _ (wipeE _ [2]) none (chars w) [] S = _
  rw [loopC_fm (fun _ => true) (fun d => match d with | .str z => .bl (z.cps.toList.all fun c => decide (c ∈ digits)) | _ => .non) liveOk_none]
  · rw [List.nil_append, List.filter_eq_self.mpr (fun _ _ => rfl)]
  · intro d hd
    unfold chars at hd
    obtain ⟨c, hc, rfl⟩ := List.mem_map.mp hd
    refine ⟨_, rfl, rfl, fun _ => ?_⟩
    have e : mBin (fIn false) (mLoc 2) (mC (.str "0123456789")) ((wipeE [some (.str w), some (.int most), none] [2]).set 2 (some (.str ⟨#[c]⟩))) S = .ok (.val (.bl (decide (c ∈ digits)))) S := rfl
    rw [e]
    simp
  · unfold chars
    rw [List.length_map, Array.length_toList]
    have : w.cps.size = w.length := rfl
    simp; omega
theorem bls_chars (w : Str) : bls ((chars w).map fun d => match d with | .str z => .bl (z.cps.toList.all fun c => decide (c ∈ digits)) | _ => .non) = some (w.cps.toList.map fun c => decide (c ∈ digits)) := by
  unfold chars
  rw [List.map_map]
  induction w.cps.toList with
  | nil => rfl
  | cons c r ih =>
    rw [List.map_cons]
    simp only [Function.comp] at ih ⊢
    unfold bls
    rw [ih]
    simp
theorem raw_number_in {w : Str} {most : Int} {S : Store} (h : txtOk w = true) : (m_number_in (startE 3 [.str w, .int most]) S).out = .ok (.val (optV (numIn w most))) S := by
  obtain ⟨h1, h2⟩ := txt_ok h
  show RS.out (m_number_in [some (.str w), some (.int most), none] S) = _
  have t1 : mBin fEq (mLoc 0) (mC (.str "")) [some (.str w), some (.int most), none] S = .ok (.val (.bl (w == ""))) S := by
    show ofO S (fEq S (.val (.str w)) (.val (.str ""))) = _
    rw [fEq_str h1 (by decide +kernel)]; rfl
  have e2 : fLen S (.val (.str w)) = some (.val (.int w.length)) := by
    show (if okLen w.length then vI w.length else none) = _
    rw [okLen_of (by omega)]; rfl
  have t2 : mBin fGt (mUn fLen (mLoc 0)) (mC (.int 2)) [some (.str w), some (.int most), none] S = .ok (.val (.bl (decide (2 < w.length)))) S := by
    rw [mBin_val (o := .val (.int w.length)) (S1 := S) (o' := .val (.int 2)) (S2 := S) (by rw [mUn_val (o := .val (.str w)) (S1 := S) rfl, e2]; rfl) rfl]
    show Res.ok (.val (.bl (decide ((2 : Int) < (w.length : Int))))) S = _
    rw [show decide ((2 : Int) < (w.length : Int)) = decide (2 < w.length) from decide_eq_decide.mpr (by omega)]
  have t3 : mUn fNot (mUn fTru (mUn fAll (mComp (mItr (mLoc 0)) (.nm 2) (mC (.bl true)) (mBin (fIn false) (mLoc 2) (mC (.str "0123456789"))) [2]))) [some (.str w), some (.int most), none] S = .ok (.val (.bl (!(w.cps.toList.all fun c => decide (c ∈ digits))))) S := by
    refine mNot_val (mTru_bl ?_)
    rw [mUn_val (sign_loop h2)]
    show ofO S (match bls _ with | some bs => vB (bs.all id) | none => none) = _
    rw [bls_chars]
    show Res.ok (.val (.bl ((w.cps.toList.map fun c => decide (c ∈ digits)).all id))) S = _
    rw [List.all_map]; rfl
  have b1 := mOr_val t1 (fun _ => mOr_val t2 (fun _ => t3))
  unfold m_number_in
  by_cases hb : ((w == "") || (decide (2 < w.length) || !(w.cps.toList.all fun c => decide (c ∈ digits)))) = true
  · rw [hb] at b1
    rw [sSeq_ret (o := .val .non) (S1 := S) (by rw [sIf_val b1]; rfl), numIn_bad (by unfold badW; rw [Bool.or_assoc (w == "") _ _, hb, Bool.true_or])]
    rfl
  · rw [Bool.not_eq_true] at hb
    rw [hb] at b1
    rw [sSeq_nx (e := [some (.str w), some (.int most), none]) (S1 := S) (by rw [sIf_val b1]; rfl)]
    have hb' := hb
    simp only [Bool.or_eq_false_iff, Bool.not_eq_false', decide_eq_false_iff_not] at hb'
    obtain ⟨g1, g2, g3⟩ := hb'
    obtain ⟨c, r, hw⟩ : ∃ c r, w.cps.toList = c :: r := by
      cases e : w.cps.toList with
      | nil =>
        exfalso
        have : w = "" := by
          obtain ⟨⟨l⟩⟩ := w
          have e : l = [] := e
          subst e; rfl
        rw [this] at g1
        exact absurd g1 (by decide)
      | cons c r => exact ⟨c, r, rfl⟩
    have i0 : fIx S (.val (.str w)) (.val (.int 0)) = some (.val (.str ⟨#[c]⟩)) := by
      show (if okLen w.length then (atI w.cps.toList 0).map fun c => Opd.val (.str ⟨#[c]⟩) else none) = _
      rw [okLen_of (by omega), hw, if_pos rfl, at_zero]; rfl
    have t4 : mBin fEq (mBin fIx (mLoc 0) (mC (.int 0))) (mC (.str "0")) [some (.str w), some (.int most), none] S = .ok (.val (.bl ((⟨#[c]⟩ : Str) == "0"))) S := by
      rw [mBin_val (o := .val (.str ⟨#[c]⟩)) (S1 := S) (o' := .val (.str "0")) (S2 := S) (by rw [mBin_val (o := .val (.str w)) (S1 := S) (o' := .val (.int 0)) (S2 := S) rfl rfl, i0]; rfl) rfl, fEq_str (by
        have := Array.all_eq_true'.mp h1 c (by rw [← Array.mem_toList_iff, hw]; exact List.mem_cons_self)
        show ((#[c] : Array Nat).all _) = true
        simpa using this) (by decide +kernel)]; rfl
    have t5 : mBin fNe (mLoc 0) (mC (.str "0")) [some (.str w), some (.int most), none] S = .ok (.val (.bl (!(w == "0")))) S := by
      rw [mBin_val (o := .val (.str w)) (S1 := S) (o' := .val (.str "0")) (S2 := S) rfl rfl, fNe_str h1 (by decide +kernel)]; rfl
    have b2 := mAnd_val t4 (fun _ => t5)
    have ec : ((⟨#[c]⟩ : Str) == "0") = (w.cps[0]? == some 48) := by
      have : w.cps[0]? = some c := by rw [← Array.getElem?_toList, hw]; rfl
      rw [this]
      by_cases h : c = 48
      · subst h; rfl
      · have a1 : ((⟨#[c]⟩ : Str) == "0") = false := beq_eq_false_iff_ne.mpr (fun e => h (by
          have := congrArg (fun z : Str => z.cps.toList) e
          have e2 : ("0" : Str).cps.toList = [48] := by decide
          rw [e2] at this
          simpa using this))
        have a2 : (some c == some 48) = false := beq_eq_false_iff_ne.mpr (fun e => h (by simpa using e))
        rw [a1, a2]
    rw [ec] at b2
    by_cases hc : ((w.cps[0]? == some 48) && !(w == "0")) = true
    · rw [hc] at b2
      rw [sSeq_ret (o := .val .non) (S1 := S) (by rw [sIf_val b2]; rfl), numIn_bad (by unfold badW; rw [hc, Bool.or_true])]
      rfl
    · rw [Bool.not_eq_true] at hc
      rw [hc] at b2
      rw [sSeq_nx (e := [some (.str w), some (.int most), none]) (S1 := S) (by rw [sIf_val b2]; rfl)]
      obtain ⟨n, n1, n2, n3, n4⟩ := numIn_good (w := w) (most := most) (by unfold badW; rw [Bool.or_assoc (w == "") _ _, hb, hc]; rfl)
      have t6 : mUn fIntC (mLoc 0) [some (.str w), some (.int most), none] S = .ok (.val (.int n)) S := by
        rw [mUn_val (o := .val (.str w)) (S1 := S) rfl]
        show ofO S (if decide (w.length ≤ 640) then (match PySem.intText? w with | some n => vI n | none => none) else none) = _
        rw [n2, decide_eq_true (by omega)]; rfl
      have t7 : mBin fLe (mUn fIntC (mLoc 0)) (mLoc 1) [some (.str w), some (.int most), none] S = .ok (.val (.bl (decide ((n : Int) ≤ most)))) S := by
        rw [mBin_val (o := .val (.int n)) (S1 := S) (o' := .val (.int most)) (S2 := S) t6 rfl]; rfl
      rw [n4]
      have t8 : mIf (mBin fLe (mUn fIntC (mLoc 0)) (mLoc 1)) (mUn fIntC (mLoc 0)) (mC .non) [some (.str w), some (.int most), none] S = .ok (.val (optV (if (n : Int) ≤ most then some (n : Int) else none))) S := by
        rw [mIf_val t7]
        by_cases hm : (n : Int) ≤ most
        · rw [decide_eq_true hm, if_pos rfl, if_pos hm]; exact t6
        · rw [decide_eq_false hm, if_neg Bool.false_ne_true, if_neg hm]; rfl
      rw [sSeq_ret (sRet_val t8)]
      rfl
theorem hrun_number_in : ∀ ds S, ds.length = (["word", "most"] : List Str).length → Cl S (m_number_in (startE (["word", "most", "sign"] : List Str).length ds) S).out (r_number_in ds S) := by
  intro ds S _
  unfold r_number_in
  split
  · split
    · rename_i h
      rw [show (["word", "most", "sign"] : List Str).length = 3 from rfl, raw_number_in h]
      exact .same _
    · exact .stuck _
  · exact .stuck _
theorem len_number_in : ∀ ds S, r_number_in ds S ≠ .stuck → ds.length = (["word", "most"] : List Str).length := by
  intro ds S h
  unfold r_number_in at h
  split at h
  · rfl
  · exact absurd rfl h
end Lk83
end MP

namespace MP
namespace Lk83
open PySem L2 PySem.Spec PyProof.Rows

theorem gStrs_eq : ∀ {vs : List Val} {ws : List Str}, gStrs vs = some ws → vs = ws.map Val.str
  | [], ws, h => by cases h; rfl
  | v :: vs, ws, h => by
    cases v with
    | str z =>
      unfold gStrs at h
      cases e : gStrs vs with
      | none => rw [e] at h; cases h
      | some r => rw [e] at h; cases h; rw [gStrs_eq e]; rfl
    | non => cases h
    | bl _ => cases h
    | int _ => cases h
    | tup _ => cases h
    | ref _ => cases h
    | scr _ => cases h
theorem gStrs_map : ∀ (ws : List Str), gStrs (ws.map Val.str) = some ws
  | [] => rfl
  | w :: ws => by
    rw [List.map_cons]
    unfold gStrs
    rw [gStrs_map ws]; rfl
theorem rdL_val {S : Store} {d : Val} {vs : List Val} (h : rdL S (.val d) = some vs) : ∃ l, d = .ref l ∧ S[l]? = some (.lst vs) := by
  cases d with
  | ref l =>
    replace h : (match S[l]? with | some (Obj.lst vs) => some vs | _ => none) = some vs := h
    split at h
    · rename_i us hs
      cases h
      exact ⟨l, rfl, hs⟩
    · cases h
  | non => cases h
  | bl _ => cases h
  | int _ => cases h
  | tup _ => cases h
  | str _ => cases h
  | scr _ => cases h
theorem call_number {env : Env} {S : Store} {i j : Nat} {w : Str} {most : Int} (h1 : env[i]? = some (some (.str w))) (h2 : env[j]? = some (some (.int most))) (h : txtOk w = true) :
    mCall r_number_in (aCons (mLoc i) (aCons (mLoc j) aNil)) env S = .ok (.val (optV (numIn w most))) S := by
  rw [mCall_val (aCons_val (mLoc_val h1) (aCons_val (mLoc_val h2) aNil_val))]
  show (if txtOk w then Res.ok (.val (optV (numIn w most))) S else .stuck) = _
  rw [if_pos h]
theorem raw_numbers_in {l : Nat} {most : Int} {S : Store} {ws : List Str} (hl : S[l]? = some (.lst (ws.map .str))) (h : ws.all txtOk = true) (hz : ws.length ≤ 100000) :
    (m_numbers_in (startE 3 [.ref l, .int most]) S).out = .ok (.val (.tup (ws.map fun w => optV (numIn w most)))) S := by
  show RS.out (m_numbers_in [some (.ref l), some (.int most), none] S) = _
  unfold m_numbers_in
  have e : mComp (mItr (mLoc 0)) (.nm 2) (mC (.bl true)) (mCall r_number_in (aCons (mLoc 2) (aCons (mLoc 1) aNil))) [2] [some (.ref l), some (.int most), none] S = .ok (.new (.lst (ws.map fun w => optV (numIn w most)))) S := by
    have e0 : mItr (mLoc 0) [some (.ref l), some (.int most), none] S = .ok (ws.map .str) (some (l, ws.map .str)) S := by
      show (match rdL S (.val (.ref l)) with | some vs => RI.ok vs (some (l, vs)) S | none => .stuck) = _
      rw [rdL_ref hl]
    unfold mComp
    rw [e0]
    show loopC _ _ _ (wipeE _ [2]) _ (ws.map Val.str) [] S = _
    rw [loopC_fm (fun _ => true) (fun d => match d with | .str z => optV (numIn z most) | _ => .non) (liveOk_some hl)]
    · rw [List.nil_append, List.filter_eq_self.mpr (fun _ _ => rfl), List.map_map]; rfl
    · intro d hd
      obtain ⟨w, hw, rfl⟩ := List.mem_map.mp hd
      exact ⟨_, rfl, rfl, fun _ => call_number rfl rfl (List.all_eq_true.mp h w hw)⟩
    · simp; omega
  rw [sSeq_ret (sRet_val (o := .val (.tup (ws.map fun w => optV (numIn w most)))) (S1 := S) (by rw [mUn_val e]; rfl))]
  rfl
theorem hrun_numbers_in : ∀ ds S, ds.length = (["words", "most"] : List Str).length → Cl S (m_numbers_in (startE (["words", "most", "word"] : List Str).length ds) S).out (r_numbers_in ds S) := by
  intro ds S _
  unfold r_numbers_in
  split
  · rename_i d most
    split
    · rename_i vs hv
      split
      · rename_i ws hw
        split
        · rename_i h
          obtain ⟨h1, h2⟩ := Bool.and_eq_true_iff.mp h
          obtain ⟨l, rfl, hl⟩ := rdL_val hv
          rw [gStrs_eq hw] at hl
          rw [show (["words", "most", "word"] : List Str).length = 3 from rfl, raw_numbers_in hl h1 (of_decide_eq_true h2)]
          exact .same _
        · exact .stuck _
      · exact .stuck _
    · exact .stuck _
  · exact .stuck _
theorem len_numbers_in : ∀ ds S, r_numbers_in ds S ≠ .stuck → ds.length = (["words", "most"] : List Str).length := by
  intro ds S h
  unfold r_numbers_in at h
  split at h
  · rfl
  · exact absurd rfl h
end Lk83
end MP

namespace MP
namespace Lk83
open PySem L2 PySem.Spec PyProof.Rows

theorem gInts_eq : ∀ {vs : List Val} {ws : List Int}, gInts vs = some ws → vs = ws.map Val.int
  | [], ws, h => by cases h; rfl
  | v :: vs, ws, h => by
    cases v with
    | int z =>
      unfold gInts at h
      cases e : gInts vs with
      | none => rw [e] at h; cases h
      | some r => rw [e] at h; cases h; rw [gInts_eq e]; rfl
    | non => cases h
    | bl _ => cases h
    | str _ => cases h
    | tup _ => cases h
    | ref _ => cases h
    | scr _ => cases h
theorem gInts_map : ∀ (ws : List Int), gInts (ws.map Val.int) = some ws
  | [] => rfl
  | w :: ws => by
    rw [List.map_cons]
    unfold gInts
    rw [gInts_map ws]; rfl
theorem cutOf_eq {v : Val} {c : Int × List Int} (h : cutOf v = some c) : v = cutV c := by
  unfold cutOf at h
  split at h
  · rename_i i ps
    cases e : gInts ps with
    | none => rw [e] at h; cases h
    | some qs => rw [e] at h; cases h; rw [gInts_eq e]; rfl
  · cases h
theorem cutOf_V (c : Int × List Int) : cutOf (cutV c) = some c := by
  show (gInts (c.2.map Val.int)).map (fun ps => (c.1, ps)) = _
  rw [gInts_map]; rfl
theorem mapM_eq {α β : Type} {f : α → Option β} {g : β → α} (hf : ∀ a b, f a = some b → a = g b) : ∀ {as : List α} {bs : List β}, as.mapM f = some bs → as = bs.map g
  | [], bs, h => by
    have : bs = [] := by simpa using h.symm
    rw [this]; rfl
  | a :: as, bs, h => by
    rw [List.mapM_cons] at h
    cases e : f a with
    | none => rw [e] at h; cases h
    | some b =>
      rw [e] at h
      cases e2 : as.mapM f with
      | none => rw [e2] at h; cases h
      | some r =>
        rw [e2] at h
        have : bs = b :: r := (Option.some.inj h).symm
        rw [this, List.map_cons, ← hf a b e, ← mapM_eq hf e2]
theorem mapM_map {α β : Type} {f : α → Option β} {g : β → α} (hf : ∀ b, f (g b) = some b) : ∀ (bs : List β), (bs.map g).mapM f = some bs
  | [] => rfl
  | b :: bs => by
    rw [List.map_cons, List.mapM_cons, hf b]
    show (do let r ← (bs.map g).mapM f; pure (b :: r)) = _
    rw [mapM_map hf bs]; rfl
theorem small_of {i : Int} (h : small i = true) : 0 ≤ i ∧ i < 100 := by
  unfold small at h
  obtain ⟨a, b⟩ := Bool.and_eq_true_iff.mp h
  exact ⟨of_decide_eq_true a, of_decide_eq_true b⟩
theorem small_len : (List.range 100).all (fun n => decide ((numS n).length ≤ 2) && decide (((n : Int)).natAbs.log2 < 1900) && (numS n).cps.all (fun c => decide (c < 128)) && (numS n).cps.all (fun c => decide (c ≠ 32) && decide (c ≠ 10))) = true := by decide +kernel
theorem small_facts {i : Int} (h : small i = true) : (numI i).length ≤ 2 ∧ i.natAbs.log2 < 1900 ∧ (∀ c ∈ (numI i).cps.toList, c < 128 ∧ c ≠ 32 ∧ c ≠ 10) := by
  obtain ⟨h1, h2⟩ := small_of h
  have := List.all_eq_true.mp small_len i.toNat (List.mem_range.mpr (by omega))
  simp only [Bool.and_eq_true, decide_eq_true_eq, Array.all_eq_true'] at this
  obtain ⟨⟨⟨a, b⟩, c⟩, d⟩ := this
  have e : ((i.toNat : Nat) : Int) = i := by omega
  unfold numS at a c d
  rw [e] at a b c d
  exact ⟨a, b, fun x hx => ⟨c x (Array.mem_toList_iff.mp hx), d x (Array.mem_toList_iff.mp hx)⟩⟩
theorem sum_le {α : Type} (f : α → Nat) (B : Nat) : ∀ (l : List α), (∀ x ∈ l, f x ≤ B) → (l.map f).sum ≤ l.length * B
  | [], _ => by simp
  | x :: l, h => by
    rw [List.map_cons, List.sum_cons, List.length_cons, Nat.add_mul]
    have := sum_le f B l fun y hy => h y (List.mem_cons_of_mem _ hy)
    have := h x List.mem_cons_self
    omega
theorem join_len {sep : Str} {B : Nat} {l : List Str} (h : ∀ x ∈ l, x.length ≤ B) : (Txt.join sep l).length ≤ l.length * B + l.length * sep.length := by
  rw [show Txt.join sep l = Str.join sep l from TL.join_eq sep l]
  have h1 := StrLaws.join_length_le sep l
  have h2 := sum_le (fun x : Str => x.length) B l h
  omega
theorem gJoin_val {S : Store} {sep : Str} {o : Opd} {ws : List Str} (h : sq S o = some (ws.map .str)) (hz : (ws.map (·.length)).sum + ws.length * sep.length ≤ 16777216) : gJoin S sep o = some (.val (.str (Txt.join sep ws))) := by
  unfold gJoin
  rw [h]
  dsimp only
  rw [gStrs_map]
  dsimp only
  rw [show okLen ((ws.map (·.length)).sum + ws.length * sep.length) = true from decide_eq_true hz, if_pos rfl]
  rfl
theorem fStrC_val {S : Store} {i : Int} (h : small i = true) : fStrC S (.val (.int i)) = some (.val (.str (numI i))) := by
  show (if decide (i.natAbs.log2 < 1920) then vS (toString i) else none) = _
  rw [decide_eq_true (by have := (small_facts h).2.1; omega), if_pos rfl]
  rfl
/-- the signs of the numbers -/
theorem nums_loop {env : Env} {S : Store} {a j : Nat} {ps : List Int} (hj : env[a]? = some (some (.tup (ps.map .int)))) (h : ps.all small = true) (hl : ps.length ≤ 100) (he : j < env.length) :
    mComp (mItr (mLoc a)) (.nm j) (mC (.bl true)) (mUn fStrC (mLoc j)) [j] env S = .ok (.new (.lst ((ps.map numI).map .str))) S := by
  have e0 : mItr (mLoc a) env S = .ok (ps.map .int) none S := by
    unfold mItr mLoc; rw [hj]
  unfold mComp
  rw [e0]
  show loopC _ _ _ (wipeE _ [j]) _ (ps.map Val.int) [] S = _
  rw [loopC_fm (fun _ => true) (fun d => match d with | .int z => .str (numI z) | _ => .non) liveOk_none]
  · rw [List.nil_append, List.filter_eq_self.mpr (fun _ _ => rfl), List.map_map, List.map_map]; rfl
  · intro d hd
    obtain ⟨i, hi, rfl⟩ := List.mem_map.mp hd
    refine ⟨_, rfl, rfl, fun _ => ?_⟩
    rw [mUn_val (o := .val (.int i)) (S1 := S) (mLoc_val (by unfold wipeE wipeE; rw [List.set_set, List.getElem?_set_self he])), fStrC_val (List.all_eq_true.mp h i hi)]
    rfl
  · simp; omega
theorem cut_ok {c : Int × List Int} (h : cutOk c = true) : small c.1 = true ∧ c.2.all small = true ∧ c.2.length ≤ 100 := by
  unfold cutOk at h
  simp only [Bool.and_eq_true, decide_eq_true_eq] at h
  exact ⟨h.1.1, h.1.2, h.2⟩
theorem row_val {env : Env} {S : Store} {a b j : Nat} {c : Int × List Int} (ha : env[a]? = some (some (.int c.1))) (hb : env[b]? = some (some (.tup (c.2.map .int)))) (hc : cutOk c = true) (he : j < env.length) :
    mBin fAdd (mLst (aCons (mUn fStrC (mLoc a)) (aCons (mC (.str "picks")) aNil))) (mComp (mItr (mLoc b)) (.nm j) (mC (.bl true)) (mUn fStrC (mLoc j)) [j]) env S = .ok (.new (.lst (([numI c.1, "picks"] ++ c.2.map numI).map .str))) S := by
  obtain ⟨h1, h2, h3⟩ := cut_ok hc
  have e1 : mUn fStrC (mLoc a) env S = .ok (.val (.str (numI c.1))) S := by
    rw [mUn_val (mLoc_val ha), fStrC_val h1]; rfl
  rw [mBin_val (mLst_val (aCons_val e1 (aCons_val rfl aNil_val)) (by simp)) (nums_loop hb h2 h3 he)]
  show ofO S (if okLen _ then _ else none) = _
  rw [show okLen ([Val.str (numI c.1), .str "picks"].length + (List.map Val.str (c.2.map numI)).length) = true from decide_eq_true (by simp [big]; omega), if_pos rfl, List.map_append]
  rfl
theorem rowL_len {c : Int × List Int} (hc : cutOk c = true) : ∀ x ∈ ([numI c.1, "picks"] ++ c.2.map numI), x.length ≤ 5 := by
  obtain ⟨h1, h2, h3⟩ := cut_ok hc
  intro x hx
  simp only [List.cons_append, List.nil_append, List.mem_cons] at hx
  rcases hx with rfl | rfl | hx
  · have := (small_facts h1).1; omega
  · decide
  · obtain ⟨i, hi, rfl⟩ := List.mem_map.mp hx
    have := (small_facts (List.all_eq_true.mp h2 i hi)).1; omega
theorem lineS_len {c : Int × List Int} (hc : cutOk c = true) : (lineS c).length ≤ 1000 := by
  have h := join_len (sep := " ") (rowL_len hc)
  have e : (([numI c.1, "picks"] ++ c.2.map numI)).length ≤ 102 := by
    have := (cut_ok hc).2.2
    simp; omega
  have e2 : (" " : Str).length = 1 := by decide
  unfold lineS
  rw [e2] at h
  omega
/-- a row's words, joined -/
theorem join_row {S : Store} {o : Opd} {c : Int × List Int} (hc : cutOk c = true) (h : sq S o = some (([numI c.1, "picks"] ++ c.2.map numI).map .str)) : gJoin S " " o = some (.val (.str (lineS c))) := by
  refine gJoin_val h ?_
  have h1 := sum_le (fun x : Str => x.length) 5 _ (rowL_len hc)
  have e : (([numI c.1, "picks"] ++ c.2.map numI)).length ≤ 102 := by
    have := (cut_ok hc).2.2
    simp; omega
  have e2 : (" " : Str).length = 1 := by decide
  rw [e2]
  omega
/-- the lines with their ends, joined -/
theorem join_lines {S : Store} {o : Opd} {cs : List (Int × List Int)} (hc : cs.all cutOk = true) (hl : cs.length ≤ 100) (h : sq S o = some ((cs.map fun c => lineS c ++ "\n").map .str)) : gJoin S "" o = some (.val (.str (fmt cs))) := by
  refine gJoin_val h ?_
  have h1 := sum_le (fun x : Str => x.length) 1001 (cs.map fun c => lineS c ++ "\n") (fun x hx => by
    obtain ⟨c, hcm, rfl⟩ := List.mem_map.mp hx
    have := lineS_len (List.all_eq_true.mp hc c hcm)
    rw [Str.length_append]
    have e : ("\n" : Str).length = 1 := by decide
    omega)
  have e2 : ("" : Str).length = 0 := by decide
  rw [List.length_map] at h1 ⊢
  rw [e2]
  omega
theorem add_nl {S : Store} {z : Str} (h : z.length ≤ 100000) : fAdd S (.val (.str z)) (.val (.str "\n")) = some (.val (.str (z ++ "\n"))) := by
  show (if okLen (z.length + ("\n" : Str).length) then vS (z ++ "\n") else none) = _
  have e : ("\n" : Str).length = 1 := by decide
  rw [show okLen (z.length + ("\n" : Str).length) = true from decide_eq_true (by unfold big; omega), if_pos rfl]
  rfl
theorem raw_format {cs : List (Int × List Int)} {S : Store} (hc : cs.all cutOk = true) (hl : cs.length ≤ 100) :
    (m_format_cuts (startE 6 [cutsV cs]) S).out = .ok (.val (.str (fmt cs))) (S ++ [.lst ((cs.map lineS).map .str)]) := by
  show RS.out (m_format_cuts [some (cutsV cs), none, none, none, none, none] S) = _
  unfold m_format_cuts
  have e1 : mComp (mItr (mLoc 0)) (.tp [2, 3]) (mC (.bl true)) (mSM gJoin (mC (.str " ")) (mBin fAdd (mLst (aCons (mUn fStrC (mLoc 2)) (aCons (mC (.str "picks")) aNil))) (mComp (mItr (mLoc 3)) (.nm 5) (mC (.bl true)) (mUn fStrC (mLoc 5)) [5]))) [2, 3] [some (cutsV cs), none, none, none, none, none] S =
      .ok (.new (.lst ((cs.map lineS).map .str))) S := by
    rw [mComp_val (ds := cs.map cutV) (live := none) (S1 := S) rfl, loopC_fm (fun _ => true) (fun d => match cutOf d with | some c => .str (lineS c) | none => .non) liveOk_none]
    · rw [List.nil_append, List.filter_eq_self.mpr (fun _ _ => rfl), List.map_map, List.map_map]
      congr 4
      funext c
      show (match cutOf (cutV c) with | some c => Val.str (lineS c) | none => .non) = _
      rw [cutOf_V]; rfl
    · intro d hd
      obtain ⟨c, hcm, rfl⟩ := List.mem_map.mp hd
      have ok := List.all_eq_true.mp hc c hcm
      refine ⟨_, rfl, rfl, fun _ => ?_⟩
      rw [mSM_val (z := " ") (S1 := S) rfl (row_val (c := c) rfl rfl ok (by show 5 < 6; decide)), join_row ok rfl, cutOf_V]
      rfl
    · simp; omega
  rw [sSeq_nx (sAsg_new e1)]
  have hg : (S ++ [Obj.lst ((cs.map lineS).map .str)])[S.length]? = some (.lst ((cs.map lineS).map .str)) := by simp
  generalize hS : S ++ [Obj.lst ((cs.map lineS).map .str)] = S' at hg ⊢
  have e2 : mComp (mItr (mLoc 1)) (.nm 4) (mC (.bl true)) (mBin fAdd (mLoc 4) (mC (.str "\n"))) [4] (List.set [some (cutsV cs), none, none, none, none, none] 1 (some (.ref S.length))) S' = .ok (.new (.lst ((cs.map fun c => lineS c ++ "\n").map .str))) S' := by
    have e0 : mItr (mLoc 1) (List.set [some (cutsV cs), none, none, none, none, none] 1 (some (.ref S.length))) S' = .ok ((cs.map lineS).map .str) (some (S.length, (cs.map lineS).map .str)) S' := by
      show (match rdL S' (.val (.ref S.length)) with | some vs => RI.ok vs (some (S.length, vs)) S' | none => .stuck) = _
      rw [rdL_ref hg]
    rw [mComp_val e0, loopC_fm (fun _ => true) (fun d => match d with | .str z => .str (z ++ "\n") | _ => .non) (liveOk_some hg)]
    · rw [List.nil_append, List.filter_eq_self.mpr (fun _ _ => rfl), List.map_map, List.map_map, List.map_map]; rfl
    · intro d hd
      obtain ⟨z, hz, rfl⟩ := List.mem_map.mp hd
      obtain ⟨c, hcm, rfl⟩ := List.mem_map.mp hz
      have := lineS_len (List.all_eq_true.mp hc c hcm)
      refine ⟨_, rfl, rfl, fun _ => ?_⟩
      rw [mBin_val (o := .val (.str (lineS c))) (S1 := S') (o' := .val (.str "\n")) (S2 := S') rfl rfl, add_nl (by omega)]
      rfl
    · simp; omega
  rw [sSeq_ret (sRet_val (o := .val (.str (fmt cs))) (S1 := S') (by rw [mSM_val (z := "") (S1 := S') rfl e2, join_lines hc hl rfl]; rfl))]
  rfl
theorem hrun_format_cuts : ∀ ds S, ds.length = (["cuts"] : List Str).length → Cl S (m_format_cuts (startE (["cuts", "lines", "count", "picks", "line", "pick"] : List Str).length ds) S).out (r_format_cuts ds S) := by
  intro ds S hlen
  clear hlen
  unfold r_format_cuts
  split
  · rename_i vs
    split
    · rename_i cs hcs
      split
      · rename_i h
        obtain ⟨h1, h2⟩ := Bool.and_eq_true_iff.mp h
        have e : Val.tup vs = cutsV cs := by
          unfold cutsV
          rw [mapM_eq (fun a b => cutOf_eq) hcs]
        rw [e, show (["cuts", "lines", "count", "picks", "line", "pick"] : List Str).length = 6 from rfl, raw_format h1 (of_decide_eq_true h2)]
        exact .val _ S _ (Kept.refl S) rfl
      · exact .stuck _
    · exact .stuck _
  · exact .stuck _
theorem len_format_cuts : ∀ ds S, r_format_cuts ds S ≠ .stuck → ds.length = (["cuts"] : List Str).length := by
  intro ds S h
  unfold r_format_cuts at h
  split at h
  · rfl
  · exact absurd rfl h
theorem r_format_V {cs : List (Int × List Int)} {S : Store} (hc : cs.all cutOk = true) (hl : cs.length ≤ 100) : r_format_cuts [cutsV cs] S = .ok (.val (.str (fmt cs))) S := by
  show (match (cs.map cutV).mapM cutOf with | some cs => if cs.all cutOk && decide (cs.length ≤ 100) then Res.ok (.val (.str (fmt cs))) S else .stuck | none => .stuck) = _
  rw [mapM_map cutOf_V]
  show (if _ then _ else _) = _
  rw [hc, decide_eq_true hl]; rfl
end Lk83
end MP

namespace MP
namespace Lk83
open PySem L2 PySem.Spec PyProof.Rows

theorem joinL_sub {S : List Nat} : ∀ {parts : List (List Nat)} {p : List Nat}, p ∈ parts → p.Sublist (TL.joinL S parts)
  | [q], p, h => by rw [List.mem_singleton.mp h]; exact List.Sublist.refl _
  | q :: r :: t, p, h => by
    show p.Sublist (q ++ (S ++ TL.joinL S (r :: t)))
    rcases List.mem_cons.mp h with rfl | h
    · exact List.sublist_append_left _ _
    · exact ((joinL_sub h).trans (List.sublist_append_right _ _)).trans (List.sublist_append_right _ _)
theorem joinL_count {s : Nat} {S : List Nat} : ∀ (parts : List (List Nat)), parts.length ≤ (TL.joinL (s :: S) parts).length + 1
  | [] => Nat.zero_le _
  | [q] => by simp
  | q :: r :: t => by
    have := joinL_count (s := s) (S := S) (r :: t)
    show _ ≤ (q ++ (s :: S ++ TL.joinL (s :: S) (r :: t))).length + 1
    simp only [List.length_append, List.length_cons] at this ⊢
    omega
/-- the parts of a text -/
theorem split_sub {x y p : Str} (h : p ∈ Txt.split x y) : (TL.tl p).Sublist (TL.tl x) := by
  have e := StrLaws.join_split x y
  have := joinL_sub (S := TL.tl y) (List.mem_map_of_mem (f := TL.tl) h)
  rw [← TL.tl_join, e] at this
  exact this
theorem split_count {x : Str} {c : Nat} : (Txt.split x ⟨#[c]⟩).length ≤ x.length + 1 := by
  have e := StrLaws.join_split x ⟨#[c]⟩
  have := joinL_count (s := c) (S := []) ((Txt.split x ⟨#[c]⟩).map TL.tl)
  rw [show [c] = TL.tl ⟨#[c]⟩ from rfl, ← TL.tl_join, e, List.length_map] at this
  exact this
theorem sp_eq : (" " : Str) = ⟨#[32]⟩ := by decide
theorem nl_eq : ("\n" : Str) = ⟨#[10]⟩ := by decide
theorem txt_part {x y p : Str} (hx : txtOk x = true) (h : p ∈ Txt.split x y) : txtOk p = true := by
  obtain ⟨h1, h2⟩ := txt_ok hx
  have s := split_sub h
  unfold txtOk
  refine Bool.and_eq_true_iff.mpr ⟨?_, decide_eq_true ?_⟩
  · unfold PyData.strOk
    rw [Array.all_eq_true']
    intro c hc
    have := s.subset (show c ∈ TL.tl p from Array.mem_toList_iff.mpr hc)
    exact (Array.all_eq_true'.mp h1) c (Array.mem_toList_iff.mp this)
  · exact Nat.le_trans s.length_le h2
theorem split_ne (x y : Str) : Txt.split x y ≠ [] := by
  unfold Txt.split
  split
  · exact fun e => by cases e
  · split
    · exact fun e => by cases e
    · unfold Builtin.Str.partsBetween
      intro e
      have := congrArg List.length e
      simp at this
theorem cut_last (vs : List Val) : cutL vs none (some (-1)) = vs.dropLast := by
  unfold cutL
  have e1 : HT.sIx vs.length 0 none = 0 := rfl
  have e2 : HT.sIx vs.length vs.length (some (-1)) = vs.length - 1 := by
    show (if (-1 : Int) < 0 then ((-1 : Int) + (vs.length : Int)).toNat else min (-1 : Int).toNat vs.length) = _
    rw [if_pos (by decide)]
    omega
  rw [e1, e2, List.dropLast_eq_take]
  simp
theorem cut_two (vs : List Val) : cutL vs (some 2) none = vs.drop 2 := by
  unfold cutL
  have e1 : HT.sIx vs.length 0 (some 2) = min 2 vs.length := HT.sIx_nat _ _ 2
  have e2 : HT.sIx vs.length vs.length none = vs.length := rfl
  rw [e1, e2]
  by_cases h : 2 ≤ vs.length
  · rw [Nat.min_eq_left h, List.take_of_length_le (by rw [List.length_drop]; omega)]
  · rw [Nat.min_eq_right (by omega), List.drop_of_length_le (Nat.le_refl _), List.drop_of_length_le (by omega)]; simp
theorem cut_mid (vs : List Val) : cutL vs (some 1) (some 2) = (vs.drop 1).take 1 := by
  unfold cutL
  have e1 : HT.sIx vs.length 0 (some 1) = min 1 vs.length := HT.sIx_nat _ _ 1
  have e2 : HT.sIx vs.length vs.length (some 2) = min 2 vs.length := HT.sIx_nat _ _ 2
  rw [e1, e2]
  match vs with
  | [] => rfl
  | [a] => rfl
  | a :: b :: r =>
    have : (a :: b :: r).length = r.length + 2 := rfl
    rw [this, Nat.min_eq_left (by omega), Nat.min_eq_left (by omega)]
theorem gSplit_val {S : Store} {z : Str} {c : Nat} (h : txtOk z = true) : gSplit S z (.val (.str ⟨#[c]⟩)) = some (.new (.lst ((Txt.split z ⟨#[c]⟩).map .str))) := by
  show (if decide (0 < (⟨#[c]⟩ : Str).length) && okLen (z.length + 2) then _ else _) = _
  have := (txt_ok h).2
  rw [show decide (0 < (⟨#[c]⟩ : Str).length) = true from rfl, show okLen (z.length + 2) = true from decide_eq_true (by unfold big; omega)]
  rfl
theorem sAsg_split {env : Env} {S : Store} {i j : Nat} {z : Str} {c : Nat} {y : Str} (hy : y = ⟨#[c]⟩) (he : env[i]? = some (some (.str z))) (h : txtOk z = true) :
    sAsg (.nm j) (mSM gSplit (mLoc i) (mC (.str y))) env S = .nx (env.set j (some (.ref S.length))) (S ++ [.lst ((Txt.split z y).map .str)]) := by
  subst hy
  rw [sAsg_new (ob := .lst ((Txt.split z ⟨#[c]⟩).map .str)) (S1 := S) (by rw [mSM_val (mLoc_val he) rfl, gSplit_val h]; rfl)]
theorem mSl_list {env : Env} {S : Store} {m l h : MX} {r : Nat} {lo hi : Option Int} {us : List Val} {b c : Opd} (e1 : m env S = .ok (.val (.ref r)) S) (e2 : l env S = .ok b S) (e3 : h env S = .ok c S) (p2 : prt b = some lo) (p3 : prt c = some hi) (hr : S[r]? = some (.lst us)) :
    mSl m l h env S = .ok (.new (.lst (cutL us lo hi))) S := by
  unfold mSl
  rw [e1, Res.bind_ok, e2, Res.bind_ok, p2]
  show (h env S).bind _ = _
  rw [e3, Res.bind_ok, p3]
  show ofO S (fSl S (.val (.ref r)) lo hi) = _
  show ofO S (match rdL S (.val (.ref r)) with
    | some vs => some (.new (.lst (cutL vs lo hi)))
    | none => match rdS (.val (.ref r)) with
      | some ns => some (.new (.lst ((cutL ns lo hi).map .int)))
      | none => none) = _
  rw [rdL_ref hr]
  rfl
theorem get_push {S : Store} {r : Nat} {o ob : Obj} (h : S[r]? = some o) : (S ++ [ob])[r]? = some o := by
  rw [List.getElem?_append_left (List.getElem?_eq_some_iff.mp h).1]; exact h
theorem get_end {S : Store} {ob : Obj} : (S ++ [ob])[S.length]? = some ob := by simp
/-- the test of a line -/
theorem numIn_opt {w : Str} {most : Int} : mUn fIsN (mC (optV (numIn w most))) = mUn fIsN (mC (optV (numIn w most))) := rfl
theorem fIsN_opt {S : Store} {o : Option Int} : fIsN S (.val (optV o)) = some (.val (.bl o.isNone)) := by cases o <;> rfl
theorem inF_none (os : List (Option Int)) : inF .non (os.map optV) = os.any (·.isNone) := by
  unfold inF
  induction os with
  | nil => rfl
  | cons o os ih =>
    cases o with
    | none => rfl
    | some i =>
      rw [List.map_cons, List.map_cons, List.any_cons, ← ih]
      rfl
theorem flat_opt (o : Option Int) : flat (optV o) = true := by cases o <;> rfl
theorem fIn_none {S : Store} {os : List (Option Int)} : fIn false S (.val .non) (.val (.tup (os.map optV))) = some (.val (.bl (os.any (·.isNone)))) := by
  show (match sq S (.val (.tup (os.map optV))) with | some vs => if flat .non && vs.all flat then vB (if false then !inF .non vs else inF .non vs) else none | none => none) = _
  show (if flat .non && (os.map optV).all flat then vB (if false then !inF .non (os.map optV) else inF .non (os.map optV)) else none) = _
  have : (os.map optV).all flat = true := by
    rw [List.all_map]
    exact List.all_eq_true.mpr fun o _ => flat_opt o
  rw [this, inF_none]
  rfl
theorem mapM_none : ∀ {ws : List Str}, (ws.map fun w => numIn w 64).any (·.isNone) = (ws.mapM fun w => numIn w 64).isNone
  | [] => rfl
  | w :: ws => by
    rw [List.map_cons, List.any_cons, List.mapM_cons, mapM_none]
    cases h : numIn w 64 with
    | none => rfl
    | some i =>
      cases h2 : ws.mapM fun w => numIn w 64 with
      | none => rfl
      | some r => rfl
theorem mapM_some : ∀ {ws : List Str} {ps : List Int}, (ws.mapM fun w => numIn w 64) = some ps → ws.map (fun w => optV (numIn w 64)) = ps.map .int
  | [], ps, h => by
    have : ps = [] := by simpa using h.symm
    rw [this]; rfl
  | w :: ws, ps, h => by
    rw [List.mapM_cons] at h
    cases e : numIn w 64 with
    | none => rw [e] at h; cases h
    | some b =>
      rw [e] at h
      cases e2 : ws.mapM fun w => numIn w 64 with
      | none => rw [e2] at h; cases h
      | some r =>
        rw [e2] at h
        have : ps = b :: r := (Option.some.inj h).symm
        rw [this, List.map_cons, List.map_cons, e, mapM_some e2]; rfl
theorem fNe_mid {S : Store} {x : Str} (hx : PyData.strOk x = true) : fNe S (.new (.lst [.str x])) (.new (.lst [.str "picks"])) = some (.val (.bl (!(x == "picks")))) := by
  have e1 : pdO S (.new (.lst [.str x])) = some (.list [.str x]) := rfl
  have e2 : pdO S (.new (.lst [.str "picks"])) = some (.list [.str "picks"]) := rfl
  have s1 : SeqAt.shaped (.list [.str x]) = true := by simp [SeqAt.shaped, PyData.canLay0, PyData.canLayAll0, PyData.depth, PyData.depthAll, hx]
  have s2 : SeqAt.shaped (.list [.str "picks"]) = true := by decide +kernel
  unfold fNe
  rw [e1, e2]
  simp only [s1, s2, Bool.and_self, if_true]
  have : PyData.eqv (.list [.str x]) (.list [.str "picks"]) = (x == "picks") := by simp [PyData.eqv, PyData.eqvAll]
  rw [this]; rfl
theorem fNe_mid0 {S : Store} : fNe S (.new (.lst [])) (.new (.lst [.str "picks"])) = some (.val (.bl true)) := by
  have e1 : pdO S (.new (.lst [])) = some (.list []) := rfl
  have e2 : pdO S (.new (.lst [.str "picks"])) = some (.list [.str "picks"]) := rfl
  have s1 : SeqAt.shaped (.list []) = true := by decide +kernel
  have s2 : SeqAt.shaped (.list [.str "picks"]) = true := by decide +kernel
  unfold fNe
  rw [e1, e2]
  simp only [s1, s2, Bool.and_self, if_true]
  have : PyData.eqv (.list []) (.list [.str "picks"]) = false := by simp [PyData.eqv, PyData.eqvAll]
  rw [this]; rfl
theorem fNe_int {S : Store} {i j : Int} : fNe S (.val (.int i)) (.val (.int j)) = some (.val (.bl (!decide (i = j)))) := by
  have e1 : pdO S (.val (.int i)) = some (.int i) := rfl
  have e2 : pdO S (.val (.int j)) = some (.int j) := rfl
  have s1 : ∀ i : Int, SeqAt.shaped (.int i) = true := fun i => by simp [SeqAt.shaped, PyData.canLay0, PyData.depth]
  unfold fNe
  rw [e1, e2]
  simp only [s1, Bool.and_self, if_true]
  have : PyData.eqv (.int i) (.int j) = decide (i = j) := by
    show (i == j) = _
    exact Bool.eq_iff_iff.mpr (by simp)
  rw [this]; rfl
theorem fEq_int {S : Store} {i j : Int} : fEq S (.val (.int i)) (.val (.int j)) = some (.val (.bl (decide (i = j)))) := by
  have e1 : pdO S (.val (.int i)) = some (.int i) := rfl
  have e2 : pdO S (.val (.int j)) = some (.int j) := rfl
  have s1 : ∀ i : Int, SeqAt.shaped (.int i) = true := fun i => by simp [SeqAt.shaped, PyData.canLay0, PyData.depth]
  unfold fEq
  rw [e1, e2]
  simp only [s1, Bool.and_self, if_true]
  have : PyData.eqv (.int i) (.int j) = decide (i = j) := by
    show (i == j) = _
    exact Bool.eq_iff_iff.mpr (by simp)
  rw [this]; rfl
end Lk83
end MP

namespace MP
namespace Lk83
open PySem L2 PySem.Spec PyProof.Rows

theorem log_small {n : Nat} (h : n ≤ 200000) : ((n : Int)).natAbs.log2 < 1900 := by
  rw [Int.natAbs_natCast]
  by_cases h0 : n = 0
  · subst h0; decide
  · exact (Nat.log2_lt h0).mpr (Nat.lt_of_le_of_lt h (Nat.lt_of_lt_of_le (show 200000 < 2 ^ 18 by decide) (Nat.pow_le_pow_right (by decide) (show 18 ≤ 1900 by decide))))
theorem numbers_val {S : Store} {l : Nat} {ws : List Str} {most : Int} (hl : S[l]? = some (.lst (ws.map .str))) (h : ws.all txtOk = true) (hz : ws.length ≤ 100000) : r_numbers_in [.ref l, .int most] S = .ok (.val (.tup (ws.map fun w => optV (numIn w most)))) S := by
  show (match rdL S (.val (.ref l)) with
    | some vs => match gStrs vs with
      | some ws => if ws.all txtOk && decide (ws.length ≤ 100000) then Res.ok (.val (.tup (ws.map fun w => optV (numIn w most)))) S else .stuck
      | none => .stuck
    | none => .stuck) = _
  rw [rdL_ref hl]
  dsimp only
  rw [gStrs_map]
  dsimp only
  rw [h, decide_eq_true hz]
  rfl
theorem number_val {S : Store} {w : Str} {most : Int} (h : txtOk w = true) : r_number_in [.str w, .int most] S = .ok (.val (optV (numIn w most))) S := by
  show (if txtOk w then Res.ok (.val (optV (numIn w most))) S else .stuck) = _
  rw [if_pos h]
def body_p : MS := (sSeq (sAsg (.nm 7) (mSM gSplit (mLoc 6) (mC (.str " "))))
    (sSeq (sPar 8 9 (aCons (mCall r_number_in (aCons (mBin fIx (mLoc 7) (mC (.int 0))) (aCons (mC (.int 64)) aNil))) (aCons (mCall r_numbers_in (aCons (mSl (mLoc 7) (mUn fInt (mC (.int 2))) (mC .non)) (aCons (mC (.int 64)) aNil))) aNil)))
    (sSeq (sIf (mOr (mUn fIsN (mLoc 8)) (mOr (mBin fNe (mSl (mLoc 7) (mUn fInt (mC (.int 1))) (mUn fInt (mC (.int 2)))) (mLst (aCons (mC (.str "picks")) aNil))) (mOr (mBin fNe (mUn fLen (mLoc 9)) (mLoc 1)) (mOr (mBin (fIn false) (mC .non) (mLoc 9)) (mBin fEq (mLoc 5) (mC (.int 8)))))))
    (sSeq (sRaise "ParseError" "line" (aCons (mLoc 5) aNil))
    sNil)
    sNil)
    (sSeq (sDrop (mLM gAppend (mLoc 4) (mTup (aCons (mLoc 8) (aCons (mLoc 9) aNil)))))
    sNil))))
def notPicks : List Str → Bool
  | [] => true
  | w1 :: _ => !(w1 == "picks")
/-- what the line's test comes to -/
def badL (kept : Int) (i : Nat) (w0 : Str) (rest : List Str) : Bool := (numIn w0 64).isNone || (notPicks rest || ((!decide (((rest.drop 1).length : Int) = kept)) || ((((rest.drop 1).map fun w => numIn w 64).any (·.isNone)) || decide ((i : Int) = 8))))
theorem badL_true {kept : Int} {i : Nat} {line w0 : Str} {rest : List Str} (hw : Txt.split line " " = w0 :: rest) (h : badL kept i w0 rest = true) : lineP kept line = none ∨ i = 8 := by
  by_cases h8 : i = 8
  · exact .inr h8
  · refine .inl ?_
    have h9 : decide ((i : Int) = 8) = false := decide_eq_false (by omega)
    unfold badL notPicks at h
    rw [h9, mapM_none] at h
    unfold lineP
    rw [hw]
    cases rest with
    | nil => rfl
    | cons w1 ws =>
      dsimp only
      by_cases hc : w1 = "picks" ∧ (ws.length : Int) = kept
      · rw [if_pos hc]
        obtain ⟨c1, c2⟩ := hc
        simp only [List.drop_succ_cons, List.drop_zero, Bool.or_false] at h
        rw [beq_iff_eq.mpr c1, decide_eq_true c2] at h
        simp only [Bool.not_true, Bool.false_or] at h
        cases e1 : numIn w0 64 with
        | none => rfl
        | some c =>
          cases e2 : ws.mapM fun w => numIn w 64 with
          | none => rfl
          | some ps => rw [e1, e2] at h; cases h
      · rw [if_neg hc]
theorem badL_false {kept : Int} {i : Nat} {line w0 : Str} {rest : List Str} (hw : Txt.split line " " = w0 :: rest) (h : badL kept i w0 rest = false) : ∃ c, lineP kept line = some c ∧ i ≠ 8 ∧ numIn w0 64 = some c.1 ∧ (rest.drop 1).map (fun w => optV (numIn w 64)) = c.2.map .int := by
  unfold badL notPicks at h
  rw [mapM_none] at h
  simp only [Bool.or_eq_false_iff, Bool.not_eq_false', decide_eq_false_iff_not, decide_eq_true_eq] at h
  obtain ⟨h1, h2, h3, h4, h5⟩ := h
  cases rest with
  | nil => cases h2
  | cons w1 ws =>
    simp only [List.drop_succ_cons, List.drop_zero] at h3 h4 ⊢
    have h2 : w1 = "picks" := by simpa using h2
    cases e1 : numIn w0 64 with
    | none => rw [e1] at h1; cases h1
    | some c =>
      cases e2 : ws.mapM fun w => numIn w 64 with
      | none => rw [e2] at h4; cases h4
      | some ps =>
        refine ⟨(c, ps), ?_, by omega, rfl, mapM_some e2⟩
        unfold lineP
        rw [hw]
        dsimp only
        rw [if_pos ⟨h2, h3⟩, e1, e2]
theorem body_line {t0 : Val} {kept : Int} {l0 l1 l2 i : Nat} {line : Str} {x7 x8 x9 : Option Val} {S : Store} {cuts : List Val} (hl2 : S[l2]? = some (.lst cuts)) (ht : txtOk line = true) (hi : i ≤ 8) (hc : cuts.length ≤ 100) :
    ((lineP kept line = none ∨ i = 8) ∧ ∃ e G, body_p [some t0, some (.int kept), some (.ref l0), some (.ref l1), some (.ref l2), some (.int (i : Nat)), some (.str line), x7, x8, x9] S = .rz ⟨"ParseError", [("line", .int (i : Nat))]⟩ e (S ++ G)) ∨
    ∃ c y7 y8 y9 G, lineP kept line = some c ∧ i ≠ 8 ∧ body_p [some t0, some (.int kept), some (.ref l0), some (.ref l1), some (.ref l2), some (.int (i : Nat)), some (.str line), x7, x8, x9] S =
      .nx [some t0, some (.int kept), some (.ref l0), some (.ref l1), some (.ref l2), some (.int (i : Nat)), some (.str line), y7, y8, y9] ((S ++ G).set l2 (.lst (cuts ++ [cutV c]))) := by
  obtain ⟨w0, rest, hw⟩ : ∃ w0 rest, Txt.split line " " = w0 :: rest := by
    cases e : Txt.split line " " with
    | nil => exact absurd e (split_ne _ _)
    | cons a b => exact ⟨a, b, rfl⟩
  have hall : ∀ w ∈ w0 :: rest, txtOk w = true := fun w h => txt_part ht (by rw [hw]; exact h)
  have hcount : (w0 :: rest).length ≤ 100001 := by
    have := split_count (x := line) (c := 32)
    rw [← sp_eq, hw] at this
    have := (txt_ok ht).2
    omega
  rw [List.length_cons] at hcount
  unfold body_p
  rw [sSeq_nx (sAsg_split (c := 32) sp_eq rfl ht), hw]
  generalize hS1 : S ++ [Obj.lst ((w0 :: rest).map .str)] = S1
  have g1 : S1[S.length]? = some (.lst ((w0 :: rest).map .str)) := by rw [← hS1]; exact get_end
  have g2 : S1[l2]? = some (.lst cuts) := by rw [← hS1]; exact get_push hl2
  let env2 : Env := [some t0, some (.int kept), some (.ref l0), some (.ref l1), some (.ref l2), some (.int (i : Nat)), some (.str line), some (.ref S.length), x8, x9]
  have hn1 : r_number_in [.str w0, .int 64] S1 = .ok (.val (optV (numIn w0 64))) S1 := number_val (hall w0 List.mem_cons_self)
  have ix0 : mBin fIx (mLoc 7) (mC (.int 0)) env2 S1 = .ok (.val (.str w0)) S1 := by
    rw [mBin_val (o := .val (.ref S.length)) (S1 := S1) (o' := .val (.int 0)) (S2 := S1) rfl rfl]
    show ofO S1 (match rdL S1 (.val (.ref S.length)) with | some vs => (atI vs 0).map Opd.val | none => none) = _
    rw [rdL_ref g1]
    show ofO S1 ((atI (Val.str w0 :: rest.map .str) 0).map Opd.val) = _
    rw [at_zero]; rfl
  have sl2 : mSl (mLoc 7) (mUn fInt (mC (.int 2))) (mC .non) env2 S1 = .ok (.new (.lst ((rest.drop 1).map .str))) S1 := by
    rw [mSl_list (r := S.length) (lo := some 2) (hi := none) (b := .val (.int 2)) (c := .val .non) rfl rfl rfl rfl rfl g1, cut_two]
    show Res.ok (.new (.lst ((rest.map Val.str).drop 1))) S1 = _
    rw [List.map_drop]
  generalize hS2 : S1 ++ [Obj.lst ((rest.drop 1).map .str)] = S2
  have g1' : S2[S.length]? = some (.lst ((w0 :: rest).map .str)) := by rw [← hS2]; exact get_push g1
  have g2' : S2[l2]? = some (.lst cuts) := by rw [← hS2]; exact get_push g2
  have g3 : S2[S1.length]? = some (.lst ((rest.drop 1).map .str)) := by rw [← hS2]; exact get_end
  have hG : S2 = S ++ [Obj.lst ((w0 :: rest).map .str), Obj.lst ((rest.drop 1).map .str)] := by rw [← hS2, ← hS1, List.append_assoc]; rfl
  have hn2 : r_numbers_in [.ref S1.length, .int 64] S2 = .ok (.val (.tup ((rest.drop 1).map fun w => optV (numIn w 64)))) S2 :=
    numbers_val g3 (List.all_eq_true.mpr fun w h => hall w (List.mem_cons_of_mem _ (List.mem_of_mem_drop h))) (by rw [List.length_drop]; omega)
  let env3 : Env := [some t0, some (.int kept), some (.ref l0), some (.ref l1), some (.ref l2), some (.int (i : Nat)), some (.str line), some (.ref S.length), some (optV (numIn w0 64)), some (.tup ((rest.drop 1).map fun w => optV (numIn w 64)))]
  have eP : sPar 8 9 (aCons (mCall r_number_in (aCons (mBin fIx (mLoc 7) (mC (.int 0))) (aCons (mC (.int 64)) aNil))) (aCons (mCall r_numbers_in (aCons (mSl (mLoc 7) (mUn fInt (mC (.int 2))) (mC .non)) (aCons (mC (.int 64)) aNil))) aNil)) env2 S1 = .nx env3 S2 := by
    have a1 := aCons_val (as := aCons (mCall r_numbers_in (aCons (mSl (mLoc 7) (mUn fInt (mC (.int 2))) (mC .non)) (aCons (mC (.int 64)) aNil))) aNil) ((mCall_val (run := r_number_in) (aCons_val ix0 (aCons_val (m := mC (.int 64)) rfl aNil_val))).trans hn1)
      (aCons_val ((mCall_val (run := r_numbers_in) (aCons_new sl2 (aCons_val (m := mC (.int 64)) rfl aNil_val))).trans (by rw [hS2]; exact hn2)) aNil_val)
    unfold sPar
    rw [a1]
    rfl
  rw [show ([some t0, some (Val.int kept), some (Val.ref l0), some (Val.ref l1), some (Val.ref l2), some (Val.int (i : Nat)), some (Val.str line), x7, x8, x9] : Env).set 7 (some (Val.ref S.length)) = env2 from rfl, sSeq_nx eP]
  -- the test
  have t1 : mUn fIsN (mLoc 8) env3 S2 = .ok (.val (.bl (numIn w0 64).isNone)) S2 := by
    rw [mUn_val (o := .val (optV (numIn w0 64))) (S1 := S2) rfl, fIsN_opt]; rfl
  have t2 : mBin fNe (mSl (mLoc 7) (mUn fInt (mC (.int 1))) (mUn fInt (mC (.int 2)))) (mLst (aCons (mC (.str "picks")) aNil)) env3 S2 = .ok (.val (.bl (notPicks rest))) S2 := by
    have e := mSl_list (env := env3) (S := S2) (m := mLoc 7) (l := mUn fInt (mC (.int 1))) (h := mUn fInt (mC (.int 2))) (r := S.length) (lo := some 1) (hi := some 2) (b := .val (.int 1)) (c := .val (.int 2)) rfl rfl rfl rfl rfl g1'
    rw [cut_mid] at e
    rw [mBin_val e (mLst_val (vs := [.str "picks"]) (aCons_val rfl aNil_val) (by simp))]
    cases rest with
    | nil => exact congrArg (ofO S2) fNe_mid0
    | cons w1 ws => exact congrArg (ofO S2) (fNe_mid (txt_ok (hall w1 (by simp))).1)
  have t3 : mBin fNe (mUn fLen (mLoc 9)) (mLoc 1) env3 S2 = .ok (.val (.bl (!decide (((rest.drop 1).length : Int) = kept)))) S2 := by
    rw [mBin_val (o := .val (.int (((rest.drop 1).map fun w => optV (numIn w 64)).length : Nat))) (S1 := S2) (o' := .val (.int kept)) (S2 := S2) rfl rfl, fNe_int, List.length_map]
    rfl
  have t4 : mBin (fIn false) (mC .non) (mLoc 9) env3 S2 = .ok (.val (.bl (((rest.drop 1).map fun w => numIn w 64).any (·.isNone)))) S2 := by
    rw [mBin_val (o := .val .non) (S1 := S2) (o' := .val (.tup ((rest.drop 1).map fun w => optV (numIn w 64)))) (S2 := S2) rfl rfl]
    have := fIn_none (S := S2) (os := (rest.drop 1).map fun w => numIn w 64)
    rw [List.map_map] at this
    exact congrArg (ofO S2) this
  have t5 : mBin fEq (mLoc 5) (mC (.int 8)) env3 S2 = .ok (.val (.bl (decide ((i : Int) = 8)))) S2 := by
    rw [mBin_val (o := .val (.int (i : Nat))) (S1 := S2) (o' := .val (.int 8)) (S2 := S2) rfl rfl, fEq_int]
    rfl
  have tt := mOr_val t1 fun _ => mOr_val t2 fun _ => mOr_val t3 fun _ => mOr_val t4 fun _ => t5
  change mOr _ _ env3 S2 = .ok (.val (.bl (badL kept i w0 rest))) S2 at tt
  cases hb : badL kept i w0 rest with
  | true =>
    rw [hb] at tt
    refine .inl ⟨badL_true hw hb, env3, [Obj.lst ((w0 :: rest).map .str), Obj.lst ((rest.drop 1).map .str)], ?_⟩
    have er : sRaise "ParseError" "line" (aCons (mLoc 5) aNil) env3 S2 = .rz ⟨"ParseError", [("line", .int (i : Nat))]⟩ env3 S2 := by
      unfold sRaise
      rw [aCons_val (m := mLoc 5) (v := .int (i : Nat)) (S1 := S2) rfl aNil_val]
      show (if decide (((i : Nat) : Int).natAbs.log2 < 1900) then RS.rz _ env3 S2 else .stuck) = _
      rw [decide_eq_true (log_small (by omega)), if_pos rfl]
    rw [sSeq_rz (x := ⟨"ParseError", [("line", .int (i : Nat))]⟩) (e := env3) (S1 := S2) (by rw [sIf_val tt, if_pos rfl, sSeq_rz er]), hG]
  | false =>
    rw [hb] at tt
    obtain ⟨c, c1, c2, c3, c4⟩ := badL_false hw hb
    refine .inr ⟨c, some (.ref S.length), some (optV (numIn w0 64)), some (.tup ((rest.drop 1).map fun w => optV (numIn w 64))), [Obj.lst ((w0 :: rest).map .str), Obj.lst ((rest.drop 1).map .str)], c1, c2, ?_⟩
    rw [sSeq_nx (e := env3) (S1 := S2) (by rw [sIf_val tt, if_neg Bool.false_ne_true]; rfl)]
    have ea : mLM gAppend (mLoc 4) (mTup (aCons (mLoc 8) (aCons (mLoc 9) aNil))) env3 S2 = .ok (.val .non) (S2.set l2 (.lst (cuts ++ [cutV c]))) := by
      unfold mLM
      rw [show mLoc 4 env3 S2 = .ok (.val (.ref l2)) S2 from rfl, Res.bind_ok]
      dsimp only
      rw [rdL_ref g2']
      dsimp only
      rw [mTup_val (vs := [optV (numIn w0 64), .tup ((rest.drop 1).map fun w => optV (numIn w 64))]) (S1 := S2) (aCons_val rfl (aCons_val rfl aNil_val)) (by simp), Res.bind_ok]
      rw [rdL_ref g2', c3, c4]
      show (match (if decide (cuts.length < 1000000) then some (Opd.val Val.non, S2.set l2 (.lst (cuts ++ [.tup [optV (some c.1), .tup (c.2.map .int)]]))) else none) with
        | some (o, S3) => Res.ok o S3
        | none => .stuck) = _
      rw [decide_eq_true (show cuts.length < 1000000 by omega), if_pos rfl]
      rfl
    rw [sSeq_nx (e := env3) (S1 := S2.set l2 (.lst (cuts ++ [cutV c]))) (by unfold sDrop; rw [ea]; rfl), hG]
    rfl
end Lk83
end MP

namespace MP
namespace Lk83
open PySem L2 PySem.Spec PyProof.Rows

theorem vcls_ints (n : Nat) : ∀ ps : List Int, vcls n (ps.map .int) = true
  | [] => rfl
  | p :: ps => by
    rw [List.map_cons]
    unfold vcls
    rw [vcls_ints n ps]; rfl
theorem vcls_cuts (n : Nat) : ∀ cs : List (Int × List Int), vcls n (cs.map cutV) = true
  | [] => rfl
  | c :: cs => by
    rw [List.map_cons]
    unfold vcls
    rw [vcls_cuts n cs, Bool.and_true]
    show vcls n [.int c.1, .tup (c.2.map .int)] = true
    show (true && (vcls n (c.2.map .int) && true)) = true
    rw [vcls_ints]; rfl
theorem vcl_cuts (n : Nat) (cs : List (Int × List Int)) : vcl n (cutsV cs) = true := vcls_cuts n cs
def addDone (done : List (Int × List Int)) : Except Nat (List (Int × List Int)) → Except Nat (List (Int × List Int))
  | .ok cs => .ok (done ++ cs)
  | .error j => .error j
structure St (S S' : Store) (l0 l1 l2 : Nat) (ps ls cs : List Val) : Prop where
  pre : ∃ G, S' = S ++ G
  h0 : S'[l0]? = some (.lst ps)
  h1 : S'[l1]? = some (.lst ls)
  h2 : S'[l2]? = some (.lst cs)
  lt : S.length ≤ l2
  n0 : l0 ≠ l2
  n1 : l1 ≠ l2
theorem St.push {S S' : Store} {l0 l1 l2 : Nat} {ps ls cs : List Val} (h : St S S' l0 l1 l2 ps ls cs) (G : Store) : St S (S' ++ G) l0 l1 l2 ps ls cs := by
  obtain ⟨⟨G', e⟩, h0, h1, h2, lt, n0, n1⟩ := h
  have k : ∀ {r : Nat} {o : Obj}, S'[r]? = some o → (S' ++ G)[r]? = some o := fun {r o} q => by
    rw [List.getElem?_append_left (List.getElem?_eq_some_iff.mp q).1]; exact q
  exact ⟨⟨G' ++ G, by rw [e, List.append_assoc]⟩, k h0, k h1, k h2, lt, n0, n1⟩
theorem St.set {S S' : Store} {l0 l1 l2 : Nat} {ps ls cs : List Val} (h : St S S' l0 l1 l2 ps ls cs) (cs' : List Val) : St S (S'.set l2 (.lst cs')) l0 l1 l2 ps ls cs' := by
  obtain ⟨⟨G', e⟩, h0, h1, h2, lt, n0, n1⟩ := h
  refine ⟨⟨G'.set (l2 - S.length) (.lst cs'), by rw [e, List.set_append_right _ _ lt]⟩, ?_, ?_, ?_, lt, n0, n1⟩
  · rw [List.getElem?_set_ne (Ne.symm n0)]; exact h0
  · rw [List.getElem?_set_ne (Ne.symm n1)]; exact h1
  · rw [List.getElem?_set_self (List.getElem?_eq_some_iff.mp h2).1]
/-- where the loop stands -/
def PL (text : Str) (kept : Int) (S : Store) (l0 l1 l2 : Nat) (pieces lines : List Str) (items : List Val) (env : Env) (S' : Store) : Prop :=
  ∃ (i : Nat) (done : List (Int × List Int)) (x5 x6 x7 x8 x9 : Option Val), items = enumL i ((lines.drop i).map .str) ∧ i ≤ lines.length ∧ done.length = i ∧ i ≤ 8 ∧
    env = [some (.str text), some (.int kept), some (.ref l0), some (.ref l1), some (.ref l2), x5, x6, x7, x8, x9] ∧ St S S' l0 l1 l2 (pieces.map .str) (lines.map .str) (done.map cutV) ∧
    parseLines kept 0 lines = addDone done (parseLines kept i (lines.drop i))
def RL (kept : Int) (S : Store) (lines : List Str) (r : RS) : Prop := ∃ (i : Nat) (e : Env) (G : Store), r = .rz ⟨"ParseError", [("line", .int (i : Nat))]⟩ e (S ++ G) ∧ parseLines kept 0 lines = .error i
theorem loop_lines {text : Str} {kept : Int} {S : Store} {l0 l1 l2 : Nat} {pieces lines : List Str} (ht : ∀ l ∈ lines, txtOk l = true) (items : List Val) (env : Env) (S' : Store) (h : PL text kept S l0 l1 l2 pieces lines items env S') :
    (∃ e S'', loopF (.tp [5, 6]) body_p (some (l1, lines.map .str)) items env S' = .nx e S'' ∧ PL text kept S l0 l1 l2 pieces lines [] e S'') ∨ RL kept S lines (loopF (.tp [5, 6]) body_p (some (l1, lines.map .str)) items env S') := by
  refine loopF_ind (PL text kept S l0 l1 l2 pieces lines) (RL kept S lines) (fun ds env S' h => ?_) (fun d ds env S' h => ?_) items env S' h
  · obtain ⟨i, done, x5, x6, x7, x8, x9, _, _, _, _, _, st, _⟩ := h
    exact liveOk_some st.h1
  · obtain ⟨i, done, x5, x6, x7, x8, x9, e1, e2, e3, e4, rfl, st, e5⟩ := h
    cases hd : lines.drop i with
    | nil => rw [hd] at e1; cases e1
    | cons line more =>
      have hmore : lines.drop (i + 1) = more := by
        have := congrArg (List.drop 1) hd
        rw [List.drop_drop] at this
        simpa using this
      have hi : i < lines.length := by
        apply Nat.lt_of_not_le
        intro q
        rw [List.drop_of_length_le q] at hd
        cases hd
      rw [hd] at e1 e5
      have e1' : d :: ds = .tup [.int (i : Nat), .str line] :: enumL (i + 1) (more.map .str) := e1
      obtain ⟨rfl, rfl⟩ := List.cons.inj e1'
      have htl : txtOk line = true := ht line (List.mem_of_mem_drop (by rw [hd]; exact List.mem_cons_self))
      refine ⟨_, rfl, ?_⟩
      rcases body_line (t0 := .str text) (kept := kept) (l0 := l0) (l1 := l1) (i := i) (line := line) (x7 := x7) (x8 := x8) (x9 := x9) st.h2 htl e4 (by rw [List.length_map]; omega) with ⟨hbad, e, G, hbody⟩ | ⟨c, y7, y8, y9, G, c1, c2, hbody⟩
      · refine .inr (.inr ⟨_, e, _, hbody, ?_⟩)
        obtain ⟨G', eG⟩ := st.pre
        refine ⟨i, e, G' ++ G, by rw [eG, List.append_assoc], ?_⟩
        rw [e5]
        unfold parseLines
        rcases hbad with hn | h8
        · rw [hn]; rfl
        · cases lineP kept line with
          | none => rfl
          | some c => dsimp only; rw [if_pos h8]; rfl
      · refine .inl ⟨_, _, hbody, i + 1, done ++ [c], some (.int (i : Nat)), some (.str line), y7, y8, y9, by rw [hmore], hi, by rw [List.length_append, e3]; rfl, by omega, rfl, ?_, ?_⟩
        · have := (st.push G).set ((done ++ [c]).map cutV)
          rw [List.map_append] at this
          rw [List.map_append]
          exact this
        · rw [e5, hmore]
          show addDone done (match lineP kept line with | none => .error i | some c => if i = 8 then .error i else match parseLines kept (i + 1) more with | .ok cs => .ok (c :: cs) | .error j => .error j) = _
          rw [c1]
          dsimp only
          rw [if_neg c2]
          cases parseLines kept (i + 1) more with
          | ok cs => show Except.ok (done ++ c :: cs) = Except.ok (done ++ [c] ++ cs); rw [List.append_assoc]; rfl
          | error j => rfl
theorem m_parse_eq : m_parse_cuts = (sSeq (sAsg (.nm 2) (mSM gSplit (mLoc 0) (mC (.str "\n"))))
    (sSeq (sAsg (.nm 3) (mSl (mLoc 2) (mC .non) (mUn fInt (mUn fNeg (mC (.int 1))))))
    (sSeq (sAsg (.nm 4) (mLst aNil))
    (sSeq (sFor (mEnum (mLoc 3)) (.tp [5, 6]) body_p)
    (sSeq (sIf (mBin fNe (mBin fIx (mLoc 2) (mUn fNeg (mC (.int 1)))) (mC (.str "")))
    (sSeq (sRaise "ParseError" "line" (aCons (mUn fLen (mLoc 3)) aNil))
    sNil)
    sNil)
    (sSeq (sRet (mUn fTupC (mLoc 4)))
    sNil)))))) := rfl
theorem raw_parse {text : Str} {kept : Int} {S : Store} (ht : txtOk text = true) : Cl S (m_parse_cuts (startE 10 [.str text, .int kept]) S).out (match parseP text kept with
    | .error i => .rz ⟨"ParseError", [("line", .int (i : Nat))]⟩ S
    | .ok cs => .ok (.val (cutsV cs)) S) := by
  have hpart : ∀ l ∈ Txt.split text "\n", txtOk l = true := fun l h => txt_part ht h
  have hcnt : (Txt.split text "\n").length ≤ 100001 := by
    have := split_count (x := text) (c := 10)
    rw [← nl_eq] at this
    have := (txt_ok ht).2
    omega
  show Cl S (RS.out (m_parse_cuts [some (.str text), some (.int kept), none, none, none, none, none, none, none, none] S)) _
  rw [m_parse_eq]
  unfold parseP
  generalize hP : Txt.split text "\n" = pieces at hpart hcnt
  rw [sSeq_nx (sAsg_split (c := 10) nl_eq rfl ht), hP]
  generalize hS1 : S ++ [Obj.lst (pieces.map .str)] = S1
  have g0 : S1[S.length]? = some (.lst (pieces.map .str)) := by rw [← hS1]; exact get_end
  have sl : mSl (mLoc 2) (mC .non) (mUn fInt (mUn fNeg (mC (.int 1)))) (List.set [some (.str text), some (.int kept), none, none, none, none, none, none, none, none] 2 (some (.ref S.length))) S1 = .ok (.new (.lst (pieces.dropLast.map .str))) S1 := by
    rw [mSl_list (r := S.length) (lo := none) (hi := some (-1)) (b := .val .non) (c := .val (.int (-1))) rfl rfl rfl rfl rfl g0, cut_last, List.map_dropLast]
  rw [sSeq_nx (sAsg_new sl)]
  generalize hS2 : S1 ++ [Obj.lst (pieces.dropLast.map .str)] = S2
  have g0' : S2[S.length]? = some (.lst (pieces.map .str)) := by rw [← hS2]; exact get_push g0
  have g1 : S2[S1.length]? = some (.lst (pieces.dropLast.map .str)) := by rw [← hS2]; exact get_end
  rw [sSeq_nx (sAsg_new (ob := .lst []) (S1 := S2) rfl)]
  have l1e : S1.length = S.length + 1 := by rw [← hS1]; simp
  have l2e : S2.length = S.length + 2 := by rw [← hS2, ← hS1]; simp
  have st : St S (S2 ++ [Obj.lst []]) S.length S1.length S2.length (pieces.map .str) (pieces.dropLast.map .str) [] := by
    refine ⟨⟨[Obj.lst (pieces.map .str), Obj.lst (pieces.dropLast.map .str), Obj.lst []], by rw [← hS2, ← hS1]; simp⟩, get_push g0', get_push g1, get_end, by omega, by omega, by omega⟩
  generalize hlines : pieces.dropLast = lines at *
  have henv : (List.set (List.set (List.set [some (.str text), some (.int kept), none, none, none, none, none, none, none, none] 2 (some (.ref S.length))) 3 (some (.ref S1.length))) 4 (some (.ref S2.length)) : Env) =
      [some (.str text), some (.int kept), some (.ref S.length), some (.ref S1.length), some (.ref S2.length), none, none, none, none, none] := rfl
  rw [henv]
  generalize hS3 : S2 ++ [Obj.lst []] = S3 at st
  have hen : mEnum (mLoc 3) [some (.str text), some (.int kept), some (.ref S.length), some (.ref S1.length), some (.ref S2.length), none, none, none, none, none] S3 = .ok (enumL 0 (lines.map .str)) (some (S1.length, lines.map .str)) S3 := by
    show (match rdL S3 (.val (.ref S1.length)) with | some vs => RI.ok (enumL 0 vs) (some (S1.length, vs)) S3 | none => .stuck) = _
    rw [rdL_ref st.h1]
  have hfor := sFor_val (t := .tp [5, 6]) (s := body_p) hen
  have hl := loop_lines (text := text) (kept := kept) (S := S) (pieces := pieces) (lines := lines) (fun l h => hpart l (by rw [← hlines] at h; exact List.dropLast_subset _ h)) _ _ _ ⟨0, [], none, none, none, none, none, rfl, Nat.zero_le _, rfl, Nat.zero_le _, rfl, st, by
    show parseLines kept 0 lines = addDone [] (parseLines kept 0 lines)
    cases parseLines kept 0 lines <;> rfl⟩
  rw [List.drop_zero] at hl
  rcases hl with ⟨e, S4, h1, h2⟩ | ⟨i, e, G, h1, h2⟩
  · obtain ⟨i, done, x5, x6, x7, x8, x9, q1, q2, q3, q4, rfl, st4, q5⟩ := h2
    have hdrop : lines.drop i = [] := by
      cases hd : lines.drop i with
      | nil => rfl
      | cons a b => rw [hd] at q1; cases q1
    rw [hdrop] at q5
    have q5 : parseLines kept 0 lines = .ok (done ++ []) := q5
    rw [List.append_nil] at q5
    rw [sSeq_nx (s := sFor (mEnum (mLoc 3)) (.tp [5, 6]) body_p) (hfor.trans h1), q5]
    have hne : pieces ≠ [] := by rw [← hP]; exact split_ne _ _
    have hlast : pieces.getLast? = some (pieces.getLast hne) := List.getLast?_eq_some_getLast hne
    have tl : mBin fNe (mBin fIx (mLoc 2) (mUn fNeg (mC (.int 1)))) (mC (.str "")) [some (.str text), some (.int kept), some (.ref S.length), some (.ref S1.length), some (.ref S2.length), x5, x6, x7, x8, x9] S4 = .ok (.val (.bl (!(pieces.getLast hne == "")))) S4 := by
      have ix : mBin fIx (mLoc 2) (mUn fNeg (mC (.int 1))) [some (.str text), some (.int kept), some (.ref S.length), some (.ref S1.length), some (.ref S2.length), x5, x6, x7, x8, x9] S4 = .ok (.val (.str (pieces.getLast hne))) S4 := by
        rw [mBin_val (o := .val (.ref S.length)) (S1 := S4) (o' := .val (.int (-1))) (S2 := S4) rfl rfl]
        show ofO S4 (match rdL S4 (.val (.ref S.length)) with | some vs => (atI vs (-1)).map Opd.val | none => none) = _
        rw [rdL_ref st4.h0]
        have : atI (pieces.map Val.str) (-1) = some (.str (pieces.getLast hne)) := by
          unfold atI ixN
          have hp : 0 < pieces.length := List.length_pos_iff.mpr hne
          rw [if_neg (by decide), if_pos (by rw [List.length_map]; omega), List.length_map]
          show (pieces.map Val.str)[((-1 : Int) + (pieces.length : Int)).toNat]? = _
          rw [List.getElem?_map, show ((-1 : Int) + (pieces.length : Int)).toNat = pieces.length - 1 by omega, ← List.getLast?_eq_getElem?, hlast]
          rfl
        rw [show (match (some (pieces.map Val.str) : Option (List Val)) with | some vs => (atI vs (-1)).map Opd.val | none => none) = (atI (pieces.map Val.str) (-1)).map Opd.val from rfl, this]
        rfl
      rw [mBin_val ix rfl, fNe_str (txt_ok (hpart _ (List.getLast_mem hne))).1 (by decide +kernel)]
      rfl
    obtain ⟨G4, eG⟩ := st4.pre
    rw [hlast]
    dsimp only
    by_cases hq : pieces.getLast hne = ""
    · rw [hq] at tl ⊢
      rw [if_pos rfl, sSeq_nx (e := [some (.str text), some (.int kept), some (.ref S.length), some (.ref S1.length), some (.ref S2.length), x5, x6, x7, x8, x9]) (S1 := S4) (by rw [sIf_val tl]; rfl)]
      rw [sSeq_ret (sRet_val (o := .val (cutsV done)) (S1 := S4) (by
        rw [mUn_val (o := .val (.ref S2.length)) (S1 := S4) rfl]
        show ofO S4 (match rdL S4 (.val (.ref S2.length)) with | some vs => some (.val (.tup vs)) | none => none) = _
        rw [rdL_ref st4.h2]
        rfl))]
      show Cl S (.ok (.val (cutsV done)) S4) _
      rw [eG]
      exact .val _ S _ (Kept.refl S) (vcl_cuts _ done)
    · rw [if_neg (fun e => hq (Option.some.inj e))]
      rw [show (!(pieces.getLast hne == "")) = true by simp [hq]] at tl
      have er : sRaise "ParseError" "line" (aCons (mUn fLen (mLoc 3)) aNil) [some (.str text), some (.int kept), some (.ref S.length), some (.ref S1.length), some (.ref S2.length), x5, x6, x7, x8, x9] S4 = .rz ⟨"ParseError", [("line", .int (lines.length : Nat))]⟩ [some (.str text), some (.int kept), some (.ref S.length), some (.ref S1.length), some (.ref S2.length), x5, x6, x7, x8, x9] S4 := by
        unfold sRaise
        rw [aCons_val (m := mUn fLen (mLoc 3)) (v := .int (lines.length : Nat)) (S1 := S4) (by
          rw [mUn_val (o := .val (.ref S1.length)) (S1 := S4) rfl]
          show ofO S4 (match rdL S4 (.val (.ref S1.length)) with | some vs => vI vs.length | none => match rdS (.val (.ref S1.length)) with | some ns => vI ns.length | none => none) = _
          rw [rdL_ref st4.h1]
          show Res.ok (.val (.int ((lines.map Val.str).length : Nat))) S4 = _
          rw [List.length_map]) aNil_val]
        show (if decide (((lines.length : Nat) : Int).natAbs.log2 < 1900) then RS.rz _ _ S4 else .stuck) = _
        rw [decide_eq_true (log_small (by rw [← hlines, List.length_dropLast]; omega)), if_pos rfl]
      rw [sSeq_rz (x := ⟨"ParseError", [("line", .int (lines.length : Nat))]⟩) (S1 := S4) (by rw [sIf_val tl, if_pos rfl, sSeq_rz er])]
      show Cl S (.rz _ S4) _
      rw [eG]
      exact .rz _ S _ (Kept.refl S) rfl
  · rw [sSeq_rz (s := sFor (mEnum (mLoc 3)) (.tp [5, 6]) body_p) (hfor.trans h1), h2]
    exact .rz _ S _ (Kept.refl S) rfl
theorem hrun_parse_cuts : ∀ ds S, ds.length = (["text", "kept"] : List Str).length → Cl S (m_parse_cuts (startE (["text", "kept", "pieces", "lines", "cuts", "place", "line", "words", "count", "picks"] : List Str).length ds) S).out (r_parse_cuts ds S) := by
  intro ds S hl
  clear hl
  unfold r_parse_cuts
  split
  · split
    · rename_i h
      rw [show (["text", "kept", "pieces", "lines", "cuts", "place", "line", "words", "count", "picks"] : List Str).length = 10 from rfl]
      exact raw_parse h
    · exact .stuck _
  · exact .stuck _
theorem len_parse_cuts : ∀ ds S, r_parse_cuts ds S ≠ .stuck → ds.length = (["text", "kept"] : List Str).length := by
  intro ds S h
  unfold r_parse_cuts at h
  split at h
  · rfl
  · exact absurd rfl h
end Lk83
end MP

namespace MP
namespace Lk83
open PySem L2 PySem.Spec PyProof.Rows

def nums : List Str := (List.range 65).map numS
theorem numIn_mem {w : Str} : (numIn w 64).isSome = decide (w ∈ nums) := by
  by_cases hb : badW w = true
  · rw [numIn_bad hb]
    refine (decide_eq_false fun h => ?_).symm
    obtain ⟨n, hn, rfl⟩ := List.mem_map.mp h
    have := List.all_eq_true.mp num_good n (List.mem_range.mpr (by have := List.mem_range.mp hn; omega))
    rw [hb] at this
    cases this
  · rw [Bool.not_eq_true] at hb
    obtain ⟨n, n1, n2, n3, n4⟩ := numIn_good (w := w) (most := 64) hb
    rw [n4]
    by_cases hn : (n : Int) ≤ 64
    · rw [if_pos hn]
      exact (decide_eq_true (List.mem_map.mpr ⟨n, List.mem_range.mpr (by omega), n3⟩)).symm
    · rw [if_neg hn]
      refine (decide_eq_false fun h => ?_).symm
      obtain ⟨m, hm, e⟩ := List.mem_map.mp h
      have hm := List.mem_range.mp hm
      have h3 := List.all_eq_true.mp (List.all_eq_true.mp numS_inj m (List.mem_range.mpr (by omega))) n (List.mem_range.mpr n1)
      rw [decide_eq_true (e.trans n3.symm)] at h3
      have : m = n := by simpa using h3
      omega
theorem inF_str (w : Str) : ∀ ws : List Str, inF (.str w) (ws.map .str) = decide (w ∈ ws) := by
  intro ws
  unfold inF inV
  rw [List.map_map, List.any_map]
  have : ∀ a : Str, (fun y => eqV y (fv (.str w))) ((fv ∘ Val.str) a) = decide (a = w) := fun a => by
    show eqV (.str a) (.str w) = _
    show (a == w) = _
    exact Bool.eq_iff_iff.mpr (by simp)
  rw [Bool.eq_iff_iff, List.any_eq_true, decide_eq_true_iff]
  constructor
  · rintro ⟨a, ha, h⟩
    have := this a
    simp only [Function.comp] at h this
    rw [this] at h
    exact (of_decide_eq_true h) ▸ ha
  · intro h
    refine ⟨w, h, ?_⟩
    have := this w
    simp only [Function.comp] at this ⊢
    rw [this]; simp
theorem flat_strs (ws : List Str) : (ws.map Val.str).all flat = true := by
  rw [List.all_map]
  exact List.all_eq_true.mpr fun _ _ => rfl
def body_d : MS := (sSeq (sAsg (.nm 6) (mSM gSplit (mLoc 5) (mC (.str " "))))
    (sSeq (sIf (mOr (mBin fNe (mUn fLen (mLoc 6)) (mBin fAdd (mLoc 1) (mC (.int 2)))) (mOr (mBin fNe (mBin fIx (mLoc 6) (mC (.int 1))) (mC (.str "picks"))) (mBin fGt (mLoc 4) (mC (.int 7)))))
    (sSeq (sRet (mLoc 4))
    sNil)
    sNil)
    (sSeq (sIf (mBin fNe (mComp (mItr (mBin fAdd (mSl (mLoc 6) (mC .non) (mUn fInt (mC (.int 1)))) (mSl (mLoc 6) (mUn fInt (mC (.int 2))) (mC .non)))) (.nm 8) (mBin (fIn true) (mLoc 8) (mLoc 2)) (mLoc 8) [8]) (mLst aNil))
    (sSeq (sRet (mLoc 4))
    sNil)
    sNil)
    sNil)))
theorem m_due_eq : m__law_due = (sSeq (sAsg (.tp [2, 3]) (mTup (aCons (mComp (mRng1 (mC (.int 65))) (.nm 7) (mC (.bl true)) (mUn fStrC (mLoc 7)) [7]) (aCons (mSM gSplit (mLoc 0) (mC (.str "\n"))) aNil))))
    (sSeq (sFor (mEnum (mSl (mLoc 3) (mC .non) (mUn fInt (mUn fNeg (mC (.int 1)))))) (.tp [4, 5]) body_d)
    (sSeq (sRet (mIf (mBin fEq (mBin fIx (mLoc 3) (mUn fNeg (mC (.int 1)))) (mC (.str ""))) (mC .non) (mBin fSub (mUn fLen (mLoc 3)) (mC (.int 1)))))
    sNil))) := rfl
theorem cut_one (vs : List Val) : cutL vs none (some 1) = vs.take 1 := by
  unfold cutL
  have e1 : HT.sIx vs.length 0 none = 0 := rfl
  have e2 : HT.sIx vs.length vs.length (some 1) = min 1 vs.length := HT.sIx_nat _ _ 1
  rw [e1, e2, List.drop_zero, Nat.sub_zero]
  by_cases h : 1 ≤ vs.length
  · rw [Nat.min_eq_left h]
  · have : vs = [] := List.eq_nil_of_length_eq_zero (by omega)
    subst this; rfl
theorem pds_strs : ∀ ws : List Str, pds (ws.map .str) = some (ws.map .str)
  | [] => rfl
  | w :: ws => by
    rw [List.map_cons]
    unfold pds
    rw [pds_strs ws]; rfl
theorem lay_strs : ∀ ws : List Str, (∀ w ∈ ws, PyData.strOk w = true) → PyData.canLayAll0 (ws.map .str) = true
  | [], _ => by simp [PyData.canLayAll0]
  | w :: ws, h => by
    rw [List.map_cons]
    unfold PyData.canLayAll0
    rw [lay_strs ws fun x hx => h x (List.mem_cons_of_mem _ hx)]
    simp [PyData.canLay0, h w List.mem_cons_self]
theorem depth_strs : ∀ ws : List Str, PyData.depthAll (ws.map .str) = 0
  | [] => by simp [PyData.depthAll]
  | w :: ws => by
    rw [List.map_cons]
    unfold PyData.depthAll
    rw [depth_strs ws]
    simp [PyData.depth]
theorem fNe_nil {S : Store} {ws : List Str} (h : ∀ w ∈ ws, PyData.strOk w = true) : fNe S (.new (.lst (ws.map .str))) (.new (.lst [])) = some (.val (.bl (!ws.isEmpty))) := by
  have e1 : pdO S (.new (.lst (ws.map .str))) = some (.list (ws.map .str)) := by
    show (pds (ws.map .str)).map PyData.list = _
    rw [pds_strs]; rfl
  have e2 : pdO S (.new (.lst [])) = some (.list []) := rfl
  have s1 : SeqAt.shaped (.list (ws.map .str)) = true := by
    unfold SeqAt.shaped PyData.canLay0 PyData.depth
    rw [lay_strs ws h, depth_strs]; rfl
  have s2 : SeqAt.shaped (.list []) = true := by decide +kernel
  unfold fNe
  rw [e1, e2]
  simp only [s1, s2, Bool.and_self, if_true]
  have : PyData.eqv (.list (ws.map .str)) (.list []) = ws.isEmpty := by cases ws <;> simp [PyData.eqv, PyData.eqvAll]
  rw [this]; rfl
theorem filter_any {α : Type} (p : α → Bool) : ∀ l : List α, (!(l.filter p).isEmpty) = l.any p
  | [] => rfl
  | a :: l => by
    rw [List.filter_cons, List.any_cons, ← filter_any p l]
    cases p a <;> simp
theorem isNone_num (w : Str) : (numIn w 64).isNone = !decide (w ∈ nums) := by
  rw [← numIn_mem]
  cases numIn w 64 <;> rfl
theorem due_same {kept : Int} {i : Nat} {w0 : Str} {rest : List Str} (hi : i ≤ 8) :
    badL kept i w0 rest = (((!decide (((w0 :: rest).length : Int) = kept + 2)) || (notPicks rest || decide ((7 : Int) < (i : Int)))) || !((w0 :: rest.drop 1).filter fun w => !decide (w ∈ nums)).isEmpty) := by
  rw [filter_any, List.any_cons]
  unfold badL
  have e1 : decide ((7 : Int) < (i : Int)) = decide ((i : Int) = 8) := decide_eq_decide.mpr (by omega)
  have e2 : ((rest.drop 1).map fun w => numIn w 64).any (·.isNone) = (rest.drop 1).any fun w => !decide (w ∈ nums) := by
    rw [List.any_map]
    congr 1
    funext w
    exact isNone_num w
  rw [e1, e2, isNone_num]
  cases rest with
  | nil =>
    show (_ || (true || _)) = ((_ || (true || _)) || _)
    simp
  | cons w1 ws =>
    have e3 : decide (((w0 :: w1 :: ws).length : Int) = kept + 2) = decide ((((w1 :: ws).drop 1).length : Int) = kept) := decide_eq_decide.mpr (by
      simp only [List.length_cons, List.drop_succ_cons, List.drop_zero]
      omega)
    rw [e3]
    generalize (!decide (w0 ∈ nums)) = a
    generalize notPicks (w1 :: ws) = b
    generalize (!decide ((((w1 :: ws).drop 1).length : Int) = kept)) = c
    generalize ((w1 :: ws).drop 1).any (fun w => !decide (w ∈ nums)) = d
    generalize decide ((i : Int) = 8) = e
    cases a <;> cases b <;> cases c <;> cases d <;> cases e <;> rfl
/-- what the line's test comes to, by hand -/
theorem due_line {t0 : Val} {kept : Int} {l0 l1 i : Nat} {line : Str} {x6 x7 x8 : Option Val} {S : Store} (hk : 0 ≤ kept) (h0 : S[l0]? = some (.lst (nums.map .str))) (ht : txtOk line = true) (hi : i ≤ 8) :
    ((lineP kept line = none ∨ i = 8) ∧ ∃ G, body_d [some t0, some (.int kept), some (.ref l0), some (.ref l1), some (.int (i : Nat)), some (.str line), x6, x7, x8] S = .ret (.val (.int (i : Nat))) (S ++ G)) ∨
    ∃ c y6 y7 y8 G, lineP kept line = some c ∧ i ≠ 8 ∧ body_d [some t0, some (.int kept), some (.ref l0), some (.ref l1), some (.int (i : Nat)), some (.str line), x6, x7, x8] S =
      .nx [some t0, some (.int kept), some (.ref l0), some (.ref l1), some (.int (i : Nat)), some (.str line), y6, y7, y8] (S ++ G) := by
  obtain ⟨w0, rest, hw⟩ : ∃ w0 rest, Txt.split line " " = w0 :: rest := by
    cases e : Txt.split line " " with
    | nil => exact absurd e (split_ne _ _)
    | cons a b => exact ⟨a, b, rfl⟩
  have hall : ∀ w ∈ w0 :: rest, txtOk w = true := fun w h => txt_part ht (by rw [hw]; exact h)
  have hcount : (w0 :: rest).length ≤ 100001 := by
    have := split_count (x := line) (c := 32)
    rw [← sp_eq, hw] at this
    have := (txt_ok ht).2
    omega
  rw [List.length_cons] at hcount
  unfold body_d
  rw [sSeq_nx (sAsg_split (c := 32) sp_eq rfl ht), hw]
  generalize hS1 : S ++ [Obj.lst ((w0 :: rest).map .str)] = S1
  have g1 : S1[S.length]? = some (.lst ((w0 :: rest).map .str)) := by rw [← hS1]; exact get_end
  have g2 : S1[l0]? = some (.lst (nums.map .str)) := by rw [← hS1]; exact get_push h0
  let env2 : Env := [some t0, some (.int kept), some (.ref l0), some (.ref l1), some (.int (i : Nat)), some (.str line), some (.ref S.length), x7, x8]
  rw [show ([some t0, some (Val.int kept), some (Val.ref l0), some (Val.ref l1), some (Val.int (i : Nat)), some (Val.str line), x6, x7, x8] : Env).set 6 (some (Val.ref S.length)) = env2 from rfl]
  have t1 : mBin fNe (mUn fLen (mLoc 6)) (mBin fAdd (mLoc 1) (mC (.int 2))) env2 S1 = .ok (.val (.bl (!decide (((w0 :: rest).length : Int) = kept + 2)))) S1 := by
    rw [mBin_val (o := .val (.int ((w0 :: rest).length : Nat))) (S1 := S1) (o' := .val (.int (kept + 2))) (S2 := S1) (by
      rw [mUn_val (o := .val (.ref S.length)) (S1 := S1) rfl]
      show ofO S1 (match rdL S1 (.val (.ref S.length)) with | some vs => vI vs.length | none => match rdS (.val (.ref S.length)) with | some ns => vI ns.length | none => none) = _
      rw [rdL_ref g1]
      show Res.ok (.val (.int (((w0 :: rest).map Val.str).length : Nat))) S1 = _
      rw [List.length_map]) rfl, fNe_int]
    rfl
  have t2 : (!decide (((w0 :: rest).length : Int) = kept + 2)) = false → mOr (mBin fNe (mBin fIx (mLoc 6) (mC (.int 1))) (mC (.str "picks"))) (mBin fGt (mLoc 4) (mC (.int 7))) env2 S1 = .ok (.val (.bl (notPicks rest || decide ((7 : Int) < (i : Int))))) S1 := fun h => by
    have h : ((w0 :: rest).length : Int) = kept + 2 := by simpa using h
    cases rest with
    | nil => simp at h; omega
    | cons w1 ws =>
      have ix : mBin fIx (mLoc 6) (mC (.int 1)) env2 S1 = .ok (.val (.str w1)) S1 := by
        rw [mBin_val (o := .val (.ref S.length)) (S1 := S1) (o' := .val (.int 1)) (S2 := S1) rfl rfl]
        show ofO S1 (match rdL S1 (.val (.ref S.length)) with | some vs => (atI vs 1).map Opd.val | none => none) = _
        rw [rdL_ref g1]
        have : atI ((w0 :: w1 :: ws).map Val.str) 1 = some (.str w1) := by
          unfold atI ixN
          rw [if_pos (by decide), if_pos (by simp only [List.length_map, List.length_cons]; omega)]
          rfl
        show ofO S1 ((atI ((w0 :: w1 :: ws).map Val.str) 1).map Opd.val) = _
        rw [this]; rfl
      refine mOr_val ?_ fun _ => ?_
      · rw [mBin_val ix rfl, fNe_str (txt_ok (hall w1 (by simp))).1 (by decide +kernel)]; rfl
      · rw [mBin_val (o := .val (.int (i : Nat))) (S1 := S1) (o' := .val (.int 7)) (S2 := S1) rfl rfl]; rfl
  have tt := mOr_val t1 t2
  have sl1 : mSl (mLoc 6) (mC .non) (mUn fInt (mC (.int 1))) env2 S1 = .ok (.new (.lst [.str w0])) S1 := by
    rw [mSl_list (r := S.length) (lo := none) (hi := some 1) (b := .val .non) (c := .val (.int 1)) rfl rfl rfl rfl rfl g1, cut_one]; rfl
  have sl2 : mSl (mLoc 6) (mUn fInt (mC (.int 2))) (mC .non) env2 S1 = .ok (.new (.lst ((rest.drop 1).map .str))) S1 := by
    rw [mSl_list (r := S.length) (lo := some 2) (hi := none) (b := .val (.int 2)) (c := .val .non) rfl rfl rfl rfl rfl g1, cut_two]
    show Res.ok (.new (.lst ((rest.map Val.str).drop 1))) S1 = _
    rw [List.map_drop]
  have wl : mItr (mBin fAdd (mSl (mLoc 6) (mC .non) (mUn fInt (mC (.int 1)))) (mSl (mLoc 6) (mUn fInt (mC (.int 2))) (mC .non))) env2 S1 = .ok ((w0 :: rest.drop 1).map .str) none S1 := by
    have : mBin fAdd (mSl (mLoc 6) (mC .non) (mUn fInt (mC (.int 1)))) (mSl (mLoc 6) (mUn fInt (mC (.int 2))) (mC .non)) env2 S1 = .ok (.new (.lst ((w0 :: rest.drop 1).map .str))) S1 := by
      rw [mBin_val sl1 sl2]
      show ofO S1 (if okLen _ then _ else none) = _
      rw [show okLen ([Val.str w0].length + ((rest.drop 1).map Val.str).length) = true from decide_eq_true (by simp [big]; omega), if_pos rfl]
      rfl
    unfold mItr
    rw [this]
  have t3 : mBin fNe (mComp (mItr (mBin fAdd (mSl (mLoc 6) (mC .non) (mUn fInt (mC (.int 1)))) (mSl (mLoc 6) (mUn fInt (mC (.int 2))) (mC .non)))) (.nm 8) (mBin (fIn true) (mLoc 8) (mLoc 2)) (mLoc 8) [8]) (mLst aNil) env2 S1 = .ok (.val (.bl (!((w0 :: rest.drop 1).filter fun w => !decide (w ∈ nums)).isEmpty))) S1 := by
    have e : mComp (mItr (mBin fAdd (mSl (mLoc 6) (mC .non) (mUn fInt (mC (.int 1)))) (mSl (mLoc 6) (mUn fInt (mC (.int 2))) (mC .non)))) (.nm 8) (mBin (fIn true) (mLoc 8) (mLoc 2)) (mLoc 8) [8] env2 S1 = .ok (.new (.lst (((w0 :: rest.drop 1).filter fun w => !decide (w ∈ nums)).map .str))) S1 := by
      rw [mComp_val wl, loopC_fm (fun d => match d with | .str w => !decide (w ∈ nums) | _ => false) id liveOk_none]
      · rw [List.nil_append, List.filter_map, List.map_id]; rfl
      · intro d hd
        obtain ⟨w, hw', rfl⟩ := List.mem_map.mp hd
        refine ⟨_, rfl, ?_, fun _ => rfl⟩
        rw [mBin_val (o := .val (.str w)) (S1 := S1) (o' := .val (.ref l0)) (S2 := S1) rfl rfl]
        show ofO S1 (match sq S1 (.val (.ref l0)) with | some vs => if flat (.str w) && vs.all flat then vB (if true then !inF (.str w) vs else inF (.str w) vs) else none | none => none) = _
        rw [show sq S1 (.val (.ref l0)) = some (nums.map .str) from rdL_ref g2]
        dsimp only
        rw [flat_strs, inF_str]
        rfl
      · simp; omega
    rw [mBin_val e (mLst_val (vs := []) aNil_val (by simp))]
    rw [fNe_nil (fun w h => (txt_ok (hall w (by
      have := (List.mem_filter.mp h).1
      rcases List.mem_cons.mp this with rfl | h2
      · exact List.mem_cons_self
      · exact List.mem_cons_of_mem _ (List.mem_of_mem_drop h2)))).1)]
    rfl
  have ret : sSeq (sRet (mLoc 4)) sNil env2 S1 = .ret (.val (.int (i : Nat))) S1 := sSeq_ret (sRet_val rfl)
  have same : badL kept i w0 rest = (((!decide (((w0 :: rest).length : Int) = kept + 2)) || (notPicks rest || decide ((7 : Int) < (i : Int)))) || !((w0 :: rest.drop 1).filter fun w => !decide (w ∈ nums)).isEmpty) := due_same hi
  by_cases hb1 : ((!decide (((w0 :: rest).length : Int) = kept + 2)) || (notPicks rest || decide ((7 : Int) < (i : Int)))) = true
  · rw [hb1] at tt
    refine .inl ⟨badL_true hw (by rw [same, hb1]; rfl), [Obj.lst ((w0 :: rest).map .str)], ?_⟩
    rw [sSeq_ret (o := .val (.int (i : Nat))) (S1 := S1) (by rw [sIf_val tt, if_pos rfl, ret]), hS1]
  · rw [Bool.not_eq_true] at hb1
    rw [hb1] at tt
    rw [sSeq_nx (e := env2) (S1 := S1) (by rw [sIf_val tt]; rfl)]
    by_cases hb2 : (!((w0 :: rest.drop 1).filter fun w => !decide (w ∈ nums)).isEmpty) = true
    · rw [hb2] at t3
      refine .inl ⟨badL_true hw (by rw [same, hb2, Bool.or_true]), [Obj.lst ((w0 :: rest).map .str)], ?_⟩
      rw [sSeq_ret (o := .val (.int (i : Nat))) (S1 := S1) (by rw [sIf_val t3, if_pos rfl, ret]), hS1]
    · rw [Bool.not_eq_true] at hb2
      rw [hb2] at t3
      obtain ⟨c, c1, c2, _, _⟩ := badL_false hw (show badL kept i w0 rest = false by rw [same, hb1, hb2]; rfl)
      refine .inr ⟨c, some (.ref S.length), x7, x8, [Obj.lst ((w0 :: rest).map .str)], c1, c2, ?_⟩
      rw [sSeq_nx (e := env2) (S1 := S1) (by rw [sIf_val t3]; rfl), hS1]
      rfl
end Lk83
end MP

namespace MP
namespace Lk83
open PySem L2 PySem.Spec PyProof.Rows

def PD (text : Str) (kept : Int) (S : Store) (l0 l1 : Nat) (pieces lines : List Str) (items : List Val) (env : Env) (S' : Store) : Prop :=
  ∃ (i : Nat) (done : List (Int × List Int)) (x4 x5 x6 x7 x8 : Option Val), items = enumL i ((lines.drop i).map .str) ∧ i ≤ lines.length ∧ i ≤ 8 ∧
    env = [some (.str text), some (.int kept), some (.ref l0), some (.ref l1), x4, x5, x6, x7, x8] ∧ (∃ G, S' = S ++ G) ∧ S'[l0]? = some (.lst (nums.map .str)) ∧ S'[l1]? = some (.lst (pieces.map .str)) ∧
    parseLines kept 0 lines = addDone done (parseLines kept i (lines.drop i))
def RD (kept : Int) (S : Store) (lines : List Str) (r : RS) : Prop := ∃ (i : Nat) (G : Store), r = .ret (.val (.int (i : Nat))) (S ++ G) ∧ parseLines kept 0 lines = .error i
theorem get_app {S G : Store} {r : Nat} {o : Obj} (h : S[r]? = some o) : (S ++ G)[r]? = some o := by
  rw [List.getElem?_append_left (List.getElem?_eq_some_iff.mp h).1]; exact h
theorem loop_due {text : Str} {kept : Int} {S : Store} {l0 l1 : Nat} {pieces lines : List Str} (hk : 0 ≤ kept) (ht : ∀ l ∈ lines, txtOk l = true) (items : List Val) (env : Env) (S' : Store) (h : PD text kept S l0 l1 pieces lines items env S') :
    (∃ e S'', loopF (.tp [4, 5]) body_d none items env S' = .nx e S'' ∧ PD text kept S l0 l1 pieces lines [] e S'') ∨ RD kept S lines (loopF (.tp [4, 5]) body_d none items env S') := by
  refine loopF_ind (PD text kept S l0 l1 pieces lines) (RD kept S lines) (fun ds env S' h => liveOk_none) (fun d ds env S' h => ?_) items env S' h
  obtain ⟨i, done, x4, x5, x6, x7, x8, e1, e2, e4, rfl, ⟨G', eG⟩, g0, g1, e5⟩ := h
  cases hd : lines.drop i with
  | nil => rw [hd] at e1; cases e1
  | cons line more =>
    have hmore : lines.drop (i + 1) = more := by
      have := congrArg (List.drop 1) hd
      rw [List.drop_drop] at this
      simpa using this
    have hi : i < lines.length := by
      apply Nat.lt_of_not_le
      intro q
      rw [List.drop_of_length_le q] at hd
      cases hd
    rw [hd] at e1 e5
    have e1' : d :: ds = .tup [.int (i : Nat), .str line] :: enumL (i + 1) (more.map .str) := e1
    obtain ⟨rfl, rfl⟩ := List.cons.inj e1'
    have htl : txtOk line = true := ht line (List.mem_of_mem_drop (by rw [hd]; exact List.mem_cons_self))
    refine ⟨_, rfl, ?_⟩
    rcases due_line (t0 := .str text) (kept := kept) (l0 := l0) (l1 := l1) (i := i) (line := line) (x6 := x6) (x7 := x7) (x8 := x8) hk g0 htl e4 with ⟨hbad, G, hbody⟩ | ⟨c, y6, y7, y8, G, c1, c2, hbody⟩
    · refine .inr (.inl ⟨_, _, hbody, i, G' ++ G, by rw [eG, List.append_assoc], ?_⟩)
      rw [e5]
      unfold parseLines
      rcases hbad with hn | h8
      · rw [hn]; rfl
      · cases lineP kept line with
        | none => rfl
        | some c => dsimp only; rw [if_pos h8]; rfl
    · refine .inl ⟨_, _, hbody, i + 1, done ++ [c], some (.int (i : Nat)), some (.str line), y6, y7, y8, by rw [hmore], hi, by omega, rfl, ⟨G' ++ G, by rw [eG, List.append_assoc]⟩, get_app g0, get_app g1, ?_⟩
      rw [e5, hmore]
      show addDone done (match lineP kept line with | none => .error i | some c => if i = 8 then .error i else match parseLines kept (i + 1) more with | .ok cs => .ok (c :: cs) | .error j => .error j) = _
      rw [c1]
      dsimp only
      rw [if_neg c2]
      cases parseLines kept (i + 1) more with
      | ok cs => show Except.ok (done ++ c :: cs) = Except.ok (done ++ [c] ++ cs); rw [List.append_assoc]; rfl
      | error j => rfl
theorem nums_made {S : Store} {env : Env} (he : 7 < env.length) : mComp (mRng1 (mC (.int 65))) (.nm 7) (mC (.bl true)) (mUn fStrC (mLoc 7)) [7] env S = .ok (.new (.lst (nums.map .str))) S := by
  rw [mComp_val (ds := rangeL 0 65) (live := none) (S1 := S) rfl, loopC_fm (fun _ => true) (fun d => match d with | .int z => .str (numI z) | _ => .non) liveOk_none]
  · rw [List.nil_append, List.filter_eq_self.mpr (fun _ _ => rfl)]
    unfold nums rangeL
    rw [List.map_map, List.map_map]
    congr 4
    funext n
    show Val.str (numI (0 + (n : Int))) = .str (numI (n : Int))
    rw [Int.zero_add]
  · intro d hd
    unfold rangeL at hd
    obtain ⟨n, hn, rfl⟩ := List.mem_map.mp hd
    have hn := List.mem_range.mp hn
    refine ⟨_, rfl, rfl, fun _ => ?_⟩
    have sm : small (0 + (n : Int)) = true := by
      unfold small
      rw [decide_eq_true (by omega), decide_eq_true (by omega)]; rfl
    rw [mUn_val (o := .val (.int (0 + (n : Int)))) (S1 := S) (mLoc_val (by unfold wipeE wipeE; rw [List.set_set, List.getElem?_set_self he])), fStrC_val sm]
    rfl
  · unfold rangeL; simp
theorem raw_due {text : Str} {kept : Int} {S : Store} (ht : txtOk text = true) (hk : 0 ≤ kept) : Cl S (m__law_due (startE 9 [.str text, .int kept]) S).out (.ok (.val (match parseP text kept with
    | .error i => .int (i : Nat)
    | .ok _ => .non)) S) := by
  have hpart : ∀ l ∈ Txt.split text "\n", txtOk l = true := fun l h => txt_part ht h
  have hcnt : (Txt.split text "\n").length ≤ 100001 := by
    have := split_count (x := text) (c := 10)
    rw [← nl_eq] at this
    have := (txt_ok ht).2
    omega
  have hne : Txt.split text "\n" ≠ [] := split_ne _ _
  show Cl S (RS.out (m__law_due [some (.str text), some (.int kept), none, none, none, none, none, none, none] S)) _
  rw [m_due_eq]
  unfold parseP
  generalize hP : Txt.split text "\n" = pieces at hpart hcnt hne
  have e1 := nums_made (S := S) (env := [some (.str text), some (.int kept), none, none, none, none, none, none, none]) (by show 7 < 9; decide)
  generalize hS1 : S ++ [Obj.lst (nums.map .str)] = S1
  have a0 : S1[S.length]? = some (.lst (nums.map .str)) := by rw [← hS1]; exact get_end
  have e2 : mSM gSplit (mLoc 0) (mC (.str "\n")) [some (.str text), some (.int kept), none, none, none, none, none, none, none] S1 = .ok (.new (.lst (pieces.map .str))) S1 := by
    rw [nl_eq] at hP ⊢
    rw [mSM_val (z := text) (S1 := S1) (o := .val (.str ⟨#[10]⟩)) (S2 := S1) rfl rfl, gSplit_val ht, hP]; rfl
  generalize hS2 : S1 ++ [Obj.lst (pieces.map .str)] = S2
  have b0 : S2[S.length]? = some (.lst (nums.map .str)) := by rw [← hS2]; exact get_push a0
  have b1 : S2[S1.length]? = some (.lst (pieces.map .str)) := by rw [← hS2]; exact get_end
  have hG : S2 = S ++ [Obj.lst (nums.map .str), Obj.lst (pieces.map .str)] := by rw [← hS2, ← hS1]; simp
  have eA : sAsg (.tp [2, 3]) (mTup (aCons (mComp (mRng1 (mC (.int 65))) (.nm 7) (mC (.bl true)) (mUn fStrC (mLoc 7)) [7]) (aCons (mSM gSplit (mLoc 0) (mC (.str "\n"))) aNil))) [some (.str text), some (.int kept), none, none, none, none, none, none, none] S =
      .nx [some (.str text), some (.int kept), some (.ref S.length), some (.ref S1.length), none, none, none, none, none] S2 := by
    unfold sAsg
    rw [mTup_val (vs := [.ref S.length, .ref S1.length]) (S1 := S2) (aCons_new e1 (by rw [hS1]; exact aCons_new e2 (by rw [hS2]; exact aNil_val))) (by simp)]
    rfl
  rw [sSeq_nx eA]
  have sl : mSl (mLoc 3) (mC .non) (mUn fInt (mUn fNeg (mC (.int 1)))) [some (.str text), some (.int kept), some (.ref S.length), some (.ref S1.length), none, none, none, none, none] S2 = .ok (.new (.lst (pieces.dropLast.map .str))) S2 := by
    rw [mSl_list (r := S1.length) (lo := none) (hi := some (-1)) (b := .val .non) (c := .val (.int (-1))) rfl rfl rfl rfl rfl b1, cut_last, List.map_dropLast]
  generalize hlines : pieces.dropLast = lines at *
  have hen : mEnum (mSl (mLoc 3) (mC .non) (mUn fInt (mUn fNeg (mC (.int 1))))) [some (.str text), some (.int kept), some (.ref S.length), some (.ref S1.length), none, none, none, none, none] S2 = .ok (enumL 0 (lines.map .str)) none S2 := by
    unfold mEnum
    rw [sl]
  have hfor := sFor_val (t := .tp [4, 5]) (s := body_d) hen
  have hl := loop_due (text := text) (kept := kept) (S := S) (pieces := pieces) (lines := lines) hk (fun l h => hpart l (by rw [← hlines] at h; exact List.dropLast_subset _ h)) _ _ _ ⟨0, [], none, none, none, none, none, rfl, Nat.zero_le _, Nat.zero_le _, rfl, ⟨_, hG⟩, b0, b1, by
    show parseLines kept 0 lines = addDone [] (parseLines kept 0 lines)
    cases parseLines kept 0 lines <;> rfl⟩
  rw [List.drop_zero] at hl
  rcases hl with ⟨e, S4, h1, h2⟩ | ⟨i, G, h1, h2⟩
  · obtain ⟨i, done, x4, x5, x6, x7, x8, q1, q2, q4, rfl, ⟨G4, eG⟩, c0, c1, q5⟩ := h2
    have hdrop : lines.drop i = [] := by
      cases hd : lines.drop i with
      | nil => rfl
      | cons a b => rw [hd] at q1; cases q1
    rw [hdrop] at q5
    have q5 : parseLines kept 0 lines = .ok (done ++ []) := q5
    rw [List.append_nil] at q5
    rw [sSeq_nx (s := sFor (mEnum (mSl (mLoc 3) (mC .non) (mUn fInt (mUn fNeg (mC (.int 1)))))) (.tp [4, 5]) body_d) (hfor.trans h1), q5]
    have hlast : pieces.getLast? = some (pieces.getLast hne) := List.getLast?_eq_some_getLast hne
    have tl : mBin fEq (mBin fIx (mLoc 3) (mUn fNeg (mC (.int 1)))) (mC (.str "")) [some (.str text), some (.int kept), some (.ref S.length), some (.ref S1.length), x4, x5, x6, x7, x8] S4 = .ok (.val (.bl (pieces.getLast hne == ""))) S4 := by
      have ix : mBin fIx (mLoc 3) (mUn fNeg (mC (.int 1))) [some (.str text), some (.int kept), some (.ref S.length), some (.ref S1.length), x4, x5, x6, x7, x8] S4 = .ok (.val (.str (pieces.getLast hne))) S4 := by
        rw [mBin_val (o := .val (.ref S1.length)) (S1 := S4) (o' := .val (.int (-1))) (S2 := S4) rfl rfl]
        show ofO S4 (match rdL S4 (.val (.ref S1.length)) with | some vs => (atI vs (-1)).map Opd.val | none => none) = _
        rw [rdL_ref c1]
        have : atI (pieces.map Val.str) (-1) = some (.str (pieces.getLast hne)) := by
          unfold atI ixN
          have hp : 0 < pieces.length := List.length_pos_iff.mpr hne
          rw [if_neg (by decide), if_pos (by rw [List.length_map]; omega), List.length_map]
          show (pieces.map Val.str)[((-1 : Int) + (pieces.length : Int)).toNat]? = _
          rw [List.getElem?_map, show ((-1 : Int) + (pieces.length : Int)).toNat = pieces.length - 1 by omega, ← List.getLast?_eq_getElem?, hlast]
          rfl
        rw [show (match (some (pieces.map Val.str) : Option (List Val)) with | some vs => (atI vs (-1)).map Opd.val | none => none) = (atI (pieces.map Val.str) (-1)).map Opd.val from rfl, this]
        rfl
      rw [mBin_val ix rfl, fEq_str (txt_ok (hpart _ (List.getLast_mem hne))).1 (by decide +kernel)]
      rfl
    have ln : mBin fSub (mUn fLen (mLoc 3)) (mC (.int 1)) [some (.str text), some (.int kept), some (.ref S.length), some (.ref S1.length), x4, x5, x6, x7, x8] S4 = .ok (.val (.int (lines.length : Nat))) S4 := by
      rw [mBin_val (o := .val (.int (pieces.length : Nat))) (S1 := S4) (o' := .val (.int 1)) (S2 := S4) (by
        rw [mUn_val (o := .val (.ref S1.length)) (S1 := S4) rfl]
        show ofO S4 (match rdL S4 (.val (.ref S1.length)) with | some vs => vI vs.length | none => match rdS (.val (.ref S1.length)) with | some ns => vI ns.length | none => none) = _
        rw [rdL_ref c1]
        show Res.ok (.val (.int ((pieces.map Val.str).length : Nat))) S4 = _
        rw [List.length_map]) rfl]
      show Res.ok (.val (.int ((pieces.length : Int) - 1))) S4 = _
      have hp : 0 < pieces.length := List.length_pos_iff.mpr hne
      rw [← hlines, List.length_dropLast, show ((pieces.length - 1 : Nat) : Int) = (pieces.length : Int) - 1 by omega]
    rw [hlast]
    dsimp only
    by_cases hq : pieces.getLast hne = ""
    · rw [hq] at tl ⊢
      rw [if_pos rfl, sSeq_ret (sRet_val (o := .val .non) (S1 := S4) (by rw [mIf_val tl]; rfl))]
      show Cl S (.ok (.val .non) S4) _
      rw [eG]
      exact .val _ S _ (Kept.refl S) rfl
    · rw [show (pieces.getLast hne == "") = false by simp [hq]] at tl
      rw [if_neg (fun e => hq (Option.some.inj e)), sSeq_ret (sRet_val (o := .val (.int (lines.length : Nat))) (S1 := S4) (by rw [mIf_val tl, if_neg Bool.false_ne_true]; exact ln))]
      show Cl S (.ok (.val (.int (lines.length : Nat))) S4) _
      rw [eG]
      exact .val _ S _ (Kept.refl S) rfl
  · rw [sSeq_ret (s := sFor (mEnum (mSl (mLoc 3) (mC .non) (mUn fInt (mUn fNeg (mC (.int 1)))))) (.tp [4, 5]) body_d) (hfor.trans h1), h2]
    exact .val _ S _ (Kept.refl S) rfl
theorem hrun__law_due : ∀ ds S, ds.length = (["text", "kept"] : List Str).length → Cl S (m__law_due (startE (["text", "kept", "numbers", "pieces", "at", "line", "words", "number", "word"] : List Str).length ds) S).out (r__law_due ds S) := by
  intro ds S hl
  clear hl
  unfold r__law_due
  split
  · split
    · rename_i h
      obtain ⟨h1, h2⟩ := Bool.and_eq_true_iff.mp h
      rw [show (["text", "kept", "numbers", "pieces", "at", "line", "words", "number", "word"] : List Str).length = 9 from rfl]
      exact raw_due h1 (of_decide_eq_true h2)
    · exact .stuck _
  · exact .stuck _
theorem len__law_due : ∀ ds S, r__law_due ds S ≠ .stuck → ds.length = (["text", "kept"] : List Str).length := by
  intro ds S h
  unfold r__law_due at h
  split at h
  · rfl
  · exact absurd rfl h
end Lk83
end MP

namespace MP
namespace Lk83
open PySem L2 PySem.Spec PyProof.Rows

theorem numIn_num {w : Str} {most i : Int} (h : numIn w most = some i) : numI i = w ∧ small i = true ∧ i ≤ most := by
  by_cases hb : badW w = true
  · rw [numIn_bad hb] at h; cases h
  · rw [Bool.not_eq_true] at hb
    obtain ⟨n, n1, n2, n3, n4⟩ := numIn_good (w := w) (most := most) hb
    rw [n4] at h
    by_cases hn : (n : Int) ≤ most
    · rw [if_pos hn] at h
      cases h
      refine ⟨n3, ?_, hn⟩
      unfold small
      rw [decide_eq_true (by omega), decide_eq_true (by omega)]; rfl
    · rw [if_neg hn] at h; cases h
theorem mapM_nums : ∀ {ws : List Str} {ps : List Int}, (ws.mapM fun w => numIn w 64) = some ps → ps.map numI = ws ∧ ps.all small = true ∧ ps.length = ws.length
  | [], ps, h => by
    have : ps = [] := by simpa using h.symm
    rw [this]; exact ⟨rfl, rfl, rfl⟩
  | w :: ws, ps, h => by
    rw [List.mapM_cons] at h
    cases e : numIn w 64 with
    | none => rw [e] at h; cases h
    | some b =>
      rw [e] at h
      cases e2 : ws.mapM fun w => numIn w 64 with
      | none => rw [e2] at h; cases h
      | some r =>
        rw [e2] at h
        have : ps = b :: r := (Option.some.inj h).symm
        obtain ⟨h1, h2, h3⟩ := mapM_nums e2
        obtain ⟨g1, g2, _⟩ := numIn_num e
        rw [this]
        exact ⟨by rw [List.map_cons, g1, h1], by rw [List.all_cons, g2, h2]; rfl, by rw [List.length_cons, List.length_cons, h3]⟩
theorem lineP_back {kept : Int} {l : Str} {c : Int × List Int} (h : lineP kept l = some c) : lineS c = l ∧ small c.1 = true ∧ c.2.all small = true ∧ (c.2.length : Int) = kept := by
  unfold lineP at h
  split at h
  · rename_i w0 w1 ws hw
    split at h
    · rename_i hc
      obtain ⟨rfl, c2⟩ := hc
      split at h
      · rename_i c0 ps e1 e2
        cases h
        obtain ⟨g1, g2, _⟩ := numIn_num e1
        obtain ⟨h1, h2, h3⟩ := mapM_nums e2
        refine ⟨?_, g2, h2, by rw [h3]; exact c2⟩
        unfold lineS
        rw [g1, h1]
        show Txt.join " " (w0 :: "picks" :: ws) = l
        rw [← hw, TL.join_eq, StrLaws.join_split]
      · cases h
    · cases h
  · cases h
theorem parseLines_back {kept : Int} : ∀ {ls : List Str} {i : Nat} {cs : List (Int × List Int)}, parseLines kept i ls = .ok cs → cs.map lineS = ls ∧ (∀ c ∈ cs, small c.1 = true ∧ c.2.all small = true ∧ (c.2.length : Int) = kept) ∧ (i ≤ 8 → i + cs.length ≤ 8)
  | [], i, cs, h => by cases h; exact ⟨rfl, fun _ h => (by cases h), fun h => h⟩
  | l :: ls, i, cs, h => by
    unfold parseLines at h
    cases e : lineP kept l with
    | none => rw [e] at h; cases h
    | some c =>
      rw [e] at h
      dsimp only at h
      by_cases h8 : i = 8
      · rw [if_pos h8] at h; cases h
      · rw [if_neg h8] at h
        cases e2 : parseLines kept (i + 1) ls with
        | error j => rw [e2] at h; cases h
        | ok cs' =>
          rw [e2] at h
          cases h
          obtain ⟨h1, h2, h3⟩ := parseLines_back e2
          obtain ⟨g1, g2, g3, g4⟩ := lineP_back e
          refine ⟨by rw [List.map_cons, g1, h1], fun c' hc => ?_, fun hi => ?_⟩
          · rcases List.mem_cons.mp hc with rfl | hc
            · exact ⟨g2, g3, g4⟩
            · exact h2 c' hc
          · rw [List.length_cons]
            have := h3 (by omega)
            omega
theorem joinL_nil : ∀ ms : List (List Nat), TL.joinL [] ms = ms.flatten
  | [] => rfl
  | [m] => by simp [TL.joinL]
  | m :: n :: r => by
    show m ++ ([] ++ TL.joinL [] (n :: r)) = _
    rw [joinL_nil (n :: r)]; rfl
theorem joinL_end {S : List Nat} : ∀ ms : List (List Nat), TL.joinL S (ms ++ [[]]) = (ms.map (· ++ S)).flatten
  | [] => rfl
  | m :: r => by
    have ih := joinL_end (S := S) r
    rw [List.map_cons, List.flatten_cons, ← ih]
    cases r with
    | nil => show m ++ (S ++ []) = m ++ S ++ []; rw [List.append_assoc]
    | cons n r => show m ++ (S ++ TL.joinL S (n :: (r ++ [[]]))) = m ++ S ++ _; rw [List.append_assoc]; rfl
theorem tl_empty : TL.tl ("" : Str) = [] := by decide
theorem join_nl (ls : List Str) : Txt.join "\n" (ls ++ [("" : Str)]) = Txt.join "" (ls.map fun l => l ++ "\n") := by
  rw [TL.join_eq, TL.join_eq]
  refine TL.ext_tl ?_
  rw [TL.tl_join, TL.tl_join, tl_empty, joinL_nil, List.map_append]
  show TL.joinL (TL.tl "\n") (ls.map TL.tl ++ [TL.tl ""]) = _
  rw [tl_empty, joinL_end, List.map_map, List.map_map]
  congr 2
  funext l
  exact (TL.tl_append l "\n").symm
theorem fmt_lines (cs : List (Int × List Int)) : fmt cs = Txt.join "\n" (cs.map lineS ++ [("" : Str)]) := by
  rw [join_nl]
  unfold fmt
  rw [List.map_map]; rfl
/-- THE ROUND: what is read is written again -/
theorem fmt_parse {text : Str} {kept : Int} {cs : List (Int × List Int)} (h : parseP text kept = .ok cs) : fmt cs = text ∧ (∀ c ∈ cs, small c.1 = true ∧ c.2.all small = true ∧ (c.2.length : Int) = kept) ∧ cs.length ≤ 8 := by
  unfold parseP at h
  cases e : parseLines kept 0 (Txt.split text "\n").dropLast with
  | error i => rw [e] at h; cases h
  | ok cs' =>
    rw [e] at h
    dsimp only at h
    by_cases hl : (Txt.split text "\n").getLast? = some ("" : Str)
    · rw [if_pos hl] at h
      cases h
      obtain ⟨h1, h2, h3⟩ := parseLines_back e
      refine ⟨?_, h2, by have := h3 (by omega); omega⟩
      have hne : Txt.split text "\n" ≠ [] := split_ne _ _
      have hg : (Txt.split text "\n").getLast hne = "" := by
        rw [List.getLast?_eq_some_getLast hne] at hl
        exact Option.some.inj hl
      rw [fmt_lines, h1, ← hg, List.dropLast_concat_getLast hne, TL.join_eq, StrLaws.join_split]
    · rw [if_neg hl] at h; cases h
theorem numIn_of {i : Int} (h : small i = true) (h2 : i ≤ 64) : numIn (numI i) 64 = some i := by
  obtain ⟨a, b⟩ := small_of h
  have e : numI i = numS i.toNat := by unfold numS; congr 1; omega
  unfold numIn
  rw [e, find_num (by omega)]
  dsimp only
  rw [if_pos (by omega)]
  congr 1; omega
def cellsOk (kept : Int) (c : Int × List Int) : Prop := small c.1 = true ∧ c.1 ≤ 64 ∧ (∀ p ∈ c.2, small p = true ∧ p ≤ 64) ∧ (c.2.length : Int) = kept
theorem mapM_num {ps : List Int} (h : ∀ p ∈ ps, small p = true ∧ p ≤ 64) : (ps.map numI).mapM (fun w => numIn w 64) = some ps := by
  induction ps with
  | nil => rfl
  | cons p ps ih =>
    rw [List.map_cons, List.mapM_cons, numIn_of (h p List.mem_cons_self).1 (h p List.mem_cons_self).2]
    show (do let r ← (ps.map numI).mapM (fun w => numIn w 64); pure (p :: r)) = _
    rw [ih fun q hq => h q (List.mem_cons_of_mem _ hq)]; rfl
theorem row_signs {kept : Int} {c : Int × List Int} (h : cellsOk kept c) : ∀ x ∈ ([numI c.1, "picks"] ++ c.2.map numI), ∀ s ∈ TL.tl x, s < 128 ∧ s ≠ 32 ∧ s ≠ 10 := by
  obtain ⟨h1, h2, h3, h4⟩ := h
  intro x hx
  simp only [List.cons_append, List.nil_append, List.mem_cons] at hx
  rcases hx with rfl | rfl | hx
  · exact (small_facts h1).2.2
  · decide
  · obtain ⟨i, hi, rfl⟩ := List.mem_map.mp hx
    exact (small_facts (h3 i hi).1).2.2
theorem lineP_of {kept : Int} {c : Int × List Int} (h : cellsOk kept c) : lineP kept (lineS c) = some c := by
  have hs : Txt.split (lineS c) " " = [numI c.1, "picks"] ++ c.2.map numI := by
    unfold lineS
    exact TL.split_join (s := 32) (S := []) (by decide) (by decide +kernel) (by simp) fun p hp e => (row_signs h p hp 32 e).2.1 rfl
  obtain ⟨h1, h2, h3, h4⟩ := h
  unfold lineP
  rw [hs]
  show (if ("picks" : Str) = "picks" ∧ (((c.2.map numI).length : Nat) : Int) = kept then _ else _) = _
  rw [if_pos ⟨rfl, by rw [List.length_map]; exact h4⟩, numIn_of h1 h2, show ([] : List Str).append (c.2.map numI) = c.2.map numI from rfl, mapM_num h3]
theorem parseLines_of {kept : Int} : ∀ {cs : List (Int × List Int)} {i : Nat}, (∀ c ∈ cs, cellsOk kept c) → i + cs.length ≤ 8 → parseLines kept i (cs.map lineS) = .ok cs
  | [], i, _, _ => rfl
  | c :: cs, i, h, hi => by
    rw [List.length_cons] at hi
    rw [List.map_cons]
    unfold parseLines
    rw [lineP_of (h c List.mem_cons_self)]
    dsimp only
    rw [if_neg (by omega), parseLines_of (fun d hd => h d (List.mem_cons_of_mem _ hd)) (by omega)]
theorem line_signs {kept : Int} {c : Int × List Int} (h : cellsOk kept c) : ∀ s ∈ TL.tl (lineS c), s < 128 ∧ s ≠ 10 := by
  intro s hs
  unfold lineS at hs
  rw [TL.join_eq, TL.tl_join] at hs
  have key : ∀ (ms : List (List Nat)), (∀ m ∈ ms, ∀ s ∈ m, s < 128 ∧ s ≠ 10) → ∀ s ∈ TL.joinL (TL.tl " ") ms, s < 128 ∧ s ≠ 10 := by
    intro ms
    induction ms with
    | nil => intro _ s hs; cases hs
    | cons m r ih =>
      intro hm s hs
      cases r with
      | nil => exact hm m List.mem_cons_self s hs
      | cons n r =>
        replace hs : s ∈ m ++ (TL.tl " " ++ TL.joinL (TL.tl " ") (n :: r)) := hs
        rcases List.mem_append.mp hs with hs | hs
        · exact hm m List.mem_cons_self s hs
        · rcases List.mem_append.mp hs with hs | hs
          · have e : TL.tl (" " : Str) = [32] := by decide
            rw [e, List.mem_singleton] at hs
            subst hs; decide
          · exact ih (fun q hq => hm q (List.mem_cons_of_mem _ hq)) s hs
  refine key _ (fun m hm => ?_) s hs
  obtain ⟨x, hx, rfl⟩ := List.mem_map.mp hm
  exact fun s hs => ⟨(row_signs h x hx s hs).1, (row_signs h x hx s hs).2.2⟩
/-- THE ROUND BACK: what is written is read again -/
theorem parse_fmt {kept : Int} {cs : List (Int × List Int)} (h : ∀ c ∈ cs, cellsOk kept c) (hl : cs.length ≤ 8) : parseP (fmt cs) kept = .ok cs := by
  have hs : Txt.split (fmt cs) "\n" = cs.map lineS ++ [("" : Str)] := by
    rw [fmt_lines]
    refine TL.split_join (s := 10) (S := []) (by decide) (by decide +kernel) (by simp) fun p hp e => ?_
    rcases List.mem_append.mp hp with hp | hp
    · obtain ⟨c, hc, rfl⟩ := List.mem_map.mp hp
      exact (line_signs (h c hc) 10 e).2 rfl
    · rw [List.mem_singleton.mp hp, tl_empty] at e
      cases e
  unfold parseP
  rw [hs, List.dropLast_concat, parseLines_of h (by omega)]
  dsimp only
  rw [if_pos (by simp)]
end Lk83
end MP

namespace MP
namespace Lk83
open PySem L2 PySem.Spec PyProof.Rows

theorem aCons_rz {m : MX} {as : MAs} {env : Env} {S S1 : Store} {x : Exn} (h : m env S = .rz x S1) : aCons m as env S = .rz x S1 := by unfold aCons; rw [h]; rfl
theorem parse_val {text : Str} {kept : Int} {S : Store} (ht : txtOk text = true) : r_parse_cuts [.str text, .int kept] S = (match parseP text kept with
    | .error i => .rz ⟨"ParseError", [("line", .int (i : Nat))]⟩ S
    | .ok cs => .ok (.val (cutsV cs)) S) := by
  show (if txtOk text then _ else _) = _
  rw [if_pos ht]
  all_goals rfl
theorem parse_cutOk {text : Str} {kept : Int} {cs : List (Int × List Int)} (h : parseP text kept = .ok cs) (hk : kept ≤ 100) : cs.all cutOk = true ∧ cs.length ≤ 100 := by
  obtain ⟨_, h2, h3⟩ := fmt_parse h
  refine ⟨List.all_eq_true.mpr fun c hc => ?_, by omega⟩
  obtain ⟨a, b, d⟩ := h2 c hc
  unfold cutOk
  rw [a, b, decide_eq_true (by omega)]; rfl
theorem raw_raised {text : Str} {kept : Int} {S : Store} (ht : txtOk text = true) (hk : kept ≤ 100) : (m__law_raised (startE 4 [.str text, .int kept]) S).out = .ok (.val (match parseP text kept with
    | .error i => .int (i : Nat)
    | .ok _ => .non)) S := by
  show RS.out (m__law_raised [some (.str text), some (.int kept), none, none] S) = _
  unfold m__law_raised
  rw [sSeq_nx (sAsg_val (i := 2) (m := mC .non) (d := .non) (S1 := S) rfl)]
  have ea : aCons (mLoc 0) (aCons (mLoc 1) aNil) [some (.str text), some (.int kept), some .non, none] S = .ok [.str text, .int kept] S := aCons_val rfl (aCons_val rfl aNil_val)
  have ep := (mCall_val (run := r_parse_cuts) ea).trans (parse_val (kept := kept) ht)
  show RS.out (sSeq _ _ [some (.str text), some (.int kept), some .non, none] S) = _
  cases hp : parseP text kept with
  | error i =>
    rw [hp] at ep
    have e1 : mCall r_format_cuts (aCons (mCall r_parse_cuts (aCons (mLoc 0) (aCons (mLoc 1) aNil))) aNil) [some (.str text), some (.int kept), some .non, none] S = .rz ⟨"ParseError", [("line", .int (i : Nat))]⟩ S := by
      unfold mCall
      rw [aCons_rz (by unfold mCall at ep; exact ep)]
      rfl
    have e2 : (sSeq (sAsg (.nm 2) (mIf (mBin fEq (mCall r_format_cuts (aCons (mCall r_parse_cuts (aCons (mLoc 0) (aCons (mLoc 1) aNil))) aNil)) (mLoc 0)) (mC .non) (mC (.str "other")))) sNil) [some (.str text), some (.int kept), some .non, none] S = .rz ⟨"ParseError", [("line", .int (i : Nat))]⟩ [some (.str text), some (.int kept), some .non, none] S := by
      refine sSeq_rz ?_
      unfold sAsg mIf mBin
      rw [e1]
      rfl
    rw [sSeq_nx (s := sTryF (cat1 "ParseError") 3 2 "line" _) (e := [some (.str text), some (.int kept), some (.int (i : Nat)), none]) (S1 := S) (by
      unfold sTryF
      rw [e2]
      dsimp only
      rw [show cat1 "ParseError" "ParseError" = some true from if_pos rfl]
      rfl)]
    rw [sSeq_ret (sRet_val (m := mLoc 2) (o := .val (.int (i : Nat))) (S1 := S) rfl)]
    rfl
  | ok cs =>
    rw [hp] at ep
    obtain ⟨o1, o2⟩ := parse_cutOk hp hk
    obtain ⟨f1, _, _⟩ := fmt_parse hp
    have e1 : mCall r_format_cuts (aCons (mCall r_parse_cuts (aCons (mLoc 0) (aCons (mLoc 1) aNil))) aNil) [some (.str text), some (.int kept), some .non, none] S = .ok (.val (.str text)) S := by
      rw [mCall_val (aCons_val ep aNil_val), r_format_V o1 o2, f1]
    have e3 : mBin fEq (mCall r_format_cuts (aCons (mCall r_parse_cuts (aCons (mLoc 0) (aCons (mLoc 1) aNil))) aNil)) (mLoc 0) [some (.str text), some (.int kept), some .non, none] S = .ok (.val (.bl true)) S := by
      rw [mBin_val e1 (o' := .val (.str text)) (S2 := S) rfl, fEq_str (txt_ok ht).1 (txt_ok ht).1, show (text == text) = true by simp]
      rfl
    have e2 : (sSeq (sAsg (.nm 2) (mIf (mBin fEq (mCall r_format_cuts (aCons (mCall r_parse_cuts (aCons (mLoc 0) (aCons (mLoc 1) aNil))) aNil)) (mLoc 0)) (mC .non) (mC (.str "other")))) sNil) [some (.str text), some (.int kept), some .non, none] S = .nx [some (.str text), some (.int kept), some .non, none] S := by
      rw [sSeq_nx (sAsg_val (d := .non) (S1 := S) (by rw [mIf_val e3]; rfl))]
      rfl
    rw [sSeq_nx (s := sTryF (cat1 "ParseError") 3 2 "line" _) (e := [some (.str text), some (.int kept), some .non, none]) (S1 := S) (by
      unfold sTryF
      rw [e2])]
    rw [sSeq_ret (sRet_val (m := mLoc 2) (o := .val .non) (S1 := S) rfl)]
    rfl
theorem hrun__law_raised : ∀ ds S, ds.length = (["text", "kept"] : List Str).length → Cl S (m__law_raised (startE (["text", "kept", "found", "e"] : List Str).length ds) S).out (r__law_raised ds S) := by
  intro ds S hl
  clear hl
  unfold r__law_raised
  split
  · split
    · rename_i h
      obtain ⟨h1, h2⟩ := Bool.and_eq_true_iff.mp h
      rw [show (["text", "kept", "found", "e"] : List Str).length = 4 from rfl, raw_raised h1 (of_decide_eq_true h2)]
      exact .same _
    · exact .stuck _
  · exact .stuck _
theorem len__law_raised : ∀ ds S, r__law_raised ds S ≠ .stuck → ds.length = (["text", "kept"] : List Str).length := by
  intro ds S h
  unfold r__law_raised at h
  split at h
  · rfl
  · exact absurd rfl h
/-! ### the pen -/
theorem hrun_raw {n nn : Nat} {m : MS} {ds : List Val} {S : Store} (h : ds.length = n) : Cl S (m (startE nn ds) S).out (if ds.length = n then (m (startE nn ds) S).out else .stuck) := by
  rw [if_pos h]
  exact .same _
theorem len_raw {n : Nat} {r : Res} {ds : List Val} (h : (if ds.length = n then r else .stuck) ≠ .stuck) : ds.length = n := by
  by_cases e : ds.length = n
  · exact e
  · rw [if_neg e] at h; exact absurd rfl h
theorem hrun__law_pen : ∀ ds S, ds.length = (["script"] : List Str).length → Cl S (m__law_pen (startE (["script"] : List Str).length ds) S).out (r__law_pen ds S) := fun ds S h => hrun_raw h
theorem len__law_pen : ∀ ds S, r__law_pen ds S ≠ .stuck → ds.length = (["script"] : List Str).length := fun ds S h => len_raw h
theorem hrun__law_fresh : ∀ ds S, ds.length = (["pen"] : List Str).length → Cl S (m__law_fresh (startE (["pen", "at", "cell", "p", "state", "found", "turn"] : List Str).length ds) S).out (r__law_fresh ds S) := fun ds S h => hrun_raw h
theorem len__law_fresh : ∀ ds S, r__law_fresh ds S ≠ .stuck → ds.length = (["pen"] : List Str).length := fun ds S h => len_raw h
theorem hrun__law_draw : ∀ ds S, ds.length = (["pen", "many"] : List Str).length → Cl S (m__law_draw (startE (["pen", "many", "digit"] : List Str).length ds) S).out (r__law_draw ds S) := fun ds S h => hrun_raw h
theorem len__law_draw : ∀ ds S, r__law_draw ds S ≠ .stuck → ds.length = (["pen", "many"] : List Str).length := fun ds S h => len_raw h
theorem hrun__law_number : ∀ ds S, ds.length = (["pen"] : List Str).length → Cl S (m__law_number (startE (["pen"] : List Str).length ds) S).out (r__law_number ds S) := fun ds S h => hrun_raw h
theorem len__law_number : ∀ ds S, r__law_number ds S ≠ .stuck → ds.length = (["pen"] : List Str).length := fun ds S h => len_raw h
theorem hrun_law : ∀ ds S, ds.length = (["script"] : List Str).length → Cl S (m_law (startE (["script", "pen", "turn", "kept", "fixed", "lap", "rows", "text", "line", "cuts", "picks", "sign", "place", "count", "words", "at", "cell", "pick"] : List Str).length ds) S).out (r_law ds S) := fun ds S h => hrun_raw h
theorem len_law : ∀ ds S, r_law ds S ≠ .stuck → ds.length = (["script"] : List Str).length := fun ds S h => len_raw h
end Lk83
end MP

namespace MP
namespace Lk83
open PySem L2 PySem.Spec PyProof.Rows

theorem mIx_ref {m n : MX} {env : Env} {S S1 S2 : Store} {r : Nat} {vs : List Val} {i : Int} {d : Val} (h : m env S = .ok (.val (.ref r)) S1) (h2 : n env S1 = .ok (.val (.int i)) S2) (hr : S2[r]? = some (.lst vs)) (hi : atI vs i = some d) : mBin fIx m n env S = .ok (.val d) S2 := by
  rw [mBin_val h h2]
  show ofO S2 (match rdL S2 (.val (.ref r)) with | some vs => (atI vs i).map Opd.val | none => none) = _
  rw [rdL_ref hr]
  show ofO S2 ((atI vs i).map Opd.val) = _
  rw [hi]; rfl
theorem mLen_ref {m : MX} {env : Env} {S S1 : Store} {r : Nat} {vs : List Val} (h : m env S = .ok (.val (.ref r)) S1) (hr : S1[r]? = some (.lst vs)) : mUn fLen m env S = .ok (.val (.int (vs.length : Nat))) S1 := by
  rw [mUn_val h]
  show ofO S1 (match rdL S1 (.val (.ref r)) with | some vs => vI vs.length | none => match rdS (.val (.ref r)) with | some ns => vI ns.length | none => none) = _
  rw [rdL_ref hr]; rfl
theorem sSub_val {m o ix : MX} {env : Env} {S S1 S2 S3 : Store} {v : Val} {r j : Nat} {vs : List Val} {i : Int} (h : m env S = .ok (.val v) S1) (h2 : o env S1 = .ok (.val (.ref r)) S2) (h3 : ix env S2 = .ok (.val (.int i)) S3) (hr : S3[r]? = some (.lst vs)) (hj : ixN vs.length i = some j) :
    sSub m o ix env S = .nx env (S3.set r (.lst (vs.set j v))) := by
  unfold sSub
  rw [h]
  show (o env S1).st env _ = _
  rw [h2]
  show (ix env S2).st env _ = _
  rw [h3]
  show (match rdL S3 (.val (.ref r)) with | some vs => (match ixN vs.length i with | some j => RS.nx env (S3.set r (.lst (vs.set j v))) | none => .stuck) | none => .stuck) = _
  rw [rdL_ref hr]
  dsimp only
  rw [hj]
theorem pds_ints : ∀ ws : List Int, pds (ws.map .int) = some (ws.map .int)
  | [] => rfl
  | w :: ws => by
    rw [List.map_cons]
    unfold pds
    rw [pds_ints ws]; rfl
theorem lay_ints : ∀ ws : List Int, PyData.canLayAll0 (ws.map .int) = true
  | [] => by simp [PyData.canLayAll0]
  | w :: ws => by
    rw [List.map_cons]
    unfold PyData.canLayAll0
    rw [lay_ints ws]
    simp [PyData.canLay0]
theorem depth_ints : ∀ ws : List Int, PyData.depthAll (ws.map .int) = 0
  | [] => by simp [PyData.depthAll]
  | w :: ws => by
    rw [List.map_cons]
    unfold PyData.depthAll
    rw [depth_ints ws]
    simp [PyData.depth]
theorem fNe_ints {S : Store} {c : Nat} {cells : List Int} (hc : S[c]? = some (.lst (cells.map .int))) : fNe S (.val (.ref c)) (.new (.lst [])) = some (.val (.bl (!cells.isEmpty))) := by
  have e1 : pdO S (.val (.ref c)) = some (.list (cells.map .int)) := by
    show (match rdL S (.val (.ref c)) with | some vs => (pds vs).map PyData.list | none => none) = _
    rw [rdL_ref hc]
    show (pds (cells.map .int)).map PyData.list = _
    rw [pds_ints]; rfl
  have e2 : pdO S (.new (.lst [])) = some (.list []) := rfl
  have s1 : SeqAt.shaped (.list (cells.map .int)) = true := by
    unfold SeqAt.shaped PyData.canLay0 PyData.depth
    rw [lay_ints, depth_ints]; rfl
  have s2 : SeqAt.shaped (.list []) = true := by decide +kernel
  unfold fNe
  rw [e1, e2]
  simp only [s1, s2, Bool.and_self, if_true]
  have : PyData.eqv (.list (cells.map .int)) (.list []) = cells.isEmpty := by cases cells <;> simp [PyData.eqv, PyData.eqvAll]
  rw [this]; rfl
/-- the pen at l, its cells at c -/
structure Pen (S : Store) (l c : Nat) (cells : List Int) (i d : Int) : Prop where
  pen : S[l]? = some (.lst [.ref c, .int i, .int d])
  cel : S[c]? = some (.lst (cells.map .int))
  ne : c ≠ l
def penO (c : Nat) (i d : Int) : Obj := .lst [.ref c, .int i, .int d]
theorem Pen.put {S : Store} {l c : Nat} {cells : List Int} {i d : Int} (h : Pen S l c cells i d) (i' d' : Int) : Pen (S.set l (penO c i' d')) l c cells i' d' :=
  ⟨by rw [List.getElem?_set_self (List.getElem?_eq_some_iff.mp h.pen).1]; rfl, by rw [List.getElem?_set_ne (Ne.symm h.ne)]; exact h.cel, h.ne⟩
theorem emod_small {p i : Int} (hp : p = 2305843009213693951) : 0 ≤ i % p ∧ i % p < p := by
  subst hp
  exact ⟨Int.emod_nonneg _ (by decide), Int.emod_lt_of_pos _ (by decide)⟩
theorem mMul_left {m n : MX} {env : Env} {S S1 S2 : Store} {i j : Int} (h : m env S = .ok (.val (.int i)) S1) (h2 : n env S1 = .ok (.val (.int j)) S2) (hs : small64 i = true) : mBin fMul m n env S = .ok (.val (.int (i * j))) S2 := by
  rw [mBin_val h h2]
  show ofO S2 (if small64 i || small64 j then vI (i * j) else none) = _
  rw [hs, Bool.true_or, if_pos rfl]; rfl
theorem mMul_right {m n : MX} {env : Env} {S S1 S2 : Store} {i j : Int} (h : m env S = .ok (.val (.int i)) S1) (h2 : n env S1 = .ok (.val (.int j)) S2) (hs : small64 j = true) : mBin fMul m n env S = .ok (.val (.int (i * j))) S2 := by
  rw [mBin_val h h2]
  show ofO S2 (if small64 i || small64 j then vI (i * j) else none) = _
  rw [hs, Bool.or_true, if_pos rfl]; rfl
theorem mMod_val {m n : MX} {env : Env} {S S1 S2 : Store} {i j : Int} (h : m env S = .ok (.val (.int i)) S1) (h2 : n env S1 = .ok (.val (.int j)) S2) (hs : 0 < j) : mBin fMod m n env S = .ok (.val (.int (i % j))) S2 := by
  rw [mBin_val h h2]
  show ofO S2 (if decide (0 < j) then vI (i % j) else none) = _
  rw [decide_eq_true hs, if_pos rfl]; rfl
theorem mAdd_val {m n : MX} {env : Env} {S S1 S2 : Store} {i j : Int} (h : m env S = .ok (.val (.int i)) S1) (h2 : n env S1 = .ok (.val (.int j)) S2) : mBin fAdd m n env S = .ok (.val (.int (i + j))) S2 := by
  rw [mBin_val h h2]; rfl
theorem mInt_val {m : MX} {env : Env} {S S1 : Store} {i : Int} (h : m env S = .ok (.val (.int i)) S1) : mUn fIntC m env S = .ok (.val (.int i)) S1 := by
  rw [mUn_val h]; rfl
def body_f : MS := (sSeq (sAsg (.nm 4) (mBin fMod (mUn fIntC (mBin fAdd (mBin fAdd (mBin fMul (mLoc 4) (mLoc 4)) (mBin fMul (mBin fMul (mC (.int 69621)) (mBin fAdd (mLoc 6) (mC (.int 1)))) (mBin fAdd (mLoc 1) (mC (.int 1))))) (mLoc 2))) (mLoc 3)))
    (sSeq (sAsg (.nm 5) (mBin fAdd (mBin fMul (mLoc 5) (mLoc 3)) (mLoc 4)))
    sNil))
def tail_f : MS := (sSeq (sAsg (.nm 3) (mC (.int 2305843009213693951)))
    (sSeq (sAsg (.nm 4) (mBin fMod (mUn fIntC (mBin fAdd (mBin fAdd (mBin fMul (mLoc 2) (mC (.int 48271))) (mBin fMul (mC (.int 40692)) (mLoc 1))) (mC (.int 31)))) (mLoc 3)))
    (sSeq (sAsg (.nm 5) (mLoc 4))
    (sSeq (sFor (mRng1 (mC (.int 6))) (.nm 6) body_f)
    (sSeq (sRet (mLoc 5))
    sNil)))))
theorem m_fresh_eq : m__law_fresh = (sSeq (sAsg (.nm 1) (mBin fIx (mLoc 0) (mC (.int 1))))
    (sSeq (sSub (mBin fAdd (mLoc 1) (mC (.int 1))) (mLoc 0) (mC (.int 1)))
    (sSeq (sAsg (.nm 2) (mC (.int 0)))
    (sSeq (sIf (mBin fNe (mBin fIx (mLoc 0) (mC (.int 0))) (mLst aNil))
    (sSeq (sAsg (.nm 2) (mBin fIx (mBin fIx (mLoc 0) (mC (.int 0))) (mBin fMod (mUn fIntC (mLoc 1)) (mUn fLen (mBin fIx (mLoc 0) (mC (.int 0)))))))
    sNil)
    sNil)
    (sSeq (sIf (mAnd (mBin fLt (mLoc 1) (mUn fLen (mBin fIx (mLoc 0) (mC (.int 0))))) (mBin fGe (mLoc 2) (mBin fPow (mC (.int 10)) (mC (.int 18)))))
    (sSeq (sRet (mBin fSub (mLoc 2) (mBin fPow (mC (.int 10)) (mC (.int 18)))))
    sNil)
    sNil) tail_f))))) := rfl
theorem tail_val {v0 : Val} {i cell : Int} {S : Store} : ∃ v : Int, tail_f [some v0, some (.int i), some (.int cell), none, none, none, none] S = .ret (.val (.int v)) S := by
  unfold tail_f
  rw [sSeq_nx (e := [some v0, some (.int i), some (.int cell), some (.int 2305843009213693951), none, none, none]) (S1 := S) (sAsg_val (i := 3) (m := mC (.int 2305843009213693951)) (d := .int 2305843009213693951) rfl)]
  have e1 : mBin fMod (mUn fIntC (mBin fAdd (mBin fAdd (mBin fMul (mLoc 2) (mC (.int 48271))) (mBin fMul (mC (.int 40692)) (mLoc 1))) (mC (.int 31)))) (mLoc 3) [some v0, some (.int i), some (.int cell), some (.int 2305843009213693951), none, none, none] S = .ok (.val (.int ((cell * 48271 + 40692 * i + 31) % 2305843009213693951))) S :=
    mMod_val (mInt_val (mAdd_val (mAdd_val (mMul_right (m := mLoc 2) (n := mC (.int 48271)) (S1 := S) rfl rfl (by decide)) (mMul_left (m := mC (.int 40692)) (n := mLoc 1) (S1 := S) rfl rfl (by decide))) (n := mC (.int 31)) rfl)) (n := mLoc 3) rfl (by decide)
  obtain ⟨h0, h1⟩ := emod_small (i := cell * 48271 + 40692 * i + 31) rfl
  generalize (cell * 48271 + 40692 * i + 31) % 2305843009213693951 = st at e1 h0 h1
  rw [sSeq_nx (e := [some v0, some (.int i), some (.int cell), some (.int 2305843009213693951), some (.int st), none, none]) (S1 := S) (sAsg_val e1)]
  rw [sSeq_nx (e := [some v0, some (.int i), some (.int cell), some (.int 2305843009213693951), some (.int st), some (.int st), none]) (S1 := S) (sAsg_val (i := 5) (m := mLoc 4) (d := .int st) rfl)]
  have hen : mRng1 (mC (.int 6)) [some v0, some (.int i), some (.int cell), some (.int 2305843009213693951), some (.int st), some (.int st), none] S = .ok (rangeL 0 6) none S := rfl
  have hl := loopF_ind (t := .nm 6) (body := body_f) (live := none) (fun ds env S' => S' = S ∧ (∀ d ∈ ds, ∃ k : Int, d = .int k ∧ 0 ≤ k ∧ k < 6) ∧ ∃ (s f : Int) (x : Option Val), env = [some v0, some (.int i), some (.int cell), some (.int 2305843009213693951), some (.int s), some (.int f), x] ∧ 0 ≤ s ∧ s < 2305843009213693951)
    (fun _ => False) (fun _ _ _ _ => liveOk_none) (fun d ds env S' h => ?_) (rangeL 0 6) [some v0, some (.int i), some (.int cell), some (.int 2305843009213693951), some (.int st), some (.int st), none] S ⟨rfl, fun d hd => ?_, st, st, none, rfl, h0, h1⟩
  · rcases hl with ⟨e, S', q, rfl, _, s, f, x, rfl, _, _⟩ | hf
    · rw [sSeq_nx ((sFor_val (t := .nm 6) (s := body_f) hen).trans q)]
      exact ⟨f, sSeq_ret (sRet_val rfl)⟩
    · exact hf.elim
  · obtain ⟨rfl, hd, s, f, x, rfl, s0, s1⟩ := h
    obtain ⟨k, rfl, k0, k1⟩ := hd d List.mem_cons_self
    refine ⟨_, rfl, .inl ?_⟩
    let env1 : Env := [some v0, some (.int i), some (.int cell), some (.int 2305843009213693951), some (.int s), some (.int f), some (.int k)]
    have sm : ∀ z : Int, 0 ≤ z → z < 2305843009213693951 → small64 z = true := fun z a b => by
      unfold small64
      rw [decide_eq_true (by omega), decide_eq_true (by omega)]; rfl
    have e2 : mBin fMod (mUn fIntC (mBin fAdd (mBin fAdd (mBin fMul (mLoc 4) (mLoc 4)) (mBin fMul (mBin fMul (mC (.int 69621)) (mBin fAdd (mLoc 6) (mC (.int 1)))) (mBin fAdd (mLoc 1) (mC (.int 1))))) (mLoc 2))) (mLoc 3) env1 S' = .ok (.val (.int ((s * s + 69621 * (k + 1) * (i + 1) + cell) % 2305843009213693951))) S' :=
      mMod_val (mInt_val (mAdd_val (mAdd_val (mMul_left (m := mLoc 4) (n := mLoc 4) (S1 := S') rfl rfl (sm s s0 s1)) (mMul_left (mMul_left (m := mC (.int 69621)) (S1 := S') rfl (mAdd_val (m := mLoc 6) (n := mC (.int 1)) (S1 := S') rfl rfl) (by decide)) (mAdd_val (m := mLoc 1) (n := mC (.int 1)) (S1 := S') rfl rfl) (sm _ (by omega) (by omega)))) (n := mLoc 2) rfl)) (n := mLoc 3) rfl (by decide)
    obtain ⟨g0, g1⟩ := emod_small (i := s * s + 69621 * (k + 1) * (i + 1) + cell) rfl
    generalize (s * s + 69621 * (k + 1) * (i + 1) + cell) % 2305843009213693951 = s' at e2 g0 g1
    refine ⟨[some v0, some (.int i), some (.int cell), some (.int 2305843009213693951), some (.int s'), some (.int (f * 2305843009213693951 + s')), some (.int k)], S', ?_, rfl, fun d h => hd d (List.mem_cons_of_mem _ h), s', _, _, rfl, g0, g1⟩
    unfold body_f
    rw [sSeq_nx (e := [some v0, some (.int i), some (.int cell), some (.int 2305843009213693951), some (.int s'), some (.int f), some (.int k)]) (S1 := S') (sAsg_val e2)]
    rw [sSeq_nx (e := [some v0, some (.int i), some (.int cell), some (.int 2305843009213693951), some (.int s'), some (.int (f * 2305843009213693951 + s')), some (.int k)]) (S1 := S') (sAsg_val (mAdd_val (mMul_right (m := mLoc 5) (n := mLoc 3) (S1 := S') rfl rfl (by decide)) (n := mLoc 4) rfl))]
    rfl
  · unfold rangeL at hd
    obtain ⟨n, hn, rfl⟩ := List.mem_map.mp hd
    have := List.mem_range.mp hn
    exact ⟨_, rfl, by omega, by omega⟩
theorem fresh_val {S : Store} {l c : Nat} {cells : List Int} {i d : Int} (h : Pen S l c cells i d) : ∃ v : Int, r__law_fresh [.ref l] S = .ok (.val (.int v)) (S.set l (penO c (i + 1) d)) := by
  show ∃ v : Int, (m__law_fresh [some (.ref l), none, none, none, none, none, none] S).out = _
  rw [m_fresh_eq]
  have e1 : mBin fIx (mLoc 0) (mC (.int 1)) [some (.ref l), none, none, none, none, none, none] S = .ok (.val (.int i)) S := mIx_ref (S1 := S) (i := 1) rfl rfl h.pen rfl
  rw [sSeq_nx (e := [some (.ref l), some (.int i), none, none, none, none, none]) (S1 := S) (sAsg_val e1)]
  have h' := h.put (i + 1) d
  rw [sSeq_nx (e := [some (.ref l), some (.int i), none, none, none, none, none]) (S1 := S.set l (penO c (i + 1) d)) (sSub_val (j := 1) (i := 1) (v := .int (i + 1)) (S1 := S) (S2 := S) (mAdd_val (m := mLoc 1) (n := mC (.int 1)) (S1 := S) rfl rfl) rfl rfl h.pen rfl)]
  generalize S.set l (penO c (i + 1) d) = S' at h'
  rw [sSeq_nx (e := [some (.ref l), some (.int i), some (.int 0), none, none, none, none]) (S1 := S') (sAsg_val (i := 2) (m := mC (.int 0)) (d := .int 0) rfl)]
  have p0 : ∀ x : Val, mBin fIx (mLoc 0) (mC (.int 0)) [some (.ref l), some (.int i), some x, none, none, none, none] S' = .ok (.val (.ref c)) S' := fun x => mIx_ref (S1 := S') (i := 0) rfl rfl h'.pen rfl
  have t1 : mBin fNe (mBin fIx (mLoc 0) (mC (.int 0))) (mLst aNil) [some (.ref l), some (.int i), some (.int 0), none, none, none, none] S' = .ok (.val (.bl (!cells.isEmpty))) S' := by
    rw [mBin_val (p0 _) (mLst_val (vs := []) aNil_val (by simp)), fNe_ints h'.cel]; rfl
  obtain ⟨cell, hcell⟩ : ∃ cell : Int, sIf (mBin fNe (mBin fIx (mLoc 0) (mC (.int 0))) (mLst aNil))
    (sSeq (sAsg (.nm 2) (mBin fIx (mBin fIx (mLoc 0) (mC (.int 0))) (mBin fMod (mUn fIntC (mLoc 1)) (mUn fLen (mBin fIx (mLoc 0) (mC (.int 0)))))))
    sNil)
    sNil [some (.ref l), some (.int i), some (.int 0), none, none, none, none] S' = .nx [some (.ref l), some (.int i), some (.int cell), none, none, none, none] S' := by
    cases hc : cells with
    | nil =>
      rw [hc] at t1
      exact ⟨0, by rw [sIf_val t1]; rfl⟩
    | cons a r =>
      rw [hc] at t1
      have hlen : (0 : Int) < (((a :: r).map Val.int).length : Nat) := by rw [List.length_map, List.length_cons]; omega
      have m0 := Int.emod_nonneg i (show ((((a :: r).map Val.int).length : Nat) : Int) ≠ 0 by omega)
      have m1 := Int.emod_lt_of_pos i hlen
      have hcel := h'.cel
      rw [hc] at hcel
      have mm : mBin fMod (mUn fIntC (mLoc 1)) (mUn fLen (mBin fIx (mLoc 0) (mC (.int 0)))) [some (.ref l), some (.int i), some (.int 0), none, none, none, none] S' = .ok (.val (.int (i % (((a :: r).map Val.int).length : Nat)))) S' :=
        mMod_val (mInt_val (m := mLoc 1) (S1 := S') rfl) (mLen_ref (p0 _) hcel) hlen
      generalize hk : i % ((((a :: r).map Val.int).length : Nat) : Int) = k at mm m0 m1
      have hx : ∃ cell : Int, atI ((a :: r).map Val.int) k = some (.int cell) := by
        have hb : k.toNat < (a :: r).length := by rw [List.length_map] at m1; omega
        refine ⟨(a :: r)[k.toNat], ?_⟩
        unfold atI ixN
        rw [if_pos m0, if_pos m1]
        show ((a :: r).map Val.int)[k.toNat]? = _
        rw [List.getElem?_map, List.getElem?_eq_getElem hb]; rfl
      obtain ⟨cell, hx⟩ := hx
      exact ⟨cell, by rw [sIf_val t1, if_pos (show (!(a :: r).isEmpty) = true from rfl), sSeq_nx (sAsg_val (mIx_ref (p0 _) mm hcel hx))]; rfl⟩
  rw [sSeq_nx hcell]
  have pw : mBin fPow (mC (.int 10)) (mC (.int 18)) [some (.ref l), some (.int i), some (.int cell), none, none, none, none] S' = .ok (.val (.int 1000000000000000000)) S' := by
    rw [mBin_val (o := .val (.int 10)) (S1 := S') (o' := .val (.int 18)) (S2 := S') rfl rfl]; rfl
  have t2 : mAnd (mBin fLt (mLoc 1) (mUn fLen (mBin fIx (mLoc 0) (mC (.int 0))))) (mBin fGe (mLoc 2) (mBin fPow (mC (.int 10)) (mC (.int 18)))) [some (.ref l), some (.int i), some (.int cell), none, none, none, none] S' = .ok (.val (.bl (decide (i < ((cells.map Val.int).length : Nat)) && decide ((1000000000000000000 : Int) ≤ cell)))) S' := by
    refine mAnd_val ?_ fun _ => ?_
    · rw [mBin_val (m := mLoc 1) (o := .val (.int i)) (S1 := S') rfl (mLen_ref (p0 _) h'.cel)]; rfl
    · rw [mBin_val (m := mLoc 2) (o := .val (.int cell)) (S1 := S') rfl pw]; rfl
  cases hb : decide (i < ((cells.map Val.int).length : Nat)) && decide ((1000000000000000000 : Int) ≤ cell) with
  | true =>
    rw [hb] at t2
    refine ⟨cell - 1000000000000000000, ?_⟩
    rw [sSeq_ret (o := .val (.int (cell - 1000000000000000000))) (S1 := S') (by
      rw [sIf_val t2, if_pos rfl]
      refine sSeq_ret (sRet_val ?_)
      rw [mBin_val (m := mLoc 2) (o := .val (.int cell)) (S1 := S') rfl pw]; rfl)]
    rfl
  | false =>
    rw [hb] at t2
    rw [sSeq_nx (e := [some (.ref l), some (.int i), some (.int cell), none, none, none, none]) (S1 := S') (by rw [sIf_val t2]; rfl)]
    obtain ⟨v, hv⟩ := tail_val (v0 := .ref l) (i := i) (cell := cell) (S := S')
    exact ⟨v, by rw [hv]; rfl⟩
end Lk83
end MP

namespace MP
namespace Lk83
open PySem L2 PySem.Spec PyProof.Rows

theorem mDiv_val {m n : MX} {env : Env} {S S1 S2 : Store} {i j : Int} (h : m env S = .ok (.val (.int i)) S1) (h2 : n env S1 = .ok (.val (.int j)) S2) (hs : 0 < j) (hb : j < 1073741824) : mBin fDiv m n env S = .ok (.val (.int (i / j))) S2 := by
  rw [mBin_val h h2]
  show ofO S2 (if decide (0 < j) && decide (j < 1073741824) then vI (i / j) else none) = _
  rw [decide_eq_true hs, decide_eq_true hb]; rfl
theorem draw_val {S : Store} {l c : Nat} {cells : List Int} {i d many : Int} (h : Pen S l c cells i d) (hm : 0 < many) (hb : many < 1073741824) :
    ∃ v i' d' : Int, 0 ≤ v ∧ v < many ∧ r__law_draw [.ref l, .int many] S = .ok (.val (.int v)) (S.set l (penO c i' d')) := by
  show ∃ v i' d' : Int, 0 ≤ v ∧ v < many ∧ (m__law_draw [some (.ref l), some (.int many), none] S).out = _
  have step : ∃ i1 d1 : Int, sIf (mBin fLt (mBin fIx (mLoc 0) (mC (.int 2))) (mLoc 1)) (sSeq (sSub (mCall r__law_fresh (aCons (mLoc 0) aNil)) (mLoc 0) (mC (.int 2))) sNil) sNil [some (.ref l), some (.int many), none] S = .nx [some (.ref l), some (.int many), none] (S.set l (penO c i1 d1)) := by
    have e1 : mBin fIx (mLoc 0) (mC (.int 2)) [some (.ref l), some (.int many), none] S = .ok (.val (.int d)) S := mIx_ref (S1 := S) (i := 2) rfl rfl h.pen rfl
    have t : mBin fLt (mBin fIx (mLoc 0) (mC (.int 2))) (mLoc 1) [some (.ref l), some (.int many), none] S = .ok (.val (.bl (decide (d < many)))) S := by
      rw [mBin_val e1 (n := mLoc 1) (o' := .val (.int many)) (S2 := S) rfl]; rfl
    cases hd : decide (d < many) with
    | true =>
      rw [hd] at t
      obtain ⟨v, hv⟩ := fresh_val h
      have h' := h.put (i + 1) d
      refine ⟨i + 1, v, ?_⟩
      rw [sIf_val t, if_pos rfl, sSeq_nx (sSub_val (v := .int v) (S1 := S.set l (penO c (i + 1) d)) (S2 := S.set l (penO c (i + 1) d)) (S3 := S.set l (penO c (i + 1) d)) (r := l) (i := 2) (j := 2) ((mCall_val (aCons_val (m := mLoc 0) (v := .ref l) (S1 := S) rfl aNil_val)).trans hv) rfl rfl h'.pen rfl)]
      show RS.nx _ ((S.set l (penO c (i + 1) d)).set l (penO c (i + 1) v)) = _
      rw [List.set_set]
    | false =>
      rw [hd] at t
      refine ⟨i, d, ?_⟩
      rw [sIf_val t, if_neg Bool.false_ne_true]
      show RS.nx _ S = _
      have : S.set l (penO c i d) = S := by
        have := h.pen
        obtain ⟨hl, e⟩ := List.getElem?_eq_some_iff.mp this
        apply List.ext_getElem?
        intro j
        by_cases hj : l = j
        · subst hj; rw [List.getElem?_set_self hl, this]; rfl
        · rw [List.getElem?_set_ne hj]
      rw [this]
  obtain ⟨i1, d1, hs⟩ := step
  have h1 := h.put i1 d1
  have e2 : ∀ x : Option Val, mUn fIntC (mBin fIx (mLoc 0) (mC (.int 2))) [some (.ref l), some (.int many), x] (S.set l (penO c i1 d1)) = .ok (.val (.int d1)) (S.set l (penO c i1 d1)) := fun x => mInt_val (mIx_ref (S1 := S.set l (penO c i1 d1)) (i := 2) rfl rfl h1.pen rfl)
  refine ⟨d1 % many, i1, d1 / many, Int.emod_nonneg _ (by omega), Int.emod_lt_of_pos _ hm, ?_⟩
  unfold m__law_draw
  rw [sSeq_nx hs, sSeq_nx (sAsg_val (mMod_val (e2 none) (n := mLoc 1) (j := many) (S2 := S.set l (penO c i1 d1)) rfl hm))]
  show RS.out (sSeq _ _ [some (.ref l), some (.int many), some (.int (d1 % many))] _) = _
  rw [sSeq_nx (sSub_val (v := .int (d1 / many)) (S1 := S.set l (penO c i1 d1)) (S2 := S.set l (penO c i1 d1)) (S3 := S.set l (penO c i1 d1)) (r := l) (i := 2) (j := 2) (mDiv_val (e2 _) (n := mLoc 1) (j := many) (S2 := S.set l (penO c i1 d1)) rfl hm hb) rfl rfl h1.pen rfl)]
  show RS.out (sSeq (sRet (mLoc 2)) sNil [some (.ref l), some (.int many), some (.int (d1 % many))] ((S.set l (penO c i1 d1)).set l (penO c i1 (d1 / many)))) = _
  rw [List.set_set]
  rfl
/-- drawn within an expression -/
theorem mDraw {env : Env} {S S1 : Store} {a : Nat} {n : MX} {l c : Nat} {cells : List Int} {i d many : Int} (ha : env[a]? = some (some (.ref l))) (hn : n env S = .ok (.val (.int many)) S) (h : Pen S l c cells i d) (hm : 0 < many) (hb : many < 1073741824) :
    ∃ v i' d' : Int, 0 ≤ v ∧ v < many ∧ mCall r__law_draw (aCons (mLoc a) (aCons n aNil)) env S = .ok (.val (.int v)) (S.set l (penO c i' d')) := by
  obtain ⟨v, i', d', h1, h2, h3⟩ := draw_val h hm hb
  exact ⟨v, i', d', h1, h2, (mCall_val (aCons_val (mLoc_val ha) (aCons_val hn aNil_val))).trans h3⟩
theorem num7 : ∀ (x : Int) (k : Nat), k < 7 → 0 ≤ x → x ≤ 64 → ∃ v : Int, ([Val.int 0, .int 1, .int 9, .int 10, .int 63, .int 64, .int x])[k]? = some (.int v) ∧ 0 ≤ v ∧ v ≤ 64
  | x, 0, _, _, _ => ⟨0, rfl, by decide, by decide⟩
  | x, 1, _, _, _ => ⟨1, rfl, by decide, by decide⟩
  | x, 2, _, _, _ => ⟨9, rfl, by decide, by decide⟩
  | x, 3, _, _, _ => ⟨10, rfl, by decide, by decide⟩
  | x, 4, _, _, _ => ⟨63, rfl, by decide, by decide⟩
  | x, 5, _, _, _ => ⟨64, rfl, by decide, by decide⟩
  | x, 6, _, h0, h1 => ⟨x, rfl, h0, h1⟩
  | _, k + 7, h, _, _ => absurd h (by omega)
theorem number_law {S : Store} {l c : Nat} {cells : List Int} {i d : Int} (h : Pen S l c cells i d) : ∃ v i' d' : Int, 0 ≤ v ∧ v ≤ 64 ∧ r__law_number [.ref l] S = .ok (.val (.int v)) (S.set l (penO c i' d')) := by
  show ∃ v i' d' : Int, 0 ≤ v ∧ v ≤ 64 ∧ (m__law_number [some (.ref l)] S).out = _
  obtain ⟨x, i1, d1, x0, x1, e1⟩ := mDraw (env := [some (.ref l)]) (a := 0) (n := mC (.int 65)) (many := 65) rfl rfl h (by decide) (by decide) (S1 := S)
  have h1 := h.put i1 d1
  obtain ⟨y, i2, d2, y0, y1, e2⟩ := mDraw (env := [some (.ref l)]) (a := 0) (n := mC (.int 7)) (many := 7) rfl rfl h1 (by decide) (by decide) (S1 := S)
  rw [List.set_set] at e2
  obtain ⟨v, hv, v0, v1⟩ := num7 x y.toNat (by omega) x0 (by omega)
  refine ⟨v, i2, d2, v0, v1, ?_⟩
  unfold m__law_number
  have el := mLst_val (vs := [Val.int 0, .int 1, .int 9, .int 10, .int 63, .int 64, .int x]) (S1 := S.set l (penO c i1 d1)) (env := [some (.ref l)]) (S := S)
    (aCons_val (m := mC (.int 0)) (S1 := S) rfl (aCons_val (m := mC (.int 1)) (S1 := S) rfl (aCons_val (m := mC (.int 9)) (S1 := S) rfl (aCons_val (m := mC (.int 10)) (S1 := S) rfl (aCons_val (m := mC (.int 63)) (S1 := S) rfl (aCons_val (m := mC (.int 64)) (S1 := S) rfl (aCons_val e1 aNil_val))))))) (by simp)
  rw [sSeq_ret (sRet_val (o := .val (.int v)) (S1 := S.set l (penO c i2 d2)) (by
    rw [mBin_val el e2]
    show ofO _ ((atI [Val.int 0, .int 1, .int 9, .int 10, .int 63, .int 64, .int x] y).map Opd.val) = _
    have : atI [Val.int 0, .int 1, .int 9, .int 10, .int 63, .int 64, .int x] y = some (.int v) := by
      unfold atI ixN
      rw [if_pos y0, if_pos (by show y < ((7 : Nat) : Int); omega)]
      exact hv
    rw [this]; rfl))]
  rfl
end Lk83
end MP

namespace MP
namespace Lk83
open PySem L2 PySem.Spec PyProof.Rows

theorem parse_join {kept : Int} {ls : List Str} {last : Str} (h : ∀ l ∈ ls ++ [last], 10 ∉ TL.tl l) : parseP (Txt.join "\n" (ls ++ [last])) kept = (match parseLines kept 0 ls with
    | .error i => .error i
    | .ok cs => if last = "" then .ok cs else .error ls.length) := by
  have hs : Txt.split (Txt.join "\n" (ls ++ [last])) "\n" = ls ++ [last] := TL.split_join (s := 10) (S := []) (by decide) (by decide +kernel) (by simp) h
  unfold parseP
  rw [hs, List.dropLast_concat, List.getLast?_concat]
  cases parseLines kept 0 ls with
  | error i => rfl
  | ok cs =>
    dsimp only
    by_cases h : last = ""
    · rw [if_pos h, if_pos (by rw [h])]
    · rw [if_neg h, if_neg (fun e => h (Option.some.inj e))]
theorem parseLines_over {kept : Int} {more : List Str} : ∀ {cs : List (Int × List Int)} {i : Nat}, (∀ c ∈ cs, cellsOk kept c) → i ≤ 8 → 9 ≤ i + cs.length → parseLines kept i (cs.map lineS ++ more) = .error 8
  | [], i, _, h1, h2 => absurd h2 (by simp; omega)
  | c :: cs, i, h, h1, h2 => by
    rw [List.length_cons] at h2
    rw [List.map_cons, List.cons_append]
    unfold parseLines
    rw [lineP_of (h c List.mem_cons_self)]
    dsimp only
    by_cases h8 : i = 8
    · rw [if_pos h8, h8]
    · rw [if_neg h8, parseLines_over (fun d hd => h d (List.mem_cons_of_mem _ hd)) (by omega) (by omega)]
theorem no10 {kept : Int} {cs : List (Int × List Int)} (h : ∀ c ∈ cs, cellsOk kept c) {more : List Str} (hm : ∀ l ∈ more, 10 ∉ TL.tl l) : ∀ l ∈ cs.map lineS ++ more, 10 ∉ TL.tl l := by
  intro l hl e
  rcases List.mem_append.mp hl with hl | hl
  · obtain ⟨c, hc, rfl⟩ := List.mem_map.mp hl
    exact (line_signs (h c hc) 10 e).2 rfl
  · exact hm l hl e
/-- nine lines are too many, whatever follows -/
theorem parse_over {kept : Int} {cs : List (Int × List Int)} (h : ∀ c ∈ cs, cellsOk kept c) (h9 : 9 ≤ cs.length) {more : List Str} {last : Str} (hm : ∀ l ∈ more ++ [last], 10 ∉ TL.tl l) : parseP (Txt.join "\n" ((cs.map lineS ++ more) ++ [last])) kept = .error 8 := by
  rw [parse_join (by rw [List.append_assoc]; exact no10 h hm), parseLines_over h (by omega) (by omega)]
/-- the first line does not fit -/
theorem parse_bad {kept : Int} {w0 : Str} {rest : List Str} (hw : ∀ w ∈ w0 :: rest, 32 ∉ TL.tl w) (hn : 10 ∉ TL.tl (Txt.join " " (w0 :: rest))) (hb : badL kept 0 w0 rest = true) : parseP (Txt.join "\n" ([Txt.join " " (w0 :: rest)] ++ [("" : Str)])) kept = .error 0 := by
  have hs : Txt.split (Txt.join " " (w0 :: rest)) " " = w0 :: rest := TL.split_join (s := 32) (S := []) (by decide) (by decide +kernel) (by simp) hw
  have hl : lineP kept (Txt.join " " (w0 :: rest)) = none := (badL_true hs hb).resolve_right (by decide)
  rw [parse_join (by
    intro l hl e
    simp only [List.cons_append, List.nil_append, List.mem_cons, List.not_mem_nil, or_false] at hl
    rcases hl with rfl | rfl
    · exact hn e
    · rw [tl_empty] at e; cases e)]
  unfold parseLines
  rw [hl]
theorem badW_long {w : Str} (h : 2 < w.length) : badW w = true := by
  unfold badW
  rw [decide_eq_true h]; simp
theorem cells_const (kept : Int) (n : Nat) (c : Int × List Int) (h : cellsOk kept c) : ∀ d ∈ List.replicate n c, cellsOk kept d := fun d hd => by
  rw [(List.mem_replicate.mp hd).2]; exact h
theorem cells0 : cellsOk 0 (0, []) := ⟨rfl, by decide, (fun _ h => nomatch h), rfl⟩
theorem fx1 : parseP "" 0 = .ok [] := by
  have h := parse_fmt (kept := 0) (cs := []) (fun _ h => nomatch h) (by decide)
  rwa [show fmt [] = "" by decide +kernel] at h
theorem fx2 : parseP (Txt.mul "0 picks\n" 8) 0 = .ok (List.replicate 8 (0, [])) := by
  have h := parse_fmt (kept := 0) (cs := List.replicate 8 (0, [])) (cells_const 0 8 _ cells0) (by decide)
  rwa [show fmt (List.replicate 8 (0, [])) = Txt.mul "0 picks\n" 8 by decide +kernel] at h
theorem fx3 : parseP (Txt.mul "0 picks\n" 9) 0 = .error 8 := by
  have h := parse_over (kept := 0) (cs := List.replicate 9 (0, [])) (cells_const 0 9 _ cells0) (by decide) (more := []) (last := "") (by decide +kernel)
  rwa [show Txt.join "\n" ((List.map lineS (List.replicate 9 (0, [])) ++ []) ++ [("" : Str)]) = Txt.mul "0 picks\n" 9 by decide +kernel] at h
theorem fx10 : parseP (Txt.mul "0 picks\n" 10) 0 = .error 8 := by
  have h := parse_over (kept := 0) (cs := List.replicate 10 (0, [])) (cells_const 0 10 _ cells0) (by decide) (more := []) (last := "") (by decide +kernel)
  rwa [show Txt.join "\n" ((List.map lineS (List.replicate 10 (0, [])) ++ []) ++ [("" : Str)]) = Txt.mul "0 picks\n" 10 by decide +kernel] at h
theorem fx11 : parseP (Txt.mul "0 picks\n" 9 ++ "x\n") 0 = .error 8 := by
  have h := parse_over (kept := 0) (cs := List.replicate 9 (0, [])) (cells_const 0 9 _ cells0) (by decide) (more := ["x"]) (last := "") (by decide +kernel)
  rwa [show Txt.join "\n" ((List.map lineS (List.replicate 9 (0, [])) ++ [("x" : Str)]) ++ [("" : Str)]) = Txt.mul "0 picks\n" 9 ++ "x\n" by decide +kernel] at h
theorem fx12 : parseP (Txt.mul "0 picks\n" 9 ++ "0") 0 = .error 8 := by
  have h := parse_over (kept := 0) (cs := List.replicate 9 (0, [])) (cells_const 0 9 _ cells0) (by decide) (more := []) (last := "0") (by decide +kernel)
  rwa [show Txt.join "\n" ((List.map lineS (List.replicate 9 (0, [])) ++ []) ++ [("0" : Str)]) = Txt.mul "0 picks\n" 9 ++ "0" by decide +kernel] at h
end Lk83
end MP

namespace MP
namespace Lk83
open PySem L2 PySem.Spec PyProof.Rows

theorem txtOk_of {z : Str} (h : ∀ c ∈ TL.tl z, c < 1000) (hl : z.length ≤ 100000) : txtOk z = true := by
  unfold txtOk
  refine Bool.and_eq_true_iff.mpr ⟨?_, decide_eq_true hl⟩
  unfold PyData.strOk
  rw [Array.all_eq_true']
  intro c hc
  have := h c (Array.mem_toList_iff.mpr hc)
  exact decide_eq_true (by omega)
theorem fx4 : parseP "65 picks\n" 0 = .error 0 := by
  have h := parse_bad (kept := 0) (w0 := "65") (rest := ["picks"]) (by decide +kernel) (by decide +kernel) (by decide +kernel)
  rwa [show Txt.join "\n" ([Txt.join " " ["65", "picks"]] ++ [("" : Str)]) = "65 picks\n" by decide +kernel] at h
theorem fx5 : parseP "0 picks 65\n" 1 = .error 0 := by
  have h := parse_bad (kept := 1) (w0 := "0") (rest := ["picks", "65"]) (by decide +kernel) (by decide +kernel) (by decide +kernel)
  rwa [show Txt.join "\n" ([Txt.join " " ["0", "picks", "65"]] ++ [("" : Str)]) = "0 picks 65\n" by decide +kernel] at h
theorem fx9 : parseP "0 picks 00\n" 1 = .error 0 := by
  have h := parse_bad (kept := 1) (w0 := "0") (rest := ["picks", "00"]) (by decide +kernel) (by decide +kernel) (by decide +kernel)
  rwa [show Txt.join "\n" ([Txt.join " " ["0", "picks", "00"]] ++ [("" : Str)]) = "0 picks 00\n" by decide +kernel] at h
theorem fx13 : parseP "3 5 picks\n" 1 = .error 0 := by
  have h := parse_bad (kept := 1) (w0 := "3") (rest := ["5", "picks"]) (by decide +kernel) (by decide +kernel) (by decide +kernel)
  rwa [show Txt.join "\n" ([Txt.join " " ["3", "5", "picks"]] ++ [("" : Str)]) = "3 5 picks\n" by decide +kernel] at h
theorem fx14 : parseP "picks 3 5\n" 1 = .error 0 := by
  have h := parse_bad (kept := 1) (w0 := "picks") (rest := ["3", "5"]) (by decide +kernel) (by decide +kernel) (by decide +kernel)
  rwa [show Txt.join "\n" ([Txt.join " " ["picks", "3", "5"]] ++ [("" : Str)]) = "picks 3 5\n" by decide +kernel] at h
theorem fx17 : parseP "0 picks \n" 0 = .error 0 := by
  have h := parse_bad (kept := 0) (w0 := "0") (rest := ["picks", ""]) (by decide +kernel) (by decide +kernel) (by decide +kernel)
  rwa [show Txt.join "\n" ([Txt.join " " ["0", "picks", ""]] ++ [("" : Str)]) = "0 picks \n" by decide +kernel] at h
theorem fx6 : parseP "0 picks" 0 = .error 0 := by
  have h := parse_join (kept := 0) (ls := []) (last := "0 picks") (by decide +kernel)
  rw [show Txt.join "\n" ([] ++ [("0 picks" : Str)]) = "0 picks" by decide +kernel] at h
  rw [h]
  show (if ("0 picks" : Str) = "" then _ else _) = _
  rw [if_neg (by decide)]; rfl
theorem fx7 : parseP "0 picks\n0" 0 = .error 1 := by
  have h := parse_join (kept := 0) (ls := [(0, [])].map lineS) (last := "0") (by decide +kernel)
  rw [show Txt.join "\n" ([((0 : Int), ([] : List Int))].map lineS ++ [("0" : Str)]) = "0 picks\n0" by decide +kernel, parseLines_of (cs := [(0, [])]) (cells_const 0 1 _ cells0) (by decide)] at h
  rw [h]
  show (if ("0" : Str) = "" then _ else _) = _
  rw [if_neg (by decide)]; rfl
theorem fx8 : parseP "0 picks 0\n1 picks\n" 1 = .error 1 := by
  have h := parse_join (kept := 1) (ls := ["0 picks 0", "1 picks"]) (last := "") (by decide +kernel)
  rw [show Txt.join "\n" ([("0 picks 0" : Str), "1 picks"] ++ [("" : Str)]) = "0 picks 0\n1 picks\n" by decide +kernel] at h
  have l1 : lineP 1 "0 picks 0" = some (0, [0]) := by
    have := lineP_of (kept := 1) (c := (0, [0])) ⟨rfl, by decide, fun p hp => by rw [List.mem_singleton.mp hp]; exact ⟨rfl, by decide⟩, rfl⟩
    rwa [show lineS (0, [0]) = "0 picks 0" by decide +kernel] at this
  have l2 : lineP 1 "1 picks" = none := by
    have hs : Txt.split (Txt.join " " [("1" : Str), "picks"]) " " = [("1" : Str), "picks"] := TL.split_join (s := 32) (S := []) (by decide) (by decide +kernel) (by simp) (by decide +kernel)
    rw [show Txt.join " " ["1", "picks"] = "1 picks" by decide +kernel] at hs
    exact (badL_true (i := 0) hs (by decide +kernel)).resolve_right (by decide)
  rw [h]
  have : parseLines 1 0 ["0 picks 0", "1 picks"] = .error 1 := by
    unfold parseLines
    rw [l1]
    dsimp only
    rw [if_neg (by decide)]
    unfold parseLines
    rw [l2]
  rw [this]
theorem one_eq' : ("1" : Str) = ⟨#[49]⟩ := by decide
theorem zero_eq' : ("0" : Str) = ⟨#[48]⟩ := by decide
theorem tl_ones : TL.tl (Txt.mul "1" 4400) = List.replicate 4400 49 := by
  rw [one_eq']
  exact mul_one_list 49 4400
theorem tl_zeros : TL.tl (Txt.mul "0" 4400) = List.replicate 4400 48 := by
  rw [zero_eq']
  exact mul_one_list 48 4400
theorem long_of {z : Str} {c : Nat} (h : TL.tl z = List.replicate 4400 c) : z.length = 4400 := by rw [TL.len_tl, h, List.length_replicate]
theorem bad_long0 {w : Str} (h10 : 10 ∉ TL.tl w) (h32 : 32 ∉ TL.tl w) (hl : 2 < w.length) : parseP (w ++ " picks\n") 0 = .error 0 := by
  have h := parse_bad (kept := 0) (w0 := w) (rest := ["picks"]) (fun v hw => by
    rcases List.mem_cons.mp hw with rfl | hw
    · exact h32
    · rw [List.mem_singleton.mp hw]; decide) (by
    rw [TL.join_eq, TL.tl_join]
    show 10 ∉ TL.tl w ++ (TL.tl " " ++ TL.tl "picks")
    intro e
    rcases List.mem_append.mp e with e | e
    · exact h10 e
    · revert e; decide) (by unfold badL; rw [numIn_bad (badW_long hl)]; rfl)
  have e : Txt.join "\n" ([Txt.join " " (w :: ["picks"])] ++ [("" : Str)]) = w ++ " picks\n" := by
    rw [TL.join_eq, TL.join_eq]
    refine TL.ext_tl ?_
    rw [TL.tl_join, TL.tl_append]
    show TL.tl (Str.join " " (w :: ["picks"])) ++ (TL.tl "\n" ++ TL.tl "") = _
    rw [TL.tl_join]
    show (TL.tl w ++ (TL.tl " " ++ TL.tl "picks")) ++ (TL.tl "\n" ++ TL.tl "") = _
    rw [List.append_assoc, show (TL.tl " " ++ TL.tl "picks") ++ (TL.tl "\n" ++ TL.tl "") = TL.tl " picks\n" by decide]
  rw [e] at h
  exact h
theorem bad_long1 {w : Str} (h10 : 10 ∉ TL.tl w) (h32 : 32 ∉ TL.tl w) (hl : 2 < w.length) : parseP ("0 picks " ++ w ++ "\n") 1 = .error 0 := by
  have h := parse_bad (kept := 1) (w0 := "0") (rest := ["picks", w]) (fun v hw => by
    simp only [List.mem_cons, List.not_mem_nil, or_false] at hw
    rcases hw with rfl | rfl | rfl
    · decide
    · decide
    · exact h32) (by
    rw [TL.join_eq, TL.tl_join]
    show 10 ∉ TL.tl "0" ++ (TL.tl " " ++ (TL.tl "picks" ++ (TL.tl " " ++ TL.tl w)))
    rw [← List.append_assoc, ← List.append_assoc, ← List.append_assoc]
    intro e
    rcases List.mem_append.mp e with e | e
    · revert e; decide
    · exact h10 e) (by
    unfold badL
    have : (([("picks" : Str), w].drop 1).map fun w => numIn w 64).any (·.isNone) = true := by
      show ([numIn w 64].any (·.isNone)) = true
      rw [numIn_bad (badW_long hl)]; rfl
    rw [this]
    simp)
  have e : Txt.join "\n" ([Txt.join " " ("0" :: ["picks", w])] ++ [("" : Str)]) = "0 picks " ++ w ++ "\n" := by
    rw [TL.join_eq, TL.join_eq]
    refine TL.ext_tl ?_
    rw [TL.tl_join, TL.tl_append, TL.tl_append]
    show TL.tl (Str.join " " ("0" :: ["picks", w])) ++ (TL.tl "\n" ++ TL.tl "") = _
    rw [TL.tl_join]
    show (TL.tl "0" ++ (TL.tl " " ++ (TL.tl "picks" ++ (TL.tl " " ++ TL.tl w)))) ++ (TL.tl "\n" ++ TL.tl "") = _
    rw [← List.append_assoc, ← List.append_assoc, ← List.append_assoc, ← List.append_assoc, show TL.tl "0" ++ TL.tl " " ++ TL.tl "picks" ++ TL.tl " " = TL.tl "0 picks " by decide, tl_empty, List.append_nil]
  rw [e] at h
  exact h
theorem rep_no {z : Str} {c d : Nat} (h : TL.tl z = List.replicate 4400 c) (hd : d ≠ c) : d ∉ TL.tl z := by
  rw [h]
  exact fun e => hd (List.mem_replicate.mp e).2
theorem fx15 : parseP (Txt.mul "1" 4400 ++ " picks\n") 0 = .error 0 := bad_long0 (rep_no tl_ones (by decide)) (rep_no tl_ones (by decide)) (by rw [long_of tl_ones]; decide)
theorem fx16 : parseP ("0 picks " ++ Txt.mul "0" 4400 ++ "\n") 1 = .error 0 := bad_long1 (rep_no tl_zeros (by decide)) (rep_no tl_zeros (by decide)) (by rw [long_of tl_zeros]; decide)
/-- the lines of the second loop -/
def lineK (k : Nat) : Str := "64 picks" ++ Txt.mul " 64" (k : Int) ++ "\n"
def cutK (k : Nat) : Int × List Int := (64, List.replicate k 64)
theorem cellsK (k : Nat) : cellsOk (k : Int) (cutK k) := ⟨rfl, by show (64 : Int) ≤ 64; decide, fun p hp => by rw [(List.mem_replicate.mp hp).2]; exact ⟨rfl, by decide⟩, by show (((List.replicate k (64 : Int)).length : Nat) : Int) = k; rw [List.length_replicate]⟩
theorem text8 : (List.range 5).all (fun k => decide (fmt (List.replicate 8 (cutK k)) = Txt.mul (lineK k) 8) && decide (Txt.join "\n" ((List.map lineS (List.replicate 9 (cutK k)) ++ []) ++ [("" : Str)]) = Txt.mul (lineK k) 9) && txtOk (Txt.mul (lineK k) 8) && txtOk (Txt.mul (lineK k) 9)) = true := by decide +kernel
theorem loop8 {k : Nat} (hk : k < 5) : parseP (Txt.mul (lineK k) 8) (k : Int) = .ok (List.replicate 8 (cutK k)) ∧ parseP (Txt.mul (lineK k) 9) (k : Int) = .error 8 ∧ txtOk (Txt.mul (lineK k) 8) = true ∧ txtOk (Txt.mul (lineK k) 9) = true := by
  have h := List.all_eq_true.mp text8 k (List.mem_range.mpr hk)
  simp only [Bool.and_eq_true, decide_eq_true_eq] at h
  obtain ⟨⟨⟨h1, h2⟩, h3⟩, h4⟩ := h
  refine ⟨?_, ?_, h3, h4⟩
  · have := parse_fmt (kept := (k : Int)) (cs := List.replicate 8 (cutK k)) (cells_const _ 8 _ (cellsK k)) (by simp)
    rwa [h1] at this
  · have := parse_over (kept := (k : Int)) (cs := List.replicate 9 (cutK k)) (cells_const _ 9 _ (cellsK k)) (by simp) (more := []) (last := "") (by decide +kernel)
    rwa [h2] at this
end Lk83
end MP

namespace MP
namespace Lk83
open PySem L2 PySem.Spec PyProof.Rows

/-! ### repr -/
def cutD (c : Int × List Int) : PyData := .tuple [.int c.1, .tuple (c.2.map .int)]
theorem pd_cut (c : Int × List Int) : pd (cutV c) = some (cutD c) := by
  show (pds [.int c.1, .tup (c.2.map .int)]).map PyData.tuple = _
  have : pd (.tup (c.2.map .int)) = some (.tuple (c.2.map .int)) := by
    show (pds (c.2.map .int)).map PyData.tuple = _
    rw [pds_ints]; rfl
  unfold pds
  rw [show pd (.int c.1) = some (.int c.1) from rfl]
  unfold pds
  rw [this]
  rfl
theorem pds_cuts : ∀ cs : List (Int × List Int), pds (cs.map cutV) = some (cs.map cutD)
  | [] => rfl
  | c :: cs => by
    rw [List.map_cons]
    unfold pds
    rw [pd_cut, pds_cuts cs]; rfl
theorem pd_cuts (cs : List (Int × List Int)) : pd (cutsV cs) = some (.tuple (cs.map cutD)) := by
  show (pds (cs.map cutV)).map PyData.tuple = _
  rw [pds_cuts]; rfl
theorem show_ints : ∀ ps : List Int, ps.all small = true → PyData.showableAll (ps.map .int) = true
  | [], _ => by simp [PyData.showableAll]
  | p :: ps, h => by
    rw [List.all_cons, Bool.and_eq_true] at h
    rw [List.map_cons]
    unfold PyData.showableAll
    rw [show_ints ps h.2]
    have := (small_facts h.1).2.1
    simp [PyData.showable]
    omega
theorem show_cuts : ∀ cs : List (Int × List Int), cs.all cutOk = true → PyData.showableAll (cs.map cutD) = true
  | [], _ => by simp [PyData.showableAll]
  | c :: cs, h => by
    rw [List.all_cons, Bool.and_eq_true] at h
    obtain ⟨h1, h2, h3⟩ := cut_ok h.1
    rw [List.map_cons]
    unfold PyData.showableAll
    rw [show_cuts cs h.2, Bool.and_true]
    unfold cutD
    have := (small_facts h1).2.1
    have hs := show_ints c.2 h2
    simp [PyData.showable, PyData.showableAll, hs]
    omega
theorem nod_ints : ∀ ps : List Int, PyData.hasDictAll (ps.map .int) = false
  | [] => by simp [PyData.hasDictAll]
  | p :: ps => by
    rw [List.map_cons]
    unfold PyData.hasDictAll
    rw [nod_ints ps]
    simp [PyData.hasDict]
theorem nod_cuts : ∀ cs : List (Int × List Int), PyData.hasDictAll (cs.map cutD) = false
  | [] => by simp [PyData.hasDictAll]
  | c :: cs => by
    rw [List.map_cons]
    unfold PyData.hasDictAll
    rw [nod_cuts cs]
    unfold cutD
    simp [PyData.hasDict, PyData.hasDictAll, nod_ints]
theorem dep_cuts : ∀ cs : List (Int × List Int), PyData.depthAll (cs.map cutD) ≤ 2
  | [] => by simp [PyData.depthAll]
  | c :: cs => by
    rw [List.map_cons]
    unfold PyData.depthAll
    have := dep_cuts cs
    have e : (cutD c).depth = 2 := by
      unfold cutD
      simp [PyData.depth, PyData.depthAll, depth_ints]
    rw [e]
    omega
/-- texts of few signs below 128 -/
def shortT (B : Nat) (z : Str) : Prop := z.length ≤ B ∧ ∀ c ∈ TL.tl z, c < 128
theorem join_short {sep : Str} {B : Nat} {l : List Str} (hs : shortT 2 sep) (h : ∀ x ∈ l, shortT B x) : shortT (l.length * B + l.length * 2) (Str.join sep l) := by
  refine ⟨?_, ?_⟩
  · have := join_len (sep := sep) (fun x hx => (h x hx).1)
    rw [TL.join_eq] at this
    have := hs.1
    have := Nat.mul_le_mul_left l.length this
    omega
  · rw [TL.tl_join]
    have key : ∀ (ms : List (List Nat)), (∀ m ∈ ms, ∀ s ∈ m, s < 128) → ∀ s ∈ TL.joinL (TL.tl sep) ms, s < 128 := by
      intro ms
      induction ms with
      | nil => intro _ s hs; cases hs
      | cons m r ih =>
        intro hm s hs'
        cases r with
        | nil => exact hm m List.mem_cons_self s hs'
        | cons n r =>
          replace hs' : s ∈ m ++ (TL.tl sep ++ TL.joinL (TL.tl sep) (n :: r)) := hs'
          rcases List.mem_append.mp hs' with hs' | hs'
          · exact hm m List.mem_cons_self s hs'
          · rcases List.mem_append.mp hs' with hs' | hs'
            · exact hs.2 s hs'
            · exact ih (fun q hq => hm q (List.mem_cons_of_mem _ hq)) s hs'
    refine key _ fun m hm => ?_
    obtain ⟨x, hx, rfl⟩ := List.mem_map.mp hm
    exact (h x hx).2
theorem tuple_short {B : Nat} {l : List Str} (h : ∀ x ∈ l, shortT B x) : shortT (l.length * B + l.length * 2 + 3) (tupleText l) := by
  have hj := join_short (sep := ", ") ⟨by decide, by decide⟩ h
  have he : shortT 2 ((if l.length == 1 then ",)" else ")" : String) : Str) := by
    split
    · exact ⟨by decide, by decide⟩
    · exact ⟨by decide, by decide⟩
  unfold tupleText
  refine ⟨?_, fun c hc => ?_⟩
  · rw [Str.length_append, Str.length_append]
    have e1 : ((("(" : String) : Str)).length = 1 := rfl
    have := hj.1
    have := he.1
    omega
  · rw [TL.tl_append, TL.tl_append] at hc
    rcases List.mem_append.mp hc with hc | hc
    · rcases List.mem_append.mp hc with hc | hc
      · have e0 : ∀ c ∈ TL.tl ("(" : Str), c < 128 := by decide
        exact e0 c hc
      · exact hj.2 c hc
    · exact he.2 c hc
theorem shownAll_map (ds : List PyData) : PyData.shownAll ds = ds.map PyData.shown := by
  induction ds with
  | nil => simp [PyData.shownAll]
  | cons d ds ih => unfold PyData.shownAll; rw [ih]; rfl
theorem shown_tuple (ds : List PyData) : PyData.shown (.tuple ds) = tupleText (ds.map PyData.shown) := by
  rw [PyData.shown, shownAll_map]
theorem shown_int {i : Int} (h : small i = true) : shortT 2 (PyData.shown (.int i)) := by
  obtain ⟨a, b, c⟩ := small_facts h
  have : PyData.shown (.int i) = numI i := by simp [PyData.shown, numI]
  rw [this]
  exact ⟨a, fun x hx => (c x hx).1⟩
theorem shown_cut {c : Int × List Int} (h : cutOk c = true) : shortT 1000 (PyData.shown (cutD c)) := by
  obtain ⟨h1, h2, h3⟩ := cut_ok h
  have hin : shortT 405 (PyData.shown (.tuple (c.2.map .int))) := by
    have : PyData.shown (.tuple (c.2.map .int)) = tupleText ((c.2.map PyData.int).map PyData.shown) := by
      exact shown_tuple _
    rw [this]
    have hs := tuple_short (B := 2) (l := (c.2.map PyData.int).map PyData.shown) (fun x hx => by
      obtain ⟨d, hd, rfl⟩ := List.mem_map.mp hx
      obtain ⟨p, hp, rfl⟩ := List.mem_map.mp hd
      exact shown_int (List.all_eq_true.mp h2 p hp))
    rw [List.length_map, List.length_map] at hs
    exact ⟨by have := hs.1; omega, hs.2⟩
  have : PyData.shown (cutD c) = tupleText [PyData.shown (.int c.1), PyData.shown (.tuple (c.2.map .int))] := by
    exact shown_tuple _
  rw [this]
  have hs := tuple_short (B := 405) (l := [PyData.shown (.int c.1), PyData.shown (.tuple (c.2.map .int))]) (fun x hx => by
    simp only [List.mem_cons, List.not_mem_nil, or_false] at hx
    rcases hx with rfl | rfl
    · have := shown_int h1
      exact ⟨by have := this.1; omega, this.2⟩
    · exact hin)
  exact ⟨by have := hs.1; simp at this; omega, hs.2⟩
theorem shown_cuts {cs : List (Int × List Int)} (h : cs.all cutOk = true) (hl : cs.length ≤ 8) : shortT 10000 (PyData.shown (.tuple (cs.map cutD))) := by
  have : PyData.shown (.tuple (cs.map cutD)) = tupleText ((cs.map cutD).map PyData.shown) := by
    rw [PyData.shown, shownAll_map]
  rw [this]
  have hs := tuple_short (B := 1000) (l := (cs.map cutD).map PyData.shown) (fun x hx => by
    obtain ⟨d, hd, rfl⟩ := List.mem_map.mp hx
    obtain ⟨c, hc, rfl⟩ := List.mem_map.mp hd
    exact shown_cut (List.all_eq_true.mp h c hc))
  rw [List.length_map, List.length_map] at hs
  exact ⟨by have := hs.1; omega, hs.2⟩
theorem strOk_short {B : Nat} {z : Str} (h : shortT B z) : PyData.strOk z = true := by
  unfold PyData.strOk
  rw [Array.all_eq_true']
  intro c hc
  have := h.2 c (Array.mem_toList_iff.mpr hc)
  exact decide_eq_true (by omega)
theorem repr_val {S : Store} {cs : List (Int × List Int)} (h : cs.all cutOk = true) (hl : cs.length ≤ 8) : fRepr S (.val (cutsV cs)) = some (.val (.str (PyData.shown (.tuple (cs.map cutD))))) := by
  have e1 : pdO S (.val (cutsV cs)) = some (.tuple (cs.map cutD)) := by
    show (match pd (cutsV cs) with | some d => some d | none => match rdL S (.val (cutsV cs)) with | some vs => (pds vs).map PyData.list | none => none) = _
    rw [pd_cuts]
  unfold fRepr
  rw [e1]
  dsimp only
  have a1 : PyData.showable (.tuple (cs.map cutD)) = true := by unfold PyData.showable; exact show_cuts cs h
  have a2 : PyData.hasDict (.tuple (cs.map cutD)) = false := by unfold PyData.hasDict; exact nod_cuts cs
  have a3 : PyData.depth (.tuple (cs.map cutD)) ≤ 3 := by unfold PyData.depth; have := dep_cuts cs; omega
  have a4 := (shown_cuts h hl).1
  rw [a1, a2, decide_eq_true (show PyData.depth (.tuple (cs.map cutD)) < 30 by omega), show okLen (PyData.shown (.tuple (cs.map cutD))).length = true from decide_eq_true (by unfold big; omega)]
  rfl
end Lk83
end MP

namespace MP
namespace Lk83
open PySem L2 PySem.Spec PyProof.Rows
def b_lap : MS := (sSeq (sAsg (.nm 10) (mUn fTupC (mComp (mRng1 (mLoc 3)) (.nm 16) (mC (.bl true)) (mCall r__law_number (aCons (mLoc 1) aNil)) [16])))
    (sSeq (sAsg (.nm 9) (mBin fAdd (mLoc 9) (mTup (aCons (mTup (aCons (mCall r__law_number (aCons (mLoc 1) aNil)) (aCons (mLoc 10) aNil))) aNil))))
    sNil))
def b_mut : MS := (sSeq (sPar 12 11 (aCons (mCall r__law_draw (aCons (mLoc 1) (aCons (mBin fAdd (mUn fLen (mLoc 7)) (mC (.int 1))) aNil))) (aCons (mBin fIx (mC (.str " 0123456789picks-\n\t_+")) (mCall r__law_draw (aCons (mLoc 1) (aCons (mC (.int 21)) aNil)))) aNil)))
    (sSeq (sAsg (.nm 11) (mIf (mBin fEq (mCall r__law_draw (aCons (mLoc 1) (aCons (mC (.int 5)) aNil))) (mC (.int 0))) (mC (.str "")) (mLoc 11)))
    (sSeq (sAsg (.nm 7) (mBin fAdd (mBin fAdd (mSl (mLoc 7) (mC .non) (mUn fInt (mLoc 12))) (mLoc 11)) (mSl (mLoc 7) (mUn fInt (mBin fAdd (mLoc 12) (mCall r__law_draw (aCons (mLoc 1) (aCons (mC (.int 2)) aNil))))) (mC .non))))
    sNil)))
def b_turn : MS := (sSeq (sPar 3 9 (aCons (mCall r__law_draw (aCons (mLoc 1) (aCons (mC (.int 5)) aNil))) (aCons (mTup aNil) aNil)))
    (sSeq (sFor (mRng1 (mCall r__law_draw (aCons (mLoc 1) (aCons (mC (.int 9)) aNil)))) (.nm 5) b_lap)
    (sSeq (sAsg (.nm 6) (mComp (mItr (mLoc 9)) (.tp [13, 10]) (mC (.bl true)) (mBin fAdd (mLst (aCons (mUn fStrC (mLoc 13)) (aCons (mC (.str "picks")) aNil))) (mComp (mItr (mLoc 10)) (.nm 17) (mC (.bl true)) (mUn fStrC (mLoc 17)) [17])) [13, 10]))
    (sSeq (sAsg (.nm 7) (mSM gJoin (mC (.str "")) (mComp (mItr (mLoc 6)) (.nm 14) (mC (.bl true)) (mBin fAdd (mSM gJoin (mC (.str " ")) (mLoc 14)) (mC (.str "\n"))) [14])))
    (sSeq (sIf (mOr (mBin fNe (mCall r_format_cuts (aCons (mLoc 9) aNil)) (mLoc 7)) (mBin fNe (mUn fRepr (mCall r_parse_cuts (aCons (mLoc 7) (aCons (mLoc 3) aNil)))) (mUn fRepr (mLoc 9))))
    (sSeq (sRet (mC (.bl false)))
    sNil)
    sNil)
    (sSeq (sIf (mBin fNe (mCall r__law_raised (aCons (mLoc 7) (aCons (mBin fMod (mBin fAdd (mLoc 3) (mC (.int 1))) (mC (.int 5))) aNil))) (mCall r__law_due (aCons (mLoc 7) (aCons (mBin fMod (mBin fAdd (mLoc 3) (mC (.int 1))) (mC (.int 5))) aNil))))
    (sSeq (sRet (mC (.bl false)))
    sNil)
    sNil)
    (sSeq (sFor (mRng1 (mCall r__law_draw (aCons (mLoc 1) (aCons (mC (.int 3)) aNil)))) (.nm 5) b_mut)
    (sSeq (sIf (mBin fNe (mCall r__law_raised (aCons (mLoc 7) (aCons (mLoc 3) aNil))) (mCall r__law_due (aCons (mLoc 7) (aCons (mLoc 3) aNil))))
    (sSeq (sRet (mC (.bl false)))
    sNil)
    sNil)
    sNil))))))))
def b_kept : MS := (sSeq (sAsg (.nm 8) (mBin fAdd (mBin fAdd (mC (.str "64 picks")) (mBin fMul (mC (.str " 64")) (mLoc 3))) (mC (.str "\n"))))
    (sSeq (sIf (mOr (mUn fNotN (mCall r__law_raised (aCons (mBin fMul (mLoc 8) (mC (.int 8))) (aCons (mLoc 3) aNil)))) (mBin fNe (mCall r__law_raised (aCons (mBin fMul (mLoc 8) (mC (.int 9))) (aCons (mLoc 3) aNil))) (mC (.int 8))))
    (sSeq (sRet (mC (.bl false)))
    sNil)
    sNil)
    sNil))
def t_fix3 : MS := (sAsg (.nm 4) (mLst (aCons (mTup (aCons (mC (.str "")) (aCons (mC (.int 0)) (aCons (mC .non) aNil)))) (aCons (mTup (aCons (mBin fMul (mC (.str "0 picks\n")) (mC (.int 8))) (aCons (mC (.int 0)) (aCons (mC .non) aNil)))) (aCons (mTup (aCons (mBin fMul (mC (.str "0 picks\n")) (mC (.int 9))) (aCons (mC (.int 0)) (aCons (mC (.int 8)) aNil)))) (aCons (mTup (aCons (mC (.str "65 picks\n")) (aCons (mC (.int 0)) (aCons (mC (.int 0)) aNil)))) aNil))))))
def t_fix4 : MS := (sAsg (.nm 4) (mBin fAdd (mLoc 4) (mLst (aCons (mTup (aCons (mC (.str "0 picks 65\n")) (aCons (mC (.int 1)) (aCons (mC (.int 0)) aNil)))) (aCons (mTup (aCons (mC (.str "0 picks")) (aCons (mC (.int 0)) (aCons (mC (.int 0)) aNil)))) aNil)))))
def t_fix5 : MS := (sAsg (.nm 4) (mBin fAdd (mLoc 4) (mLst (aCons (mTup (aCons (mC (.str "0 picks\n0")) (aCons (mC (.int 0)) (aCons (mC (.int 1)) aNil)))) (aCons (mTup (aCons (mC (.str "0 picks 0\n1 picks\n")) (aCons (mC (.int 1)) (aCons (mC (.int 1)) aNil)))) (aCons (mTup (aCons (mC (.str "0 picks 00\n")) (aCons (mC (.int 1)) (aCons (mC (.int 0)) aNil)))) aNil))))))
def t_fix6 : MS := (sAsg (.nm 4) (mBin fAdd (mLoc 4) (mLst (aCons (mTup (aCons (mBin fMul (mC (.str "0 picks\n")) (mC (.int 10))) (aCons (mC (.int 0)) (aCons (mC (.int 8)) aNil)))) (aCons (mTup (aCons (mBin fAdd (mBin fMul (mC (.str "0 picks\n")) (mC (.int 9))) (mC (.str "x\n"))) (aCons (mC (.int 0)) (aCons (mC (.int 8)) aNil)))) (aCons (mTup (aCons (mBin fAdd (mBin fMul (mC (.str "0 picks\n")) (mC (.int 9))) (mC (.str "0"))) (aCons (mC (.int 0)) (aCons (mC (.int 8)) aNil)))) aNil))))))
def t_fix7 : MS := (sAsg (.nm 4) (mBin fAdd (mLoc 4) (mLst (aCons (mTup (aCons (mC (.str "3 5 picks\n")) (aCons (mC (.int 1)) (aCons (mC (.int 0)) aNil)))) (aCons (mTup (aCons (mC (.str "picks 3 5\n")) (aCons (mC (.int 1)) (aCons (mC (.int 0)) aNil)))) aNil)))))
def t_fix8 : MS := (sAsg (.nm 4) (mBin fAdd (mLoc 4) (mLst (aCons (mTup (aCons (mBin fAdd (mBin fMul (mC (.str "1")) (mC (.int 4400))) (mC (.str " picks\n"))) (aCons (mC (.int 0)) (aCons (mC (.int 0)) aNil)))) (aCons (mTup (aCons (mBin fAdd (mBin fAdd (mC (.str "0 picks ")) (mBin fMul (mC (.str "0")) (mC (.int 4400)))) (mC (.str "\n"))) (aCons (mC (.int 1)) (aCons (mC (.int 0)) aNil)))) (aCons (mTup (aCons (mC (.str "0 picks \n")) (aCons (mC (.int 0)) (aCons (mC (.int 0)) aNil)))) aNil))))))
def t_end : MS := (sRet (mBin fEq (mComp (mItr (mLoc 4)) (.tp [7, 3, 15]) (mC (.bl true)) (mCall r__law_raised (aCons (mLoc 7) (aCons (mLoc 3) aNil))) [7, 3, 15]) (mComp (mItr (mLoc 4)) (.tp [7, 3, 15]) (mC (.bl true)) (mLoc 15) [7, 3, 15])))
theorem m_law_eq : m_law = (sSeq (sAsg (.nm 1) (mCall r__law_pen (aCons (mLoc 0) aNil))) (sSeq (sFor (mRng1 (mC (.int 8))) (.nm 2) b_turn) (sSeq (sFor (mRng1 (mC (.int 5))) (.nm 3) b_kept) (sSeq t_fix3 (sSeq t_fix4 (sSeq t_fix5 (sSeq t_fix6 (sSeq t_fix7 (sSeq t_fix8 (sSeq t_end sNil)))))))))) := rfl
theorem get_app' {S G : Store} {r : Nat} {o : Obj} (h : S[r]? = some o) : (S ++ G)[r]? = some o := by
  rw [List.getElem?_append_left (List.getElem?_eq_some_iff.mp h).1]; exact h
theorem Pen.push {S : Store} {l c : Nat} {cells : List Int} {i d : Int} (h : Pen S l c cells i d) (G : Store) : Pen (S ++ G) l c cells i d := ⟨get_app' h.pen, get_app' h.cel, h.ne⟩
/-- the pen stands -/
def PenS (S : Store) (cells : List Int) : Prop := ∃ i d : Int, Pen S 1 0 cells i d
theorem PenS.push {S : Store} {cells : List Int} (h : PenS S cells) (G : Store) : PenS (S ++ G) cells := let ⟨i, d, p⟩ := h; ⟨i, d, p.push G⟩
theorem sDraw {env : Env} {S S1 : Store} {n : MX} {cells : List Int} {many : Int} (ha : env[1]? = some (some (.ref 1))) (hn : n env S = .ok (.val (.int many)) S) (h : PenS S cells) (hm : 0 < many) (hb : many < 1073741824) :
    ∃ (v : Int) (S' : Store), 0 ≤ v ∧ v < many ∧ mCall r__law_draw (aCons (mLoc 1) (aCons n aNil)) env S = .ok (.val (.int v)) S' ∧ PenS S' cells := by
  obtain ⟨i, d, p⟩ := h
  obtain ⟨v, i', d', h1, h2, h3⟩ := mDraw ha hn p hm hb (S1 := S)
  exact ⟨v, _, h1, h2, h3, i', d', p.put i' d'⟩
theorem sNumber {env : Env} {S : Store} {cells : List Int} (ha : env[1]? = some (some (.ref 1))) (h : PenS S cells) :
    ∃ (v : Int) (S' : Store), 0 ≤ v ∧ v ≤ 64 ∧ mCall r__law_number (aCons (mLoc 1) aNil) env S = .ok (.val (.int v)) S' ∧ PenS S' cells := by
  obtain ⟨i, d, p⟩ := h
  obtain ⟨v, i', d', h1, h2, h3⟩ := number_law p
  exact ⟨v, _, h1, h2, (mCall_val (aCons_val (mLoc_val ha) aNil_val)).trans h3, i', d', p.put i' d'⟩
theorem small_of64 {v : Int} (h0 : 0 ≤ v) (h1 : v ≤ 64) : small v = true := by
  unfold small
  rw [decide_eq_true h0, decide_eq_true (by omega)]; rfl
theorem picks_val {env : Env} {S : Store} {cells : List Int} {kept : Int} (ha : env[1]? = some (some (.ref 1))) (hk : env[3]? = some (some (.int kept))) (h : PenS S cells) (k0 : 0 ≤ kept) (k5 : kept < 5) (hl : env.length = 18) :
    ∃ (ps : List Int) (S' : Store), mComp (mRng1 (mLoc 3)) (.nm 16) (mC (.bl true)) (mCall r__law_number (aCons (mLoc 1) aNil)) [16] env S = .ok (.new (.lst (ps.map .int))) S' ∧ PenS S' cells ∧ (ps.length : Int) = kept ∧ ∀ p ∈ ps, small p = true ∧ p ≤ 64 := by
  have e0 : mRng1 (mLoc 3) env S = .ok (rangeL 0 kept.toNat) none S := by
    unfold mRng1
    rw [mLoc_val hk]
    dsimp only
    rw [decide_eq_true (by omega), decide_eq_true (by omega)]
    rfl
  rw [mComp_val e0]
  have := loopC_ind (t := .nm 16) (cond := mC (.bl true)) (elt := mCall r__law_number (aCons (mLoc 1) aNil)) (env0 := wipeE env [16]) (live := none)
    (fun ds acc S' => ∃ ps : List Int, acc = ps.map .int ∧ PenS S' cells ∧ ds.length + ps.length = kept.toNat ∧ ∀ p ∈ ps, small p = true ∧ p ≤ 64) (fun _ _ _ _ => liveOk_none) (fun d ds acc S' ⟨ps, e, _, hz, _⟩ => by rw [e, List.length_map]; simp at hz; omega)
    (fun d ds acc S' ⟨ps, e, hp, hz, hs⟩ => by
      refine ⟨_, rfl, .inr ?_⟩
      obtain ⟨v, S2, v0, v1, hv, hp2⟩ := sNumber (env := (wipeE env [16]).set 16 (some d)) (S := S') (by
        rw [List.getElem?_set_ne (by decide)]
        unfold wipeE wipeE
        rw [List.getElem?_set_ne (by decide)]
        exact ha) hp
      refine ⟨S', _, S2, rfl, hv, ps ++ [v], by rw [e, List.map_append]; rfl, hp2, by rw [List.length_append, List.length_singleton]; simp at hz; omega, fun p hp => ?_⟩
      rcases List.mem_append.mp hp with hp | hp
      · exact hs p hp
      · rw [List.mem_singleton.mp hp]; exact ⟨small_of64 v0 v1, v1⟩)
    (rangeL 0 kept.toNat) [] S ⟨[], rfl, h, by unfold rangeL; simp, fun _ h => nomatch h⟩
  obtain ⟨acc, S', e, ps, rfl, hp, hz, hs⟩ := this
  exact ⟨ps, S', e, hp, by simp at hz; omega, hs⟩
/-- the slots of the law -/
abbrev LE (s0 x2 kept x4 x5 x6 x7 x8 cuts x10 x11 x12 x13 x14 x15 x16 x17 : Option Val) : Env := [s0, some (.ref 1), x2, kept, x4, x5, x6, x7, x8, cuts, x10, x11, x12, x13, x14, x15, x16, x17]
theorem lap_val {s0 x2 x4 x6 x7 x8 x11 x12 x13 x14 x15 x16 x17 : Option Val} {kept : Int} {cells : List Int} {x5 x10 : Option Val} {cs : List (Int × List Int)} {S : Store} (h : PenS S cells) (k0 : 0 ≤ kept) (k5 : kept < 5) (hc : cs.length ≤ 8) :
    ∃ (c : Int × List Int) (y10 : Option Val) (S' : Store), b_lap (LE s0 x2 (some (.int kept)) x4 x5 x6 x7 x8 (some (cutsV cs)) x10 x11 x12 x13 x14 x15 x16 x17) S = .nx (LE s0 x2 (some (.int kept)) x4 x5 x6 x7 x8 (some (cutsV (cs ++ [c]))) y10 x11 x12 x13 x14 x15 x16 x17) S' ∧ PenS S' cells ∧ cellsOk kept c := by
  obtain ⟨ps, S1, e1, h1, hl, hs⟩ := picks_val (env := LE s0 x2 (some (.int kept)) x4 x5 x6 x7 x8 (some (cutsV cs)) x10 x11 x12 x13 x14 x15 x16 x17) (S := S) rfl rfl h k0 k5 rfl
  obtain ⟨v, S2, v0, v1, hv, h2⟩ := sNumber (env := LE s0 x2 (some (.int kept)) x4 x5 x6 x7 x8 (some (cutsV cs)) (some (.tup (ps.map .int))) x11 x12 x13 x14 x15 x16 x17) (S := S1) rfl h1
  refine ⟨(v, ps), some (.tup (ps.map .int)), S2, ?_, h2, small_of64 v0 v1, v1, hs, hl⟩
  unfold b_lap
  rw [sSeq_nx (sAsg_val (d := .tup (ps.map .int)) (S1 := S1) (by rw [mUn_val e1]; rfl))]
  show sSeq _ _ (LE s0 x2 (some (.int kept)) x4 x5 x6 x7 x8 (some (cutsV cs)) (some (.tup (ps.map .int))) x11 x12 x13 x14 x15 x16 x17) S1 = _
  have et := mTup_val (aCons_val (mTup_val (vs := [.int v, .tup (ps.map .int)]) (S1 := S2) (aCons_val hv (aCons_val (m := mLoc 10) rfl aNil_val)) (by simp)) aNil_val) (by simp)
  rw [sSeq_nx (sAsg_val (d := cutsV (cs ++ [(v, ps)])) (S1 := S2) (by
    rw [mBin_val (m := mLoc 9) (o := .val (cutsV cs)) (S1 := S1) rfl et]
    show ofO S2 (if okLen ((cs.map cutV).length + 1) then some (.val (.tup (cs.map cutV ++ [.tup [.int v, .tup (ps.map .int)]]))) else none) = _
    rw [show okLen ((cs.map cutV).length + 1) = true from decide_eq_true (by rw [List.length_map]; unfold big; omega), if_pos rfl]
    show Res.ok (.val (.tup (cs.map cutV ++ [cutV (v, ps)]))) S2 = .ok (.val (.tup ((cs ++ [(v, ps)]).map cutV))) S2
    rw [List.map_append]; rfl))]
  rfl
theorem laps_val {s0 x2 x4 x6 x7 x8 x11 x12 x13 x14 x15 x16 x17 : Option Val} {kept : Int} {cells : List Int} {x5 x10 : Option Val} {n : Nat} {S : Store} (h : PenS S cells) (k0 : 0 ≤ kept) (k5 : kept < 5) (hn : n ≤ 8) :
    ∃ (cs : List (Int × List Int)) (y5 y10 : Option Val) (S' : Store), loopF (.nm 5) b_lap none (rangeL 0 n) (LE s0 x2 (some (.int kept)) x4 x5 x6 x7 x8 (some (cutsV [])) x10 x11 x12 x13 x14 x15 x16 x17) S =
      .nx (LE s0 x2 (some (.int kept)) x4 y5 x6 x7 x8 (some (cutsV cs)) y10 x11 x12 x13 x14 x15 x16 x17) S' ∧ PenS S' cells ∧ (∀ c ∈ cs, cellsOk kept c) ∧ cs.length ≤ 8 := by
  have := loopF_ind (t := .nm 5) (body := b_lap) (live := none) (fun ds env S' => ∃ (cs : List (Int × List Int)) (y5 y10 : Option Val), env = LE s0 x2 (some (.int kept)) x4 y5 x6 x7 x8 (some (cutsV cs)) y10 x11 x12 x13 x14 x15 x16 x17 ∧ PenS S' cells ∧ (∀ c ∈ cs, cellsOk kept c) ∧ ds.length + cs.length = n)
    (fun _ => False) (fun _ _ _ _ => liveOk_none) (fun d ds env S' ⟨cs, y5, y10, e, hp, hc, hz⟩ => by
      subst e
      rw [List.length_cons] at hz
      obtain ⟨c, z10, S2, e2, hp2, hc2⟩ := lap_val (s0 := s0) (x2 := x2) (x4 := x4) (x6 := x6) (x7 := x7) (x8 := x8) (x11 := x11) (x12 := x12) (x13 := x13) (x14 := x14) (x15 := x15) (x16 := x16) (x17 := x17) (x5 := some d) (x10 := y10) (cs := cs) hp k0 k5 (by omega)
      exact ⟨_, rfl, .inl ⟨_, S2, e2, cs ++ [c], some d, z10, rfl, hp2, fun c' h' => by
        rcases List.mem_append.mp h' with h' | h'
        · exact hc c' h'
        · rw [List.mem_singleton.mp h']; exact hc2, by rw [List.length_append, List.length_singleton]; omega⟩⟩)
    (rangeL 0 n) _ S ⟨[], x5, x10, rfl, h, (fun _ h => nomatch h), by unfold rangeL; simp⟩
  rcases this with ⟨e, S', q, cs, y5, y10, rfl, hp, hc, hz⟩ | hf
  · exact ⟨cs, y5, y10, S', q, hp, hc, by simp at hz; omega⟩
  · exact hf.elim
end Lk83
end MP

namespace MP
namespace Lk83
open PySem L2 PySem.Spec PyProof.Rows

def rowL (c : Int × List Int) : List Str := [numI c.1, "picks"] ++ c.2.map numI
def rowO (c : Int × List Int) : Obj := .lst ((rowL c).map .str)
theorem cells_cut {kept : Int} (k5 : kept < 5) {c : Int × List Int} (h : cellsOk kept c) : cutOk c = true := by
  obtain ⟨h1, h2, h3, h4⟩ := h
  unfold cutOk
  rw [h1, List.all_eq_true.mpr fun p hp => (h3 p hp).1, decide_eq_true (by omega)]; rfl
def refsL (n : Nat) (m : Nat) : List Val := (List.range m).map fun j => .ref (n + j)
theorem refsL_succ (n m : Nat) : refsL n (m + 1) = refsL n m ++ [.ref (n + m)] := by
  unfold refsL
  rw [List.range_succ, List.map_append]; rfl
theorem rows_val {env : Env} {S : Store} {cs : List (Int × List Int)} (h9 : env[9]? = some (some (cutsV cs))) (hl : env.length = 18) (hc : ∀ c ∈ cs, cutOk c = true) (hn : cs.length ≤ 8) :
    mComp (mItr (mLoc 9)) (.tp [13, 10]) (mC (.bl true)) (mBin fAdd (mLst (aCons (mUn fStrC (mLoc 13)) (aCons (mC (.str "picks")) aNil))) (mComp (mItr (mLoc 10)) (.nm 17) (mC (.bl true)) (mUn fStrC (mLoc 17)) [17])) [13, 10] env S =
      .ok (.new (.lst (refsL S.length cs.length))) (S ++ cs.map rowO) := by
  have e0 : mItr (mLoc 9) env S = .ok (cs.map cutV) none S := by
    unfold mItr
    rw [mLoc_val h9]; rfl
  rw [mComp_val e0]
  have := loopC_ind (t := .tp [13, 10]) (cond := mC (.bl true)) (elt := mBin fAdd (mLst (aCons (mUn fStrC (mLoc 13)) (aCons (mC (.str "picks")) aNil))) (mComp (mItr (mLoc 10)) (.nm 17) (mC (.bl true)) (mUn fStrC (mLoc 17)) [17])) (env0 := wipeE env [13, 10]) (live := none)
    (fun ds acc S' => ∃ done rest : List (Int × List Int), cs = done ++ rest ∧ ds = rest.map cutV ∧ acc = refsL S.length done.length ∧ S' = S ++ done.map rowO) (fun _ _ _ _ => liveOk_none)
    (fun d ds acc S' ⟨done, rest, e, e1, e2, _⟩ => by
      have := congrArg List.length e
      rw [List.length_append] at this
      rw [e2]; unfold refsL
      rw [List.length_map, List.length_range]; omega)
    (fun d ds acc S' ⟨done, rest, e, e1, e2, e3⟩ => by
      cases rest with
      | nil => cases e1
      | cons c rest =>
        rw [List.map_cons] at e1
        obtain ⟨rfl, rfl⟩ := List.cons.inj e1
        have hw : (wipeE env [13, 10]).length = 18 := by unfold wipeE wipeE wipeE; rw [List.length_set, List.length_set, hl]
        refine ⟨((wipeE env [13, 10]).set 13 (some (.int c.1))).set 10 (some (.tup (c.2.map .int))), rfl, .inr ⟨S', .new (rowO c), S', rfl, ?_, done ++ [c], rest, by rw [e, List.append_assoc]; rfl, rfl, ?_, ?_⟩⟩
        · refine row_val (c := c) ?_ ?_ (hc c (by rw [e]; exact List.mem_append_right _ List.mem_cons_self)) (by rw [List.length_set, List.length_set, hw]; decide)
          · rw [List.getElem?_set_ne (by decide), List.getElem?_set_self (by rw [hw]; decide)]
          · rw [List.getElem?_set_self (by rw [List.length_set, hw]; decide)]
        · rw [e2, List.length_append, List.length_singleton, refsL_succ, e3]
          show _ ++ [Val.ref (S ++ done.map rowO).length] = _
          rw [List.length_append, List.length_map]
        · rw [e3, List.map_append, ← List.append_assoc]; rfl)
    (cs.map cutV) [] S ⟨[], cs, rfl, rfl, rfl, by simp⟩
  obtain ⟨acc, S', e, done, rest, q1, q2, q3, q4⟩ := this
  have hr : rest = [] := List.map_eq_nil_iff.mp q2.symm
  rw [hr, List.append_nil] at q1
  rw [e, q3, q4, q1]
theorem text_val {env : Env} {S S0 : Store} {cs : List (Int × List Int)} {r n : Nat} (h6 : env[6]? = some (some (.ref r))) (hl : env.length = 18) (hr : S[r]? = some (.lst (refsL n cs.length))) (hrow : ∀ j c, cs[j]? = some c → S[n + j]? = some (rowO c)) (hc : ∀ c ∈ cs, cutOk c = true) (hn : cs.length ≤ 8) :
    mSM gJoin (mC (.str "")) (mComp (mItr (mLoc 6)) (.nm 14) (mC (.bl true)) (mBin fAdd (mSM gJoin (mC (.str " ")) (mLoc 14)) (mC (.str "\n"))) [14]) env S = .ok (.val (.str (fmt cs))) S := by
  have e0 : mItr (mLoc 6) env S = .ok (refsL n cs.length) (some (r, refsL n cs.length)) S := by
    unfold mItr
    rw [mLoc_val h6]
    show (match rdL S (.val (.ref r)) with | some vs => RI.ok vs (some (r, vs)) S | none => .stuck) = _
    rw [rdL_ref hr]
  have e1 : mComp (mItr (mLoc 6)) (.nm 14) (mC (.bl true)) (mBin fAdd (mSM gJoin (mC (.str " ")) (mLoc 14)) (mC (.str "\n"))) [14] env S = .ok (.new (.lst ((cs.map fun c => lineS c ++ "\n").map .str))) S := by
    rw [mComp_val e0, loopC_fm (fun _ => true) (fun d => match d with | .ref m => (match cs[m - n]? with | some c => .str (lineS c ++ "\n") | none => .non) | _ => .non) (liveOk_some hr)]
    · rw [List.nil_append, List.filter_eq_self.mpr (fun _ _ => rfl)]
      congr 3
      apply List.ext_getElem?
      intro j
      unfold refsL
      rw [List.getElem?_map, List.getElem?_map, List.getElem?_map, List.getElem?_map]
      by_cases hj : j < cs.length
      · rw [List.getElem?_range hj, List.getElem?_eq_getElem hj]
        show some (match cs[n + j - n]? with | some c => Val.str (lineS c ++ "\n") | none => .non) = _
        rw [Nat.add_sub_cancel_left, List.getElem?_eq_getElem hj]; rfl
      · rw [List.getElem?_eq_none (by rw [List.length_range]; omega), List.getElem?_eq_none (by omega)]; rfl
    · intro d hd
      unfold refsL at hd
      obtain ⟨j, hj, rfl⟩ := List.mem_map.mp hd
      have hj := List.mem_range.mp hj
      have hcj : cs[j]? = some cs[j] := List.getElem?_eq_getElem hj
      have hok := hc _ (List.getElem_mem hj)
      refine ⟨_, rfl, rfl, fun _ => ?_⟩
      have hw : (wipeE env [14]).length = 18 := by unfold wipeE wipeE; rw [List.length_set, hl]
      have ej : mSM gJoin (mC (.str " ")) (mLoc 14) ((wipeE env [14]).set 14 (some (.ref (n + j)))) S = .ok (.val (.str (lineS cs[j]))) S := by
        rw [mSM_val (z := " ") (S1 := S) rfl (mLoc_val (v := .ref (n + j)) (List.getElem?_set_self (by rw [hw]; decide))), join_row hok (o := .val (.ref (n + j))) (rdL_ref (hrow j _ hcj))]
        rfl
      rw [mBin_val ej (n := mC (.str "\n")) rfl, add_nl (by have := lineS_len hok; omega)]
      show Res.ok _ S = Res.ok (.val (match cs[n + j - n]? with | some c => Val.str (lineS c ++ "\n") | none => .non)) S
      rw [Nat.add_sub_cancel_left, hcj]
    · unfold refsL; simp; omega
  rw [mSM_val (z := "") (S1 := S) rfl e1, join_lines (List.all_eq_true.mpr hc) (by omega) rfl]
  rfl
theorem lineS_short {kept : Int} {c : Int × List Int} (k5 : kept < 5) (h : cellsOk kept c) : shortT 1001 (lineS c ++ "\n") := by
  refine ⟨?_, fun s hs => ?_⟩
  · rw [Str.length_append]
    have := lineS_len (cells_cut k5 h)
    have e : ("\n" : Str).length = 1 := by decide
    omega
  · rw [TL.tl_append] at hs
    rcases List.mem_append.mp hs with hs | hs
    · exact (line_signs h s hs).1
    · have e0 : ∀ c ∈ TL.tl ("\n" : Str), c < 128 := by decide
      exact e0 s hs
theorem fmt_short {kept : Int} {cs : List (Int × List Int)} (k5 : kept < 5) (h : ∀ c ∈ cs, cellsOk kept c) (hn : cs.length ≤ 8) : shortT 9000 (fmt cs) := by
  have := join_short (sep := "") (B := 1001) (l := cs.map fun c => lineS c ++ "\n") ⟨by decide, by decide⟩ (fun x hx => by
    obtain ⟨c, hc, rfl⟩ := List.mem_map.mp hx
    exact lineS_short k5 (h c hc))
  rw [← TL.join_eq, List.length_map] at this
  exact ⟨by have := this.1; unfold fmt; omega, this.2⟩
theorem txt_short {z : Str} {B : Nat} (h : shortT B z) (hB : B ≤ 100000) : txtOk z = true := txtOk_of (fun c hc => by have := h.2 c hc; omega) (by have := h.1; omega)
/-- raised and due agree -/
def dueV (text : Str) (kept : Int) : Val := match parseP text kept with
  | .error i => .int (i : Nat)
  | .ok _ => .non
theorem dueV_same {S : Store} {text : Str} {kept : Int} : fNe S (.val (dueV text kept)) (.val (dueV text kept)) = some (.val (.bl false)) := by
  unfold dueV
  cases parseP text kept with
  | error i => rw [fNe_int]; simp
  | ok cs =>
    show (match pdO S (.val .non), pdO S (.val .non) with | some d, some e => if SeqAt.shaped d && SeqAt.shaped e then vB (!PyData.eqv d e) else none | _, _ => none) = _
    rfl
theorem raised_val {m n : MX} {env : Env} {S S1 S2 : Store} {text : Str} {kept : Int} (h : m env S = .ok (.val (.str text)) S1) (h2 : n env S1 = .ok (.val (.int kept)) S2) (ht : txtOk text = true) (hk : kept ≤ 100) : mCall r__law_raised (aCons m (aCons n aNil)) env S = .ok (.val (dueV text kept)) S2 := by
  rw [mCall_val (aCons_val h (aCons_val h2 aNil_val))]
  show (if txtOk text && decide (kept ≤ 100) then _ else _) = _
  rw [ht, decide_eq_true hk]; rfl
theorem due_val {m n : MX} {env : Env} {S S1 S2 : Store} {text : Str} {kept : Int} (h : m env S = .ok (.val (.str text)) S1) (h2 : n env S1 = .ok (.val (.int kept)) S2) (ht : txtOk text = true) (hk : 0 ≤ kept) : mCall r__law_due (aCons m (aCons n aNil)) env S = .ok (.val (dueV text kept)) S2 := by
  rw [mCall_val (aCons_val h (aCons_val h2 aNil_val))]
  show (if txtOk text && decide (0 ≤ kept) then _ else _) = _
  rw [ht, decide_eq_true hk]; rfl
end Lk83
end MP

namespace MP
namespace Lk83
open PySem L2 PySem.Spec PyProof.Rows

theorem cut_chars {z : Str} {lo hi : Option Int} {B : Nat} (h : shortT B z) : ∀ c ∈ TL.tl (cutS z lo hi), c < 128 := fun c hc => by
  unfold cutS at hc
  exact h.2 c (List.mem_of_mem_drop (List.mem_of_mem_take hc))
theorem cut_sum {z : Str} {p w : Int} (p0 : 0 ≤ p) (p1 : p ≤ z.length) (w0 : 0 ≤ w) : (cutS z none (some p)).length + (cutS z (some (p + w)) none).length ≤ z.length := by
  rw [TL.len_tl, TL.len_tl]
  unfold cutS
  show (((TL.tl z).drop _).take _).length + (((TL.tl z).drop _).take _).length ≤ _
  have e1 : HT.sIx z.length z.length (some p) = min p.toNat z.length := by
    show (if p < 0 then _ else _) = _
    rw [if_neg (by omega)]
  have e2 : HT.sIx z.length 0 (some (p + w)) = min (p + w).toNat z.length := by
    show (if p + w < 0 then _ else _) = _
    rw [if_neg (by omega)]
  have e3 : HT.sIx z.length 0 none = 0 := rfl
  have e4 : HT.sIx z.length z.length none = z.length := rfl
  rw [e1, e2, e3, e4]
  have el : (TL.tl z).length = z.length := (TL.len_tl z).symm
  simp only [List.length_take, List.length_drop, el]
  omega
theorem slice_str {env : Env} {S S1 S2 S3 : Store} {m l h : MX} {z : Str} {lo hi : Option Int} {b c : Opd} (e1 : m env S = .ok (.val (.str z)) S1) (e2 : l env S1 = .ok b S2) (p2 : prt b = some lo) (e3 : h env S2 = .ok c S3) (p3 : prt c = some hi) (hz : z.length ≤ 100000) :
    mSl m l h env S = .ok (.val (.str (cutS z lo hi))) S3 := by
  unfold mSl
  rw [e1, Res.bind_ok, e2, Res.bind_ok, p2]
  show (h env S2).bind _ = _
  rw [e3, Res.bind_ok, p3]
  show ofO S3 (if okLen z.length then vS (cutS z lo hi) else none) = _
  rw [show okLen z.length = true from decide_eq_true (by unfold big; omega), if_pos rfl]
  rfl
def signs : Str := " 0123456789picks-\n\t_+"
theorem signs_ok : signs.cps.toList.length = 21 ∧ ∀ c ∈ signs.cps.toList, c < 128 := by decide +kernel
theorem addS_val {m n : MX} {env : Env} {S S1 S2 : Store} {x y : Str} (h : m env S = .ok (.val (.str x)) S1) (h2 : n env S1 = .ok (.val (.str y)) S2) (hx : x.length + y.length ≤ 1000000) : mBin fAdd m n env S = .ok (.val (.str (x ++ y))) S2 := by
  rw [mBin_val h h2]
  show ofO S2 (if okLen (x.length + y.length) then vS (x ++ y) else none) = _
  rw [show okLen (x.length + y.length) = true from decide_eq_true (by unfold big; omega), if_pos rfl]
  rfl
theorem mut_val {s0 x2 x3 x4 x5 x6 x8 x9 x10 x11 x12 x13 x14 x15 x16 x17 : Option Val} {cells : List Int} {text : Str} {B : Nat} {S : Store} (h : PenS S cells) (ht : shortT B text) (hB : B ≤ 50000) :
    ∃ (text' : Str) (y11 y12 : Option Val) (S' : Store), b_mut (LE s0 x2 x3 x4 x5 x6 (some (.str text)) x8 x9 x10 x11 x12 x13 x14 x15 x16 x17) S = .nx (LE s0 x2 x3 x4 x5 x6 (some (.str text')) x8 x9 x10 y11 y12 x13 x14 x15 x16 x17) S' ∧ PenS S' cells ∧ shortT (B + 1) text' := by
  have hl := ht.1
  obtain ⟨p, S1, p0, p1, e1, h1⟩ := sDraw (env := LE s0 x2 x3 x4 x5 x6 (some (.str text)) x8 x9 x10 x11 x12 x13 x14 x15 x16 x17) (S := S) (S1 := S) (n := mBin fAdd (mUn fLen (mLoc 7)) (mC (.int 1))) (many := (text.length : Nat) + 1) rfl (by
    refine mAdd_val (S1 := S) ?_ rfl
    rw [mUn_val (m := mLoc 7) (o := .val (.str text)) (S1 := S) rfl]
    show ofO S (if okLen text.length then vI text.length else none) = _
    rw [show okLen text.length = true from decide_eq_true (by unfold big; omega), if_pos rfl]
    rfl) h (by omega) (by omega)
  obtain ⟨v, S2, v0, v1, e2, h2⟩ := sDraw (env := LE s0 x2 x3 x4 x5 x6 (some (.str text)) x8 x9 x10 x11 x12 x13 x14 x15 x16 x17) (S := S1) (S1 := S1) (n := mC (.int 21)) (many := 21) rfl rfl h1 (by decide) (by decide)
  obtain ⟨c, hc, c128⟩ : ∃ c, atI signs.cps.toList v = some c ∧ c < 128 := by
    have hb : v.toNat < signs.cps.toList.length := by rw [signs_ok.1]; omega
    refine ⟨signs.cps.toList[v.toNat], ?_, signs_ok.2 _ (List.getElem_mem hb)⟩
    unfold atI ixN
    rw [if_pos v0, if_pos (by rw [signs_ok.1]; omega)]
    exact List.getElem?_eq_getElem hb
  have e3 : mBin fIx (mC (.str " 0123456789picks-\n\t_+")) (mCall r__law_draw (aCons (mLoc 1) (aCons (mC (.int 21)) aNil))) (LE s0 x2 x3 x4 x5 x6 (some (.str text)) x8 x9 x10 x11 x12 x13 x14 x15 x16 x17) S1 = .ok (.val (.str ⟨#[c]⟩)) S2 := by
    show mBin fIx (mC (.str signs)) _ _ _ = _
    rw [mBin_val (m := mC (.str signs)) (o := .val (.str signs)) (S1 := S1) rfl e2]
    show ofO S2 (if okLen signs.length then (atI signs.cps.toList v).map (fun c => Opd.val (.str ⟨#[c]⟩)) else none) = _
    rw [hc, show okLen signs.length = true by decide +kernel]; rfl
  have eP : sPar 12 11 (aCons (mCall r__law_draw (aCons (mLoc 1) (aCons (mBin fAdd (mUn fLen (mLoc 7)) (mC (.int 1))) aNil))) (aCons (mBin fIx (mC (.str " 0123456789picks-\n\t_+")) (mCall r__law_draw (aCons (mLoc 1) (aCons (mC (.int 21)) aNil)))) aNil)) (LE s0 x2 x3 x4 x5 x6 (some (.str text)) x8 x9 x10 x11 x12 x13 x14 x15 x16 x17) S =
      .nx (LE s0 x2 x3 x4 x5 x6 (some (.str text)) x8 x9 x10 (some (.str ⟨#[c]⟩)) (some (.int p)) x13 x14 x15 x16 x17) S2 := by
    unfold sPar
    rw [aCons_val e1 (aCons_val e3 aNil_val)]
    rfl
  unfold b_mut
  rw [sSeq_nx eP]
  obtain ⟨u, S3, u0, u1, e4, h3⟩ := sDraw (env := LE s0 x2 x3 x4 x5 x6 (some (.str text)) x8 x9 x10 (some (.str ⟨#[c]⟩)) (some (.int p)) x13 x14 x15 x16 x17) (S := S2) (S1 := S2) (n := mC (.int 5)) (many := 5) rfl rfl h2 (by decide) (by decide)
  obtain ⟨sg, hsg, sg1⟩ : ∃ sg : Str, mIf (mBin fEq (mCall r__law_draw (aCons (mLoc 1) (aCons (mC (.int 5)) aNil))) (mC (.int 0))) (mC (.str "")) (mLoc 11) (LE s0 x2 x3 x4 x5 x6 (some (.str text)) x8 x9 x10 (some (.str ⟨#[c]⟩)) (some (.int p)) x13 x14 x15 x16 x17) S2 = .ok (.val (.str sg)) S3 ∧ shortT 1 sg := by
    have et : mBin fEq (mCall r__law_draw (aCons (mLoc 1) (aCons (mC (.int 5)) aNil))) (mC (.int 0)) (LE s0 x2 x3 x4 x5 x6 (some (.str text)) x8 x9 x10 (some (.str ⟨#[c]⟩)) (some (.int p)) x13 x14 x15 x16 x17) S2 = .ok (.val (.bl (decide (u = 0)))) S3 := by
      rw [mBin_val e4 (n := mC (.int 0)) (o' := .val (.int 0)) (S2 := S3) rfl, fEq_int]; rfl
    cases hu : decide (u = 0) with
    | true =>
      rw [hu] at et
      exact ⟨"", by rw [mIf_val et]; rfl, by decide, by decide⟩
    | false =>
      rw [hu] at et
      exact ⟨⟨#[c]⟩, by rw [mIf_val et]; rfl, Nat.le_refl 1, fun x hx => by
        have : x = c := by simpa [TL.tl] using hx
        rw [this]; exact c128⟩
  rw [sSeq_nx (sAsg_val hsg)]
  show ∃ text' y11 y12 S', sSeq _ _ (LE s0 x2 x3 x4 x5 x6 (some (.str text)) x8 x9 x10 (some (.str sg)) (some (.int p)) x13 x14 x15 x16 x17) S3 = _ ∧ _
  obtain ⟨w, S4, w0, w1, e5, h4⟩ := sDraw (env := LE s0 x2 x3 x4 x5 x6 (some (.str text)) x8 x9 x10 (some (.str sg)) (some (.int p)) x13 x14 x15 x16 x17) (S := S3) (S1 := S3) (n := mC (.int 2)) (many := 2) rfl rfl h3 (by decide) (by decide)
  have s1 : mSl (mLoc 7) (mC .non) (mUn fInt (mLoc 12)) (LE s0 x2 x3 x4 x5 x6 (some (.str text)) x8 x9 x10 (some (.str sg)) (some (.int p)) x13 x14 x15 x16 x17) S3 = .ok (.val (.str (cutS text none (some p)))) S3 :=
    slice_str (S1 := S3) (S2 := S3) (b := .val .non) (c := .val (.int p)) rfl rfl rfl rfl rfl (by omega)
  have s2 : mSl (mLoc 7) (mUn fInt (mBin fAdd (mLoc 12) (mCall r__law_draw (aCons (mLoc 1) (aCons (mC (.int 2)) aNil))))) (mC .non) (LE s0 x2 x3 x4 x5 x6 (some (.str text)) x8 x9 x10 (some (.str sg)) (some (.int p)) x13 x14 x15 x16 x17) S3 = .ok (.val (.str (cutS text (some (p + w)) none))) S4 :=
    slice_str (S1 := S3) (S2 := S4) (b := .val (.int (p + w))) (c := .val .non) rfl (by
      rw [mUn_val (mAdd_val (m := mLoc 12) (i := p) (S1 := S3) rfl e5)]; rfl) rfl rfl rfl (by omega)
  have hsum := cut_sum (z := text) (p := p) (w := w) p0 (by omega) w0
  have hs1 := sg1.1
  have ea := addS_val (addS_val s1 (n := mLoc 11) (y := sg) (S2 := S3) rfl (by omega)) s2 (by rw [Str.length_append]; omega)
  refine ⟨cutS text none (some p) ++ sg ++ cutS text (some (p + w)) none, some (.str sg), some (.int p), S4, ?_, h4, ?_, fun x hx => ?_⟩
  · rw [sSeq_nx (sAsg_val ea)]; rfl
  · rw [Str.length_append, Str.length_append]; omega
  · rw [TL.tl_append, TL.tl_append] at hx
    rcases List.mem_append.mp hx with hx | hx
    · rcases List.mem_append.mp hx with hx | hx
      · exact cut_chars ht x hx
      · exact sg1.2 x hx
    · exact cut_chars ht x hx
theorem muts_val {s0 x2 x3 x4 x5 x6 x8 x9 x10 x11 x12 x13 x14 x15 x16 x17 : Option Val} {cells : List Int} {text : Str} {n : Nat} {S : Store} (h : PenS S cells) (ht : shortT 9000 text) (hn : n ≤ 2) :
    ∃ (text' : Str) (y5 y11 y12 : Option Val) (S' : Store), loopF (.nm 5) b_mut none (rangeL 0 n) (LE s0 x2 x3 x4 x5 x6 (some (.str text)) x8 x9 x10 x11 x12 x13 x14 x15 x16 x17) S = .nx (LE s0 x2 x3 x4 y5 x6 (some (.str text')) x8 x9 x10 y11 y12 x13 x14 x15 x16 x17) S' ∧ PenS S' cells ∧ shortT 9002 text' := by
  have := loopF_ind (t := .nm 5) (body := b_mut) (live := none) (fun ds env S' => ∃ (text' : Str) (y5 y11 y12 : Option Val) (B : Nat), env = LE s0 x2 x3 x4 y5 x6 (some (.str text')) x8 x9 x10 y11 y12 x13 x14 x15 x16 x17 ∧ PenS S' cells ∧ shortT B text' ∧ B + ds.length = 9000 + n)
    (fun _ => False) (fun _ _ _ _ => liveOk_none) (fun d ds env S' ⟨text', y5, y11, y12, B, e, hp, hs, hz⟩ => by
      subst e
      rw [List.length_cons] at hz
      obtain ⟨t2, z11, z12, S2, e2, hp2, hs2⟩ := mut_val (s0 := s0) (x2 := x2) (x3 := x3) (x4 := x4) (x5 := some d) (x6 := x6) (x8 := x8) (x9 := x9) (x10 := x10) (x11 := y11) (x12 := y12) (x13 := x13) (x14 := x14) (x15 := x15) (x16 := x16) (x17 := x17) hp hs (by omega)
      exact ⟨_, rfl, .inl ⟨_, S2, e2, t2, some d, z11, z12, B + 1, rfl, hp2, hs2, by omega⟩⟩)
    (rangeL 0 n) _ S ⟨text, x5, x11, x12, 9000, rfl, h, ht, by unfold rangeL; simp⟩
  rcases this with ⟨e, S', q, text', y5, y11, y12, B, rfl, hp, hs, hz⟩ | hf
  · exact ⟨text', y5, y11, y12, S', q, hp, by have := hs.1; simp at hz; omega, hs.2⟩
  · exact hf.elim
end Lk83
end MP

namespace MP
namespace Lk83
open PySem L2 PySem.Spec PyProof.Rows

theorem rng_val {m : MX} {env : Env} {S S1 : Store} {i : Int} (h : m env S = .ok (.val (.int i)) S1) (h0 : 0 ≤ i) (h1 : i < 1000000) : mRng1 m env S = .ok (rangeL 0 i.toNat) none S1 := by
  unfold mRng1
  rw [h]
  dsimp only
  rw [decide_eq_true (by omega), decide_eq_true (by omega)]
  rfl
theorem turn_val {s0 x2 x3 x4 x5 x6 x7 x8 x9 x10 x11 x12 x13 x14 x15 x16 x17 : Option Val} {cells : List Int} {S : Store} (h : PenS S cells) :
    ∃ (y3 y5 y6 y7 y9 y10 y11 y12 : Option Val) (S' : Store), b_turn (LE s0 x2 x3 x4 x5 x6 x7 x8 x9 x10 x11 x12 x13 x14 x15 x16 x17) S = .nx (LE s0 x2 y3 x4 y5 y6 y7 x8 y9 y10 y11 y12 x13 x14 x15 x16 x17) S' ∧ PenS S' cells := by
  unfold b_turn
  -- kept, cuts = draw, ()
  obtain ⟨kept, S1, k0, k5, e1, h1⟩ := sDraw (env := LE s0 x2 x3 x4 x5 x6 x7 x8 x9 x10 x11 x12 x13 x14 x15 x16 x17) (S := S) (S1 := S) (n := mC (.int 5)) (many := 5) rfl rfl h (by decide) (by decide)
  have eP : sPar 3 9 (aCons (mCall r__law_draw (aCons (mLoc 1) (aCons (mC (.int 5)) aNil))) (aCons (mTup aNil) aNil)) (LE s0 x2 x3 x4 x5 x6 x7 x8 x9 x10 x11 x12 x13 x14 x15 x16 x17) S = .nx (LE s0 x2 (some (.int kept)) x4 x5 x6 x7 x8 (some (cutsV [])) x10 x11 x12 x13 x14 x15 x16 x17) S1 := by
    unfold sPar
    rw [aCons_val e1 (aCons_val (v := .tup []) (S1 := S1) (mTup_val (vs := []) aNil_val (by simp)) aNil_val)]
    rfl
  rw [sSeq_nx eP]
  -- the cuts
  obtain ⟨n, S2, n0, n9, e2, h2⟩ := sDraw (env := LE s0 x2 (some (.int kept)) x4 x5 x6 x7 x8 (some (cutsV [])) x10 x11 x12 x13 x14 x15 x16 x17) (S := S1) (S1 := S1) (n := mC (.int 9)) (many := 9) rfl rfl h1 (by decide) (by decide)
  obtain ⟨cs, y5, y10, S3, e3, h3, hc, hn⟩ := laps_val (s0 := s0) (x2 := x2) (x4 := x4) (x5 := x5) (x6 := x6) (x7 := x7) (x8 := x8) (x10 := x10) (x11 := x11) (x12 := x12) (x13 := x13) (x14 := x14) (x15 := x15) (x16 := x16) (x17 := x17) (n := n.toNat) h2 k0 k5 (by omega)
  rw [sSeq_nx ((sFor_val (rng_val e2 n0 (by omega))).trans e3)]
  have hco : ∀ c ∈ cs, cutOk c = true := fun c hcm => cells_cut k5 (hc c hcm)
  -- rows
  have e4 := rows_val (env := LE s0 x2 (some (.int kept)) x4 y5 x6 x7 x8 (some (cutsV cs)) y10 x11 x12 x13 x14 x15 x16 x17) (S := S3) rfl rfl hco hn
  rw [sSeq_nx (sAsg_new e4)]
  have h4 : PenS ((S3 ++ cs.map rowO) ++ [Obj.lst (refsL S3.length cs.length)]) cells := (h3.push _).push _
  show ∃ y3 y5' y6 y7 y9 y10' y11 y12 S', sSeq _ _ (LE s0 x2 (some (.int kept)) x4 y5 (some (.ref (S3 ++ cs.map rowO).length)) x7 x8 (some (cutsV cs)) y10 x11 x12 x13 x14 x15 x16 x17) _ = _ ∧ _
  have hr : ((S3 ++ cs.map rowO) ++ [Obj.lst (refsL S3.length cs.length)])[(S3 ++ cs.map rowO).length]? = some (.lst (refsL S3.length cs.length)) := get_end
  have hrow : ∀ j c, cs[j]? = some c → ((S3 ++ cs.map rowO) ++ [Obj.lst (refsL S3.length cs.length)])[S3.length + j]? = some (rowO c) := fun j c hj => by
    refine get_push ?_
    rw [List.getElem?_append_right (by omega), Nat.add_sub_cancel_left, List.getElem?_map, hj]; rfl
  generalize (S3 ++ cs.map rowO).length = r at hr ⊢
  generalize (S3 ++ cs.map rowO) ++ [Obj.lst (refsL S3.length cs.length)] = S4 at hr hrow h4 ⊢
  -- text
  have e5 := text_val (S0 := S3) (env := LE s0 x2 (some (.int kept)) x4 y5 (some (.ref r)) x7 x8 (some (cutsV cs)) y10 x11 x12 x13 x14 x15 x16 x17) rfl rfl hr hrow hco hn
  rw [sSeq_nx (sAsg_val e5)]
  show ∃ y3 y5' y6 y7 y9 y10' y11 y12 S', sSeq _ _ (LE s0 x2 (some (.int kept)) x4 y5 (some (.ref r)) (some (.str (fmt cs))) x8 (some (cutsV cs)) y10 x11 x12 x13 x14 x15 x16 x17) S4 = _ ∧ _
  have hsh := fmt_short k5 hc hn
  have htx := txt_short hsh (by omega)
  have hall : cs.all cutOk = true := List.all_eq_true.mpr hco
  -- the first test
  have t1 : mOr (mBin fNe (mCall r_format_cuts (aCons (mLoc 9) aNil)) (mLoc 7)) (mBin fNe (mUn fRepr (mCall r_parse_cuts (aCons (mLoc 7) (aCons (mLoc 3) aNil)))) (mUn fRepr (mLoc 9))) (LE s0 x2 (some (.int kept)) x4 y5 (some (.ref r)) (some (.str (fmt cs))) x8 (some (cutsV cs)) y10 x11 x12 x13 x14 x15 x16 x17) S4 = .ok (.val (.bl (false || false))) S4 := by
    refine mOr_val ?_ fun _ => ?_
    · have ef : mCall r_format_cuts (aCons (mLoc 9) aNil) (LE s0 x2 (some (.int kept)) x4 y5 (some (.ref r)) (some (.str (fmt cs))) x8 (some (cutsV cs)) y10 x11 x12 x13 x14 x15 x16 x17) S4 = .ok (.val (.str (fmt cs))) S4 :=
        (mCall_val (aCons_val (m := mLoc 9) (v := cutsV cs) (S1 := S4) rfl aNil_val)).trans (r_format_V hall (by omega))
      rw [mBin_val ef (n := mLoc 7) (o' := .val (.str (fmt cs))) (S2 := S4) rfl, fNe_str (txt_ok htx).1 (txt_ok htx).1, show (fmt cs == fmt cs) = true by simp]
      rfl
    · have ep : mCall r_parse_cuts (aCons (mLoc 7) (aCons (mLoc 3) aNil)) (LE s0 x2 (some (.int kept)) x4 y5 (some (.ref r)) (some (.str (fmt cs))) x8 (some (cutsV cs)) y10 x11 x12 x13 x14 x15 x16 x17) S4 = .ok (.val (cutsV cs)) S4 := by
        rw [mCall_val (aCons_val (m := mLoc 7) (v := .str (fmt cs)) (S1 := S4) rfl (aCons_val (m := mLoc 3) (v := .int kept) (S1 := S4) rfl aNil_val)), parse_val htx, parse_fmt hc hn]
      have er := repr_val (S := S4) hall hn
      rw [mBin_val (o := .val (.str (PyData.shown (.tuple (cs.map cutD))))) (S1 := S4) (o' := .val (.str (PyData.shown (.tuple (cs.map cutD))))) (S2 := S4) (by rw [mUn_val ep, er]; rfl) (by rw [mUn_val (m := mLoc 9) (o := .val (cutsV cs)) (S1 := S4) rfl, er]; rfl),
        fNe_str (strOk_short (shown_cuts hall hn)) (strOk_short (shown_cuts hall hn)), show ∀ z : Str, (z == z) = true from fun z => by simp]
      rfl
  rw [sSeq_nx (e := LE s0 x2 (some (.int kept)) x4 y5 (some (.ref r)) (some (.str (fmt cs))) x8 (some (cutsV cs)) y10 x11 x12 x13 x14 x15 x16 x17) (S1 := S4) (by rw [sIf_val t1]; rfl)]
  -- the second
  have km : 0 ≤ (kept + 1) % 5 ∧ (kept + 1) % 5 < 5 := ⟨Int.emod_nonneg _ (by decide), Int.emod_lt_of_pos _ (by decide)⟩
  have ek : mBin fMod (mBin fAdd (mLoc 3) (mC (.int 1))) (mC (.int 5)) (LE s0 x2 (some (.int kept)) x4 y5 (some (.ref r)) (some (.str (fmt cs))) x8 (some (cutsV cs)) y10 x11 x12 x13 x14 x15 x16 x17) S4 = .ok (.val (.int ((kept + 1) % 5))) S4 :=
    mMod_val (mAdd_val (m := mLoc 3) (i := kept) (S1 := S4) rfl (n := mC (.int 1)) rfl) (n := mC (.int 5)) rfl (by decide)
  have t2 : mBin fNe (mCall r__law_raised (aCons (mLoc 7) (aCons (mBin fMod (mBin fAdd (mLoc 3) (mC (.int 1))) (mC (.int 5))) aNil))) (mCall r__law_due (aCons (mLoc 7) (aCons (mBin fMod (mBin fAdd (mLoc 3) (mC (.int 1))) (mC (.int 5))) aNil))) (LE s0 x2 (some (.int kept)) x4 y5 (some (.ref r)) (some (.str (fmt cs))) x8 (some (cutsV cs)) y10 x11 x12 x13 x14 x15 x16 x17) S4 = .ok (.val (.bl false)) S4 := by
    rw [mBin_val (raised_val (m := mLoc 7) (text := fmt cs) (S1 := S4) rfl ek htx (by omega)) (due_val (m := mLoc 7) (text := fmt cs) (S1 := S4) rfl ek htx km.1), dueV_same]
    rfl
  rw [sSeq_nx (e := LE s0 x2 (some (.int kept)) x4 y5 (some (.ref r)) (some (.str (fmt cs))) x8 (some (cutsV cs)) y10 x11 x12 x13 x14 x15 x16 x17) (S1 := S4) (by rw [sIf_val t2]; rfl)]
  -- the changes
  obtain ⟨m, S5, m0, m3, e6, h5⟩ := sDraw (env := LE s0 x2 (some (.int kept)) x4 y5 (some (.ref r)) (some (.str (fmt cs))) x8 (some (cutsV cs)) y10 x11 x12 x13 x14 x15 x16 x17) (S := S4) (S1 := S4) (n := mC (.int 3)) (many := 3) rfl rfl h4 (by decide) (by decide)
  obtain ⟨text', z5, y11, y12, S6, e7, h6, hs6⟩ := muts_val (s0 := s0) (x2 := x2) (x3 := some (.int kept)) (x4 := x4) (x5 := y5) (x6 := some (.ref r)) (x8 := x8) (x9 := some (cutsV cs)) (x10 := y10) (x11 := x11) (x12 := x12) (x13 := x13) (x14 := x14) (x15 := x15) (x16 := x16) (x17 := x17) (n := m.toNat) h5 hsh (by omega)
  rw [sSeq_nx ((sFor_val (rng_val e6 m0 (by omega))).trans e7)]
  have htx6 := txt_short hs6 (by omega)
  have t3 : mBin fNe (mCall r__law_raised (aCons (mLoc 7) (aCons (mLoc 3) aNil))) (mCall r__law_due (aCons (mLoc 7) (aCons (mLoc 3) aNil))) (LE s0 x2 (some (.int kept)) x4 z5 (some (.ref r)) (some (.str text')) x8 (some (cutsV cs)) y10 y11 y12 x13 x14 x15 x16 x17) S6 = .ok (.val (.bl false)) S6 := by
    rw [mBin_val (raised_val (m := mLoc 7) (n := mLoc 3) (text := text') (kept := kept) (S1 := S6) (S2 := S6) rfl rfl htx6 (by omega)) (due_val (m := mLoc 7) (n := mLoc 3) (text := text') (kept := kept) (S1 := S6) (S2 := S6) rfl rfl htx6 k0), dueV_same]
    rfl
  exact ⟨some (.int kept), z5, some (.ref r), some (.str text'), some (cutsV cs), y10, y11, y12, S6, by
    rw [sSeq_nx (e := LE s0 x2 (some (.int kept)) x4 z5 (some (.ref r)) (some (.str text')) x8 (some (cutsV cs)) y10 y11 y12 x13 x14 x15 x16 x17) (S1 := S6) (by rw [sIf_val t3]; rfl)]
    rfl, h6⟩
theorem turns_val {s0 x2 x3 x4 x5 x6 x7 x8 x9 x10 x11 x12 x13 x14 x15 x16 x17 : Option Val} {cells : List Int} {S : Store} {n : Nat} (h : PenS S cells) :
    ∃ (y2 y3 y5 y6 y7 y9 y10 y11 y12 : Option Val) (S' : Store), loopF (.nm 2) b_turn none (rangeL 0 n) (LE s0 x2 x3 x4 x5 x6 x7 x8 x9 x10 x11 x12 x13 x14 x15 x16 x17) S = .nx (LE s0 y2 y3 x4 y5 y6 y7 x8 y9 y10 y11 y12 x13 x14 x15 x16 x17) S' ∧ PenS S' cells := by
  have := loopF_ind (t := .nm 2) (body := b_turn) (live := none) (fun ds env S' => ∃ y2 y3 y5 y6 y7 y9 y10 y11 y12 : Option Val, env = LE s0 y2 y3 x4 y5 y6 y7 x8 y9 y10 y11 y12 x13 x14 x15 x16 x17 ∧ PenS S' cells) (fun _ => False) (fun _ _ _ _ => liveOk_none)
    (fun d ds env S' ⟨y2, y3, y5, y6, y7, y9, y10, y11, y12, e, hp⟩ => by
      subst e
      obtain ⟨z3, z5, z6, z7, z9, z10, z11, z12, S2, e2, hp2⟩ := turn_val (s0 := s0) (x2 := some d) (x3 := y3) (x4 := x4) (x5 := y5) (x6 := y6) (x7 := y7) (x8 := x8) (x9 := y9) (x10 := y10) (x11 := y11) (x12 := y12) (x13 := x13) (x14 := x14) (x15 := x15) (x16 := x16) (x17 := x17) hp
      exact ⟨_, rfl, .inl ⟨_, S2, e2, some d, z3, z5, z6, z7, z9, z10, z11, z12, rfl, hp2⟩⟩)
    (rangeL 0 n) _ S ⟨x2, x3, x5, x6, x7, x9, x10, x11, x12, rfl, h⟩
  rcases this with ⟨e, S', q, y2, y3, y5, y6, y7, y9, y10, y11, y12, rfl, hp⟩ | hf
  · exact ⟨y2, y3, y5, y6, y7, y9, y10, y11, y12, S', q, hp⟩
  · exact hf.elim
end Lk83
end MP

namespace MP
namespace Lk83
open PySem L2 PySem.Spec PyProof.Rows

theorem mulS_val {m n : MX} {env : Env} {S S1 S2 : Store} {z : Str} {k : Int} (h : m env S = .ok (.val (.str z)) S1) (h2 : n env S1 = .ok (.val (.int k)) S2) (h3 : z.length * k.toNat ≤ 1000000) (h4 : k < 1000000) (h5 : -1000000 < k) : mBin fMul m n env S = .ok (.val (.str (Txt.mul z k))) S2 := by
  rw [mBin_val h h2]
  show ofO S2 (if okLen (z.length * k.toNat) && decide (k < 1000000) && decide (-1000000 < k) then vS (Txt.mul z k) else none) = _
  rw [show okLen (z.length * k.toNat) = true from decide_eq_true (by unfold big; omega), decide_eq_true h4, decide_eq_true h5]
  rfl
theorem line_len : (List.range 5).all (fun k => decide ((Txt.mul " 64" (k : Int)).length ≤ 100) && decide ((lineK k).length ≤ 200)) = true := by decide +kernel
theorem kept_val {s0 x2 x4 x5 x6 x7 x8 x9 x10 x11 x12 x13 x14 x15 x16 x17 : Option Val} {j : Nat} {S : Store} (hj : j < 5) :
    ∃ y8 : Option Val, b_kept (LE s0 x2 (some (.int (j : Nat))) x4 x5 x6 x7 x8 x9 x10 x11 x12 x13 x14 x15 x16 x17) S = .nx (LE s0 x2 (some (.int (j : Nat))) x4 x5 x6 x7 y8 x9 x10 x11 x12 x13 x14 x15 x16 x17) S := by
  have hl := List.all_eq_true.mp line_len j (List.mem_range.mpr hj)
  simp only [Bool.and_eq_true, decide_eq_true_eq] at hl
  obtain ⟨l1, l2⟩ := hl
  obtain ⟨p1, p2, p3, p4⟩ := loop8 hj
  have e64 : ((" 64" : Str)).length = 3 := by decide
  have e8 : (("64 picks" : Str)).length = 8 := by decide
  have e1 : (("\n" : Str)).length = 1 := by decide
  have el : mBin fAdd (mBin fAdd (mC (.str "64 picks")) (mBin fMul (mC (.str " 64")) (mLoc 3))) (mC (.str "\n")) (LE s0 x2 (some (.int (j : Nat))) x4 x5 x6 x7 x8 x9 x10 x11 x12 x13 x14 x15 x16 x17) S = .ok (.val (.str (lineK j))) S :=
    addS_val (addS_val (m := mC (.str "64 picks")) (x := "64 picks") (S1 := S) rfl (mulS_val (m := mC (.str " 64")) (z := " 64") (n := mLoc 3) (k := (j : Nat)) (S1 := S) (S2 := S) rfl rfl (by rw [e64]; omega) (by omega) (by omega)) (by rw [e8]; omega)) (n := mC (.str "\n")) (y := "\n") (S2 := S) rfl (by rw [Str.length_append, e8, e1]; omega)
  unfold b_kept
  rw [sSeq_nx (sAsg_val el)]
  show ∃ y8, sSeq _ _ (LE s0 x2 (some (.int (j : Nat))) x4 x5 x6 x7 (some (.str (lineK j))) x9 x10 x11 x12 x13 x14 x15 x16 x17) S = _
  have m8 : mBin fMul (mLoc 8) (mC (.int 8)) (LE s0 x2 (some (.int (j : Nat))) x4 x5 x6 x7 (some (.str (lineK j))) x9 x10 x11 x12 x13 x14 x15 x16 x17) S = .ok (.val (.str (Txt.mul (lineK j) 8))) S :=
    mulS_val (m := mLoc 8) (z := lineK j) (n := mC (.int 8)) (k := 8) (S1 := S) (S2 := S) rfl rfl (by show (lineK j).length * 8 ≤ 1000000; omega) (by decide) (by decide)
  have m9 : mBin fMul (mLoc 8) (mC (.int 9)) (LE s0 x2 (some (.int (j : Nat))) x4 x5 x6 x7 (some (.str (lineK j))) x9 x10 x11 x12 x13 x14 x15 x16 x17) S = .ok (.val (.str (Txt.mul (lineK j) 9))) S :=
    mulS_val (m := mLoc 8) (z := lineK j) (n := mC (.int 9)) (k := 9) (S1 := S) (S2 := S) rfl rfl (by show (lineK j).length * 9 ≤ 1000000; omega) (by decide) (by decide)
  have r8 := raised_val (n := mLoc 3) (kept := (j : Nat)) (S2 := S) m8 rfl p3 (by omega)
  have r9 := raised_val (n := mLoc 3) (kept := (j : Nat)) (S2 := S) m9 rfl p4 (by omega)
  have d8 : dueV (Txt.mul (lineK j) 8) (j : Nat) = .non := by unfold dueV; rw [p1]
  have d9 : dueV (Txt.mul (lineK j) 9) (j : Nat) = .int 8 := by unfold dueV; rw [p2]; rfl
  rw [d8] at r8
  rw [d9] at r9
  have t : mOr (mUn fNotN (mCall r__law_raised (aCons (mBin fMul (mLoc 8) (mC (.int 8))) (aCons (mLoc 3) aNil)))) (mBin fNe (mCall r__law_raised (aCons (mBin fMul (mLoc 8) (mC (.int 9))) (aCons (mLoc 3) aNil))) (mC (.int 8))) (LE s0 x2 (some (.int (j : Nat))) x4 x5 x6 x7 (some (.str (lineK j))) x9 x10 x11 x12 x13 x14 x15 x16 x17) S = .ok (.val (.bl (false || false))) S := by
    refine mOr_val ?_ fun _ => ?_
    · rw [mUn_val r8]; rfl
    · rw [mBin_val r9 (n := mC (.int 8)) (o' := .val (.int 8)) (S2 := S) rfl, fNe_int]; rfl
  exact ⟨some (.str (lineK j)), by
    rw [sSeq_nx (e := LE s0 x2 (some (.int (j : Nat))) x4 x5 x6 x7 (some (.str (lineK j))) x9 x10 x11 x12 x13 x14 x15 x16 x17) (S1 := S) (by rw [sIf_val t]; rfl)]
    rfl⟩
theorem kepts_val {s0 x2 x3 x4 x5 x6 x7 x8 x9 x10 x11 x12 x13 x14 x15 x16 x17 : Option Val} {S : Store} :
    ∃ y3 y8 : Option Val, loopF (.nm 3) b_kept none (rangeL 0 5) (LE s0 x2 x3 x4 x5 x6 x7 x8 x9 x10 x11 x12 x13 x14 x15 x16 x17) S = .nx (LE s0 x2 y3 x4 x5 x6 x7 y8 x9 x10 x11 x12 x13 x14 x15 x16 x17) S := by
  have := loopF_ind (t := .nm 3) (body := b_kept) (live := none) (fun ds env S' => S' = S ∧ (∀ d ∈ ds, ∃ j : Nat, d = .int (j : Nat) ∧ j < 5) ∧ ∃ y3 y8 : Option Val, env = LE s0 x2 y3 x4 x5 x6 x7 y8 x9 x10 x11 x12 x13 x14 x15 x16 x17) (fun _ => False) (fun _ _ _ _ => liveOk_none)
    (fun d ds env S' ⟨e0, hd, y3, y8, e⟩ => by
      subst e0 e
      obtain ⟨j, rfl, hj⟩ := hd d List.mem_cons_self
      obtain ⟨z8, e2⟩ := kept_val (s0 := s0) (x2 := x2) (x4 := x4) (x5 := x5) (x6 := x6) (x7 := x7) (x8 := y8) (x9 := x9) (x10 := x10) (x11 := x11) (x12 := x12) (x13 := x13) (x14 := x14) (x15 := x15) (x16 := x16) (x17 := x17) (S := S') hj
      exact ⟨_, rfl, .inl ⟨_, S', e2, rfl, fun d h => hd d (List.mem_cons_of_mem _ h), some (.int (j : Nat)), z8, rfl⟩⟩)
    (rangeL 0 5) _ S ⟨rfl, fun d hd => by
      unfold rangeL at hd
      obtain ⟨n, hn, rfl⟩ := List.mem_map.mp hd
      exact ⟨n, by rw [Int.zero_add], List.mem_range.mp hn⟩, x3, x8, rfl⟩
  rcases this with ⟨e, S', q, rfl, _, y3, y8, rfl⟩ | hf
  · exact ⟨y3, y8, q⟩
  · exact hf.elim
end Lk83
end MP

namespace MP
namespace Lk83
open PySem L2 PySem.Spec PyProof.Rows

def fxV (e : Str × Int × Val) : Val := .tup [.str e.1, .int e.2.1, e.2.2]
theorem tup3_val {m : MX} {env : Env} {S : Store} {t : Str} {k : Int} {v : Val} (h : m env S = .ok (.val (.str t)) S) : mTup (aCons m (aCons (mC (.int k)) (aCons (mC v) aNil))) env S = .ok (.val (fxV (t, k, v))) S :=
  mTup_val (vs := [.str t, .int k, v]) (aCons_val h (aCons_val rfl (aCons_val rfl aNil_val))) (by simp)
theorem more_val {env : Env} {S : Store} {as : MAs} {r : Nat} {L M : List (Str × Int × Val)} (h4 : env[4]? = some (some (.ref r))) (hr : S[r]? = some (.lst (L.map fxV))) (h : as env S = .ok (M.map fxV) S) (hl : L.length + M.length ≤ 100) :
    sAsg (.nm 4) (mBin fAdd (mLoc 4) (mLst as)) env S = .nx (env.set 4 (some (.ref S.length))) (S ++ [.lst ((L ++ M).map fxV)]) := by
  refine sAsg_new ?_
  rw [mBin_val (mLoc_val h4) (mLst_val h (by rw [List.length_map]; omega))]
  show ofO S (match rdL S (.val (.ref r)), rdL S (.new (.lst (M.map fxV))) with
    | some xs, some ys => if okLen (xs.length + ys.length) then some (.new (.lst (xs ++ ys))) else none
    | _, _ => none) = _
  rw [rdL_ref hr]
  show ofO S (if okLen ((L.map fxV).length + (M.map fxV).length) then some (.new (.lst (L.map fxV ++ M.map fxV))) else none) = _
  rw [show okLen ((L.map fxV).length + (M.map fxV).length) = true from decide_eq_true (by rw [List.length_map, List.length_map]; unfold big; omega), if_pos rfl, List.map_append]
  rfl
def F3 : List (Str × Int × Val) := [("", 0, .non), (Txt.mul "0 picks\n" 8, 0, .non), (Txt.mul "0 picks\n" 9, 0, .int 8), ("65 picks\n", 0, .int 0)]
def F4 : List (Str × Int × Val) := [("0 picks 65\n", 1, .int 0), ("0 picks", 0, .int 0)]
def F5 : List (Str × Int × Val) := [("0 picks\n0", 0, .int 1), ("0 picks 0\n1 picks\n", 1, .int 1), ("0 picks 00\n", 1, .int 0)]
def F6 : List (Str × Int × Val) := [(Txt.mul "0 picks\n" 10, 0, .int 8), (Txt.mul "0 picks\n" 9 ++ "x\n", 0, .int 8), (Txt.mul "0 picks\n" 9 ++ "0", 0, .int 8)]
def F7 : List (Str × Int × Val) := [("3 5 picks\n", 1, .int 0), ("picks 3 5\n", 1, .int 0)]
def F8 : List (Str × Int × Val) := [(Txt.mul "1" 4400 ++ " picks\n", 0, .int 0), ("0 picks " ++ Txt.mul "0" 4400 ++ "\n", 1, .int 0), ("0 picks \n", 0, .int 0)]
def FX : List (Str × Int × Val) := ((((F3 ++ F4) ++ F5) ++ F6) ++ F7) ++ F8
theorem len_p : ("0 picks\n" : Str).length = 8 := by decide
theorem mulP {env : Env} {S : Store} {k : Int} (h0 : 0 ≤ k) (h1 : k ≤ 100) : mBin fMul (mC (.str "0 picks\n")) (mC (.int k)) env S = .ok (.val (.str (Txt.mul "0 picks\n" k))) S :=
  mulS_val (m := mC (.str "0 picks\n")) (n := mC (.int k)) (S1 := S) (S2 := S) rfl rfl (by rw [len_p]; omega) (by omega) (by omega)
theorem len_mul9 : (Txt.mul "0 picks\n" 9).length = 72 := by decide +kernel
theorem fix_all {env : Env} {S : Store} (hl : env.length = 18) : ∃ (r : Nat) (env' : Env) (S' : Store), env' = env.set 4 (some (.ref r)) ∧ S'[r]? = some (.lst (FX.map fxV)) ∧ ∀ t : MS, sSeq t_fix3 (sSeq t_fix4 (sSeq t_fix5 (sSeq t_fix6 (sSeq t_fix7 (sSeq t_fix8 t))))) env S = t env' S' := by
  have e3 : t_fix3 env S = .nx (env.set 4 (some (.ref S.length))) (S ++ [.lst (F3.map fxV)]) :=
    sAsg_new (mLst_val (vs := F3.map fxV) (aCons_val (tup3_val (m := mC (.str "")) rfl) (aCons_val (tup3_val (mulP (by decide) (by decide))) (aCons_val (tup3_val (mulP (by decide) (by decide))) (aCons_val (tup3_val (m := mC (.str "65 picks\n")) rfl) aNil_val)))) (by simp [F3]))
  have g3 : (S ++ [Obj.lst (F3.map fxV)])[S.length]? = some (.lst (F3.map fxV)) := get_end
  generalize S ++ [Obj.lst (F3.map fxV)] = S3 at e3 g3
  have a3 : (env.set 4 (some (.ref S.length)))[4]? = some (some (.ref S.length)) := List.getElem?_set_self (by omega)
  have e4 : t_fix4 (env.set 4 (some (.ref S.length))) S3 = _ := more_val (M := F4) a3 g3 (aCons_val (tup3_val (m := mC (.str "0 picks 65\n")) rfl) (aCons_val (tup3_val (m := mC (.str "0 picks")) rfl) aNil_val)) (by decide)
  rw [List.set_set] at e4
  have g4 : (S3 ++ [Obj.lst ((F3 ++ F4).map fxV)])[S3.length]? = some (.lst ((F3 ++ F4).map fxV)) := get_end
  generalize S3 ++ [Obj.lst ((F3 ++ F4).map fxV)] = S4 at e4 g4
  have a4 : (env.set 4 (some (.ref S3.length)))[4]? = some (some (.ref S3.length)) := List.getElem?_set_self (by omega)
  have e5 : t_fix5 (env.set 4 (some (.ref S3.length))) S4 = _ := more_val (M := F5) a4 g4 (aCons_val (tup3_val (m := mC (.str "0 picks\n0")) rfl) (aCons_val (tup3_val (m := mC (.str "0 picks 0\n1 picks\n")) rfl) (aCons_val (tup3_val (m := mC (.str "0 picks 00\n")) rfl) aNil_val))) (by decide)
  rw [List.set_set] at e5
  have g5 : (S4 ++ [Obj.lst (((F3 ++ F4) ++ F5).map fxV)])[S4.length]? = some (.lst (((F3 ++ F4) ++ F5).map fxV)) := get_end
  generalize S4 ++ [Obj.lst (((F3 ++ F4) ++ F5).map fxV)] = S5 at e5 g5
  have a5 : (env.set 4 (some (.ref S4.length)))[4]? = some (some (.ref S4.length)) := List.getElem?_set_self (by omega)
  have e6 : t_fix6 (env.set 4 (some (.ref S4.length))) S5 = _ := more_val (M := F6) a5 g5 (aCons_val (tup3_val (mulP (by decide) (by decide))) (aCons_val (tup3_val (addS_val (mulP (by decide) (by decide)) (n := mC (.str "x\n")) (y := "x\n") (S2 := S5) rfl (by rw [len_mul9]; decide))) (aCons_val (tup3_val (addS_val (mulP (by decide) (by decide)) (n := mC (.str "0")) (y := "0") (S2 := S5) rfl (by rw [len_mul9]; decide))) aNil_val))) (by decide)
  rw [List.set_set] at e6
  have g6 : (S5 ++ [Obj.lst ((((F3 ++ F4) ++ F5) ++ F6).map fxV)])[S5.length]? = some (.lst ((((F3 ++ F4) ++ F5) ++ F6).map fxV)) := get_end
  generalize S5 ++ [Obj.lst ((((F3 ++ F4) ++ F5) ++ F6).map fxV)] = S6 at e6 g6
  have a6 : (env.set 4 (some (.ref S5.length)))[4]? = some (some (.ref S5.length)) := List.getElem?_set_self (by omega)
  have e7 : t_fix7 (env.set 4 (some (.ref S5.length))) S6 = _ := more_val (M := F7) a6 g6 (aCons_val (tup3_val (m := mC (.str "3 5 picks\n")) rfl) (aCons_val (tup3_val (m := mC (.str "picks 3 5\n")) rfl) aNil_val)) (by decide)
  rw [List.set_set] at e7
  have g7 : (S6 ++ [Obj.lst (((((F3 ++ F4) ++ F5) ++ F6) ++ F7).map fxV)])[S6.length]? = some (.lst (((((F3 ++ F4) ++ F5) ++ F6) ++ F7).map fxV)) := get_end
  generalize S6 ++ [Obj.lst (((((F3 ++ F4) ++ F5) ++ F6) ++ F7).map fxV)] = S7 at e7 g7
  have a7 : (env.set 4 (some (.ref S6.length)))[4]? = some (some (.ref S6.length)) := List.getElem?_set_self (by omega)
  have l1 : (Txt.mul "1" 4400).length = 4400 := long_of tl_ones
  have l0 : (Txt.mul "0" 4400).length = 4400 := long_of tl_zeros
  have m1 : mBin fMul (mC (.str "1")) (mC (.int 4400)) (env.set 4 (some (.ref S6.length))) S7 = .ok (.val (.str (Txt.mul "1" 4400))) S7 := mulS_val (m := mC (.str "1")) (n := mC (.int 4400)) (S1 := S7) (S2 := S7) rfl rfl (by rw [show ("1" : Str).length = 1 by decide]; decide) (by decide) (by decide)
  have m0 : mBin fMul (mC (.str "0")) (mC (.int 4400)) (env.set 4 (some (.ref S6.length))) S7 = .ok (.val (.str (Txt.mul "0" 4400))) S7 := mulS_val (m := mC (.str "0")) (n := mC (.int 4400)) (S1 := S7) (S2 := S7) rfl rfl (by rw [show ("0" : Str).length = 1 by decide]; decide) (by decide) (by decide)
  have p1 := addS_val m1 (n := mC (.str " picks\n")) (y := " picks\n") (S2 := S7) rfl (by rw [l1]; decide)
  have p0 := addS_val (addS_val (m := mC (.str "0 picks ")) (x := "0 picks ") (S1 := S7) rfl m0 (by rw [l0]; decide)) (n := mC (.str "\n")) (y := "\n") (S2 := S7) rfl (by rw [Str.length_append, l0]; decide)
  have e8 : t_fix8 (env.set 4 (some (.ref S6.length))) S7 = _ := more_val (M := F8) a7 g7 (aCons_val (tup3_val p1) (aCons_val (tup3_val p0) (aCons_val (tup3_val (m := mC (.str "0 picks \n")) rfl) aNil_val))) (by decide)
  rw [List.set_set] at e8
  have g8 : (S7 ++ [Obj.lst (FX.map fxV)])[S7.length]? = some (.lst (FX.map fxV)) := get_end
  refine ⟨S7.length, _, _, rfl, g8, fun t => ?_⟩
  rw [sSeq_nx e3, sSeq_nx e4, sSeq_nx e5, sSeq_nx e6, sSeq_nx e7, sSeq_nx e8]
  rfl
end Lk83
end MP

namespace MP
namespace Lk83
open PySem L2 PySem.Spec PyProof.Rows

def FxOk (e : Str × Int × Val) : Prop := txtOk e.1 = true ∧ e.2.1 ≤ 100 ∧ dueV e.1 e.2.1 = e.2.2
theorem fx_err {t : Str} {k : Int} {i : Nat} (ht : txtOk t = true) (hk : k ≤ 100) (h : parseP t k = .error i) : FxOk (t, k, .int (i : Nat)) := ⟨ht, hk, by show dueV t k = _; unfold dueV; rw [h]⟩
theorem fx_ok {t : Str} {k : Int} {cs : List (Int × List Int)} (ht : txtOk t = true) (hk : k ≤ 100) (h : parseP t k = .ok cs) : FxOk (t, k, .non) := ⟨ht, hk, by show dueV t k = _; unfold dueV; rw [h]⟩
theorem txt15 : txtOk (Txt.mul "1" 4400 ++ " picks\n") = true := txtOk_of (fun c hc => by
  rw [TL.tl_append, tl_ones] at hc
  rcases List.mem_append.mp hc with hc | hc
  · rw [(List.mem_replicate.mp hc).2]; decide
  · have e0 : ∀ c ∈ TL.tl (" picks\n" : Str), c < 1000 := by decide
    exact e0 c hc) (by rw [Str.length_append, long_of tl_ones]; decide)
theorem txt16 : txtOk ("0 picks " ++ Txt.mul "0" 4400 ++ "\n") = true := txtOk_of (fun c hc => by
  rw [TL.tl_append, TL.tl_append, tl_zeros] at hc
  rcases List.mem_append.mp hc with hc | hc
  · rcases List.mem_append.mp hc with hc | hc
    · have e0 : ∀ c ∈ TL.tl ("0 picks " : Str), c < 1000 := by decide
      exact e0 c hc
    · rw [(List.mem_replicate.mp hc).2]; decide
  · have e0 : ∀ c ∈ TL.tl ("\n" : Str), c < 1000 := by decide
    exact e0 c hc) (by rw [Str.length_append, Str.length_append, long_of tl_zeros]; decide)
theorem fx_all : ∀ e ∈ FX, FxOk e := by
  intro e he
  have h0 : (0 : Int) ≤ 100 := by decide
  have h1 : (1 : Int) ≤ 100 := by decide
  have he : e ∈ ((((F3 ++ F4) ++ F5) ++ F6) ++ F7) ++ F8 := he
  simp only [List.mem_append] at he
  rcases he with ((((he | he) | he) | he) | he) | he
  · simp only [F3, List.mem_cons, List.not_mem_nil, or_false] at he
    rcases he with rfl | rfl | rfl | rfl
    · exact fx_ok (by decide +kernel) h0 fx1
    · exact fx_ok (by decide +kernel) h0 fx2
    · exact fx_err (i := 8) (by decide +kernel) h0 fx3
    · exact fx_err (i := 0) (by decide +kernel) h0 fx4
  · simp only [F4, List.mem_cons, List.not_mem_nil, or_false] at he
    rcases he with rfl | rfl
    · exact fx_err (i := 0) (by decide +kernel) h1 fx5
    · exact fx_err (i := 0) (by decide +kernel) h0 fx6
  · simp only [F5, List.mem_cons, List.not_mem_nil, or_false] at he
    rcases he with rfl | rfl | rfl
    · exact fx_err (i := 1) (by decide +kernel) h0 fx7
    · exact fx_err (i := 1) (by decide +kernel) h1 fx8
    · exact fx_err (i := 0) (by decide +kernel) h1 fx9
  · simp only [F6, List.mem_cons, List.not_mem_nil, or_false] at he
    rcases he with rfl | rfl | rfl
    · exact fx_err (i := 8) (by decide +kernel) h0 fx10
    · exact fx_err (i := 8) (by decide +kernel) h0 fx11
    · exact fx_err (i := 8) (by decide +kernel) h0 fx12
  · simp only [F7, List.mem_cons, List.not_mem_nil, or_false] at he
    rcases he with rfl | rfl
    · exact fx_err (i := 0) (by decide +kernel) h1 fx13
    · exact fx_err (i := 0) (by decide +kernel) h1 fx14
  · simp only [F8, List.mem_cons, List.not_mem_nil, or_false] at he
    rcases he with rfl | rfl | rfl
    · exact fx_err (i := 0) txt15 h0 fx15
    · exact fx_err (i := 0) txt16 h1 fx16
    · exact fx_err (i := 0) (by decide +kernel) h0 fx17
theorem FX_len : FX.length = 17 := rfl
def FV : List Val := [.non, .non, .int 8, .int 0, .int 0, .int 0, .int 1, .int 1, .int 0, .int 8, .int 8, .int 8, .int 0, .int 0, .int 0, .int 0, .int 0]
theorem FX_vals : FX.map (fun e => e.2.2) = FV := rfl
theorem FV_eq {S : Store} : fEq S (.new (.lst FV)) (.new (.lst FV)) = some (.val (.bl true)) := by
  have e1 : pdO S (.new (.lst FV)) = some (.list [.none, .none, .int 8, .int 0, .int 0, .int 0, .int 1, .int 1, .int 0, .int 8, .int 8, .int 8, .int 0, .int 0, .int 0, .int 0, .int 0]) := rfl
  have s1 : SeqAt.shaped (.list [.none, .none, .int 8, .int 0, .int 0, .int 0, .int 1, .int 1, .int 0, .int 8, .int 8, .int 8, .int 0, .int 0, .int 0, .int 0, .int 0]) = true := by decide +kernel
  have q1 : PyData.eqv (.list [.none, .none, .int 8, .int 0, .int 0, .int 0, .int 1, .int 1, .int 0, .int 8, .int 8, .int 8, .int 0, .int 0, .int 0, .int 0, .int 0]) (.list [.none, .none, .int 8, .int 0, .int 0, .int 0, .int 1, .int 1, .int 0, .int 8, .int 8, .int 8, .int 0, .int 0, .int 0, .int 0, .int 0]) = true := by decide +kernel
  unfold fEq
  rw [e1]
  dsimp only
  rw [s1, q1]; rfl
theorem end_val {env : Env} {S : Store} {r : Nat} (h4 : env[4]? = some (some (.ref r))) (hl : env.length = 18) (hr : S[r]? = some (.lst (FX.map fxV))) : t_end env S = .ret (.val (.bl true)) S := by
  have e0 : mItr (mLoc 4) env S = .ok (FX.map fxV) (some (r, FX.map fxV)) S := by
    unfold mItr
    rw [mLoc_val h4]
    show (match rdL S (.val (.ref r)) with | some vs => RI.ok vs (some (r, vs)) S | none => .stuck) = _
    rw [rdL_ref hr]
  have hw : (wipeE env [7, 3, 15]).length = 18 := by unfold wipeE wipeE wipeE wipeE; rw [List.length_set, List.length_set, List.length_set, hl]
  have f : Val → Val := fun d => match d with | .tup [_, _, v] => v | _ => .non
  have c1 : mComp (mItr (mLoc 4)) (.tp [7, 3, 15]) (mC (.bl true)) (mCall r__law_raised (aCons (mLoc 7) (aCons (mLoc 3) aNil))) [7, 3, 15] env S = .ok (.new (.lst FV)) S := by
    rw [mComp_val e0, loopC_fm (fun _ => true) (fun d => match d with | .tup [_, _, v] => v | _ => .non) (liveOk_some hr)]
    · rw [List.nil_append, List.filter_eq_self.mpr (fun _ _ => rfl), List.map_map, ← FX_vals]; rfl
    · intro d hd
      obtain ⟨e, he, rfl⟩ := List.mem_map.mp hd
      obtain ⟨q1, q2, q3⟩ := fx_all e he
      refine ⟨(((wipeE env [7, 3, 15]).set 7 (some (.str e.1))).set 3 (some (.int e.2.1))).set 15 (some e.2.2), rfl, rfl, fun _ => ?_⟩
      rw [raised_val (text := e.1) (kept := e.2.1) (S1 := S) (S2 := S) (mLoc_val (v := .str e.1) (by rw [List.getElem?_set_ne (by decide), List.getElem?_set_ne (by decide), List.getElem?_set_self (by omega)])) (mLoc_val (v := .int e.2.1) (by rw [List.getElem?_set_ne (by decide), List.getElem?_set_self (by rw [List.length_set]; omega)])) q1 q2, q3]
      rfl
    · rw [List.length_map, FX_len]; decide
  have c2 : mComp (mItr (mLoc 4)) (.tp [7, 3, 15]) (mC (.bl true)) (mLoc 15) [7, 3, 15] env S = .ok (.new (.lst FV)) S := by
    rw [mComp_val e0, loopC_fm (fun _ => true) (fun d => match d with | .tup [_, _, v] => v | _ => .non) (liveOk_some hr)]
    · rw [List.nil_append, List.filter_eq_self.mpr (fun _ _ => rfl), List.map_map, ← FX_vals]; rfl
    · intro d hd
      obtain ⟨e, he, rfl⟩ := List.mem_map.mp hd
      refine ⟨(((wipeE env [7, 3, 15]).set 7 (some (.str e.1))).set 3 (some (.int e.2.1))).set 15 (some e.2.2), rfl, rfl, fun _ => ?_⟩
      rw [mLoc_val (v := e.2.2) (List.getElem?_set_self (by rw [List.length_set, List.length_set]; omega))]
      rfl
    · rw [List.length_map, FX_len]; decide
  unfold t_end
  exact sRet_val (by rw [mBin_val c1 c2, FV_eq]; rfl)
theorem law_true (ns : List Int) (h : ns.length ≤ 63) : ∃ S, r_law [.scr ns] [] = .ok (.val (.bl true)) S := by
  show ∃ S, RS.out (m_law [some (.scr ns), none, none, none, none, none, none, none, none, none, none, none, none, none, none, none, none, none] []) = _
  rw [m_law_eq]
  have ep : mCall r__law_pen (aCons (mLoc 0) aNil) [some (.scr ns), none, none, none, none, none, none, none, none, none, none, none, none, none, none, none, none, none] [] = .ok (.new (penO 0 0 0)) [.lst ((cutL ns none (some 63)).map .int)] := by
    rw [mCall_val (aCons_val (m := mLoc 0) (v := .scr ns) (S1 := []) rfl aNil_val)]
    rfl
  rw [sSeq_nx (sAsg_new ep)]
  have h1 : PenS ([.lst ((cutL ns none (some 63)).map .int)] ++ [penO 0 0 0]) (cutL ns none (some 63)) := ⟨0, 0, rfl, rfl, by decide⟩
  generalize [Obj.lst ((cutL ns none (some 63)).map .int)] ++ [penO 0 0 0] = S1 at h1
  show ∃ S, RS.out (sSeq _ _ (LE (some (.scr ns)) none none none none none none none none none none none none none none none none) S1) = _
  obtain ⟨y2, y3, y5, y6, y7, y9, y10, y11, y12, S2, e1, h2⟩ := turns_val (s0 := some (.scr ns)) (x2 := none) (x3 := none) (x4 := none) (x5 := none) (x6 := none) (x7 := none) (x8 := none) (x9 := none) (x10 := none) (x11 := none) (x12 := none) (x13 := none) (x14 := none) (x15 := none) (x16 := none) (x17 := none) (n := 8) h1
  rw [sSeq_nx ((sFor_val (ds := rangeL 0 8) (live := none) (S1 := S1) rfl).trans e1)]
  obtain ⟨z3, z8, e2⟩ := kepts_val (s0 := some (.scr ns)) (x2 := y2) (x3 := y3) (x4 := none) (x5 := y5) (x6 := y6) (x7 := y7) (x8 := none) (x9 := y9) (x10 := y10) (x11 := y11) (x12 := y12) (x13 := none) (x14 := none) (x15 := none) (x16 := none) (x17 := none) (S := S2)
  rw [sSeq_nx ((sFor_val (ds := rangeL 0 5) (live := none) (S1 := S2) rfl).trans e2)]
  obtain ⟨r, env', S3, e3, g3, e4⟩ := fix_all (env := LE (some (.scr ns)) y2 z3 none y5 y6 y7 z8 y9 y10 y11 y12 none none none none none) (S := S2) rfl
  rw [e4]
  subst e3
  rw [sSeq_ret (end_val (r := r) (List.getElem?_set_self (by show 4 < 18; decide)) (by rw [List.length_set]; rfl) g3)]
  exact ⟨S3, rfl⟩
end Lk83
end MP

namespace MP
namespace Lk83
open PySem L2 PySem.Spec PyProof.Rows
structure Errs (P : Program) (w : World) (K : Frag) (mg : Str → Option Value) (base : Heap) : Prop where
  z_ParseError : Err P w K mg base "ParseError" "line"
  t_ParseError : Cat K mg "ParseError" "line"
section
variable {P : Program} {w : World} {K : Frag} {mg : Str → Option Value} {base : Heap}
theorem sc_ParseError : FnScope ["self", "line"] ["self", "line"] (defScope st_ParseError_init) := ⟨rfl, rfl, rfl, by decide +kernel, rfl, by decide +kernel, by decide +kernel⟩
theorem int_len {a : Int} (h : a.natAbs.log2 < 1900) : (Str.ofString (toString a)).length ≤ 1921 := by
  have e := int_text_length_le (k := 1920) (by decide) (show a.natAbs.log2 < 1920 by omega)
  rw [PySem.ofString_length]; omega
theorem txt_len1 {x : Str} (hx : x.length ≤ 1000) : (Str.empty ++ x).length ≤ sizeLine := by
  rw [sizeLine_eq, Str.length_append]; have : (Str.empty : Str).length = 0 := rfl; omega
theorem txt_len2 {i : Int} (hi : i.natAbs.log2 < 1900) {x : Str} (hx : x.length ≤ 1000) : (Str.empty ++ x ++ Str.ofString (toString i)).length ≤ sizeLine := by
  have := int_len hi
  rw [sizeLine_eq, Str.length_append, Str.length_append]; have : (Str.empty : Str).length = 0 := rfl; omega
theorem txt_len3 {i : Int} (hi : i.natAbs.log2 < 1900) {x y : Str} (hx : x.length ≤ 1000) (hy : y.length ≤ 1000) : (Str.empty ++ x ++ Str.ofString (toString i) ++ y).length ≤ sizeLine := by
  have := int_len hi
  rw [sizeLine_eq, Str.length_append, Str.length_append, Str.length_append]; have : (Str.empty : Str).length = 0 := rfl; omega
theorem ok_ParseError {fI : Addr} {fd : FuncData} {C : Addr} (F : Fun K "__init__" "ParseError.__init__" st_ParseError_init fI fd) (T : OexC K C) (nf : PySem.W.findIn K (.ref C) "line" = some none) (vE : mg "ValueError" = none)
    (vV : PySem.W.findCls K (.type "ValueError") (.type "type") "__init__" = some (.val (.builtin "ValueError.__init__"))) : FnOk P w K mg base (L2.CX P w) 1 fI fd ["self", "line"] (spI C "line") := by
  refine F.okX sc_ParseError (fun vs H Q E h => ?_) (fun cdv A outer s H vs Q E hr h => ?_)
  · obtain ⟨a, i, rfl, _⟩ := h
    rfl
  · obtain ⟨a, i, rfl, hi, ha, k⟩ := h
    refine ⟨_, pss_cons (ps_expr (pe_veinit (by rfl) vE vV (pa_cons (pv 0) (pa_cons (pe_joined (.cons pe_str (.cons (pe_fmt (pv 1)) (.cons pe_str .nil)))) pa_nil)))) (pss_one (ps_ost (pv 0) (pv 1))), ?_⟩
    refine ⟨_, rfl, "line ", rfl, txt_len1 (by decide), ?_⟩
    refine ⟨_, rfl, .inr ⟨i, rfl, by omega, _, rfl, txt_len2 hi (by decide), ?_⟩⟩
    refine ⟨" does not fit", rfl, txt_len3 hi (by decide) (by decide), ?_⟩
    refine ⟨a, C, _, rfl, by show 1 ≤ 1000; decide, T, ha, ?_⟩
    refine ⟨_, rfl, _, rfl, a, C, rfl, T, nf, .inl ⟨ha, fun dx hdx ne => k dx hdx ne⟩⟩
theorem sc_format_cuts : FnScope ["cuts", "lines", "count", "picks", "line", "pick"] ["cuts"] (defScope st_format_cuts) := ⟨rfl, rfl, rfl, by decide +kernel, rfl, by decide +kernel, by decide +kernel⟩
theorem ps_format_cuts (B : Blt mg) (C : Cst mg) (Z : Errs P w K mg base)  {f : Addr} {cdv : Value} {A : Around} {outer : List PySem.Env} {sh : Shared} {H : Hp} {E : XK} (hr : RmG 0 (A.deeper (envOfC "format_cuts" (defScope st_format_cuts) sh.heap.objs.size f cdv))) :
    PSs (cxOf (L2.CX P w) P w K mg base ["cuts", "lines", "count", "picks", "line", "pick"] "format_cuts" (defScope st_format_cuts) f cdv A outer sh H E) (defBody st_format_cuts) (TMS ⟨K, mg⟩ (fun c d _ H => E c d H) m_format_cuts) :=
    (psm_cons (psm_setLc (i := 1) (own := [("count", 2), ("picks", 3)]) rfl sc_format_cuts.nd rfl rfl (by rfl) (gok_tp (is := [2, 3])) (by decide) (blkOk_by (by rfl)) (w_itr (yl 0)) (fun _ _ _ _ _ => (g_tp (is := [2, 3]) (pgs_cons (g_nm 2 sc_format_cuts.nd) (pgs_cons (g_nm 3 sc_format_cuts.nd) pgs_nil)))) (fun _ _ _ _ _ => ptm_nil) (fun _ _ _ _ _ => (m_join pm_str (yadd (pm_lst (ac (b_str B.str_ (yl 2)) (ac pm_str pma_nil))) (pm_lc (own := [("pick", 5)]) rfl sc_format_cuts.nd gok_nm (by decide) (blkOk_by (by rfl)) (w_itr (yl 3)) (fun _ _ _ _ _ => (g_nm 5 sc_format_cuts.nd)) (fun _ _ _ _ _ => ptm_nil) (fun _ _ _ _ _ => (b_str B.str_ (yl 5))) (by intro _; rfl))))) (by intro _; rfl))
    (psm_cons (psm_ret (m_join pm_str (pm_lc (own := [("line", 4)]) rfl sc_format_cuts.nd gok_nm (by decide) (blkOk_by (by rfl)) (w_itr (yl 1)) (fun _ _ _ _ _ => (g_nm 4 sc_format_cuts.nd)) (fun _ _ _ _ _ => ptm_nil) (fun _ _ _ _ _ => (yadd (yl 4) pm_str)) (by intro _; rfl))))
    psm_nil))
theorem sc_number_in : FnScope ["word", "most", "sign"] ["word", "most"] (defScope st_number_in) := ⟨rfl, rfl, rfl, by decide +kernel, rfl, by decide +kernel, by decide +kernel⟩
theorem ps_number_in (B : Blt mg) (C : Cst mg) (Z : Errs P w K mg base)  {f : Addr} {cdv : Value} {A : Around} {outer : List PySem.Env} {sh : Shared} {H : Hp} {E : XK} (hr : RmG 0 (A.deeper (envOfC "number_in" (defScope st_number_in) sh.heap.objs.size f cdv))) :
    PSs (cxOf (L2.CX P w) P w K mg base ["word", "most", "sign"] "number_in" (defScope st_number_in) f cdv A outer sh H E) (defBody st_number_in) (TMS ⟨K, mg⟩ (fun c d _ H => E c d H) m_number_in) :=
    (psm_cons (psm_if (tpw (pmw_or (teq hr (yl 0) pm_str) (pmw_or (tgt  (b_len B.len_ (yl 0)) pm_int) (pmw_or1 (pmt_not (ttru (b_all B.all_ (pm_lc (own := [("sign", 2)]) rfl sc_number_in.nd gok_nm (by decide) (blkOk_by (by rfl)) (w_itr (yl 0)) (fun _ _ _ _ _ => (g_nm 2 sc_number_in.nd)) (fun _ _ _ _ _ => ptm_nil) (fun _ _ _ _ _ => (yin  (yl 2) (yg_str C.DIGITS))) (by intro _; rfl)))))))))
    (psm_cons (psm_ret pm_non)
    psm_nil)
    psm_nil)
    (psm_cons (psm_if (tpw (pmw_and (teq hr (yix (yl 0) pm_int) pm_str) (pmw_and1 (tne hr (yl 0) pm_str))))
    (psm_cons (psm_ret pm_non)
    psm_nil)
    psm_nil)
    (psm_cons (psm_ret (pm_ifExp (tle  (b_int B.int_ (yl 0)) (yl 1)) (b_int B.int_ (yl 0)) pm_non))
    psm_nil)))
theorem sc_numbers_in : FnScope ["words", "most", "word"] ["words", "most"] (defScope st_numbers_in) := ⟨rfl, rfl, rfl, by decide +kernel, rfl, by decide +kernel, by decide +kernel⟩
theorem ps_numbers_in (B : Blt mg) (C : Cst mg) (Z : Errs P w K mg base) (D_number_in : Df P w K mg base 1 "number_in" ["word", "most"] r_number_in) {f : Addr} {cdv : Value} {A : Around} {outer : List PySem.Env} {sh : Shared} {H : Hp} {E : XK} (hr : RmG 1 (A.deeper (envOfC "numbers_in" (defScope st_numbers_in) sh.heap.objs.size f cdv))) :
    PSs (cxOf (L2.CX P w) P w K mg base ["words", "most", "word"] "numbers_in" (defScope st_numbers_in) f cdv A outer sh H E) (defBody st_numbers_in) (TMS ⟨K, mg⟩ (fun c d _ H => E c d H) m_numbers_in) :=
    (psm_cons (psm_ret (b_tuple B.tuple_ (pm_lc (own := [("word", 2)]) rfl sc_numbers_in.nd gok_nm (by decide) (blkOk_by (by rfl)) (w_itr (yl 0)) (fun _ _ _ _ _ => (g_nm 2 sc_numbers_in.nd)) (fun _ _ _ _ _ => ptm_nil) (fun _ _ _ _ _ => (y_call D_number_in hr takes0 (ac (yl 2) (ac (yl 1) pma_nil)))) (by intro _; rfl))))
    psm_nil)
theorem sc_parse_cuts : FnScope ["text", "kept", "pieces", "lines", "cuts", "place", "line", "words", "count", "picks"] ["text", "kept"] (defScope st_parse_cuts) := ⟨rfl, rfl, rfl, by decide +kernel, rfl, by decide +kernel, by decide +kernel⟩
theorem ps_parse_cuts (B : Blt mg) (C : Cst mg) (Z : Errs P w K mg base) (D_number_in : Df P w K mg base 1 "number_in" ["word", "most"] r_number_in) (D_numbers_in : Df P w K mg base 2 "numbers_in" ["words", "most"] r_numbers_in) {f : Addr} {cdv : Value} {A : Around} {outer : List PySem.Env} {sh : Shared} {H : Hp} {E : XK} (hr : RmG 2 (A.deeper (envOfC "parse_cuts" (defScope st_parse_cuts) sh.heap.objs.size f cdv))) :
    PSs (cxOf (L2.CX P w) P w K mg base ["text", "kept", "pieces", "lines", "cuts", "place", "line", "words", "count", "picks"] "parse_cuts" (defScope st_parse_cuts) f cdv A outer sh H E) (defBody st_parse_cuts) (TMS ⟨K, mg⟩ (fun c d _ H => E c d H) m_parse_cuts) :=
    (psm_cons (s_set 2 sc_parse_cuts.nd (m_split (yl 0) pm_str))
    (psm_cons (s_set 3 sc_parse_cuts.nd (ysl (yl 2) pmo_none (pmo_some (pm_neg pm_int))))
    (psm_cons (s_set 4 sc_parse_cuts.nd (pm_lst pma_nil))
    (psm_cons (s_for owD (gok_tp (is := [5, 6])) (g_tp (is := [5, 6]) (pgs_cons (g_nm 5 sc_parse_cuts.nd) (pgs_cons (g_nm 6 sc_parse_cuts.nd) pgs_nil))) (w_enum B.enumerate_ (yl 3))
    (psm_cons (s_set 7 sc_parse_cuts.nd (m_split (yl 6) pm_str))
    (psm_cons (s_par 8 9 sc_parse_cuts.nd (ac (y_call D_number_in hr tkD (ac (yix (yl 7) pm_int) (ac (yg_int C.MAX_COUNT) pma_nil))) (ac (y_call D_numbers_in hr tkD (ac (ysl (yl 7) (pmo_some pm_int) pmo_none) (ac (yg_int C.MAX_COUNT) pma_nil))) pma_nil)))
    (psm_cons (psm_if (tpw (pmw_or (pmt_isN (yl 8)) (pmw_or (tne hr (ysl (yl 7) (pmo_some pm_int) (pmo_some pm_int)) (pm_lst (ac pm_str pma_nil))) (pmw_or (tne hr (b_len B.len_ (yl 9)) (yl 1)) (pmw_or (tin  pm_non (yl 9)) (pmw_or1 (teq hr (yl 5) (yg_int C.MAX_CUTS))))))))
    (psm_cons (s_raise Z.z_ParseError hr tkD (ac (yl 5) pma_nil))
    psm_nil)
    psm_nil)
    (psm_cons (s_expr (m_append (yl 4) (pm_tup (ac (yl 8) (ac (yl 9) pma_nil)))))
    psm_nil)))))
    (psm_cons (psm_if (tne hr (yix (yl 2) (pm_neg pm_int)) pm_str)
    (psm_cons (s_raise Z.z_ParseError hr tkD (ac (b_len B.len_ (yl 3)) pma_nil))
    psm_nil)
    psm_nil)
    (psm_cons (psm_ret (b_tuple B.tuple_ (yl 4)))
    psm_nil))))))
theorem sc__law_pen : FnScope ["script"] ["script"] (defScope st__law_pen) := ⟨rfl, rfl, rfl, by decide +kernel, rfl, by decide +kernel, by decide +kernel⟩
theorem ps__law_pen (B : Blt mg) (C : Cst mg) (Z : Errs P w K mg base)  {f : Addr} {cdv : Value} {A : Around} {outer : List PySem.Env} {sh : Shared} {H : Hp} {E : XK} (hr : RmG 0 (A.deeper (envOfC "_law_pen" (defScope st__law_pen) sh.heap.objs.size f cdv))) :
    PSs (cxOf (L2.CX P w) P w K mg base ["script"] "_law_pen" (defScope st__law_pen) f cdv A outer sh H E) (defBody st__law_pen) (TMS ⟨K, mg⟩ (fun c d _ H => E c d H) m__law_pen) :=
    (psm_cons (psm_ret (pm_lst (ac (b_list B.list_ (ysl (yl 0) pmo_none (pmo_some pm_int))) (ac pm_int (ac pm_int pma_nil)))))
    psm_nil)
theorem sc__law_fresh : FnScope ["pen", "at", "cell", "p", "state", "found", "turn"] ["pen"] (defScope st__law_fresh) := ⟨rfl, rfl, rfl, by decide +kernel, rfl, by decide +kernel, by decide +kernel⟩
theorem ps__law_fresh (B : Blt mg) (C : Cst mg) (Z : Errs P w K mg base)  {f : Addr} {cdv : Value} {A : Around} {outer : List PySem.Env} {sh : Shared} {H : Hp} {E : XK} (hr : RmG 0 (A.deeper (envOfC "_law_fresh" (defScope st__law_fresh) sh.heap.objs.size f cdv))) :
    PSs (cxOf (L2.CX P w) P w K mg base ["pen", "at", "cell", "p", "state", "found", "turn"] "_law_fresh" (defScope st__law_fresh) f cdv A outer sh H E) (defBody st__law_fresh) (TMS ⟨K, mg⟩ (fun c d _ H => E c d H) m__law_fresh) :=
    (psm_cons (s_set 1 sc__law_fresh.nd (yix (yl 0) pm_int))
    (psm_cons (s_sub (yl 0) pm_int (yadd (yl 1) pm_int))
    (psm_cons (s_set 2 sc__law_fresh.nd pm_int)
    (psm_cons (psm_if (tne hr (yix (yl 0) pm_int) (pm_lst pma_nil))
    (psm_cons (s_set 2 sc__law_fresh.nd (yix (yix (yl 0) pm_int) (ymod (b_int B.int_ (yl 1)) (b_len B.len_ (yix (yl 0) pm_int)))))
    psm_nil)
    psm_nil)
    (psm_cons (psm_if (tpw (pmw_and (tlt  (yl 1) (b_len B.len_ (yix (yl 0) pm_int))) (pmw_and1 (tge  (yl 2) (ypow pm_int pm_int)))))
    (psm_cons (psm_ret (ysub (yl 2) (ypow pm_int pm_int)))
    psm_nil)
    psm_nil)
    (psm_cons (s_set 3 sc__law_fresh.nd pm_int)
    (psm_cons (s_set 4 sc__law_fresh.nd (ymod (b_int B.int_ (yadd (yadd (ymul (yl 2) pm_int) (ymul pm_int (yl 1))) pm_int)) (yl 3)))
    (psm_cons (s_set 5 sc__law_fresh.nd (yl 4))
    (psm_cons (s_for owD gok_nm (g_nm 6 sc__law_fresh.nd) (w_rng1 B.range_ pm_int)
    (psm_cons (s_set 4 sc__law_fresh.nd (ymod (b_int B.int_ (yadd (yadd (ymul (yl 4) (yl 4)) (ymul (ymul pm_int (yadd (yl 6) pm_int)) (yadd (yl 1) pm_int))) (yl 2))) (yl 3)))
    (psm_cons (s_set 5 sc__law_fresh.nd (yadd (ymul (yl 5) (yl 3)) (yl 4)))
    psm_nil)))
    (psm_cons (psm_ret (yl 5))
    psm_nil))))))))))
theorem sc__law_draw : FnScope ["pen", "many", "digit"] ["pen", "many"] (defScope st__law_draw) := ⟨rfl, rfl, rfl, by decide +kernel, rfl, by decide +kernel, by decide +kernel⟩
theorem ps__law_draw (B : Blt mg) (C : Cst mg) (Z : Errs P w K mg base) (D__law_fresh : Df P w K mg base 1 "_law_fresh" ["pen"] r__law_fresh) {f : Addr} {cdv : Value} {A : Around} {outer : List PySem.Env} {sh : Shared} {H : Hp} {E : XK} (hr : RmG 1 (A.deeper (envOfC "_law_draw" (defScope st__law_draw) sh.heap.objs.size f cdv))) :
    PSs (cxOf (L2.CX P w) P w K mg base ["pen", "many", "digit"] "_law_draw" (defScope st__law_draw) f cdv A outer sh H E) (defBody st__law_draw) (TMS ⟨K, mg⟩ (fun c d _ H => E c d H) m__law_draw) :=
    (psm_cons (psm_if (tlt  (yix (yl 0) pm_int) (yl 1))
    (psm_cons (s_sub (yl 0) pm_int (y_call D__law_fresh hr tkD (ac (yl 0) pma_nil)))
    psm_nil)
    psm_nil)
    (psm_cons (s_set 2 sc__law_draw.nd (ymod (b_int B.int_ (yix (yl 0) pm_int)) (yl 1)))
    (psm_cons (s_sub (yl 0) pm_int (ydiv (b_int B.int_ (yix (yl 0) pm_int)) (yl 1)))
    (psm_cons (psm_ret (yl 2))
    psm_nil))))
theorem sc__law_due : FnScope ["text", "kept", "numbers", "pieces", "at", "line", "words", "number", "word"] ["text", "kept"] (defScope st__law_due) := ⟨rfl, rfl, rfl, by decide +kernel, rfl, by decide +kernel, by decide +kernel⟩
theorem ps__law_due (B : Blt mg) (C : Cst mg) (Z : Errs P w K mg base)  {f : Addr} {cdv : Value} {A : Around} {outer : List PySem.Env} {sh : Shared} {H : Hp} {E : XK} (hr : RmG 0 (A.deeper (envOfC "_law_due" (defScope st__law_due) sh.heap.objs.size f cdv))) :
    PSs (cxOf (L2.CX P w) P w K mg base ["text", "kept", "numbers", "pieces", "at", "line", "words", "number", "word"] "_law_due" (defScope st__law_due) f cdv A outer sh H E) (defBody st__law_due) (TMS ⟨K, mg⟩ (fun c d _ H => E c d H) m__law_due) :=
    (psm_cons (s_tup (gok_tp (is := [2, 3])) (g_tp (is := [2, 3]) (pgs_cons (g_nm 2 sc__law_due.nd) (pgs_cons (g_nm 3 sc__law_due.nd) pgs_nil))) (pm_tup (ac (pm_lc (own := [("number", 7)]) rfl sc__law_due.nd gok_nm (by decide) (blkOk_by (by rfl)) (w_rng1 B.range_ pm_int) (fun _ _ _ _ _ => (g_nm 7 sc__law_due.nd)) (fun _ _ _ _ _ => ptm_nil) (fun _ _ _ _ _ => (b_str B.str_ (yl 7))) (by intro _; rfl)) (ac (m_split (yl 0) pm_str) pma_nil))))
    (psm_cons (s_for owD (gok_tp (is := [4, 5])) (g_tp (is := [4, 5]) (pgs_cons (g_nm 4 sc__law_due.nd) (pgs_cons (g_nm 5 sc__law_due.nd) pgs_nil))) (w_enum B.enumerate_ (ysl (yl 3) pmo_none (pmo_some (pm_neg pm_int))))
    (psm_cons (s_set 6 sc__law_due.nd (m_split (yl 5) pm_str))
    (psm_cons (psm_if (tpw (pmw_or (tne hr (b_len B.len_ (yl 6)) (yadd (yl 1) pm_int)) (pmw_or (tne hr (yix (yl 6) pm_int) pm_str) (pmw_or1 (tgt  (yl 4) pm_int)))))
    (psm_cons (psm_ret (yl 4))
    psm_nil)
    psm_nil)
    (psm_cons (psm_if (tne hr (pm_lc (own := [("word", 8)]) rfl sc__law_due.nd gok_nm (by decide) (blkOk_by (by rfl)) (w_itr (yadd (ysl (yl 6) pmo_none (pmo_some pm_int)) (ysl (yl 6) (pmo_some pm_int) pmo_none))) (fun _ _ _ _ _ => (g_nm 8 sc__law_due.nd)) (fun _ _ _ _ _ => (ptm_one (tnin  (yl 8) (yl 2)))) (fun _ _ _ _ _ => (yl 8)) (by intro _; rfl)) (pm_lst pma_nil))
    (psm_cons (psm_ret (yl 4))
    psm_nil)
    psm_nil)
    psm_nil))))
    (psm_cons (psm_ret (pm_ifExp (teq hr (yix (yl 3) (pm_neg pm_int)) pm_str) pm_non (ysub (b_len B.len_ (yl 3)) pm_int)))
    psm_nil)))
theorem sc__law_raised : FnScope ["text", "kept", "found", "e"] ["text", "kept"] (defScope st__law_raised) := ⟨rfl, rfl, rfl, by decide +kernel, rfl, by decide +kernel, by decide +kernel⟩
theorem ps__law_raised (B : Blt mg) (C : Cst mg) (Z : Errs P w K mg base) (D_format_cuts : Df P w K mg base 1 "format_cuts" ["cuts"] r_format_cuts) (D_parse_cuts : Df P w K mg base 3 "parse_cuts" ["text", "kept"] r_parse_cuts) {f : Addr} {cdv : Value} {A : Around} {outer : List PySem.Env} {sh : Shared} {H : Hp} {E : XK} (hr : RmG 3 (A.deeper (envOfC "_law_raised" (defScope st__law_raised) sh.heap.objs.size f cdv))) :
    PSs (cxOf (L2.CX P w) P w K mg base ["text", "kept", "found", "e"] "_law_raised" (defScope st__law_raised) f cdv A outer sh H E) (defBody st__law_raised) (TMS ⟨K, mg⟩ (fun c d _ H => E c d H) m__law_raised) :=
    (psm_cons (s_set 2 sc__law_raised.nd pm_non)
    (psm_cons (s_tryF (i := 3) (j := 2) Z.t_ParseError sc__law_raised.nd tkD (fun W pn xe tk' ow' => (psm_cons (s_set 2 sc__law_raised.nd (pm_ifExp (teq hr (y_call D_format_cuts hr tk' (ac (y_call D_parse_cuts hr tk' (ac (yl 0) (ac (yl 1) pma_nil))) pma_nil)) (yl 0)) pm_non pm_str))
    psm_nil)))
    (psm_cons (psm_ret (yl 2))
    psm_nil)))
theorem sc__law_number : FnScope ["pen"] ["pen"] (defScope st__law_number) := ⟨rfl, rfl, rfl, by decide +kernel, rfl, by decide +kernel, by decide +kernel⟩
theorem ps__law_number (B : Blt mg) (C : Cst mg) (Z : Errs P w K mg base) (D__law_draw : Df P w K mg base 2 "_law_draw" ["pen", "many"] r__law_draw) {f : Addr} {cdv : Value} {A : Around} {outer : List PySem.Env} {sh : Shared} {H : Hp} {E : XK} (hr : RmG 2 (A.deeper (envOfC "_law_number" (defScope st__law_number) sh.heap.objs.size f cdv))) :
    PSs (cxOf (L2.CX P w) P w K mg base ["pen"] "_law_number" (defScope st__law_number) f cdv A outer sh H E) (defBody st__law_number) (TMS ⟨K, mg⟩ (fun c d _ H => E c d H) m__law_number) :=
    (psm_cons (psm_ret (yix (pm_lst (ac pm_int (ac pm_int (ac pm_int (ac pm_int (ac pm_int (ac pm_int (ac (y_call D__law_draw hr tkD (ac (yl 0) (ac pm_int pma_nil))) pma_nil)))))))) (y_call D__law_draw hr tkD (ac (yl 0) (ac pm_int pma_nil)))))
    psm_nil)
theorem sc_law : FnScope ["script", "pen", "turn", "kept", "fixed", "lap", "rows", "text", "line", "cuts", "picks", "sign", "place", "count", "words", "at", "cell", "pick"] ["script"] (defScope st_law) := ⟨rfl, rfl, rfl, by decide +kernel, rfl, by decide +kernel, by decide +kernel⟩
theorem ps_law (B : Blt mg) (C : Cst mg) (Z : Errs P w K mg base) (D__law_draw : Df P w K mg base 2 "_law_draw" ["pen", "many"] r__law_draw) (D__law_due : Df P w K mg base 1 "_law_due" ["text", "kept"] r__law_due) (D__law_number : Df P w K mg base 3 "_law_number" ["pen"] r__law_number) (D__law_pen : Df P w K mg base 1 "_law_pen" ["script"] r__law_pen) (D__law_raised : Df P w K mg base 4 "_law_raised" ["text", "kept"] r__law_raised) (D_format_cuts : Df P w K mg base 1 "format_cuts" ["cuts"] r_format_cuts) (D_parse_cuts : Df P w K mg base 3 "parse_cuts" ["text", "kept"] r_parse_cuts) {f : Addr} {cdv : Value} {A : Around} {outer : List PySem.Env} {sh : Shared} {H : Hp} {E : XK} (hr : RmG 4 (A.deeper (envOfC "law" (defScope st_law) sh.heap.objs.size f cdv))) :
    PSs (cxOf (L2.CX P w) P w K mg base ["script", "pen", "turn", "kept", "fixed", "lap", "rows", "text", "line", "cuts", "picks", "sign", "place", "count", "words", "at", "cell", "pick"] "law" (defScope st_law) f cdv A outer sh H E) (defBody st_law) (TMS ⟨K, mg⟩ (fun c d _ H => E c d H) m_law) :=
    (psm_cons (s_set 1 sc_law.nd (y_call D__law_pen hr tkD (ac (yl 0) pma_nil)))
    (psm_cons (s_for owD gok_nm (g_nm 2 sc_law.nd) (w_rng1 B.range_ pm_int)
    (psm_cons (s_par 3 9 sc_law.nd (ac (y_call D__law_draw hr tkD (ac (yl 1) (ac pm_int pma_nil))) (ac (pm_tup pma_nil) pma_nil)))
    (psm_cons (s_for owD gok_nm (g_nm 5 sc_law.nd) (w_rng1 B.range_ (y_call D__law_draw hr tkD (ac (yl 1) (ac pm_int pma_nil))))
    (psm_cons (s_set 10 sc_law.nd (b_tuple B.tuple_ (pm_lc (own := [("cell", 16)]) rfl sc_law.nd gok_nm (by decide) (blkOk_by (by rfl)) (w_rng1 B.range_ (yl 3)) (fun _ _ _ _ _ => (g_nm 16 sc_law.nd)) (fun _ _ _ _ _ => ptm_nil) (fun _ _ _ _ _ => (y_call D__law_number hr takes0 (ac (yl 1) pma_nil))) (by intro _; rfl))))
    (psm_cons (s_set 9 sc_law.nd (yadd (yl 9) (pm_tup (ac (pm_tup (ac (y_call D__law_number hr tkD (ac (yl 1) pma_nil)) (ac (yl 10) pma_nil))) pma_nil))))
    psm_nil)))
    (psm_cons (psm_setLc (i := 6) (own := [("count", 13), ("picks", 10)]) rfl sc_law.nd rfl rfl (by rfl) (gok_tp (is := [13, 10])) (by decide) (blkOk_by (by rfl)) (w_itr (yl 9)) (fun _ _ _ _ _ => (g_tp (is := [13, 10]) (pgs_cons (g_nm 13 sc_law.nd) (pgs_cons (g_nm 10 sc_law.nd) pgs_nil)))) (fun _ _ _ _ _ => ptm_nil) (fun _ _ _ _ _ => (yadd (pm_lst (ac (b_str B.str_ (yl 13)) (ac pm_str pma_nil))) (pm_lc (own := [("pick", 17)]) rfl sc_law.nd gok_nm (by decide) (blkOk_by (by rfl)) (w_itr (yl 10)) (fun _ _ _ _ _ => (g_nm 17 sc_law.nd)) (fun _ _ _ _ _ => ptm_nil) (fun _ _ _ _ _ => (b_str B.str_ (yl 17))) (by intro _; rfl)))) (by intro _; rfl))
    (psm_cons (s_set 7 sc_law.nd (m_join pm_str (pm_lc (own := [("words", 14)]) rfl sc_law.nd gok_nm (by decide) (blkOk_by (by rfl)) (w_itr (yl 6)) (fun _ _ _ _ _ => (g_nm 14 sc_law.nd)) (fun _ _ _ _ _ => ptm_nil) (fun _ _ _ _ _ => (yadd (m_join pm_str (yl 14)) pm_str)) (by intro _; rfl))))
    (psm_cons (psm_if (tpw (pmw_or (tne hr (y_call D_format_cuts hr tkD (ac (yl 9) pma_nil)) (yl 7)) (pmw_or1 (tne hr (b_repr hr B.repr_ (y_call D_parse_cuts hr tkD (ac (yl 7) (ac (yl 3) pma_nil)))) (b_repr hr B.repr_ (yl 9))))))
    (psm_cons (psm_ret pm_bl)
    psm_nil)
    psm_nil)
    (psm_cons (psm_if (tne hr (y_call D__law_raised hr tkD (ac (yl 7) (ac (ymod (yadd (yl 3) pm_int) pm_int) pma_nil))) (y_call D__law_due hr tkD (ac (yl 7) (ac (ymod (yadd (yl 3) pm_int) pm_int) pma_nil))))
    (psm_cons (psm_ret pm_bl)
    psm_nil)
    psm_nil)
    (psm_cons (s_for owD gok_nm (g_nm 5 sc_law.nd) (w_rng1 B.range_ (y_call D__law_draw hr tkD (ac (yl 1) (ac pm_int pma_nil))))
    (psm_cons (s_par 12 11 sc_law.nd (ac (y_call D__law_draw hr tkD (ac (yl 1) (ac (yadd (b_len B.len_ (yl 7)) pm_int) pma_nil))) (ac (yix pm_str (y_call D__law_draw hr tkD (ac (yl 1) (ac pm_int pma_nil)))) pma_nil)))
    (psm_cons (s_set 11 sc_law.nd (pm_ifExp (teq hr (y_call D__law_draw hr tkD (ac (yl 1) (ac pm_int pma_nil))) pm_int) pm_str (yl 11)))
    (psm_cons (s_set 7 sc_law.nd (yadd (yadd (ysl (yl 7) pmo_none (pmo_some (yl 12))) (yl 11)) (ysl (yl 7) (pmo_some (yadd (yl 12) (y_call D__law_draw hr tkD (ac (yl 1) (ac pm_int pma_nil))))) pmo_none)))
    psm_nil))))
    (psm_cons (psm_if (tne hr (y_call D__law_raised hr tkD (ac (yl 7) (ac (yl 3) pma_nil))) (y_call D__law_due hr tkD (ac (yl 7) (ac (yl 3) pma_nil))))
    (psm_cons (psm_ret pm_bl)
    psm_nil)
    psm_nil)
    psm_nil)))))))))
    (psm_cons (s_for owD gok_nm (g_nm 3 sc_law.nd) (w_rng1 B.range_ pm_int)
    (psm_cons (s_set 8 sc_law.nd (yadd (yadd pm_str (ymul pm_str (yl 3))) pm_str))
    (psm_cons (psm_if (tpw (pmw_or (pmt_notN (y_call D__law_raised hr tkD (ac (ymul (yl 8) pm_int) (ac (yl 3) pma_nil)))) (pmw_or1 (tne hr (y_call D__law_raised hr tkD (ac (ymul (yl 8) pm_int) (ac (yl 3) pma_nil))) pm_int))))
    (psm_cons (psm_ret pm_bl)
    psm_nil)
    psm_nil)
    psm_nil)))
    (psm_cons (s_set 4 sc_law.nd (pm_lst (ac (pm_tup (ac pm_str (ac pm_int (ac pm_non pma_nil)))) (ac (pm_tup (ac (ymul pm_str pm_int) (ac pm_int (ac pm_non pma_nil)))) (ac (pm_tup (ac (ymul pm_str pm_int) (ac pm_int (ac pm_int pma_nil)))) (ac (pm_tup (ac pm_str (ac pm_int (ac pm_int pma_nil)))) pma_nil))))))
    (psm_cons (s_set 4 sc_law.nd (yadd (yl 4) (pm_lst (ac (pm_tup (ac pm_str (ac pm_int (ac pm_int pma_nil)))) (ac (pm_tup (ac pm_str (ac pm_int (ac pm_int pma_nil)))) pma_nil)))))
    (psm_cons (s_set 4 sc_law.nd (yadd (yl 4) (pm_lst (ac (pm_tup (ac pm_str (ac pm_int (ac pm_int pma_nil)))) (ac (pm_tup (ac pm_str (ac pm_int (ac pm_int pma_nil)))) (ac (pm_tup (ac pm_str (ac pm_int (ac pm_int pma_nil)))) pma_nil))))))
    (psm_cons (s_set 4 sc_law.nd (yadd (yl 4) (pm_lst (ac (pm_tup (ac (ymul pm_str pm_int) (ac pm_int (ac pm_int pma_nil)))) (ac (pm_tup (ac (yadd (ymul pm_str pm_int) pm_str) (ac pm_int (ac pm_int pma_nil)))) (ac (pm_tup (ac (yadd (ymul pm_str pm_int) pm_str) (ac pm_int (ac pm_int pma_nil)))) pma_nil))))))
    (psm_cons (s_set 4 sc_law.nd (yadd (yl 4) (pm_lst (ac (pm_tup (ac pm_str (ac pm_int (ac pm_int pma_nil)))) (ac (pm_tup (ac pm_str (ac pm_int (ac pm_int pma_nil)))) pma_nil)))))
    (psm_cons (s_set 4 sc_law.nd (yadd (yl 4) (pm_lst (ac (pm_tup (ac (yadd (ymul pm_str pm_int) pm_str) (ac pm_int (ac pm_int pma_nil)))) (ac (pm_tup (ac (yadd (yadd pm_str (ymul pm_str pm_int)) pm_str) (ac pm_int (ac pm_int pma_nil)))) (ac (pm_tup (ac pm_str (ac pm_int (ac pm_int pma_nil)))) pma_nil))))))
    (psm_cons (psm_ret (yeq hr (pm_lc (own := [("text", 7), ("kept", 3), ("at", 15)]) rfl sc_law.nd (gok_tp (is := [7, 3, 15])) (by decide) (blkOk_by (by rfl)) (w_itr (yl 4)) (fun _ _ _ _ _ => (g_tp (is := [7, 3, 15]) (pgs_cons (g_nm 7 sc_law.nd) (pgs_cons (g_nm 3 sc_law.nd) (pgs_cons (g_nm 15 sc_law.nd) pgs_nil))))) (fun _ _ _ _ _ => ptm_nil) (fun _ _ _ _ _ => (y_call D__law_raised hr takes0 (ac (yl 7) (ac (yl 3) pma_nil)))) (by intro _; rfl)) (pm_lc (own := [("text", 7), ("kept", 3), ("at", 15)]) rfl sc_law.nd (gok_tp (is := [7, 3, 15])) (by decide) (blkOk_by (by rfl)) (w_itr (yl 4)) (fun _ _ _ _ _ => (g_tp (is := [7, 3, 15]) (pgs_cons (g_nm 7 sc_law.nd) (pgs_cons (g_nm 3 sc_law.nd) (pgs_cons (g_nm 15 sc_law.nd) pgs_nil))))) (fun _ _ _ _ _ => ptm_nil) (fun _ _ _ _ _ => (yl 15)) (by intro _; rfl))))
    psm_nil))))))))))
theorem d_format_cuts (B : Blt mg) (C : Cst mg) (Z : Errs P w K mg base) (R : Raw K mg "format_cuts" st_format_cuts ["cuts"])  : Df P w K mg base 1 "format_cuts" ["cuts"] r_format_cuts :=
  Df.mk' (k := 0) R sc_format_cuts len_format_cuts hrun_format_cuts fun f cdv A outer sh H E hr => ps_format_cuts B C Z  hr
theorem d_number_in (B : Blt mg) (C : Cst mg) (Z : Errs P w K mg base) (R : Raw K mg "number_in" st_number_in ["word", "most"])  : Df P w K mg base 1 "number_in" ["word", "most"] r_number_in :=
  Df.mk' (k := 0) R sc_number_in len_number_in hrun_number_in fun f cdv A outer sh H E hr => ps_number_in B C Z  hr
theorem d_numbers_in (B : Blt mg) (C : Cst mg) (Z : Errs P w K mg base) (R : Raw K mg "numbers_in" st_numbers_in ["words", "most"]) (D_number_in : Df P w K mg base 1 "number_in" ["word", "most"] r_number_in) : Df P w K mg base 2 "numbers_in" ["words", "most"] r_numbers_in :=
  Df.mk' (k := 1) R sc_numbers_in len_numbers_in hrun_numbers_in fun f cdv A outer sh H E hr => ps_numbers_in B C Z D_number_in hr
theorem d_parse_cuts (B : Blt mg) (C : Cst mg) (Z : Errs P w K mg base) (R : Raw K mg "parse_cuts" st_parse_cuts ["text", "kept"]) (D_number_in : Df P w K mg base 1 "number_in" ["word", "most"] r_number_in) (D_numbers_in : Df P w K mg base 2 "numbers_in" ["words", "most"] r_numbers_in) : Df P w K mg base 3 "parse_cuts" ["text", "kept"] r_parse_cuts :=
  Df.mk' (k := 2) R sc_parse_cuts len_parse_cuts hrun_parse_cuts fun f cdv A outer sh H E hr => ps_parse_cuts B C Z D_number_in D_numbers_in hr
theorem d__law_pen (B : Blt mg) (C : Cst mg) (Z : Errs P w K mg base) (R : Raw K mg "_law_pen" st__law_pen ["script"])  : Df P w K mg base 1 "_law_pen" ["script"] r__law_pen :=
  Df.mk' (k := 0) R sc__law_pen len__law_pen hrun__law_pen fun f cdv A outer sh H E hr => ps__law_pen B C Z  hr
theorem d__law_fresh (B : Blt mg) (C : Cst mg) (Z : Errs P w K mg base) (R : Raw K mg "_law_fresh" st__law_fresh ["pen"])  : Df P w K mg base 1 "_law_fresh" ["pen"] r__law_fresh :=
  Df.mk' (k := 0) R sc__law_fresh len__law_fresh hrun__law_fresh fun f cdv A outer sh H E hr => ps__law_fresh B C Z  hr
theorem d__law_draw (B : Blt mg) (C : Cst mg) (Z : Errs P w K mg base) (R : Raw K mg "_law_draw" st__law_draw ["pen", "many"]) (D__law_fresh : Df P w K mg base 1 "_law_fresh" ["pen"] r__law_fresh) : Df P w K mg base 2 "_law_draw" ["pen", "many"] r__law_draw :=
  Df.mk' (k := 1) R sc__law_draw len__law_draw hrun__law_draw fun f cdv A outer sh H E hr => ps__law_draw B C Z D__law_fresh hr
theorem d__law_due (B : Blt mg) (C : Cst mg) (Z : Errs P w K mg base) (R : Raw K mg "_law_due" st__law_due ["text", "kept"])  : Df P w K mg base 1 "_law_due" ["text", "kept"] r__law_due :=
  Df.mk' (k := 0) R sc__law_due len__law_due hrun__law_due fun f cdv A outer sh H E hr => ps__law_due B C Z  hr
theorem d__law_raised (B : Blt mg) (C : Cst mg) (Z : Errs P w K mg base) (R : Raw K mg "_law_raised" st__law_raised ["text", "kept"]) (D_format_cuts : Df P w K mg base 1 "format_cuts" ["cuts"] r_format_cuts) (D_parse_cuts : Df P w K mg base 3 "parse_cuts" ["text", "kept"] r_parse_cuts) : Df P w K mg base 4 "_law_raised" ["text", "kept"] r__law_raised :=
  Df.mk' (k := 3) R sc__law_raised len__law_raised hrun__law_raised fun f cdv A outer sh H E hr => ps__law_raised B C Z D_format_cuts D_parse_cuts hr
theorem d__law_number (B : Blt mg) (C : Cst mg) (Z : Errs P w K mg base) (R : Raw K mg "_law_number" st__law_number ["pen"]) (D__law_draw : Df P w K mg base 2 "_law_draw" ["pen", "many"] r__law_draw) : Df P w K mg base 3 "_law_number" ["pen"] r__law_number :=
  Df.mk' (k := 2) R sc__law_number len__law_number hrun__law_number fun f cdv A outer sh H E hr => ps__law_number B C Z D__law_draw hr
theorem f_law {f : Addr} {fd : FuncData} (B : Blt mg) (C : Cst mg) (Z : Errs P w K mg base) (F : Fun K "law" "law" st_law f fd) (D__law_draw : Df P w K mg base 2 "_law_draw" ["pen", "many"] r__law_draw) (D__law_due : Df P w K mg base 1 "_law_due" ["text", "kept"] r__law_due) (D__law_number : Df P w K mg base 3 "_law_number" ["pen"] r__law_number) (D__law_pen : Df P w K mg base 1 "_law_pen" ["script"] r__law_pen) (D__law_raised : Df P w K mg base 4 "_law_raised" ["text", "kept"] r__law_raised) (D_format_cuts : Df P w K mg base 1 "format_cuts" ["cuts"] r_format_cuts) (D_parse_cuts : Df P w K mg base 3 "parse_cuts" ["text", "kept"] r_parse_cuts) : FnG P w K mg base (L2.CX P w) 5 f fd ["script"] (spF ⟨K, mg⟩ r_law) :=
  def_ok (T := ⟨K, mg⟩) (k := 4) rfl F sc_law len_law (fun cdv A outer sh H E hr => ps_law B C Z D__law_draw D__law_due D__law_number D__law_pen D__law_raised D_format_cuts D_parse_cuts hr) hrun_law
end
theorem all_mk {l : PySem.W.OpenLaw} {w : World} {K : Frag} {h : Heap} {mg : Str → Option Value} {fa f_format_cuts f_number_in f_numbers_in f_parse_cuts f__law_pen f__law_fresh f__law_draw f__law_due f__law_raised f__law_number f_law C_ParseError i_ParseError : Addr} (X : K.In h) (G : h.Ns mainGlobals mg) (hfa : mg "law" = some (.ref fa))
    {od_format_cuts an_format_cuts : Option Addr} {sl_format_cuts : Array (Option Value)} {oc_format_cuts kV_format_cuts dc_format_cuts pm_format_cuts cd_format_cuts ct_format_cuts : Value}
    {od_number_in an_number_in : Option Addr} {sl_number_in : Array (Option Value)} {oc_number_in kV_number_in dc_number_in pm_number_in cd_number_in ct_number_in : Value}
    {od_numbers_in an_numbers_in : Option Addr} {sl_numbers_in : Array (Option Value)} {oc_numbers_in kV_numbers_in dc_numbers_in pm_numbers_in cd_numbers_in ct_numbers_in : Value}
    {od_parse_cuts an_parse_cuts : Option Addr} {sl_parse_cuts : Array (Option Value)} {oc_parse_cuts kV_parse_cuts dc_parse_cuts pm_parse_cuts cd_parse_cuts ct_parse_cuts : Value}
    {od__law_pen an__law_pen : Option Addr} {sl__law_pen : Array (Option Value)} {oc__law_pen kV__law_pen dc__law_pen pm__law_pen cd__law_pen ct__law_pen : Value}
    {od__law_fresh an__law_fresh : Option Addr} {sl__law_fresh : Array (Option Value)} {oc__law_fresh kV__law_fresh dc__law_fresh pm__law_fresh cd__law_fresh ct__law_fresh : Value}
    {od__law_draw an__law_draw : Option Addr} {sl__law_draw : Array (Option Value)} {oc__law_draw kV__law_draw dc__law_draw pm__law_draw cd__law_draw ct__law_draw : Value}
    {od__law_due an__law_due : Option Addr} {sl__law_due : Array (Option Value)} {oc__law_due kV__law_due dc__law_due pm__law_due cd__law_due ct__law_due : Value}
    {od__law_raised an__law_raised : Option Addr} {sl__law_raised : Array (Option Value)} {oc__law_raised kV__law_raised dc__law_raised pm__law_raised cd__law_raised ct__law_raised : Value}
    {od__law_number an__law_number : Option Addr} {sl__law_number : Array (Option Value)} {oc__law_number kV__law_number dc__law_number pm__law_number cd__law_number ct__law_number : Value}
    {od_law an_law : Option Addr} {sl_law : Array (Option Value)} {oc_law kV_law dc_law pm_law cd_law ct_law : Value}
    {od_ParseError an_ParseError : Option Addr} {sl_ParseError : Array (Option Value)} {oc_ParseError kV_ParseError dc_ParseError pm_ParseError cd_ParseError ct_ParseError : Value}
    {t_DIGITS : Tok}
    {t_MAX_COUNT : Tok}
    {t_MAX_CUTS : Tok}
    (a_format_cuts : PySem.W.nsIn K mainGlobals "format_cuts" = some (some (.ref f_format_cuts)))
    (l_format_cuts : K.lookup f_format_cuts = some ⟨oc_format_cuts, od_format_cuts, .func (PySem.W.fnOf "format_cuts" "format_cuts" (defArgs st_format_cuts) (defBody st_format_cuts) (defScope st_format_cuts) .none kV_format_cuts dc_format_cuts pm_format_cuts an_format_cuts cd_format_cuts ct_format_cuts), sl_format_cuts⟩)
    (c_format_cuts : PySem.W.codeIn K cd_format_cuts "format_cuts" = true)
    (k_format_cuts : PySem.W.keepIn K (.ref f_format_cuts) = true)
    (a_number_in : PySem.W.nsIn K mainGlobals "number_in" = some (some (.ref f_number_in)))
    (l_number_in : K.lookup f_number_in = some ⟨oc_number_in, od_number_in, .func (PySem.W.fnOf "number_in" "number_in" (defArgs st_number_in) (defBody st_number_in) (defScope st_number_in) .none kV_number_in dc_number_in pm_number_in an_number_in cd_number_in ct_number_in), sl_number_in⟩)
    (c_number_in : PySem.W.codeIn K cd_number_in "number_in" = true)
    (k_number_in : PySem.W.keepIn K (.ref f_number_in) = true)
    (a_numbers_in : PySem.W.nsIn K mainGlobals "numbers_in" = some (some (.ref f_numbers_in)))
    (l_numbers_in : K.lookup f_numbers_in = some ⟨oc_numbers_in, od_numbers_in, .func (PySem.W.fnOf "numbers_in" "numbers_in" (defArgs st_numbers_in) (defBody st_numbers_in) (defScope st_numbers_in) .none kV_numbers_in dc_numbers_in pm_numbers_in an_numbers_in cd_numbers_in ct_numbers_in), sl_numbers_in⟩)
    (c_numbers_in : PySem.W.codeIn K cd_numbers_in "numbers_in" = true)
    (k_numbers_in : PySem.W.keepIn K (.ref f_numbers_in) = true)
    (a_parse_cuts : PySem.W.nsIn K mainGlobals "parse_cuts" = some (some (.ref f_parse_cuts)))
    (l_parse_cuts : K.lookup f_parse_cuts = some ⟨oc_parse_cuts, od_parse_cuts, .func (PySem.W.fnOf "parse_cuts" "parse_cuts" (defArgs st_parse_cuts) (defBody st_parse_cuts) (defScope st_parse_cuts) .none kV_parse_cuts dc_parse_cuts pm_parse_cuts an_parse_cuts cd_parse_cuts ct_parse_cuts), sl_parse_cuts⟩)
    (c_parse_cuts : PySem.W.codeIn K cd_parse_cuts "parse_cuts" = true)
    (k_parse_cuts : PySem.W.keepIn K (.ref f_parse_cuts) = true)
    (a__law_pen : PySem.W.nsIn K mainGlobals "_law_pen" = some (some (.ref f__law_pen)))
    (l__law_pen : K.lookup f__law_pen = some ⟨oc__law_pen, od__law_pen, .func (PySem.W.fnOf "_law_pen" "_law_pen" (defArgs st__law_pen) (defBody st__law_pen) (defScope st__law_pen) .none kV__law_pen dc__law_pen pm__law_pen an__law_pen cd__law_pen ct__law_pen), sl__law_pen⟩)
    (c__law_pen : PySem.W.codeIn K cd__law_pen "_law_pen" = true)
    (k__law_pen : PySem.W.keepIn K (.ref f__law_pen) = true)
    (a__law_fresh : PySem.W.nsIn K mainGlobals "_law_fresh" = some (some (.ref f__law_fresh)))
    (l__law_fresh : K.lookup f__law_fresh = some ⟨oc__law_fresh, od__law_fresh, .func (PySem.W.fnOf "_law_fresh" "_law_fresh" (defArgs st__law_fresh) (defBody st__law_fresh) (defScope st__law_fresh) .none kV__law_fresh dc__law_fresh pm__law_fresh an__law_fresh cd__law_fresh ct__law_fresh), sl__law_fresh⟩)
    (c__law_fresh : PySem.W.codeIn K cd__law_fresh "_law_fresh" = true)
    (k__law_fresh : PySem.W.keepIn K (.ref f__law_fresh) = true)
    (a__law_draw : PySem.W.nsIn K mainGlobals "_law_draw" = some (some (.ref f__law_draw)))
    (l__law_draw : K.lookup f__law_draw = some ⟨oc__law_draw, od__law_draw, .func (PySem.W.fnOf "_law_draw" "_law_draw" (defArgs st__law_draw) (defBody st__law_draw) (defScope st__law_draw) .none kV__law_draw dc__law_draw pm__law_draw an__law_draw cd__law_draw ct__law_draw), sl__law_draw⟩)
    (c__law_draw : PySem.W.codeIn K cd__law_draw "_law_draw" = true)
    (k__law_draw : PySem.W.keepIn K (.ref f__law_draw) = true)
    (a__law_due : PySem.W.nsIn K mainGlobals "_law_due" = some (some (.ref f__law_due)))
    (l__law_due : K.lookup f__law_due = some ⟨oc__law_due, od__law_due, .func (PySem.W.fnOf "_law_due" "_law_due" (defArgs st__law_due) (defBody st__law_due) (defScope st__law_due) .none kV__law_due dc__law_due pm__law_due an__law_due cd__law_due ct__law_due), sl__law_due⟩)
    (c__law_due : PySem.W.codeIn K cd__law_due "_law_due" = true)
    (k__law_due : PySem.W.keepIn K (.ref f__law_due) = true)
    (a__law_raised : PySem.W.nsIn K mainGlobals "_law_raised" = some (some (.ref f__law_raised)))
    (l__law_raised : K.lookup f__law_raised = some ⟨oc__law_raised, od__law_raised, .func (PySem.W.fnOf "_law_raised" "_law_raised" (defArgs st__law_raised) (defBody st__law_raised) (defScope st__law_raised) .none kV__law_raised dc__law_raised pm__law_raised an__law_raised cd__law_raised ct__law_raised), sl__law_raised⟩)
    (c__law_raised : PySem.W.codeIn K cd__law_raised "_law_raised" = true)
    (k__law_raised : PySem.W.keepIn K (.ref f__law_raised) = true)
    (a__law_number : PySem.W.nsIn K mainGlobals "_law_number" = some (some (.ref f__law_number)))
    (l__law_number : K.lookup f__law_number = some ⟨oc__law_number, od__law_number, .func (PySem.W.fnOf "_law_number" "_law_number" (defArgs st__law_number) (defBody st__law_number) (defScope st__law_number) .none kV__law_number dc__law_number pm__law_number an__law_number cd__law_number ct__law_number), sl__law_number⟩)
    (c__law_number : PySem.W.codeIn K cd__law_number "_law_number" = true)
    (k__law_number : PySem.W.keepIn K (.ref f__law_number) = true)
    (a_law : PySem.W.nsIn K mainGlobals "law" = some (some (.ref f_law)))
    (l_law : K.lookup f_law = some ⟨oc_law, od_law, .func (PySem.W.fnOf "law" "law" (defArgs st_law) (defBody st_law) (defScope st_law) .none kV_law dc_law pm_law an_law cd_law ct_law), sl_law⟩)
    (c_law : PySem.W.codeIn K cd_law "law" = true)
    (k_law : PySem.W.keepIn K (.ref f_law) = true)
    (a_ParseError : PySem.W.nsIn K mainGlobals "ParseError" = some (some (.ref C_ParseError)))
    (x_ParseError : (∃ nm q N bs bm sn sub ab col dd k0 k1 k2 k3 k5, K.lookup C_ParseError = some (excClassObj nm q C_ParseError N bs bm true sn sub ab col dd k0 k1 k2 k3 k5 "ValueError.__new__") ∧ PySem.HandSPX.refsVE bm = true))
    (sa_ParseError : PySem.W.findIn K (.ref C_ParseError) "__setattr__" = some (some (.builtin "object.__setattr__")))
    (ex_ParseError : PySem.W.subIn K (.ref C_ParseError) (.type "BaseException") = some true)
    (ty_ParseError : PySem.W.typeIn K (.ref C_ParseError) = some (.type "type"))
    (kc_ParseError : PySem.W.keepIn K (.ref C_ParseError) = true)
    (nf_ParseError : PySem.W.findIn K (.ref C_ParseError) "line" = some none)
    (in_ParseError : PySem.W.findIn K (.ref C_ParseError) "__init__" = some (some (.ref i_ParseError)))
    (ti_ParseError : PySem.W.typeIn K (.ref i_ParseError) = some (.type "function"))
    (l_ParseError : K.lookup i_ParseError = some ⟨oc_ParseError, od_ParseError, .func (PySem.W.fnOf "__init__" "ParseError.__init__" (defArgs st_ParseError_init) (defBody st_ParseError_init) (defScope st_ParseError_init) .none kV_ParseError dc_ParseError pm_ParseError an_ParseError cd_ParseError ct_ParseError), sl_ParseError⟩)
    (c_ParseError : PySem.W.codeIn K cd_ParseError "ParseError.__init__" = true)
    (k_ParseError : PySem.W.keepIn K (.ref i_ParseError) = true)
    (em_ParseError : PySem.W.exmOne K (.ref C_ParseError) (.ref C_ParseError) = some true)
    (ga_ParseError : PySem.W.findIn K (.ref C_ParseError) "__getattribute__" = some (some (.builtin "BaseException.__getattribute__")))
    (gg_ParseError : PySem.W.findIn K (.ref C_ParseError) "__getattr__" = some none)
    (hd_ParseError : PySem.W.hasDictIn K C_ParseError = true)
    (vE : PySem.W.nsIn K mainGlobals "ValueError" = some none)
    (vV : PySem.W.findCls K (.type "ValueError") (.type "type") "__init__" = some (.val (.builtin "ValueError.__init__")))
    (z_all : PySem.W.nsIn K mainGlobals "all" = some none)
    (z_enumerate : PySem.W.nsIn K mainGlobals "enumerate" = some none)
    (z_int : PySem.W.nsIn K mainGlobals "int" = some none)
    (z_len : PySem.W.nsIn K mainGlobals "len" = some none)
    (z_list : PySem.W.nsIn K mainGlobals "list" = some none)
    (z_range : PySem.W.nsIn K mainGlobals "range" = some none)
    (z_repr : PySem.W.nsIn K mainGlobals "repr" = some none)
    (z_str : PySem.W.nsIn K mainGlobals "str" = some none)
    (z_tuple : PySem.W.nsIn K mainGlobals "tuple" = some none)
    (g_DIGITS : PySem.W.nsIn K mainGlobals "DIGITS" = some (some (.str "0123456789" t_DIGITS)))
    (g_MAX_COUNT : PySem.W.nsIn K mainGlobals "MAX_COUNT" = some (some (.int 64 t_MAX_COUNT)))
    (g_MAX_CUTS : PySem.W.nsIn K mainGlobals "MAX_CUTS" = some (some (.int 8 t_MAX_CUTS))) :
    ∃ (fd : FuncData) (sp : Sp), (∀ (s : Shared) (v : Value), BindsTo s fd ⟨[v], []⟩ [("script", v)]) ∧ (∀ (H : Hp) (a : Addr) (ns : List Int), ns.length ≤ 63 → Only H → SqL K H a (ns.map V.int) → sp [.ref a] H (fun v _ => v = .bl true) fun _ _ _ => False) ∧
      ∀ base : Heap, K.In base → base.Ns mainGlobals mg → FnG l.prog w K mg base (L2.CX l.prog w) 5 fa fd ["script"] sp := by
  have e := hfa.symm.trans (PySem.W.mg_of X G a_law)
  cases e
  have B : Blt mg := ⟨PySem.W.mg_none_of X G z_all, PySem.W.mg_none_of X G z_enumerate, PySem.W.mg_none_of X G z_int, PySem.W.mg_none_of X G z_len, PySem.W.mg_none_of X G z_list, PySem.W.mg_none_of X G z_range, PySem.W.mg_none_of X G z_repr, PySem.W.mg_none_of X G z_str, PySem.W.mg_none_of X G z_tuple⟩
  have C : Cst mg := ⟨⟨_, PySem.W.mg_of X G g_DIGITS⟩, ⟨_, PySem.W.mg_of X G g_MAX_COUNT⟩, ⟨_, PySem.W.mg_of X G g_MAX_CUTS⟩⟩
  have R_format_cuts : Raw K mg "format_cuts" st_format_cuts ["cuts"] := ⟨f_format_cuts, _, fun_mk (st := st_format_cuts) l_format_cuts c_format_cuts k_format_cuts, PySem.W.mg_of X G a_format_cuts, (fun_mk (st := st_format_cuts) l_format_cuts c_format_cuts k_format_cuts).binds fun _ _ _ _ _ _ us hl => match us, hl with | [_], _ => rfl⟩
  have R_number_in : Raw K mg "number_in" st_number_in ["word", "most"] := ⟨f_number_in, _, fun_mk (st := st_number_in) l_number_in c_number_in k_number_in, PySem.W.mg_of X G a_number_in, (fun_mk (st := st_number_in) l_number_in c_number_in k_number_in).binds fun _ _ _ _ _ _ us hl => match us, hl with | [_, _], _ => rfl⟩
  have R_numbers_in : Raw K mg "numbers_in" st_numbers_in ["words", "most"] := ⟨f_numbers_in, _, fun_mk (st := st_numbers_in) l_numbers_in c_numbers_in k_numbers_in, PySem.W.mg_of X G a_numbers_in, (fun_mk (st := st_numbers_in) l_numbers_in c_numbers_in k_numbers_in).binds fun _ _ _ _ _ _ us hl => match us, hl with | [_, _], _ => rfl⟩
  have R_parse_cuts : Raw K mg "parse_cuts" st_parse_cuts ["text", "kept"] := ⟨f_parse_cuts, _, fun_mk (st := st_parse_cuts) l_parse_cuts c_parse_cuts k_parse_cuts, PySem.W.mg_of X G a_parse_cuts, (fun_mk (st := st_parse_cuts) l_parse_cuts c_parse_cuts k_parse_cuts).binds fun _ _ _ _ _ _ us hl => match us, hl with | [_, _], _ => rfl⟩
  have R__law_pen : Raw K mg "_law_pen" st__law_pen ["script"] := ⟨f__law_pen, _, fun_mk (st := st__law_pen) l__law_pen c__law_pen k__law_pen, PySem.W.mg_of X G a__law_pen, (fun_mk (st := st__law_pen) l__law_pen c__law_pen k__law_pen).binds fun _ _ _ _ _ _ us hl => match us, hl with | [_], _ => rfl⟩
  have R__law_fresh : Raw K mg "_law_fresh" st__law_fresh ["pen"] := ⟨f__law_fresh, _, fun_mk (st := st__law_fresh) l__law_fresh c__law_fresh k__law_fresh, PySem.W.mg_of X G a__law_fresh, (fun_mk (st := st__law_fresh) l__law_fresh c__law_fresh k__law_fresh).binds fun _ _ _ _ _ _ us hl => match us, hl with | [_], _ => rfl⟩
  have R__law_draw : Raw K mg "_law_draw" st__law_draw ["pen", "many"] := ⟨f__law_draw, _, fun_mk (st := st__law_draw) l__law_draw c__law_draw k__law_draw, PySem.W.mg_of X G a__law_draw, (fun_mk (st := st__law_draw) l__law_draw c__law_draw k__law_draw).binds fun _ _ _ _ _ _ us hl => match us, hl with | [_, _], _ => rfl⟩
  have R__law_due : Raw K mg "_law_due" st__law_due ["text", "kept"] := ⟨f__law_due, _, fun_mk (st := st__law_due) l__law_due c__law_due k__law_due, PySem.W.mg_of X G a__law_due, (fun_mk (st := st__law_due) l__law_due c__law_due k__law_due).binds fun _ _ _ _ _ _ us hl => match us, hl with | [_, _], _ => rfl⟩
  have R__law_raised : Raw K mg "_law_raised" st__law_raised ["text", "kept"] := ⟨f__law_raised, _, fun_mk (st := st__law_raised) l__law_raised c__law_raised k__law_raised, PySem.W.mg_of X G a__law_raised, (fun_mk (st := st__law_raised) l__law_raised c__law_raised k__law_raised).binds fun _ _ _ _ _ _ us hl => match us, hl with | [_, _], _ => rfl⟩
  have R__law_number : Raw K mg "_law_number" st__law_number ["pen"] := ⟨f__law_number, _, fun_mk (st := st__law_number) l__law_number c__law_number k__law_number, PySem.W.mg_of X G a__law_number, (fun_mk (st := st__law_number) l__law_number c__law_number k__law_number).binds fun _ _ _ _ _ _ us hl => match us, hl with | [_], _ => rfl⟩
  refine ⟨PySem.W.fnOf "law" "law" (defArgs st_law) (defBody st_law) (defScope st_law) .none kV_law dc_law pm_law an_law cd_law ct_law, spF ⟨K, mg⟩ r_law, fun s v => .of_eq rfl, fun H a ns hl hO hS => law_run rfl hO hS (law_true ns hl), fun base _ _ => ?_⟩
  have Z : Errs l.prog w K mg base := ⟨⟨C_ParseError, i_ParseError, _, _, ⟨x_ParseError, sa_ParseError, ex_ParseError, ty_ParseError, kc_ParseError⟩, in_ParseError, ti_ParseError, ok_ParseError (fun_mk (st := st_ParseError_init) l_ParseError c_ParseError k_ParseError) ⟨x_ParseError, sa_ParseError, ex_ParseError, ty_ParseError, kc_ParseError⟩ nf_ParseError (PySem.W.mg_none_of X G vE) vV, (fun_mk (st := st_ParseError_init) l_ParseError c_ParseError k_ParseError).binds fun _ _ _ _ _ _ us hl => match us, hl with | [_, _], _ => rfl, PySem.W.mg_of X G a_ParseError⟩, ⟨C_ParseError, PySem.W.mg_of X G a_ParseError, em_ParseError, ⟨ga_ParseError, gg_ParseError, ex_ParseError, hd_ParseError⟩, nf_ParseError⟩⟩
  have D_format_cuts := d_format_cuts B C Z R_format_cuts 
  have D_number_in := d_number_in B C Z R_number_in 
  have D_numbers_in := d_numbers_in B C Z R_numbers_in D_number_in
  have D_parse_cuts := d_parse_cuts B C Z R_parse_cuts D_number_in D_numbers_in
  have D__law_pen := d__law_pen B C Z R__law_pen 
  have D__law_fresh := d__law_fresh B C Z R__law_fresh 
  have D__law_draw := d__law_draw B C Z R__law_draw D__law_fresh
  have D__law_due := d__law_due B C Z R__law_due 
  have D__law_raised := d__law_raised B C Z R__law_raised D_format_cuts D_parse_cuts
  have D__law_number := d__law_number B C Z R__law_number D__law_draw
  exact f_law B C Z (fun_mk (st := st_law) l_law c_law k_law) D__law_draw D__law_due D__law_number D__law_pen D__law_raised D_format_cuts D_parse_cuts
theorem walk {l : PySem.W.OpenLaw} {q : Program} {loose : List Str} {XP : (Str → Option Value) → Heap → Prop} {YP : World → Heap → Prop} {d : DefRec} {K : Params → PySem.W.Frag} (hn : l.most = some 63) (hdf : d.params.defaults = [])
    (hY : ∀ (w : World) (h : Heap), YP w h → (K w.params).In h)
    (F : ∀ (w : World) (mg : Str → Option Value) (fa : Addr) (h : Heap), (K w.params).In h → h.Ns mainGlobals mg → mg d.name = some (.ref fa) →
      ∃ (fd : FuncData) (sp : Sp), (∀ (s : Shared) (u : Value), BindsTo s fd ⟨[u], []⟩ [("script", u)]) ∧ (∀ (H : Hp) (a : Addr) (ns : List Int), ns.length ≤ 63 → Only H → SqL (K w.params) H a (ns.map V.int) → sp [.ref a] H (fun v _ => v = .bl true) fun _ _ _ => False) ∧
        ∀ base : Heap, (K w.params).In base → base.Ns mainGlobals mg → FnG l.prog w (K w.params) mg base (L2.CX l.prog w) 5 fa fd ["script"] sp) :
    PySem.W.WalkO q loose XP YP l.row.toRowW d [] (fun f vs => PySem.call f vs) :=
  walk_ofG (n := 63) (k := 5) (x := "script") hn (by decide) hdf ⟨⟨rfl, by decide, by decide⟩, rfl⟩ hY F
end Lk83
end MP
open PySem PySem.W PyProof.Rows in
set_option maxRecDepth 100000 in
set_option maxHeartbeats 0 in
theorem PySem.Challenge.cw_cutrows_k83_cuts_written_and_read_holds : PySem.Challenge.rw_cutrows_k83_cuts_written_and_read.Holds := by
  w_on; o_law; k_head; (case hw => w_witness2)
  k_fill
  refine MP.Lk83.walk (l := PySem.Challenge.rw_cutrows_k83_cuts_written_and_read) rfl rfl (fun w h Y => PySem.W.kIn_of Y) ?F
  case F =>
    intro w mg fa h KX G hmg
    refine' MP.Lk83.all_mk KX G hmg ?a_format_cuts ?l_format_cuts ?c_format_cuts ?k_format_cuts ?a_number_in ?l_number_in ?c_number_in ?k_number_in ?a_numbers_in ?l_numbers_in ?c_numbers_in ?k_numbers_in ?a_parse_cuts ?l_parse_cuts ?c_parse_cuts ?k_parse_cuts ?a__law_pen ?l__law_pen ?c__law_pen ?k__law_pen ?a__law_fresh ?l__law_fresh ?c__law_fresh ?k__law_fresh ?a__law_draw ?l__law_draw ?c__law_draw ?k__law_draw ?a__law_due ?l__law_due ?c__law_due ?k__law_due ?a__law_raised ?l__law_raised ?c__law_raised ?k__law_raised ?a__law_number ?l__law_number ?c__law_number ?k__law_number ?a_law ?l_law ?c_law ?k_law ?a_ParseError ?x_ParseError ?sa_ParseError ?ex_ParseError ?ty_ParseError ?kc_ParseError ?nf_ParseError ?in_ParseError ?ti_ParseError ?l_ParseError ?c_ParseError ?k_ParseError ?em_ParseError ?ga_ParseError ?gg_ParseError ?hd_ParseError ?vE ?vV ?z_all ?z_enumerate ?z_int ?z_len ?z_list ?z_range ?z_repr ?z_str ?z_tuple ?g_DIGITS ?g_MAX_COUNT ?g_MAX_CUTS
    (case a_format_cuts => k_is)
    (case l_format_cuts => k_is)
    (case c_format_cuts => k_is)
    (case k_format_cuts => k_is)
    (case a_number_in => k_is)
    (case l_number_in => k_is)
    (case c_number_in => k_is)
    (case k_number_in => k_is)
    (case a_numbers_in => k_is)
    (case l_numbers_in => k_is)
    (case c_numbers_in => k_is)
    (case k_numbers_in => k_is)
    (case a_parse_cuts => k_is)
    (case l_parse_cuts => k_is)
    (case c_parse_cuts => k_is)
    (case k_parse_cuts => k_is)
    (case a__law_pen => k_is)
    (case l__law_pen => k_is)
    (case c__law_pen => k_is)
    (case k__law_pen => k_is)
    (case a__law_fresh => k_is)
    (case l__law_fresh => k_is)
    (case c__law_fresh => k_is)
    (case k__law_fresh => k_is)
    (case a__law_draw => k_is)
    (case l__law_draw => k_is)
    (case c__law_draw => k_is)
    (case k__law_draw => k_is)
    (case a__law_due => k_is)
    (case l__law_due => k_is)
    (case c__law_due => k_is)
    (case k__law_due => k_is)
    (case a__law_raised => k_is)
    (case l__law_raised => k_is)
    (case c__law_raised => k_is)
    (case k__law_raised => k_is)
    (case a__law_number => k_is)
    (case l__law_number => k_is)
    (case c__law_number => k_is)
    (case k__law_number => k_is)
    (case a_law => k_is)
    (case l_law => k_is)
    (case c_law => k_is)
    (case k_law => k_is)
    (case a_ParseError => k_is)
    (case x_ParseError => exact ⟨_, _, _, _, _, _, _, _, _, _, _, _, _, _, _, by k_is, by first | rfl | decide⟩)
    (case sa_ParseError => k_is)
    (case ex_ParseError => k_is)
    (case ty_ParseError => k_is)
    (case kc_ParseError => k_is)
    (case nf_ParseError => k_is)
    (case in_ParseError => k_is)
    (case ti_ParseError => k_is)
    (case l_ParseError => k_is)
    (case c_ParseError => k_is)
    (case k_ParseError => k_is)
    (case em_ParseError => first | rfl | k_is)
    (case ga_ParseError => k_is)
    (case gg_ParseError => k_is)
    (case hd_ParseError => k_is)
    (case vE => k_is)
    (case vV => k_is)
    (case z_all => k_is)
    (case z_enumerate => k_is)
    (case z_int => k_is)
    (case z_len => k_is)
    (case z_list => k_is)
    (case z_range => k_is)
    (case z_repr => k_is)
    (case z_str => k_is)
    (case z_tuple => k_is)
    (case g_DIGITS => k_is)
    (case g_MAX_COUNT => k_is)
    (case g_MAX_CUTS => k_is)
#print axioms PySem.Challenge.cw_cutrows_k83_cuts_written_and_read_holds

