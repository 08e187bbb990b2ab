import PyProof.Rows.All
import Wide.All
import OpenK.AllK
import Wide.FinOn
import HandS.ForMost
import HandS.Exc
import HandS.Slots
import HandS.SlotsOwn
import HandS.Wide
import HandS.IsInst
import HandS.TupAny
import HandS.Text
import HandS.WordsExc
import HandS.Defaults
import HandS.HeadEnd
import HandS.WideBits
import PyProof.ReprRoads
import HandS.StrMore
import HandS.Replace
import HandS.SetFor
import HandS.Deep
import HandS.ExcField
import HandS.ExcInit
import HandS.Iter
import HandS.Zip
import HandS.EndBits
import HandS.HeadNt
import HandS.Head2
import PySem.Challenge.RW_overhours_k02_names
set_option Elab.async false
set_option linter.all false
set_option maxRecDepth 100000
set_option maxHeartbeats 2000000
/-! DL1: values as trees over the hand layer, the part of the heap that may change, judgements. -/
namespace DL
open PySem PySem.Spec PyProof.Rows L2

abbrev Sg := L2.St
/-- values: what never changes is a tree; ref: any object by its address -/
inductive D where
  | non | bl (b : Bool) | int (i : Int) | str (x : Str)
  | tup (ds : List D) | lst (ds : List D) | dic (kvs : List (Key × D))
  | ins (C : Addr) (ds : List D)
  | obj (C : Addr) (fs : List (Str × D))
  | ref (a : Addr) | ty (n : String)
  | scr (ns : List Int)
  | exc (a dd : Addr) (fs : List (Str × D))

/-- what may change -/
inductive MO where
  | lst (ds : List D) | dic (kvs : List (Key × D))
  | ins (C dx : Addr) (fs : List (Str × D))
  | slt (C dx : Addr) (ds : List (Option D))
  | pool
abbrev Mh := Addr → Option MO
def mset (M : Mh) (a : Addr) (o : MO) : Mh := fun b => if b = a then some o else M b
def mdel (M : Mh) (a : Addr) : Mh := fun b => if b = a then none else M b
theorem mset_same {M : Mh} {a : Addr} {o : MO} : mset M a o a = some o := if_pos rfl
theorem mset_ne {M : Mh} {a b : Addr} {o : MO} (h : b ≠ a) : mset M a o b = M b := if_neg h
theorem mset_mset {M : Mh} {a : Addr} {o u : MO} : mset (mset M a o) a u = mset M a u := by
  funext b
  unfold mset
  split <;> rfl
theorem mset_id {M : Mh} {a : Addr} {o : MO} (h : M a = some o) : mset M a o = M := by
  funext b
  unfold mset
  split
  · subst b; exact h.symm
  · rfl
theorem mdel_same {M : Mh} {a : Addr} : mdel M a a = none := if_pos rfl
theorem mdel_ne {M : Mh} {a b : Addr} (h : b ≠ a) : mdel M a b = M b := if_neg h
theorem mdel_mset {M : Mh} {a : Addr} {o : MO} (h : M a = none) : mdel (mset M a o) a = M := by
  funext b
  unfold mdel mset
  split
  · subst b; exact h.symm
  · rfl
/-- the heap without what may change; Z: what is hidden for now, and stays -/
def out (Z : Hp) (M : Mh) (H : Hp) : Hp := fun a => match Z a with
  | some _ => none
  | none => match M a with
    | none => H a
    | some _ => none
theorem out_none {Z : Hp} {M : Mh} {H : Hp} {a : Addr} (z : Z a = none) (h : M a = none) : out Z M H a = H a := by unfold out; rw [z, h]
theorem out_some {Z : Hp} {M : Mh} {H : Hp} {a : Addr} {o : MO} (h : M a = some o) : out Z M H a = none := by
  unfold out
  split
  · rfl
  · rw [h]
theorem out_hid {Z : Hp} {M : Mh} {H : Hp} {a : Addr} {o : HO} (h : Z a = some o) : out Z M H a = none := by unfold out; rw [h]
theorem out_at {Z : Hp} {M : Mh} {H : Hp} {a : Addr} {o : HO} (h : out Z M H a = some o) : Z a = none ∧ M a = none ∧ H a = some o := by
  cases z : Z a with
  | some u => rw [out_hid z] at h; cases h
  | none =>
    cases e : M a with
    | none => rw [out_none z e] at h; exact ⟨rfl, rfl, h⟩
    | some u => rw [out_some e] at h; cases h
theorem out_sub (Z : Hp) (M : Mh) (H : Hp) : Same (out Z M H) H := fun a o h => (out_at h).2.2

/-- an instance with slots that never changes: its object, its empty dict -/
def SlF (F : Hp) (a C dx : Addr) (vs : List (Option V)) : Prop := F a = some (SlX.SlO a C dx vs) ∧ F dx = some (.xd [])
mutual
inductive Rep (K : PySem.W.Frag) (F : Hp) : V → D → Prop
  | non : Rep K F .non .non
  | bl (b : Bool) : Rep K F (.bl b) (.bl b)
  | int (i : Int) : Rep K F (.int i) (.int i)
  | str (x : Str) : Rep K F (.str x) (.str x)
  | ref (a : Addr) : Rep K F (.ref a) (.ref a)
  | ty (n : String) : Rep K F (.ty n) (.ty n)
  | tup {a : Addr} {xs : List V} {ds : List D} : SqT K F a xs → RepL K F xs ds → Rep K F (.ref a) (.tup ds)
  | lst {a : Addr} {xs : List V} {ds : List D} : F a = some (.lst xs) → RepL K F xs ds → Rep K F (.ref a) (.lst ds)
  | exc {a dd : Addr} {fv : List (Str × V)} {fs : List (Str × D)} : F dd = some (.xd fv) → RepF K F fv fs → Rep K F (.ref a) (.exc a dd fs)
  | scr {a : Addr} {ns : List Int} : SqL K F a (ns.map V.int) → Rep K F (.ref a) (.scr ns)
  | dic {a : Addr} {xs : List (Key × V)} {ds : List (Key × D)} : Rd F a (.dK xs) → RepK K F xs ds → Rep K F (.ref a) (.dic ds)
  | ins {a C dx : Addr} {xs : List V} {ds : List D} : SlF F a C dx (xs.map some) → RepL K F xs ds → Rep K F (.ref a) (.ins C ds)
  | obj {a C dx : Addr} {xs : List (Str × V)} {ds : List (Str × D)} : F a = some (.ins C dx xs) → RepF K F xs ds → Rep K F (.ref a) (.obj C ds)
inductive RepL (K : PySem.W.Frag) (F : Hp) : List V → List D → Prop
  | nil : RepL K F [] []
  | cons {v : V} {vs : List V} {d : D} {ds : List D} : Rep K F v d → RepL K F vs ds → RepL K F (v :: vs) (d :: ds)
inductive RepK (K : PySem.W.Frag) (F : Hp) : List (Key × V) → List (Key × D) → Prop
  | nil : RepK K F [] []
  | cons {k : Key} {v : V} {vs : List (Key × V)} {d : D} {ds : List (Key × D)} : Rep K F v d → RepK K F vs ds → RepK K F ((k, v) :: vs) ((k, d) :: ds)
inductive RepF (K : PySem.W.Frag) (F : Hp) : List (Str × V) → List (Str × D) → Prop
  | nil : RepF K F [] []
  | cons {k : Str} {v : V} {vs : List (Str × V)} {d : D} {ds : List (Str × D)} : Rep K F v d → RepF K F vs ds → RepF K F ((k, v) :: vs) ((k, d) :: ds)
end

section
variable {K : PySem.W.Frag} {F F' : Hp}
theorem Rd.mono {a : Addr} {u : HO} (s : Same F F') (h : Rd F a u) : Rd F' a u := by
  rcases h with h | ⟨o, h⟩
  · exact .inl (s _ _ h)
  · exact .inr ⟨o, s _ _ h⟩
theorem sqL_mono {a : Addr} {xs : List V} (s : Same F F') (h : SqL K F a xs) : SqL K F' a xs := s.seq h
theorem sqT_mono {a : Addr} {xs : List V} (s : Same F F') (h : SqT K F a xs) : SqT K F' a xs := by
  rcases h with h | h
  · exact .inl (Rd.mono s h)
  · exact .inr h
theorem slF_mono {a C dx : Addr} {vs : List (Option V)} (s : Same F F') (h : SlF F a C dx vs) : SlF F' a C dx vs := ⟨s _ _ h.1, s _ _ h.2⟩
mutual
theorem Rep.mono (s : Same F F') : ∀ {v : V} {d : D}, Rep K F v d → Rep K F' v d
  | _, _, .non => .non
  | _, _, .bl b => .bl b
  | _, _, .int b => .int b
  | _, _, .str b => .str b
  | _, _, .ref b => .ref b
  | _, _, .ty b => .ty b
  | _, _, .tup h r => .tup (sqT_mono s h) (RepL.mono s r)
  | _, _, .lst h r => .lst (s _ _ h) (RepL.mono s r)
  | _, _, .scr h => .scr (sqL_mono s h)
  | _, _, .exc h r => .exc (s _ _ h) (RepF.mono s r)
  | _, _, .dic h r => .dic (Rd.mono s h) (RepK.mono s r)
  | _, _, .ins h r => .ins (slF_mono s h) (RepL.mono s r)
  | _, _, .obj h r => .obj (s _ _ h) (RepF.mono s r)
theorem RepL.mono (s : Same F F') : ∀ {v : List V} {d : List D}, RepL K F v d → RepL K F' v d
  | _, _, .nil => .nil
  | _, _, .cons h r => .cons (Rep.mono s h) (RepL.mono s r)
theorem RepK.mono (s : Same F F') : ∀ {v : List (Key × V)} {d : List (Key × D)}, RepK K F v d → RepK K F' v d
  | _, _, .nil => .nil
  | _, _, .cons h r => .cons (Rep.mono s h) (RepK.mono s r)
theorem RepF.mono (s : Same F F') : ∀ {v : List (Str × V)} {d : List (Str × D)}, RepF K F v d → RepF K F' v d
  | _, _, .nil => .nil
  | _, _, .cons h r => .cons (Rep.mono s h) (RepF.mono s r)
end
theorem RepL.length : ∀ {v : List V} {d : List D}, RepL K F v d → v.length = d.length
  | _, _, .nil => rfl
  | _, _, .cons _ r => by rw [List.length_cons, List.length_cons, RepL.length r]
theorem RepL.append : ∀ {v w : List V} {d e : List D}, RepL K F v d → RepL K F w e → RepL K F (v ++ w) (d ++ e)
  | _, _, _, _, .nil, s => s
  | _, _, _, _, .cons h r, s => .cons h (RepL.append r s)
theorem RepL.get : ∀ {v : List V} {d : List D} {i : Nat} {x : D}, RepL K F v d → d[i]? = some x → ∃ y, v[i]? = some y ∧ Rep K F y x
  | _, _, _, _, .nil, e => by simp at e
  | _, _, 0, _, .cons h r, e => by simp at e; subst e; exact ⟨_, rfl, h⟩
  | _, _, i + 1, _, .cons h r, e => by
    obtain ⟨y, e1, e2⟩ := RepL.get (i := i) r (by simpa using e)
    exact ⟨y, by simpa using e1, e2⟩
theorem RepL.getV : ∀ {v : List V} {d : List D} {i : Nat} {y : V}, RepL K F v d → v[i]? = some y → ∃ x, d[i]? = some x ∧ Rep K F y x
  | _, _, _, _, .nil, e => by simp at e
  | _, _, 0, _, .cons h r, e => by simp at e; subst e; exact ⟨_, rfl, h⟩
  | _, _, i + 1, _, .cons h r, e => by
    obtain ⟨y, e1, e2⟩ := RepL.getV (i := i) r (by simpa using e)
    exact ⟨y, by simpa using e1, e2⟩
theorem RepL.set {x : D} {y : V} (h : Rep K F y x) : ∀ {v : List V} {d : List D} (i : Nat), RepL K F v d → RepL K F (v.set i y) (d.set i x)
  | _, _, _, .nil => .nil
  | _, _, 0, .cons _ r => .cons h r
  | _, _, i + 1, .cons q r => .cons q (RepL.set h i r)
theorem RepL.take : ∀ {v : List V} {d : List D} (n : Nat), RepL K F v d → RepL K F (v.take n) (d.take n)
  | _, _, 0, _ => .nil
  | _, _, _ + 1, .nil => .nil
  | _, _, n + 1, .cons h r => .cons h (RepL.take n r)
theorem RepL.drop : ∀ {v : List V} {d : List D} (n : Nat), RepL K F v d → RepL K F (v.drop n) (d.drop n)
  | _, _, 0, h => h
  | _, _, _ + 1, .nil => .nil
  | _, _, n + 1, .cons h r => RepL.drop n r
end

/-- what stands at a changing object's address -/
def MoR (K : PySem.W.Frag) (F H : Hp) (a : Addr) : MO → Prop
  | .lst ds => ∃ xs, H a = some (.lst xs) ∧ RepL K F xs ds
  | .dic ds => ∃ xs, H a = some (.dK xs) ∧ RepK K F xs ds
  | .ins C dx ds => ∃ xs, H a = some (.ins C dx xs) ∧ RepF K F xs ds
  | .slt C dx ds => ∃ xs, H a = some (SlX.SlO a C dx xs) ∧ F dx = some (.xd []) ∧ xs.length = ds.length ∧ ∀ (i : Nat) d, ds[i]? = some (some d) → ∃ v, xs[i]? = some (some v) ∧ Rep K F v d
  | .pool => ∃ i j k : Int, H a = some (.lst [.int i, .int j, .int k]) ∧ 0 ≤ i ∧ i < 2147483648 ∧ 0 ≤ j ∧ 0 ≤ k
structure HR (K : PySem.W.Frag) (Z : Hp) (M : Mh) (H : Hp) : Prop where
  mem : ∀ a o, M a = some o → MoR K (out Z M H) H a o
  hid : ∀ a o, Z a = some o → H a = some o ∧ M a = none ∧ ∀ x, o ≠ .own x
/-- the written part, and which exceptions may leave (T: what is hidden, what never changes) -/
structure Kt where
  K : PySem.W.Frag
  T : Hp → Hp → Prop
  mono : ∀ Z F F', Same F F' → T Z F → T Z F'
structure SR (k : Kt) (Z : Hp) (r : List (Option D)) (M : Mh) (st : Sg) (H : Hp) : Prop where
  len : r.length = st.length
  sl : ∀ (i : Nat) d, r[i]? = some (some d) → ∃ v, st[i]? = some (some v) ∧ Rep k.K (out Z M H) v d
  hr : HR k.K Z M H
  tk : k.T Z (out Z M H)

section
variable {K : PySem.W.Frag} {k : Kt} {F F' Z : Hp} {M M' : Mh} {H H' : Hp} {r : List (Option D)} {st : Sg} {p : Addr} {o : HO} {mo : MO}
theorem MoR.some {a : Addr} (h : MoR K F H a mo) : ∃ o, H a = some o := by
  cases mo with
  | lst ds => obtain ⟨_, e, _⟩ := h; exact ⟨_, e⟩
  | dic ds => obtain ⟨_, e, _⟩ := h; exact ⟨_, e⟩
  | ins C dx ds => obtain ⟨_, e, _⟩ := h; exact ⟨_, e⟩
  | slt C dx ds =>
    obtain ⟨_, e, _⟩ := h
    exact ⟨_, e⟩
  | pool => obtain ⟨_, _, _, e, _⟩ := h; exact ⟨_, e⟩
theorem MoR.mono {a : Addr} (s : Same F F') (k : ∀ b u, H b = Option.some u → (b = a ∨ u = .own a) → H' b = Option.some u) (h : MoR K F H a mo) : MoR K F' H' a mo := by
  cases mo with
  | lst ds => obtain ⟨xs, e, q⟩ := h; exact ⟨xs, k _ _ e (.inl rfl), q.mono s⟩
  | dic ds => obtain ⟨xs, e, q⟩ := h; exact ⟨xs, k _ _ e (.inl rfl), q.mono s⟩
  | ins C dx ds => obtain ⟨xs, e, q⟩ := h; exact ⟨xs, k _ _ e (.inl rfl), q.mono s⟩
  | slt C dx ds =>
    obtain ⟨xs, e, e2, l, q⟩ := h
    refine ⟨xs, k _ _ e (.inl rfl), s _ _ e2, l, fun i d z => ?_⟩
    obtain ⟨v, h1, h2⟩ := q i d z
    exact ⟨v, h1, h2.mono s⟩
  | pool => obtain ⟨i, j, l, e, q⟩ := h; exact ⟨i, j, l, k _ _ e (.inl rfl), q⟩
/-- the kinds of objects that stand in M -/
theorem MoR.kind {a : Addr} (h : MoR K F H a mo) : ∀ x, H a ≠ Option.some (.own x) := fun x e => by
  cases mo with
  | lst ds => obtain ⟨_, z, _⟩ := h; rw [e] at z; cases z
  | dic ds => obtain ⟨_, z, _⟩ := h; rw [e] at z; cases z
  | ins C dx ds => obtain ⟨_, z, _⟩ := h; rw [e] at z; cases z
  | slt C dx ds =>
    obtain ⟨_, z, _⟩ := h
    rw [e] at z
    have z' : HO.own x = HO.ext _ := Option.some.inj z
    cases z'
  | pool => obtain ⟨_, _, _, z, _⟩ := h; rw [e] at z; cases z
theorem HR.own (m : HR K Z M H) {dx a : Addr} (e : H dx = Option.some (.own a)) : M dx = none ∧ Z dx = none := by
  refine ⟨?_, ?_⟩
  · cases q : M dx with
    | none => rfl
    | some u => exact absurd e ((m.mem dx u q).kind a)
  · cases q : Z dx with
    | none => rfl
    | some u =>
      obtain ⟨z1, _, z3⟩ := m.hid dx u q
      rw [e] at z1
      exact absurd (Option.some.inj z1).symm (z3 a)
theorem HR.fresh (m : HR K Z M H) (h : H p = none) : M p = none ∧ Z p = none := by
  refine ⟨?_, ?_⟩
  · cases e : M p with
    | none => rfl
    | some o =>
      obtain ⟨u, q⟩ := (m.mem p o e).some
      rw [h] at q; cases q
  · cases e : Z p with
    | none => rfl
    | some o =>
      have q := (m.hid p o e).1
      rw [h] at q; cases q
/-- a new object that never changes -/
theorem out_new (m : HR K Z M H) (h : H p = none) : out Z M (upd H p o) = upd (out Z M H) p o := by
  funext b
  by_cases hb : b = p
  · subst hb
    rw [out_none (m.fresh h).2 (m.fresh h).1, upd_same, upd_same]
  · rw [upd_ne hb]
    unfold out
    rw [upd_ne hb]
theorem same_upd (h : F p = none) : Same F (upd F p o) := fun b u e => by rw [upd_ne (ne_of_none e h)]; exact e
theorem out_free (h : H p = none) : out Z M H p = none := by
  unfold out
  split
  · rfl
  · split
    · exact h
    · rfl
theorem same_new (m : HR K Z M H) (h : H p = none) : Same (out Z M H) (out Z M (upd H p o)) := by
  rw [out_new m h]
  exact same_upd (out_free h)
theorem HR.new (m : HR K Z M H) (h : H p = none) : HR K Z M (upd H p o) where
  mem := fun a u e => (m.mem a u e).mono (same_new m h) fun b w z _ => by rw [upd_ne (ne_of_none z h)]; exact z
  hid := fun a u e => by
    obtain ⟨z1, z2, z3⟩ := m.hid a u e
    exact ⟨by rw [upd_ne (ne_of_none z1 h)]; exact z1, z2, z3⟩
theorem SR.step (q : SR k Z r M st H) (m : HR k.K Z M' H') (s : Same (out Z M H) (out Z M' H')) : SR k Z r M' st H' :=
  ⟨q.len, fun i d e => let ⟨v, h1, h2⟩ := q.sl i d e; ⟨v, h1, h2.mono s⟩, m, k.mono _ _ _ s q.tk⟩
theorem SR.new (q : SR k Z r M st H) (h : H p = none) : SR k Z r M st (upd H p o) := q.step (q.hr.new h) (same_new q.hr h)
/-- an object that may change: new, or another one at its place -/
theorem out_mset (m : HR K Z M H) (h : ∀ b, b ≠ p → H' b = H b) (e : H p = none ∨ M p ≠ none) : out Z (mset M p mo) H' = out Z M H := by
  funext b
  by_cases hb : b = p
  · subst hb
    rw [out_some (mset_same)]
    rcases e with e | e
    · exact (out_free e).symm
    · cases z : M b with
      | none => exact absurd z e
      | some u => exact (out_some z).symm
  · unfold out
    rw [mset_ne hb, h b hb]
theorem HR.mset (m : HR K Z M H) (h : ∀ b, b ≠ p → H' b = H b) (e : H p = none ∨ M p ≠ none) (q : MoR K (out Z M H) H' p mo) : HR K Z (mset M p mo) H' where
  mem := fun a u z => by
    by_cases ha : a = p
    · subst ha
      rw [mset_same] at z
      cases z
      rw [out_mset m h e]
      exact q
    · rw [mset_ne ha] at z
      rw [out_mset m h e]
      have y := m.mem a u z
      refine y.mono (Same.refl _) (fun b w k hb => ?_)
      rcases hb with rfl | rfl
      · rw [h _ ha]; exact k
      · have : b ≠ p := by
          rintro rfl
          rcases e with e | e
          · rw [e] at k; cases k
          · exact e (m.own k).1
        rw [h b this]; exact k
  hid := fun a u z => by
    obtain ⟨z1, z2, z3⟩ := m.hid a u z
    have ha : a ≠ p := by
      rintro rfl
      rcases e with e | e
      · rw [e] at z1; cases z1
      · exact e z2
    exact ⟨by rw [h a ha]; exact z1, by rw [mset_ne ha]; exact z2, z3⟩
theorem SR.mset (s : SR k Z r M st H) (h : ∀ b, b ≠ p → H' b = H b) (e : H p = none ∨ M p ≠ none) (q : MoR k.K (out Z M H) H' p mo) : SR k Z r (mset M p mo) st H' :=
  s.step (s.hr.mset h e q) (by rw [out_mset s.hr h e]; exact Same.refl _)
/-- some of the changing objects are let go: from now on they never change -/
def Less (M' M : Mh) : Prop := ∀ a, M' a = M a ∨ M' a = none
theorem Less.same (l : Less M' M) : Same (out Z M H) (out Z M' H) := fun a o e => by
  obtain ⟨z1, z2, z3⟩ := out_at e
  rw [out_none z1]
  · exact z3
  · rcases l a with z | z
    · exact z.trans z2
    · exact z
theorem HR.less (m : HR K Z M H) (l : Less M' M) : HR K Z M' H where
  mem := fun a u e => by
    have e' : M a = some u := by
      rcases l a with z | z
      · rw [← z]; exact e
      · rw [z] at e; cases e
    exact (m.mem a u e').mono l.same (fun _ _ k _ => k)
  hid := fun a u e => by
    obtain ⟨z1, z2, z3⟩ := m.hid a u e
    refine ⟨z1, ?_, z3⟩
    rcases l a with z | z
    · exact z.trans z2
    · exact z
theorem SR.less (s : SR k Z r M st H) (l : Less M' M) : SR k Z r M' st H := s.step (s.hr.less l) l.same
theorem less_del : Less (mdel M p) M := fun a => by
  unfold mdel
  split
  · exact .inr rfl
  · exact .inl rfl
theorem Less.refl : Less M M := fun _ => .inl rfl
/-- a list is let go -/
theorem HR.freeze {ds : List D} (m : HR K Z M H) (e : M p = some (.lst ds)) : Rep K (out Z (mdel M p) H) (.ref p) (.lst ds) := by
  obtain ⟨xs, h, q⟩ := m.mem p _ e
  have z : Z p = none := by
    cases q : Z p with
    | none => rfl
    | some u => have := (m.hid p u q).2.1; rw [e] at this; cases this
  exact .lst (by rw [out_none z mdel_same]; exact h) (q.mono less_del.same)
theorem SR.set (s : SR k Z r M st H) {v : V} {d : D} (h : Rep k.K (out Z M H) v d) (i : Nat) : SR k Z (r.set i (some d)) M (st.set i (some v)) H where
  len := by rw [List.length_set, List.length_set, s.len]
  hr := s.hr
  tk := s.tk
  sl := fun j e z => by
    by_cases hj : i = j
    · subst hj
      rw [List.getElem?_set] at z
      split at z
      · split at z
        · cases z
          refine ⟨v, ?_, h⟩
          rw [List.getElem?_set]
          rename_i _ hl
          rw [if_pos rfl, if_pos (by rw [← s.len]; exact hl)]
        · cases z
      · rename_i n; exact absurd rfl n
    · rw [List.getElem?_set_ne hj] at z
      obtain ⟨y, h1, h2⟩ := s.sl j e z
      exact ⟨y, by rw [List.getElem?_set_ne hj]; exact h1, h2⟩
/-- something is hidden: a new list, say -/
theorem HR.hide (m : HR K Z M H) (h : H p = none) (ho : ∀ x, o ≠ .own x) : HR K (upd Z p o) M (upd H p o) ∧ out (upd Z p o) M (upd H p o) = out Z M H := by
  have eo : out (upd Z p o) M (upd H p o) = out Z M H := by
    funext b
    by_cases hb : b = p
    · subst hb
      rw [out_hid upd_same, out_free h]
    · unfold out
      rw [upd_ne hb, upd_ne hb]
  refine ⟨⟨fun a u e => ?_, fun a u e => ?_⟩, eo⟩
  · rw [eo]
    exact (m.mem a u e).mono (Same.refl _) fun b w z _ => by rw [upd_ne (ne_of_none z h)]; exact z
  · by_cases ha : a = p
    · subst ha
      rw [upd_same] at e
      cases e
      exact ⟨upd_same, (m.fresh h).1, ho⟩
    · rw [upd_ne ha] at e
      obtain ⟨z1, z2, z3⟩ := m.hid a u e
      exact ⟨by rw [upd_ne ha]; exact z1, z2, z3⟩
/-- the hidden thing changes -/
theorem HR.rehide {o' : HO} (m : HR K (upd Z p o) M H) (ho : ∀ x, o' ≠ .own x) : HR K (upd Z p o') M (upd H p o') ∧ out (upd Z p o') M (upd H p o') = out (upd Z p o) M H := by
  have eo : out (upd Z p o') M (upd H p o') = out (upd Z p o) M H := by
    funext b
    by_cases hb : b = p
    · subst hb
      rw [out_hid upd_same, out_hid upd_same]
    · unfold out
      rw [upd_ne hb, upd_ne hb, upd_ne hb]
  have hp := m.hid p o upd_same
  refine ⟨⟨fun a u e => ?_, fun a u e => ?_⟩, eo⟩
  · rw [eo]
    refine (m.mem a u e).mono (Same.refl _) fun b w z hb => ?_
    have nb : b ≠ p := by
      rintro rfl
      rcases hb with rfl | rfl
      · rw [hp.2.1] at e; cases e
      · rw [hp.1] at z; exact hp.2.2 _ (Option.some.inj z)
    rw [upd_ne nb]; exact z
  · by_cases ha : a = p
    · subst ha
      rw [upd_same] at e
      cases e
      exact ⟨upd_same, hp.2.1, ho⟩
    · rw [upd_ne ha] at e
      obtain ⟨z1, z2, z3⟩ := m.hid a u (by rw [upd_ne ha]; exact e)
      exact ⟨by rw [upd_ne ha]; exact z1, z2, z3⟩
/-- the hidden thing is shown: from now on it never changes -/
theorem HR.show_ (m : HR K (upd Z p o) M H) (hz : Z p = none) : HR K Z M H ∧ Same (out (upd Z p o) M H) (out Z M H) ∧ out Z M H p = Option.some o := by
  have hp := m.hid p o upd_same
  have sm : Same (out (upd Z p o) M H) (out Z M H) := fun a u e => by
    obtain ⟨z1, z2, z3⟩ := out_at e
    have ha : a ≠ p := by
      rintro rfl
      rw [upd_same] at z1; cases z1
    rw [upd_ne ha] at z1
    rw [out_none z1 z2]; exact z3
  refine ⟨⟨fun a u e => (m.mem a u e).mono sm fun _ _ z _ => z, fun a u e => ?_⟩, sm, by rw [out_none hz hp.2.1]; exact hp.1⟩
  have ha : a ≠ p := by
    rintro rfl
    rw [hz] at e; cases e
  exact m.hid a u (by rw [upd_ne ha]; exact e)
/-- .. or it may change from now on -/
theorem hr_thaw {xs : List V} {ds : List D} (m : HR K (upd Z p (.lst xs)) M H) (hz : Z p = none) (rl : RepL K (out (upd Z p (.lst xs)) M H) xs ds) : HR K Z (mset M p (.lst ds)) H ∧ out Z (mset M p (.lst ds)) H = out (upd Z p (.lst xs)) M H := by
  have hp := m.hid p _ upd_same
  have eo : out Z (mset M p (.lst ds)) H = out (upd Z p (.lst xs)) M H := by
    funext b
    by_cases hb : b = p
    · subst hb
      rw [out_hid upd_same, out_some mset_same]
    · unfold out
      rw [upd_ne hb, mset_ne hb]
  refine ⟨⟨fun a u e => ?_, fun a u e => ?_⟩, eo⟩
  · rw [eo]
    by_cases ha : a = p
    · subst ha
      rw [mset_same] at e
      cases e
      exact ⟨xs, hp.1, rl⟩
    · rw [mset_ne ha] at e
      exact m.mem a u e
  · have ha : a ≠ p := by
      rintro rfl
      rw [hz] at e; cases e
    obtain ⟨z1, z2, z3⟩ := m.hid a u (by rw [upd_ne ha]; exact e)
    exact ⟨z1, by rw [mset_ne ha]; exact z2, z3⟩
end

/-! ### judgements -/
/-- an exception at the tree layer: its class, its fields, what may change -/
abbrev DXK := Value → List (Str × D) → Mh → Prop
abbrev DWX := Value → List (Str × D) → List (Option D) → Mh → Prop
/-- nothing is let out -/
abbrev WN : DWX := fun _ _ _ _ => False
def ExF (K : PySem.W.Frag) (F : Hp) (dx : Option Addr) (fs : List (Str × D)) : Prop := (dx = none ∧ fs = []) ∨ ∃ d fv, dx = some d ∧ F d = some (.xd fv) ∧ RepF K F fv fs
/-- what is wanted of an exception here -/
def XW (K : PySem.W.Frag) (Z F : Hp) (W : DWX) : WX := fun cls dx st H' => ∃ fs r M', ExF K (out Z M' H') dx fs ∧ r.length = st.length ∧ (∀ (i : Nat) d, r[i]? = some (some d) → ∃ v, st[i]? = some (some v) ∧ Rep K (out Z M' H') v d) ∧ HR K Z M' H' ∧ Same F (out Z M' H') ∧ W cls fs r M'
theorem XW.mono {K : PySem.W.Frag} {Z F F' : Hp} {W : DWX} (s : Same F F') {cls : Value} {dx : Option Addr} {st : Sg} {H' : Hp} (h : XW K Z F' W cls dx st H') : XW K Z F W cls dx st H' := by
  obtain ⟨fs, r, M', a, b, c, d, e, f⟩ := h
  exact ⟨fs, r, M', a, b, c, d, s.trans e, f⟩
@[reducible] def kx (X : Cx) (W : DWX) : Kt := ⟨X.K, fun Z F => Takes X (XW X.K Z F W), fun Z F F' s h => h.imp fun c d st H z => z.mono s⟩
abbrev Rho := List (Option D)
abbrev QD := D → Mh → Prop
abbrev DTE := Rho → Mh → QD → Prop
abbrev DTT := Rho → Mh → (Bool → Mh → Prop) → Prop
abbrev DTA := Rho → Mh → (List D → Mh → Prop) → Prop
structure DEnds where
  nx : Rho → Mh → Prop
  rt : QD
  bk : Rho → Mh → Prop := fun _ _ => False
  ct : Rho → Mh → Prop := fun _ _ => False
abbrev DTS := DEnds → Rho → Mh → Prop

def EQ (k : Kt) (Z : Hp) (st : Sg) (r : Rho) (F : Hp) (Q : QD) : VK := fun v H' => ∃ d M', SR k Z r M' st H' ∧ Rep k.K (out Z M' H') v d ∧ Same F (out Z M' H') ∧ Q d M'
def TQ (k : Kt) (Z : Hp) (st : Sg) (r : Rho) (F : Hp) (Q : Bool → Mh → Prop) : Bool → Hp → Prop := fun b H' => ∃ M', SR k Z r M' st H' ∧ Same F (out Z M' H') ∧ Q b M'
def AQ (k : Kt) (Z : Hp) (st : Sg) (r : Rho) (F : Hp) (Q : List D → Mh → Prop) : List V → Hp → Prop := fun vs H' => ∃ ds M', SR k Z r M' st H' ∧ RepL k.K (out Z M' H') vs ds ∧ Same F (out Z M' H') ∧ Q ds M'
def NQ (k : Kt) (Z : Hp) (F : Hp) (Q : Rho → Mh → Prop) : Sg → Hp → Prop := fun st H' => ∃ r M', SR k Z r M' st H' ∧ Same F (out Z M' H') ∧ Q r M'
def RQ (K : PySem.W.Frag) (Z : Hp) (F : Hp) (Q : QD) : VK := fun v H' => ∃ d M', HR K Z M' H' ∧ Rep K (out Z M' H') v d ∧ Same F (out Z M' H') ∧ Q d M'
def SQ (k : Kt) (Z : Hp) (F : Hp) (D : DEnds) : Ends := ⟨NQ k Z F D.nx, RQ k.K Z F D.rt, NQ k Z F D.bk, NQ k Z F D.ct⟩

structure DE (X : Cx) (W : DWX) (e : Expr) (t : DTE) : Prop where
  run : ∀ (pins : List (Addr × Obj)) (s : Shared) (st : Sg) (H Z : Hp) (r : Rho) (M : Mh) (Q : QD), Inv X pins st H s → SR (kx X W) Z r M st H → t r M Q → wpAny (model X.prog X.w) X.A (eval e X.env) (EP X pins st (EQ (kx X W) Z st r (out Z M H) Q)) X.xe s
structure DT (X : Cx) (W : DWX) (e : Expr) (t : DTT) : Prop where
  run : ∀ (pins : List (Addr × Obj)) (s : Shared) (st : Sg) (H Z : Hp) (r : Rho) (M : Mh) (Q : Bool → Mh → Prop), Inv X pins st H s → SR (kx X W) Z r M st H → t r M Q → wpAny (model X.prog X.w) X.A (isTrue e X.env (eval e X.env)) (TP X pins st (TQ (kx X W) Z st r (out Z M H) Q)) X.xe s
structure DW (X : Cx) (W : DWX) (e : Expr) (t : DTT) : Prop where
  run : ∀ (whole : Sem Value) (pins : List (Addr × Obj)) (s : Shared) (st : Sg) (H Z : Hp) (r : Rho) (M : Mh) (Q : Bool → Mh → Prop), Inv X pins st H s → SR (kx X W) Z r M st H → t r M Q → wpAny (model X.prog X.w) X.A (isTrue e X.env whole) (TP X pins st (TQ (kx X W) Z st r (out Z M H) Q)) X.xe s
structure DA (X : Cx) (W : DWX) (es : List Expr) (t : DTA) : Prop where
  run : ∀ (pos : Pos) (pins : List (Addr × Obj)) (s : Shared) (st : Sg) (H Z : Hp) (r : Rho) (M : Mh) (Q : List D → Mh → Prop), Inv X pins st H s → SR (kx X W) Z r M st H → t r M Q → wpAny (model X.prog X.w) X.A (spliced (backTo pos (starEach es X.env))) (AP X pins st (AQ (kx X W) Z st r (out Z M H) Q)) X.xe s
structure DS (X : Cx) (W : DWX) (c : Stmt) (t : DTS) : Prop where
  run : ∀ (pins : List (Addr × Obj)) (s : Shared) (st : Sg) (H Z : Hp) (r : Rho) (M : Mh) (D : DEnds), Inv X pins st H s → SR (kx X W) Z r M st H → t D r M → wpAny (model X.prog X.w) X.A (exec c X.env) (SP X pins (SQ (kx X W) Z (out Z M H) D)) X.xe s
structure DSs (X : Cx) (W : DWX) (c : List Stmt) (t : DTS) : Prop where
  run : ∀ (pins : List (Addr × Obj)) (s : Shared) (st : Sg) (H Z : Hp) (r : Rho) (M : Mh) (D : DEnds), Inv X pins st H s → SR (kx X W) Z r M st H → t D r M → wpAny (model X.prog X.w) X.A (execs c X.env) (SP X pins (SQ (kx X W) Z (out Z M H) D)) X.xe s

/-! ### between the layers -/
def liftE (k : Kt) (t : DTE) : TE := fun st H Q => ∃ Z r M DQ, SR k Z r M st H ∧ t r M DQ ∧ ∀ v H', EQ k Z st r (out Z M H) DQ v H' → Q v H'
def liftT (k : Kt) (t : DTT) : TT := fun st H Q => ∃ Z r M DQ, SR k Z r M st H ∧ t r M DQ ∧ ∀ v H', TQ k Z st r (out Z M H) DQ v H' → Q v H'
def liftA (k : Kt) (t : DTA) : TA := fun st H Q => ∃ Z r M DQ, SR k Z r M st H ∧ t r M DQ ∧ ∀ v H', AQ k Z st r (out Z M H) DQ v H' → Q v H'
def liftS (k : Kt) (t : DTS) : TS := fun E st H => ∃ Z r M D, SR k Z r M st H ∧ t D r M ∧ (∀ a b, NQ k Z (out Z M H) D.nx a b → E.nx a b) ∧ (∀ a b, RQ k.K Z (out Z M H) D.rt a b → E.rt a b) ∧ (∀ a b, NQ k Z (out Z M H) D.bk a b → E.bk a b) ∧ (∀ a b, NQ k Z (out Z M H) D.ct a b → E.ct a b)
section
variable {X : Cx} {W : DWX} {e : Expr} {es : List Expr} {c : Stmt} {cs : List Stmt}
theorem DE.pe {t : DTE} (h : DE X W e t) : PE X e (liftE (kx X W) t) := ⟨fun pins s st H Q I ⟨Z, r, M, DQ, q, ht, k⟩ =>
  thn (h.run pins s st H Z r M DQ I q ht) fun _ _ ⟨v, H', I', rv, z⟩ => ⟨v, H', I', rv, k v H' z⟩⟩
theorem DT.pt {t : DTT} (h : DT X W e t) : PT X e (liftT (kx X W) t) := ⟨fun pins s st H Q I ⟨Z, r, M, DQ, q, ht, k⟩ =>
  thn (h.run pins s st H Z r M DQ I q ht) fun _ _ ⟨H', I', z⟩ => ⟨H', I', k _ H' z⟩⟩
theorem DW.pw {t : DTT} (h : DW X W e t) : PW X e (liftT (kx X W) t) := ⟨fun wh pins s st H Q I ⟨Z, r, M, DQ, q, ht, k⟩ =>
  thn (h.run wh pins s st H Z r M DQ I q ht) fun _ _ ⟨H', I', z⟩ => ⟨H', I', k _ H' z⟩⟩
theorem DW.dt {t : DTT} (h : DW X W e t) : DT X W e t := ⟨h.run _⟩
theorem DA.pa {t : DTA} (h : DA X W es t) : PA X es (liftA (kx X W) t) := ⟨fun pos pins s st H Q I ⟨Z, r, M, DQ, q, ht, k⟩ =>
  thn (h.run pos pins s st H Z r M DQ I q ht) fun _ _ ⟨v, H', I', rv, z⟩ => ⟨v, H', I', rv, k v H' z⟩⟩
theorem sp_imp {pins : List (Addr × Obj)} {E E' : Ends} (h1 : ∀ a b, E.nx a b → E'.nx a b) (h2 : ∀ a b, E.rt a b → E'.rt a b) (h3 : ∀ a b, E.bk a b → E'.bk a b) (h4 : ∀ a b, E.ct a b → E'.ct a b) {f : Flow} {s : Shared} (h : SP X pins E f s) : SP X pins E' f s := by
  cases f with
  | next => obtain ⟨a, b, I, q⟩ := h; exact ⟨a, b, I, h1 _ _ q⟩
  | brk => obtain ⟨a, b, I, q⟩ := h; exact ⟨a, b, I, h3 _ _ q⟩
  | cont => obtain ⟨a, b, I, q⟩ := h; exact ⟨a, b, I, h4 _ _ q⟩
  | ret u => obtain ⟨v, a, b, I, rv, q⟩ := h; exact ⟨v, a, b, I, rv, h2 _ _ q⟩
theorem DS.ps {t : DTS} (h : DS X W c t) : PS X c (liftS (kx X W) t) := ⟨fun pins s st H E I ⟨Z, r, M, D, q, ht, k1, k2, k3, k4⟩ =>
  thn (h.run pins s st H Z r M D I q ht) fun _ _ z => sp_imp k1 k2 k3 k4 z⟩
theorem DSs.pss {t : DTS} (h : DSs X W cs t) : PSs X cs (liftS (kx X W) t) := ⟨fun pins s st H E I ⟨Z, r, M, D, q, ht, k1, k2, k3, k4⟩ =>
  thn (h.run pins s st H Z r M D I q ht) fun _ _ z => sp_imp k1 k2 k3 k4 z⟩
theorem DE.of {t : DTE} {t0 : TE} (h : PE X e t0) (k : ∀ (st : Sg) (H Z : Hp) (r : Rho) (M : Mh) (Q : QD), SR (kx X W) Z r M st H → t r M Q → t0 st H (EQ (kx X W) Z st r (out Z M H) Q)) : DE X W e t :=
  ⟨fun pins s st H Z r M Q I q ht => h.run pins s st H _ I (k st H Z r M Q q ht)⟩
theorem DT.of {t : DTT} {t0 : TT} (h : PT X e t0) (k : ∀ (st : Sg) (H Z : Hp) (r : Rho) (M : Mh) (Q : Bool → Mh → Prop), SR (kx X W) Z r M st H → t r M Q → t0 st H (TQ (kx X W) Z st r (out Z M H) Q)) : DT X W e t :=
  ⟨fun pins s st H Z r M Q I q ht => h.run pins s st H _ I (k st H Z r M Q q ht)⟩
theorem DW.of {t : DTT} {t0 : TT} (h : PW X e t0) (k : ∀ (st : Sg) (H Z : Hp) (r : Rho) (M : Mh) (Q : Bool → Mh → Prop), SR (kx X W) Z r M st H → t r M Q → t0 st H (TQ (kx X W) Z st r (out Z M H) Q)) : DW X W e t :=
  ⟨fun wh pins s st H Z r M Q I q ht => h.run wh pins s st H _ I (k st H Z r M Q q ht)⟩
theorem DA.of {t : DTA} {t0 : TA} (h : PA X es t0) (k : ∀ (st : Sg) (H Z : Hp) (r : Rho) (M : Mh) (Q : List D → Mh → Prop), SR (kx X W) Z r M st H → t r M Q → t0 st H (AQ (kx X W) Z st r (out Z M H) Q)) : DA X W es t :=
  ⟨fun pos pins s st H Z r M Q I q ht => h.run pos pins s st H _ I (k st H Z r M Q q ht)⟩
theorem DS.of {t : DTS} {t0 : TS} (h : PS X c t0) (k : ∀ (st : Sg) (H Z : Hp) (r : Rho) (M : Mh) (D : DEnds), SR (kx X W) Z r M st H → t D r M → t0 (SQ (kx X W) Z (out Z M H) D) st H) : DS X W c t :=
  ⟨fun pins s st H Z r M D I q ht => h.run pins s st H _ I (k st H Z r M D q ht)⟩
theorem DSs.of {t : DTS} {t0 : TS} (h : PSs X cs t0) (k : ∀ (st : Sg) (H Z : Hp) (r : Rho) (M : Mh) (D : DEnds), SR (kx X W) Z r M st H → t D r M → t0 (SQ (kx X W) Z (out Z M H) D) st H) : DSs X W cs t :=
  ⟨fun pins s st H Z r M D I q ht => h.run pins s st H _ I (k st H Z r M D q ht)⟩
end
end DL

set_option maxHeartbeats 2000000
/-! DL2: expressions. -/
namespace DL
open PySem PySem.Spec PyProof.Rows L2

section
variable {K : PySem.W.Frag} {k : Kt} {F F' Z : Hp} {M M' : Mh} {H H' : Hp} {r : Rho} {st : Sg} {Q : QD} {v : V} {d : D} {p : Addr}
theorem EQ.val (q : SR k Z r M st H) (h : Rep k.K (out Z M H) v d) (z : Q d M) : EQ k Z st r (out Z M H) Q v H := ⟨d, M, q, h, Same.refl _, z⟩
theorem EQ.mono (s : Same F F') (h : EQ k Z st r F' Q v H) : EQ k Z st r F Q v H := by
  obtain ⟨d, M', q, h, s', z⟩ := h
  exact ⟨d, M', q, h, s.trans s', z⟩
theorem TQ.mono {Q : Bool → Mh → Prop} {b : Bool} (s : Same F F') (h : TQ k Z st r F' Q b H) : TQ k Z st r F Q b H := by
  obtain ⟨M', q, s', z⟩ := h
  exact ⟨M', q, s.trans s', z⟩
theorem AQ.mono {Q : List D → Mh → Prop} {vs : List V} (s : Same F F') (h : AQ k Z st r F' Q vs H) : AQ k Z st r F Q vs H := by
  obtain ⟨ds, M', q, h, s', z⟩ := h
  exact ⟨ds, M', q, h, s.trans s', z⟩
theorem NQ.mono {Q : Rho → Mh → Prop} (s : Same F F') (h : NQ k Z F' Q st H) : NQ k Z F Q st H := by
  obtain ⟨r, M', q, s', z⟩ := h
  exact ⟨r, M', q, s.trans s', z⟩
theorem RQ.mono (s : Same F F') (h : RQ K Z F' Q v H) : RQ K Z F Q v H := by
  obtain ⟨d, M', q, h, s', z⟩ := h
  exact ⟨d, M', q, h, s.trans s', z⟩
/-- a new thing that never changes -/
theorem EQ.new {o : HO} (q : SR k Z r M st H) (hp : H p = none) (h : Rep k.K (upd (out Z M H) p o) (.ref p) d) (z : Q d M) : EQ k Z st r (out Z M H) Q (.ref p) (upd H p o) :=
  ⟨d, M, q.new hp, by rw [out_new q.hr hp]; exact h, same_new q.hr hp, z⟩
theorem rep_new {o : HO} (hp : H p = none) (h : Rep K (out Z M H) v d) : Rep K (upd (out Z M H) p o) v d := h.mono (same_upd (out_free hp))
theorem repL_new {o : HO} {xs : List V} {ds : List D} (hp : H p = none) (h : RepL K (out Z M H) xs ds) : RepL K (upd (out Z M H) p o) xs ds := h.mono (same_upd (out_free hp))
theorem EQ.newLst {xs : List V} {ds : List D} (q : SR k Z r M st H) (hp : H p = none) (h : RepL k.K (out Z M H) xs ds) (z : Q (.lst ds) M) : EQ k Z st r (out Z M H) Q (.ref p) (upd H p (.lst xs)) :=
  EQ.new q hp (.lst upd_same (repL_new hp h)) z
theorem EQ.newTup {xs : List V} {ds : List D} (q : SR k Z r M st H) (hp : H p = none) (h : RepL k.K (out Z M H) xs ds) (z : Q (.tup ds) M) : EQ k Z st r (out Z M H) Q (.ref p) (upd H p (.tup xs)) :=
  EQ.new q hp (.tup (.inl (.inl upd_same)) (repL_new hp h)) z
end

/-! ### names, constants -/
def dVar (i : Nat) : DTE := fun r M Q => match r[i]? with
  | some (some d) => Q d M
  | _ => False
def dC (d : D) : DTE := fun _ M Q => Q d M
section
variable {X : Cx} {W : DWX} {pos : Pos}
theorem de_var {i : Nat} {x : Str} (hN : X.N[i]? = some x) (hv : Vis X.env.scope x) (hd : (x == ("__debug__" : Str)) = false := by decide) (hcd : (x == ("__classdict__" : Str)) = false := by decide) : DE X W (.Name x pos) (dVar i) :=
  DE.of (pe_var hN hv hd hcd) fun st H Z r M Q q h => by
    unfold dVar at h
    split at h
    · rename_i d e
      obtain ⟨v, e1, rv⟩ := q.sl i d e
      exact ⟨v, e1, EQ.val q rv h⟩
    · exact h.elim
theorem dv (i : Nat) {x : Str} (hN : X.N[i]? = some x := by rfl) (hv : Vis X.env.scope x := by first | exact Or.inl rfl | exact Or.inr (Or.inl rfl) | exact Or.inr (Or.inr rfl)) (hd : (x == ("__debug__" : Str)) = false := by decide)
    (hcd : (x == ("__classdict__" : Str)) = false := by decide) : DE X W (.Name x pos) (dVar i) := de_var hN hv hd hcd
/-- a name that holds a changing list: from now on it never changes -/
def dVarF (i : Nat) : DTE := fun r M Q => ∃ p ds, r[i]? = some (some (.ref p)) ∧ M p = some (.lst ds) ∧ Q (.lst ds) (mdel M p)
theorem dvF (i : Nat) {x : Str} (hN : X.N[i]? = some x := by rfl) (hv : Vis X.env.scope x := by first | exact Or.inl rfl | exact Or.inr (Or.inl rfl) | exact Or.inr (Or.inr rfl)) (hd : (x == ("__debug__" : Str)) = false := by decide)
    (hcd : (x == ("__classdict__" : Str)) = false := by decide) : DE X W (.Name x pos) (dVarF i) :=
  DE.of (pe_var hN hv hd hcd) fun st H Z r M Q q h => by
    obtain ⟨p, ds, e, hp, h⟩ := h
    obtain ⟨v, e1, rv⟩ := q.sl i _ e
    cases rv with
    | ref => exact ⟨_, e1, _, mdel M p, q.less less_del, q.hr.freeze hp, less_del.same, h⟩
theorem de_int {i j} : DE X W (.Constant (.int i) j pos) (dC (.int i)) := DE.of pe_int fun st H Z r M Q q h => EQ.val q (.int i) h
theorem de_bl {b j} : DE X W (.Constant (.bool b) j pos) (dC (.bl b)) := DE.of pe_bl fun st H Z r M Q q h => EQ.val q (.bl b) h
theorem de_non {j} : DE X W (.Constant .none j pos) (dC .non) := DE.of pe_non fun st H Z r M Q q h => EQ.val q .non h
theorem de_str {x j} : DE X W (.Constant (.str x) j pos) (dC (.str x)) := DE.of pe_str fun st H Z r M Q q h => EQ.val q (.str x) h
/-- a name of the module: a class, a def -/
theorem de_glob {x : Str} {a : Addr} (hg : Gl X x) (hm : X.mg x = some (.ref a)) (hd : (x == ("__debug__" : Str)) = false := by decide) : DE X W (.Name x pos) (dC (.ref a)) :=
  DE.of (pe_glob (v := .ref a) hg hm rfl hd) fun st H Z r M Q q h => EQ.val q (.ref a) h
theorem de_globI {x : Str} {i : Int} {t : Tok} (hg : Gl X x) (hm : X.mg x = some (.int i t)) (hd : (x == ("__debug__" : Str)) = false := by decide) : DE X W (.Name x pos) (dC (.int i)) :=
  DE.of (pe_glob (v := .int i) hg hm ⟨t, rfl⟩ hd) fun st H Z r M Q q h => EQ.val q (.int i) h
theorem de_globS {x z : Str} {t : Tok} (hg : Gl X x) (hm : X.mg x = some (.str z t)) (hd : (x == ("__debug__" : Str)) = false := by decide) : DE X W (.Name x pos) (dC (.str z)) :=
  DE.of (pe_glob (v := .str z) hg hm ⟨t, rfl⟩ hd) fun st H Z r M Q q h => EQ.val q (.str z) h
/-- a tuple of the module -/
theorem de_globT {x : Str} {a : Addr} {vs : List V} {ds : List D} (hg : Gl X x) (hm : X.mg x = some (.ref a)) (ht : ∀ H, SqT X.K H a vs) (hr : ∀ F, RepL X.K F vs ds) (hd : (x == ("__debug__" : Str)) = false := by decide) : DE X W (.Name x pos) (dC (.tup ds)) :=
  DE.of (pe_glob (v := .ref a) hg hm rfl hd) fun st H Z r M Q q h => EQ.val q (.tup (ht _) (hr _)) h
theorem de_type {x : Str} {n : String} (hg : Gl X x) (hm : X.mg x = none) (hv : bootBuiltins x = some (.type n)) (hn : x ≠ "__name__" := by decide) (hd : (x == ("__debug__" : Str)) = false := by decide) : DE X W (.Name x pos) (dC (.ty n)) :=
  DE.of (pe_bltn (v := .ty n) hg hm hv rfl hn hd) fun st H Z r M Q q h => EQ.val q (.ty n) h
end

/-! ### operators by values -/
abbrev DR2 := D → D → Mh → QD → Prop
abbrev DR1 := D → Mh → QD → Prop
abbrev DRL := List D → Mh → QD → Prop
def DOp (X : Cx) (W : DWX) (f : Value → Value → Sem Value) (o : DR2) : Prop :=
  ∀ (pins : List (Addr × Obj)) (s : Shared) (st : Sg) (H Z : Hp) (r : Rho) (M : Mh) (x y : V) (v u : Value) (a b : D) (Q : QD), Inv X pins st H s → SR (kx X W) Z r M st H → RelV x v → RelV y u → Rep X.K (out Z M H) x a → Rep X.K (out Z M H) y b → o a b M Q →
    wpAny (model X.prog X.w) X.A (f v u) (EP X pins st (EQ (kx X W) Z st r (out Z M H) Q)) X.xe s
def DUn (X : Cx) (W : DWX) (f : Value → Sem Value) (o : DR1) : Prop :=
  ∀ (pins : List (Addr × Obj)) (s : Shared) (st : Sg) (H Z : Hp) (r : Rho) (M : Mh) (x : V) (v : Value) (a : D) (Q : QD), Inv X pins st H s → SR (kx X W) Z r M st H → RelV x v → Rep X.K (out Z M H) x a → o a M Q →
    wpAny (model X.prog X.w) X.A (f v) (EP X pins st (EQ (kx X W) Z st r (out Z M H) Q)) X.xe s
def DCall (X : Cx) (W : DWX) (f : Value) (o : DRL) : Prop :=
  ∀ (pins : List (Addr × Obj)) (s : Shared) (st : Sg) (H Z : Hp) (r : Rho) (M : Mh) (xs : List V) (vs : List Value) (ds : List D) (Q : QD), Inv X pins st H s → SR (kx X W) Z r M st H → Vals xs vs → RepL X.K (out Z M H) xs ds → o ds M Q →
    wpAny (model X.prog X.w) X.A (call f vs) (EP X pins st (EQ (kx X W) Z st r (out Z M H) Q)) X.xe s
section
variable {X : Cx} {W : DWX} {pos : Pos} {a b c : Expr} {ta tb tc : DTE}
theorem DOp.of {f : Value → Value → Sem Value} {r0 : R2} {o : DR2} (h : OpR X f r0)
    (k : ∀ (st : Sg) (H Z : Hp) (r : Rho) (M : Mh) (x y : V) (da db : D) (Q : QD), SR (kx X W) Z r M st H → Rep X.K (out Z M H) x da → Rep X.K (out Z M H) y db → o da db M Q → r0 x y H (EQ (kx X W) Z st r (out Z M H) Q)) : DOp X W f o :=
  fun pins s st H Z r M x y v u da db Q I q rx ry ra rb ho => h pins s st H x y v u _ I rx ry (k st H Z r M x y da db Q q ra rb ho)
theorem DUn.of {f : Value → Sem Value} {r0 : V → Hp → VK → Prop} {o : DR1} (h : UnR X f r0)
    (k : ∀ (st : Sg) (H Z : Hp) (r : Rho) (M : Mh) (x : V) (da : D) (Q : QD), SR (kx X W) Z r M st H → Rep X.K (out Z M H) x da → o da M Q → r0 x H (EQ (kx X W) Z st r (out Z M H) Q)) : DUn X W f o :=
  fun pins s st H Z r M x v da Q I q rx ra ho => h pins s st H x v _ I rx (k st H Z r M x da Q q ra ho)
theorem DCall.of {f : Value} {r0 : List V → Hp → VK → Prop} {o : DRL} (h : CallR X f r0)
    (k : ∀ (st : Sg) (H Z : Hp) (r : Rho) (M : Mh) (xs : List V) (ds : List D) (Q : QD), SR (kx X W) Z r M st H → RepL X.K (out Z M H) xs ds → o ds M Q → r0 xs H (EQ (kx X W) Z st r (out Z M H) Q)) : DCall X W f o :=
  fun pins s st H Z r M xs vs ds Q I q rx ra ho => h pins s st H xs vs _ I rx (k st H Z r M xs ds Q q ra ho)
theorem DCall.or {f : Value} {o o' : DRL} (h : DCall X W f o) (h' : DCall X W f o') : DCall X W f (fun ds M Q => o ds M Q ∨ o' ds M Q) :=
  fun pins s st H Z r M xs vs ds Q I q rx ra ho => ho.elim (h pins s st H Z r M xs vs ds Q I q rx ra) (h' pins s st H Z r M xs vs ds Q I q rx ra)

def dOp (o : DR2) (ta tb : DTE) : DTE := fun r M Q => ta r M fun x M1 => tb r M1 fun y M2 => o x y M2 Q
def dUn (o : DR1) (ta : DTE) : DTE := fun r M Q => ta r M fun x M1 => o x M1 Q
/-- two expressions, then what is made of their values -/
theorem two (ha : DE X W a ta) (hb : DE X W b tb) {f : Value → Value → Sem Value} {o : DR2} (ho : DOp X W f o) {pins : List (Addr × Obj)} {s : Shared} {st : Sg} {H Z : Hp} {r : Rho} {M : Mh} {Q : QD} (I : Inv X pins st H s) (q : SR (kx X W) Z r M st H) (h : dOp o ta tb r M Q) :
    wpAny (model X.prog X.w) X.A (eval a X.env) (fun v s1 => wpAny (model X.prog X.w) X.A (eval b X.env) (fun u s2 => wpAny (model X.prog X.w) X.A (f v u) (EP X pins st (EQ (kx X W) Z st r (out Z M H) Q)) X.xe s2) X.xe s1) X.xe s := by
  refine thn (ha.run pins s st H Z r M _ I q h) fun v s1 ⟨x, H1, I1, rx, dx, M1, q1, rpx, sm1, h1⟩ => ?_
  refine thn (hb.run pins s1 st H1 Z r M1 _ I1 q1 h1) fun u s2 ⟨y, H2, I2, ry, dy, M2, q2, rpy, sm2, h2⟩ => ?_
  refine thn (ho pins s2 st H2 Z r M2 x y v u dx dy Q I2 q2 rx ry (rpx.mono sm2) rpy h2) fun w s3 ⟨z, H3, I3, rz, e⟩ => ⟨z, H3, I3, rz, e.mono (sm1.trans sm2)⟩
theorem de_op {op : Operator} {o : DR2} (ho : DOp X W (binaryOp op) o) (ha : DE X W a ta) (hb : DE X W b tb) : DE X W (.BinOp a op b pos) (dOp o ta tb) :=
  ⟨fun pins s st H Z r M Q I q h => wpAny_BinOp (two ha hb ho I q h)⟩
theorem de_un {op : UnaryOp} {o : DR1} (ho : DUn X W (unaryOp op) o) (ha : DE X W a ta) : DE X W (.UnaryOp op a pos) (dUn o ta) :=
  ⟨fun pins s st H Z r M Q I q h => UnaryOp_ (thn (ha.run pins s st H Z r M _ I q h) fun v s1 ⟨x, H1, I1, rx, dx, M1, q1, rpx, sm1, h1⟩ =>
    thn (ho pins s1 st H1 Z r M1 x v dx Q I1 q1 rx rpx h1) fun w s2 ⟨z, H2, I2, rz, e⟩ => ⟨z, H2, I2, rz, e.mono sm1⟩)⟩
theorem de_cmp {op : CmpOp} {o : DR2} (ho : DOp X W (compareOp op) o) (ha : DE X W a ta) (hb : DE X W b tb) (hm : behindInMarks op b = false) : DE X W (.Compare a [op] [b] pos) (dOp o ta tb) :=
  ⟨fun pins s st H Z r M Q I q h => wpAny_Compare1 (two ha hb ho I q h) hm⟩
/-- a value that is a bool, as a test -/
def dB (t : DTE) : DTT := fun r M Q => t r M fun x M1 => match x with
  | .bl k => Q k M1
  | _ => False
theorem dB_liftQ {k : Kt} {Z F : Hp} {st : Sg} {r : Rho} {Q : Bool → Mh → Prop} {v : V} {H : Hp} (h : EQ k Z st r F (fun x M1 => match x with | .bl k => Q k M1 | _ => False) v H) : ∃ b, v = .bl b ∧ TQ k Z st r F Q b H := by
  obtain ⟨d, M', q, rp, sm, h⟩ := h
  cases rp with
  | bl k => exact ⟨k, rfl, M', q, sm, h⟩
  | _ => exact h.elim
theorem dt_val {e : Expr} {t : DTE} (h : DE X W e t) (he : ∀ whole, isTrue e X.env whole = (do let v ← whole; standAt e.pos; holding [v] (truthy v)) := by intro _; rfl) : DT X W e (dB t) :=
  DT.of (pt_val h.pe he) fun st H Z r M Q q ht => ⟨Z, r, M, _, q, ht, fun v H' e => dB_liftQ e⟩
theorem dt_cmp {op : CmpOp} {o : DR2} (ho : DOp X W (compareOp op) o) (ha : DE X W a ta) (hb : DE X W b tb) (hm : behindInMarks op b = false) : DT X W (.Compare a [op] [b] pos) (dB (dOp o ta tb)) :=
  ⟨fun pins s st H Z r M Q I q h => wpAny_isTrue_Compare1 (thn (two ha hb ho I q h) fun v s1 h1 => thn h1 fun u s2 h2 => thn h2 fun w s3 ⟨z, H3, I3, rz, e⟩ => by
    obtain ⟨k, rfl, e2⟩ := dB_liftQ e
    cases rz
    exact wpAny_truthy_bool ⟨H3, I3, e2⟩) hm⟩
end

/-! ### and, or, not, if -/
def dAnd (t u : DTT) : DTT := fun r M Q => t r M fun c M1 => if c = true then u r M1 Q else Q false M1
def dOr (t u : DTT) : DTT := fun r M Q => t r M fun c M1 => if c = true then Q true M1 else u r M1 Q
def dNot (t : DTT) : DTT := fun r M Q => t r M fun c M1 => Q (!c) M1
def dAndV (ta tb : DTE) : DTE := fun r M Q => ta r M fun x M1 => match x with
  | .bl c => if c = true then tb r M1 Q else Q (.bl false) M1
  | _ => False
def dOrV (ta tb : DTE) : DTE := fun r M Q => ta r M fun x M1 => match x with
  | .bl c => if c = true then Q (.bl true) M1 else tb r M1 Q
  | _ => False
def dNotV (ta : DTE) : DTE := fun r M Q => ta r M fun x M1 => match x with
  | .bl c => Q (.bl (!c)) M1
  | _ => False
def dIf (t : DTT) (ta tb : DTE) : DTE := fun r M Q => t r M fun c M1 => if c = true then ta r M1 Q else tb r M1 Q
section
variable {X : Cx} {W : DWX} {pos : Pos} {a b c : Expr} {rest : List Expr} {ta tb : DTE} {tA tB : DTT}
theorem TQ.imp {κ : Kt} {Z F : Hp} {st : Sg} {r : Rho} {Q Q' : Bool → Mh → Prop} {k : Bool} {H : Hp} (h : TQ κ Z st r F Q k H) (hq : ∀ M, Q k M → Q' k M) : TQ κ Z st r F Q' k H := by
  obtain ⟨M', q, sm, h⟩ := h
  exact ⟨M', q, sm, hq _ h⟩
theorem dw_and1 (ha : DT X W a tA) : DW X W (.BoolOp .And [a] pos) tA := DW.of (pw_and1 ha.pt) fun st H Z r M Q q h => ⟨Z, r, M, Q, q, h, fun _ _ e => e⟩
theorem dw_or1 (ha : DT X W a tA) : DW X W (.BoolOp .Or [a] pos) tA := DW.of (pw_or1 ha.pt) fun st H Z r M Q q h => ⟨Z, r, M, Q, q, h, fun _ _ e => e⟩
theorem dw_and (ha : DT X W a tA) (hb : DW X W (.BoolOp .And (b :: rest) pos) tB) : DW X W (.BoolOp .And (a :: b :: rest) pos) (dAnd tA tB) :=
  DW.of (pw_and ha.pt hb.pw) fun st H Z r M Q q h => ⟨Z, r, M, _, q, h, fun k H1 ⟨M1, q1, sm, e⟩ => by
    cases k with
    | true => exact ⟨Z, r, M1, Q, q1, e, fun k H2 z => z.mono sm⟩
    | false => exact ⟨M1, q1, sm, e⟩⟩
theorem dw_or (ha : DT X W a tA) (hb : DW X W (.BoolOp .Or (b :: rest) pos) tB) : DW X W (.BoolOp .Or (a :: b :: rest) pos) (dOr tA tB) :=
  DW.of (pw_or ha.pt hb.pw) fun st H Z r M Q q h => ⟨Z, r, M, _, q, h, fun k H1 ⟨M1, q1, sm, e⟩ => by
    cases k with
    | false => exact ⟨Z, r, M1, Q, q1, e, fun k H2 z => z.mono sm⟩
    | true => exact ⟨M1, q1, sm, e⟩⟩
theorem dt_not (ha : DT X W a tA) : DT X W (.UnaryOp .Not a pos) (dNot tA) :=
  DT.of (pt_not ha.pt) fun st H Z r M Q q h => ⟨Z, r, M, _, q, h, fun k H1 ⟨M1, q1, sm, e⟩ => ⟨M1, q1, sm, e⟩⟩
theorem de_one {op} {t : DTE} (h : DE X W a t) : DE X W (.BoolOp op [a] pos) t := DE.of (pe_one h.pe) fun st H Z r M Q q h => ⟨Z, r, M, Q, q, h, fun _ _ e => e⟩
theorem de_and (ha : DE X W a ta) (hb : DE X W (.BoolOp .And (b :: rest) pos) tb) : DE X W (.BoolOp .And (a :: b :: rest) pos) (dAndV ta tb) :=
  DE.of (pe_and ha.pe hb.pe) fun st H Z r M Q q h => ⟨Z, r, M, _, q, h, fun v H1 ⟨d, M1, q1, rp, sm, e⟩ => by
    cases rp with
    | bl c =>
      refine ⟨c, rfl, ?_⟩
      cases c with
      | true => exact ⟨Z, r, M1, Q, q1, e, fun k H2 z => z.mono sm⟩
      | false => exact ⟨_, M1, q1, .bl _, sm, e⟩
    | _ => exact e.elim⟩
theorem de_or (ha : DE X W a ta) (hb : DE X W (.BoolOp .Or (b :: rest) pos) tb) : DE X W (.BoolOp .Or (a :: b :: rest) pos) (dOrV ta tb) :=
  DE.of (pe_or ha.pe hb.pe) fun st H Z r M Q q h => ⟨Z, r, M, _, q, h, fun v H1 ⟨d, M1, q1, rp, sm, e⟩ => by
    cases rp with
    | bl c =>
      refine ⟨c, rfl, ?_⟩
      cases c with
      | false => exact ⟨Z, r, M1, Q, q1, e, fun k H2 z => z.mono sm⟩
      | true => exact ⟨_, M1, q1, .bl _, sm, e⟩
    | _ => exact e.elim⟩
theorem de_not (ha : DE X W a ta) : DE X W (.UnaryOp .Not a pos) (dNotV ta) :=
  DE.of (pe_not ha.pe) fun st H Z r M Q q h => ⟨Z, r, M, _, q, h, fun v H1 ⟨d, M1, q1, rp, sm, e⟩ => by
    cases rp with
    | bl c => exact ⟨c, rfl, _, M1, q1, .bl _, sm, e⟩
    | _ => exact e.elim⟩
theorem de_if (hc : DT X W c tA) (ha : DE X W a ta) (hb : DE X W b tb) : DE X W (.IfExp c a b pos) (dIf tA ta tb) :=
  DE.of (pe_ifExp hc.pt ha.pe hb.pe) fun st H Z r M Q q h => ⟨Z, r, M, _, q, h, fun k H1 ⟨M1, q1, sm, e⟩ => by
    cases k with
    | true => exact ⟨Z, r, M1, Q, q1, e, fun k H2 z => z.mono sm⟩
    | false => exact ⟨Z, r, M1, Q, q1, e, fun k H2 z => z.mono sm⟩⟩
end

/-! ### argument lists, displays -/
def dNil : DTA := fun _ M Q => Q [] M
def dCons (ta : DTE) (tr : DTA) : DTA := fun r M Q => ta r M fun x M1 => tr r M1 fun xs M2 => Q (x :: xs) M2
def dTup (t : DTA) : DTE := fun r M Q => t r M fun xs M1 => xs.length ≤ sizeLine ∧ Q (.tup xs) M1
def dLst (t : DTA) : DTE := fun r M Q => t r M fun xs M1 => xs.length ≤ sizeLine ∧ Q (.lst xs) M1
/-- a list that may change -/
def dLstM (t : DTA) : DTE := fun r M Q => t r M fun xs M1 => xs.length ≤ sizeLine ∧ ∀ p, M1 p = none → Q (.ref p) (mset M1 p (.lst xs))
section
variable {X : Cx} {W : DWX} {pos : Pos} {e : Expr} {es : List Expr} {te : DTE} {t : DTA}
theorem da_nil : DA X W [] dNil := DA.of pa_nil fun st H Z r M Q q h => ⟨[], M, q, .nil, Same.refl _, h⟩
theorem da_cons (ha : DE X W e te) (hr : DA X W es t) (hs : starEach (e :: es) X.env = (false, eval e X.env) :: starEach es X.env := by rfl) : DA X W (e :: es) (dCons te t) :=
  DA.of (pa_cons ha.pe hr.pa hs) fun st H Z r M Q q h => ⟨Z, r, M, _, q, h, fun v H1 ⟨d, M1, q1, rp, sm, e⟩ => ⟨Z, r, M1, _, q1, e, fun vs H2 ⟨ds, M2, q2, rps, sm2, e2⟩ => ⟨d :: ds, M2, q2, .cons (rp.mono sm2) rps, sm.trans sm2, e2⟩⟩⟩
theorem de_tup {x1} (h : DA X W es t) : DE X W (.Tuple es x1 pos) (dTup t) :=
  DE.of (pe_tup h.pa) fun st H Z r M Q q ht => ⟨Z, r, M, _, q, ht, fun vs H1 ⟨ds, M1, q1, rps, sm, hl, e⟩ => ⟨by rw [rps.length]; exact hl, fun p hp => (EQ.newTup q1 hp rps e).mono sm⟩⟩
theorem de_lst (h : DA X W es t) : DE X W (.List es pos) (dLst t) :=
  DE.of (pe_lst h.pa) fun st H Z r M Q q ht => ⟨Z, r, M, _, q, ht, fun vs H1 ⟨ds, M1, q1, rps, sm, hl, e⟩ => ⟨by rw [rps.length]; exact hl, fun p hp => (EQ.newLst q1 hp rps e).mono sm⟩⟩
theorem de_lstM (h : DA X W es t) : DE X W (.List es pos) (dLstM t) :=
  DE.of (pe_lst h.pa) fun st H Z r M Q q ht => ⟨Z, r, M, _, q, ht, fun vs H1 ⟨ds, M1, q1, rps, sm, hl, e⟩ => ⟨by rw [rps.length]; exact hl, fun p hp => by
    have he : ∀ b, b ≠ p → upd H1 p (.lst vs) b = H1 b := fun b hb => upd_ne hb
    have q2 := q1.mset (mo := .lst ds) he (.inl hp) ⟨vs, upd_same, rps⟩
    exact ⟨.ref p, _, q2, .ref p, by rw [out_mset q1.hr he (.inl hp)]; exact sm, e p (q1.hr.fresh hp).1⟩⟩⟩
end
end DL

set_option maxHeartbeats 2000000
/-! DL3: numbers, comparisons, lists by values. -/
namespace DL
open PySem PySem.Spec PyProof.Rows L2

/-! ### lists that are read -/
def lstOf (M : Mh) : D → Option (List D)
  | .lst ds => some ds
  | .scr ns => some (ns.map .int)
  | .ref a => match M a with
    | some (.lst ds) => some ds
    | _ => none
  | _ => none
/-- a list, a tuple -/
def seqOf (M : Mh) : D → Option (List D)
  | .tup ds => some ds
  | d => lstOf M d
/-- a list that stands by itself -/
def lstW (M : Mh) : D → Option (List D)
  | .lst ds => some ds
  | .ref a => match M a with
    | some (.lst ds) => some ds
    | _ => none
  | _ => none
section
variable {K : PySem.W.Frag} {F Z : Hp} {M : Mh} {H : Hp} {v : V} {d : D} {ds : List D} {p : Addr}
theorem repL_ints : ∀ ns : List Int, RepL K F (ns.map V.int) (ns.map D.int)
  | [] => .nil
  | n :: ns => .cons (.int n) (repL_ints ns)
theorem lstW_rep (m : HR K Z M H) (h : lstW M d = some ds) (rp : Rep K (out Z M H) v d) : ∃ a xs, v = .ref a ∧ H a = some (.lst xs) ∧ RepL K (out Z M H) xs ds := by
  cases rp with
  | lst e r =>
    have h' := Option.some.inj h
    subst h'
    exact ⟨_, _, rfl, out_sub _ _ _ _ _ e, r⟩
  | ref a =>
    have h2 : (match M a with | some (.lst ds) => some ds | _ => none) = some ds := h
    split at h2
    · rename_i ds' hm
      cases h2
      obtain ⟨xs, h1, h2⟩ := m.mem a _ hm
      exact ⟨a, xs, rfl, h1, h2⟩
    · cases h2
  | _ => cases h
theorem lstOf_rep (m : HR K Z M H) (h : lstOf M d = some ds) (rp : Rep K (out Z M H) v d) : ∃ a xs, v = .ref a ∧ SqL K H a xs ∧ RepL K (out Z M H) xs ds := by
  cases rp with
  | scr e =>
    have h' := Option.some.inj h
    subst h'
    exact ⟨_, _, rfl, sqL_mono (out_sub _ _ _) e, repL_ints _⟩
  | lst e r =>
    have h' := Option.some.inj h
    subst h'
    exact ⟨_, _, rfl, .inl (.inl (out_sub _ _ _ _ _ e)), r⟩
  | ref a =>
    have h2 : lstW M (.ref a) = some ds := h
    obtain ⟨a', xs, e1, e2, e3⟩ := lstW_rep m h2 (.ref a)
    cases e1
    exact ⟨a, xs, rfl, .inl (.inl e2), e3⟩
  | _ => cases h
theorem seqOf_rep (m : HR K Z M H) (h : seqOf M d = some ds) (rp : Rep K (out Z M H) v d) : ∃ a xs, v = .ref a ∧ (SqL K H a xs ∨ SqT K H a xs) ∧ RepL K (out Z M H) xs ds := by
  cases rp with
  | tup e r =>
    have h' := Option.some.inj h
    subst h'
    exact ⟨_, _, rfl, .inr (sqT_mono (out_sub _ _ _) e), r⟩
  | @scr a ns e =>
    obtain ⟨a, xs, e1, e2, e3⟩ := lstOf_rep m (d := .scr ns) h (.scr e)
    exact ⟨a, xs, e1, .inl e2, e3⟩
  | @lst a xs ds' e r =>
    obtain ⟨a, xs, e1, e2, e3⟩ := lstOf_rep m (d := .lst ds') h (.lst e r)
    exact ⟨a, xs, e1, .inl e2, e3⟩
  | ref a =>
    obtain ⟨a, xs, e1, e2, e3⟩ := lstOf_rep m (d := .ref a) h (.ref a)
    exact ⟨a, xs, e1, .inl e2, e3⟩
  | _ => cases h
end

/-! ### + - * // % ** -/
def aAdd : DR2 := fun x y M Q => match x, y with
  | .int i, .int j => Q (.int (i + j)) M
  | .str a, .str b => a.length + b.length ≤ sizeLine ∧ Q (.str (a ++ b)) M
  | .tup a, .tup b => a.length + b.length ≤ sizeLine ∧ Q (.tup (a ++ b)) M
  | x, y => match lstW M x, lstW M y with
    | some a, some b => a.length + b.length ≤ sizeLine ∧ Q (.lst (a ++ b)) M
    | _, _ => False
def aInt (f : Int → Int → Int) (C : Int → Int → Prop) : DR2 := fun x y M Q => match x, y with
  | .int i, .int j => C i j ∧ Q (.int (f i j)) M
  | _, _ => False
def aInt0 (f : Int → Int → Int) : DR2 := fun x y M Q => match x, y with
  | .int i, .int j => Q (.int (f i j)) M
  | _, _ => False
abbrev aSub : DR2 := aInt0 fun i j => i - j
abbrev aFdiv : DR2 := aInt (fun i j => i / j) CDivW
abbrev aMod : DR2 := aInt (fun i j => i % j) fun _ j => 0 < j
abbrev aPow : DR2 := aInt (fun i j => i ^ j.toNat) CPow
def aMul : DR2 := fun x y M Q => match x, y with
  | .int i, .int j => IntMulOk i j ∧ Q (.int (i * j)) M
  | x, .int k => match lstW M x with
    | some ds => -(2 ^ 63) ≤ k ∧ k < 2 ^ 63 ∧ ds.length * k.toNat ≤ sizeLine ∧ Q (.lst (List.replicate k.toNat ds).flatten) M
    | none => False
  | _, _ => False
section
variable {X : Cx} {W : DWX}
theorem op_mulX : OpR X (binaryOp .Mult) (rI IntMulOk fun i j => .int (i * j)) := opI fun _ _ _ _ _ _ _ hc q => mul_int q hc
theorem repL_flat {K : PySem.W.Frag} {F : Hp} {xs : List V} {ds : List D} (h : RepL K F xs ds) : ∀ k : Nat, RepL K F (List.replicate k xs).flatten (List.replicate k ds).flatten
  | 0 => .nil
  | k + 1 => by
    rw [List.replicate_succ, List.replicate_succ, List.flatten_cons, List.flatten_cons]
    exact h.append (repL_flat h k)
theorem DOp.or {f : Value → Value → Sem Value} {o o' : DR2} (h : DOp X W f o) (h' : DOp X W f o') : DOp X W f (fun a b M Q => o a b M Q ∨ o' a b M Q) :=
  fun pins s st H Z r M x y v u da db Q I q rx ry ra rb ho => ho.elim (h pins s st H Z r M x y v u da db Q I q rx ry ra rb) (h' pins s st H Z r M x y v u da db Q I q rx ry ra rb)
theorem DOp.imp {f : Value → Value → Sem Value} {o o' : DR2} (h : DOp X W f o) (k : ∀ a b M Q, o' a b M Q → o a b M Q) : DOp X W f o' :=
  fun pins s st H Z r M x y v u da db Q I q rx ry ra rb ho => h pins s st H Z r M x y v u da db Q I q rx ry ra rb (k _ _ _ _ ho)
theorem DOp.int {f : Value → Value → Sem Value} {g : Int → Int → Int} {C : Int → Int → Prop} (h : OpR X f (rI C fun i j => .int (g i j))) : DOp X W f (aInt g C) :=
  .of h fun st H Z r M x y da db Q q ra rb h => by
    unfold aInt at h
    split at h
    · cases ra; cases rb
      exact ⟨_, _, rfl, rfl, h.1, EQ.val q (.int _) h.2⟩
    · exact h.elim
theorem DOp.int0 {f : Value → Value → Sem Value} {g : Int → Int → Int} (h : OpR X f (rI0 fun i j => .int (g i j))) : DOp X W f (aInt0 g) :=
  .of h fun st H Z r M x y da db Q q ra rb h => by
    unfold aInt0 at h
    split at h
    · cases ra; cases rb
      exact ⟨_, _, rfl, rfl, EQ.val q (.int _) h⟩
    · exact h.elim
theorem op_add_ : DOp X W (binaryOp .Add) aAdd := by
  intro pins s st H Z r M x y v u da db Q I q rx ry ra rb h
  unfold aAdd at h
  split at h
  · cases ra; cases rb
    exact op_add pins s st H _ _ v u _ I rx ry ⟨_, _, rfl, rfl, EQ.val q (.int _) h⟩
  · cases ra; cases rb
    exact op_add_str pins s st H _ _ v u _ I rx ry ⟨_, _, rfl, rfl, h.1, EQ.val q (.str _) h.2⟩
  · cases ra with
    | @tup a xs ds ha ra =>
      cases rb with
      | @tup b ys es hb rb =>
        have ha' := sqT_mono (out_sub _ _ _) ha
        have hb' := sqT_mono (out_sub _ _ _) hb
        refine op_catA pins s st H _ _ v u _ I rx ry ⟨a, b, xs, ys, rfl, rfl, ha', hb', by rw [ra.length, rb.length]; exact h.1, fun e => ?_, fun _ e => ?_, fun _ _ p hp => EQ.newTup q hp (ra.append rb) h.2⟩
        · subst e
          cases ra
          exact EQ.val q (.tup hb rb) h.2
        · subst e
          cases rb
          refine EQ.val q (.tup ha ra) ?_
          have := h.2
          rw [List.append_nil] at this
          exact this
  · split at h
    · rename_i a b ea eb
      obtain ⟨l, xs, rfl, hl, rl⟩ := lstW_rep q.hr ea ra
      obtain ⟨l2, ys, rfl, hl2, rl2⟩ := lstW_rep q.hr eb rb
      exact op_cat pins s st H _ _ v u _ I rx ry ⟨l, l2, xs, ys, rfl, rfl, hl, hl2, by rw [rl.length, rl2.length]; exact h.1, fun p hp => EQ.newLst q hp (rl.append rl2) h.2⟩
    · exact h.elim
theorem op_sub_ : DOp X W (binaryOp .Sub) aSub := .int0 op_sub
theorem op_fdiv_ : DOp X W (binaryOp .FloorDiv) aFdiv := .int op_fdivW
theorem op_mod_ : DOp X W (binaryOp .Mod) aMod := .int op_mod
theorem op_pow_ : DOp X W (binaryOp .Pow) aPow := .int op_pow
theorem op_mul_ : DOp X W (binaryOp .Mult) aMul := by
  intro pins s st H Z r M x y v u da db Q I q rx ry ra rb h
  unfold aMul at h
  split at h
  · cases ra; cases rb
    exact op_mulX pins s st H _ _ v u _ I rx ry ⟨_, _, rfl, rfl, h.1, EQ.val q (.int _) h.2⟩
  · split at h
    · rename_i ds e
      cases rb
      obtain ⟨l, xs, rfl, hl, rl⟩ := lstW_rep q.hr e ra
      exact op_rep pins s st H _ _ v u _ I rx ry ⟨l, _, xs, rfl, rfl, hl, h.1, h.2.1, by rw [rl.length]; exact h.2.2.1, fun p hp => EQ.newLst q hp (repL_flat rl _) h.2.2.2⟩
    · exact h.elim
  · exact h.elim
def aNeg : DR1 := fun x M Q => match x with
  | .int i => Q (.int (-i)) M
  | _ => False
theorem un_neg_ : DUn X W (unaryOp .USub) aNeg := .of un_neg fun st H Z r M x da Q q ra h => by
  unfold aNeg at h
  split at h
  · cases ra
    exact ⟨_, rfl, EQ.val q (.int _) h⟩
  · exact h.elim
end

/-! ### comparisons of numbers -/
def aCmp (p : Int → Int → Bool) : DR2 := fun x y M Q => match x, y with
  | .int i, .int j => Q (.bl (p i j)) M
  | _, _ => False
abbrev aLt : DR2 := aCmp fun i j => decide (i < j)
abbrev aLe : DR2 := aCmp fun i j => decide (i ≤ j)
abbrev aGt : DR2 := aCmp fun i j => decide (j < i)
abbrev aGe : DR2 := aCmp fun i j => decide (j ≤ i)
section
variable {X : Cx} {W : DWX}
theorem DOp.cmp {f : Value → Value → Sem Value} {g : Int → Int → Bool} (h : OpR X f (rI0 fun i j => .bl (g i j))) : DOp X W f (aCmp g) :=
  .of h fun st H Z r M x y da db Q q ra rb h => by
    unfold aCmp at h
    split at h
    · cases ra; cases rb
      exact ⟨_, _, rfl, rfl, EQ.val q (.bl _) h⟩
    · exact h.elim
theorem op_lt_ : DOp X W (compareOp .Lt) aLt := .cmp op_lt
theorem op_le_ : DOp X W (compareOp .LtE) aLe := .cmp op_le
theorem op_gt_ : DOp X W (compareOp .Gt) aGt := .cmp op_gt
theorem op_ge_ : DOp X W (compareOp .GtE) aGe := .cmp op_ge
end

/-! ### is None -/
def isNon : D → Bool
  | .non => true
  | _ => false
def aIsN : DR2 := fun x y M Q => match y with
  | .non => Q (.bl (isNon x)) M
  | _ => False
def aNotN : DR2 := fun x y M Q => match y with
  | .non => Q (.bl (!isNon x)) M
  | _ => False
section
variable {X : Cx} {W : DWX} {K : PySem.W.Frag} {F : Hp} {v : V} {d : D}
theorem isNon_rep (h : Rep K F v d) : decide (v = .non) = isNon d := by cases h <;> rfl
theorem op_isN_ : DOp X W (compareOp .Is) aIsN := .of op_isN fun st H Z r M x y da db Q q ra rb h => by
  unfold aIsN at h
  split at h
  · cases rb
    exact ⟨rfl, EQ.val q (.bl _) (by rw [isNon_rep ra]; exact h)⟩
  · exact h.elim
theorem op_notN_ : DOp X W (compareOp .IsNot) aNotN := .of op_notN fun st H Z r M x y da db Q q ra rb h => by
  unfold aNotN at h
  split at h
  · cases rb
    exact ⟨rfl, EQ.val q (.bl _) (by rw [isNon_rep ra]; exact h)⟩
  · exact h.elim
end

/-! ### data -/
def keyPy : Key → PyData
  | .inl i => .int i
  | .inr x => .str x
mutual
def py : D → Option PyData
  | .non => some .none
  | .bl b => some (.bool b)
  | .int i => some (.int i)
  | .str x => some (.str x)
  | .tup ds => (pyL ds).map .tuple
  | .lst ds => (pyL ds).map .list
  | .dic kvs => (pyK kvs).map .dict
  | .ins _ _ => none
  | .obj _ _ => none
  | .ref _ => none
  | .ty _ => none
  | .scr _ => none
  | .exc _ _ _ => none
def pyL : List D → Option (List PyData)
  | [] => some []
  | d :: ds => match py d, pyL ds with
    | some p, some ps => some (p :: ps)
    | _, _ => none
def pyK : List (Key × D) → Option (List (PyData × PyData))
  | [] => some []
  | (k, d) :: ds => match py d, pyK ds with
    | some p, some ps => some ((keyPy k, p) :: ps)
    | _, _ => none
end
/- data without dicts, as == takes it -/
mutual
theorem py_dp {K : PySem.W.Frag} {F : Hp} : ∀ {v : V} {d : D} {p : PyData}, Rep K F v d → py d = some p → p.hasDict = false → Dp K F v p
  | _, _, _, .non, e, _ => by cases e; exact .non
  | _, _, _, .bl b, e, _ => by cases e; exact .bl b
  | _, _, _, .int b, e, _ => by cases e; exact .int b
  | _, _, _, .str b, e, _ => by cases e; exact .str b
  | _, _, _, .ref b, e, _ => by cases e
  | _, _, _, .ty b, e, _ => by cases e
  | _, _, _, .scr h, e, _ => by cases e
  | _, _, _, .exc h r, e, _ => by cases e
  | _, _, _, .ins h r, e, _ => by cases e
  | _, _, _, .obj h r, e, _ => by cases e
  | _, _, _, .tup (ds := ds) h r, e, hd => by
    have e2 : (pyL ds).map PyData.tuple = some _ := e
    obtain ⟨ps, e3, rfl⟩ := Option.map_eq_some_iff.mp e2
    exact .tup h (pyL_dp r e3 (by simpa [PyData.hasDict] using hd))
  | _, _, _, .lst (ds := ds) h r, e, hd => by
    have e2 : (pyL ds).map PyData.list = some _ := e
    obtain ⟨ps, e3, rfl⟩ := Option.map_eq_some_iff.mp e2
    exact .lst (.inl (.inl h)) (pyL_dp r e3 (by simpa [PyData.hasDict] using hd))
  | _, _, _, .dic (ds := ds) h r, e, hd => by
    have e2 : (pyK ds).map PyData.dict = some _ := e
    obtain ⟨ps, e3, rfl⟩ := Option.map_eq_some_iff.mp e2
    simp [PyData.hasDict] at hd
theorem pyL_dp {K : PySem.W.Frag} {F : Hp} : ∀ {vs : List V} {ds : List D} {ps : List PyData}, RepL K F vs ds → pyL ds = some ps → PyData.hasDictAll ps = false → DpAll K F vs ps
  | _, _, _, .nil, e, _ => by cases e; exact .nil
  | _, _, _, .cons (d := d) (ds := ds) h r, e, hd => by
    have e2 : (match py d, pyL ds with | some p, some ps => some (p :: ps) | _, _ => none) = some _ := e
    split at e2
    · rename_i p ps e3 e4
      cases e2
      have hd' : p.hasDict = false ∧ PyData.hasDictAll ps = false := by simpa [PyData.hasDictAll, Bool.or_eq_false_iff] using hd
      exact .cons (py_dp h e3 hd'.1) (pyL_dp r e4 hd'.2)
    · cases e2
end
theorem Dp.mono {K : PySem.W.Frag} {F F' : Hp} (s : Same F F') : ∀ {v : V} {p : PyData}, Dp K F v p → Dp K F' v p := by
  intro v p h
  refine Dp.rec (K := K) (H := F) (motive_1 := fun v p _ => Dp K F' v p) (motive_2 := fun vs ps _ => DpAll K F' vs ps) .non (fun b => .bl b) (fun b => .int b) (fun b => .str b) (fun h _ r => .lst (sqL_mono s h) r) (fun h _ r => .tup (sqT_mono s h) r) .nil (fun _ _ h r => .cons h r) h
mutual
theorem shaped_noDict : ∀ p : PyData, p.canLay0 = true → p.hasDict = false
  | .none, _ => rfl
  | .bool _, _ => rfl
  | .int _, _ => rfl
  | .str _, _ => rfl
  | .list xs, h => by simpa [PyData.hasDict] using shaped_noDictAll xs (by simpa [PyData.canLay0] using h)
  | .tuple xs, h => by simpa [PyData.hasDict] using shaped_noDictAll xs (by simpa [PyData.canLay0] using h)
  | .dict xs, h => by simp [PyData.canLay0] at h
theorem shaped_noDictAll : ∀ ps : List PyData, PyData.canLayAll0 ps = true → PyData.hasDictAll ps = false
  | [], _ => rfl
  | p :: ps, h => by
    have h' : p.canLay0 = true ∧ PyData.canLayAll0 ps = true := by simpa [PyData.canLayAll0] using h
    simp [PyData.hasDictAll, shaped_noDict p h'.1, shaped_noDictAll ps h'.2]
end
def aEq : DR2 := fun x y M Q => ∃ p q, py x = some p ∧ py y = some q ∧ SeqAt.shaped p = true ∧ SeqAt.shaped q = true ∧ Q (.bl (PyData.eqv p q)) M
def aNe : DR2 := fun x y M Q => ∃ p q, py x = some p ∧ py y = some q ∧ SeqAt.shaped p = true ∧ SeqAt.shaped q = true ∧ Q (.bl (!PyData.eqv p q)) M
section
variable {X : Cx} {W : DWX}
theorem op_eq_ (hu : X.A.units + 64 < cLine) : DOp X W (compareOp .Eq) aEq := .of (op_eqD hu) fun st H Z r M x y da db Q q ra rb h => by
  obtain ⟨p, p', e1, e2, s1, s2, h⟩ := h
  exact ⟨p, p', Dp.mono (out_sub _ _ _) (py_dp ra e1 (shaped_noDict p (SeqAt.canLay_of_shaped s1))), Dp.mono (out_sub _ _ _) (py_dp rb e2 (shaped_noDict p' (SeqAt.canLay_of_shaped s2))), s1, s2, EQ.val q (.bl _) h⟩
theorem op_ne_ (hu : X.A.units + 64 < cLine) : DOp X W (compareOp .NotEq) aNe := .of (op_neD hu) fun st H Z r M x y da db Q q ra rb h => by
  obtain ⟨p, p', e1, e2, s1, s2, h⟩ := h
  exact ⟨p, p', Dp.mono (out_sub _ _ _) (py_dp ra e1 (shaped_noDict p (SeqAt.canLay_of_shaped s1))), Dp.mono (out_sub _ _ _) (py_dp rb e2 (shaped_noDict p' (SeqAt.canLay_of_shaped s2))), s1, s2, EQ.val q (.bl _) h⟩
end

/-! ### in -/
def scalD : D → Option V
  | .non => some .non
  | .bl b => some (.bl b)
  | .int i => some (.int i)
  | .str x => some (.str x)
  | _ => none
def scalL : List D → Option (List V)
  | [] => some []
  | d :: ds => match scalD d, scalL ds with
    | some v, some vs => some (v :: vs)
    | _, _ => none
section
variable {K : PySem.W.Frag} {F : Hp}
theorem scalD_rep {v w : V} {d : D} (h : Rep K F v d) (e : scalD d = some w) : v = w ∧ flatV v = true := by
  cases h <;> cases e <;> exact ⟨rfl, rfl⟩
theorem scalL_rep : ∀ {vs ws : List V} {ds : List D}, RepL K F vs ds → scalL ds = some ws → vs = ws ∧ vs.all flatV = true
  | _, _, _, .nil, e => by cases e; exact ⟨rfl, rfl⟩
  | _, _, _, .cons (d := d) (ds := ds) h r, e => by
    have e2 : (match scalD d, scalL ds with | some v, some vs => some (v :: vs) | _, _ => none) = some _ := e
    split at e2
    · rename_i p ps e3 e4
      cases e2
      obtain ⟨a1, a2⟩ := scalD_rep h e3
      obtain ⟨b1, b2⟩ := scalL_rep r e4
      exact ⟨by rw [a1, b1], by rw [List.all_cons, a2, b2]; rfl⟩
    · cases e2
end
def isSign (x : Str) : Option Nat := match x.cps.toList with
  | [c] => some c
  | _ => none
def kOf : D → Option Key
  | .int i => some (.inl i)
  | .str x => some (.inr x)
  | _ => none
/-- x in y: a sign in a text, a flat thing in a list or tuple -/
def aIn (neg : Bool) : DR2 := fun x y M Q => match x, y with
  | .str a, .str b => ∃ c, isSign a = some c ∧ Q (.bl (if neg then !decide (c ∈ b.cps.toList) else decide (c ∈ b.cps.toList))) M
  | x, y => ∃ ds vs w, seqOf M y = some ds ∧ scalD x = some w ∧ scalL ds = some vs ∧ Q (.bl (if neg then !inV w vs else inV w vs)) M
section
variable {X : Cx} {W : DWX}
theorem isSign_eq {a : Str} {c : Nat} (h : isSign a = some c) : a = ⟨#[c]⟩ := by
  unfold isSign at h
  split at h
  · rename_i c' e
    cases h
    exact PySem.Str.ext' (Array.toList_inj.mp e)
  · cases h
theorem op_in_ : DOp X W (compareOp .In) (aIn false) := by
  intro pins s st H Z r M x y v u da db Q I q rx ry ra rb h
  unfold aIn at h
  split at h
  · cases ra; cases rb
    obtain ⟨c, e, h⟩ := h
    rw [isSign_eq e] at rx
    exact op_in_sign pins s st H _ _ v u _ I rx ry ⟨c, _, rfl, rfl, EQ.val q (.bl _) h⟩
  · obtain ⟨ds, vs, w, e1, e2, e3, h⟩ := h
    obtain ⟨a, xs, rfl, hs, rl⟩ := seqOf_rep q.hr e1 rb
    obtain ⟨z1, z2⟩ := scalD_rep ra e2
    obtain ⟨z3, z4⟩ := scalL_rep rl e3
    exact op_in_seq pins s st H _ _ v u _ I rx ry ⟨a, xs, rfl, hs, z2, z4, EQ.val q (.bl _) (by rw [z1, z3]; exact h)⟩
theorem op_notIn_ : DOp X W (compareOp .NotIn) (aIn true) := by
  intro pins s st H Z r M x y v u da db Q I q rx ry ra rb h
  unfold aIn at h
  split at h
  · cases ra; cases rb
    obtain ⟨c, e, h⟩ := h
    rw [isSign_eq e] at rx
    exact op_notIn_sign pins s st H _ _ v u _ I rx ry ⟨c, _, rfl, rfl, EQ.val q (.bl _) h⟩
  · obtain ⟨ds, vs, w, e1, e2, e3, h⟩ := h
    obtain ⟨a, xs, rfl, hs, rl⟩ := seqOf_rep q.hr e1 rb
    obtain ⟨z1, z2⟩ := scalD_rep ra e2
    obtain ⟨z3, z4⟩ := scalL_rep rl e3
    exact op_notIn_seq pins s st H _ _ v u _ I rx ry ⟨a, xs, rfl, hs, z2, z4, EQ.val q (.bl _) (by rw [z1, z3]; exact h)⟩
end

/-! ### x[i], x[a:b] -/
def DIx (X : Cx) (W : DWX) (o : DR2) : Prop :=
  ∀ (pins : List (Addr × Obj)) (s : Shared) (st : Sg) (H Z : Hp) (r : Rho) (M : Mh) (x y : V) (v u : Value) (a b : D) (Q : QD), Inv X pins st H s → SR (kx X W) Z r M st H → RelV x v → RelV y u → Rep X.K (out Z M H) x a → Rep X.K (out Z M H) y b → o a b M Q →
    ∃ r0 : R2, IxR X r0 ∧ r0 x y H (EQ (kx X W) Z st r (out Z M H) Q)
def aIx : DR2 := fun x y M Q => match x, y with
  | .str z, .int i => ∃ c, z.length ≤ sizeLine ∧ atI z.cps.toList i = some c ∧ Q (.str ⟨#[c]⟩) M
  | x, .int i => ∃ ds d, seqOf M x = some ds ∧ atI ds i = some d ∧ Q d M
  | _, _ => False
theorem RepL.atI {K : PySem.W.Frag} {F : Hp} {vs : List V} {ds : List D} {i : Int} {d : D} (h : RepL K F vs ds) (e : atI ds i = some d) : ∃ v, L2.atI vs i = some v ∧ Rep K F v d := by
  unfold L2.atI at e ⊢
  rw [h.length]
  cases q : ixN ds.length i with
  | none => rw [q] at e; cases e
  | some j =>
    rw [q] at e
    obtain ⟨v, e1, e2⟩ := h.get (i := j) e
    exact ⟨v, e1, e2⟩
section
variable {X : Cx} {W : DWX} {a b : Expr} {ta tb : DTE} {pos : Pos}
theorem de_ix (ha : DE X W a ta) (hb : DE X W b tb) (hs : PlainIx b) : DE X W (.Subscript a b pos) (dOp aIx ta tb) := by
  refine DE.of (pe_ix ix_seq ha.pe hb.pe hs) fun st H Z r M Q q h => ?_
  refine ⟨Z, r, M, _, q, h, fun x H1 ⟨dx, M1, q1, rpx, sm1, h1⟩ => ⟨Z, r, M1, _, q1, h1, fun y H2 ⟨dy, M2, q2, rpy, sm2, h2⟩ => ?_⟩⟩
  have rpx := rpx.mono sm2
  have sm := sm1.trans sm2
  unfold aIx at h2
  dsimp only at h2
  split at h2
  · cases rpx; cases rpy
    obtain ⟨c, hz, hc, h2⟩ := h2
    exact .inr (.inr ⟨_, _, c, rfl, rfl, hz, hc, (EQ.val q2 (.str _) h2).mono sm⟩)
  · cases rpy
    obtain ⟨ds, d, e1, e2, h2⟩ := h2
    obtain ⟨p, xs, rfl, hs, rl⟩ := seqOf_rep q2.hr e1 rpx
    obtain ⟨v, e3, rv⟩ := rl.atI e2
    rcases hs with hs | hs
    · exact .inl ⟨p, xs, _, v, rfl, rfl, hs, e3, (EQ.val q2 rv h2).mono sm⟩
    · exact .inr (.inl ⟨p, xs, _, v, rfl, rfl, hs, e3, (EQ.val q2 rv h2).mono sm⟩)
  · exact h2.elim
end
def cutD {α : Type} (xs : List α) (lo hi : Option Int) : List α := (xs.drop (HT.sIx xs.length 0 lo)).take (HT.sIx xs.length xs.length hi - HT.sIx xs.length 0 lo)
theorem RepL.cut {K : PySem.W.Frag} {F : Hp} {vs : List V} {ds : List D} (h : RepL K F vs ds) (lo hi : Option Int) : RepL K F (cutV vs lo hi) (cutD ds lo hi) := by
  unfold cutV cutD
  rw [h.length]
  exact (h.drop _).take _
abbrev DTO := Rho → Mh → (Option Int → Mh → Prop) → Prop
structure DO (X : Cx) (W : DWX) (e : Option Expr) (t : DTO) : Prop where
  run : ∀ (pins : List (Addr × Obj)) (s : Shared) (st : Sg) (H Z : Hp) (r : Rho) (M : Mh) (Q : Option Int → Mh → Prop), Inv X pins st H s → SR (kx X W) Z r M st H → t r M Q →
    wpAny (model X.prog X.w) X.A (evalPart e X.env) (fun u s' => ∃ o H', Inv X pins st H' s' ∧ IsPart u o ∧ ∃ M', SR (kx X W) Z r M' st H' ∧ Same (out Z M H) (out Z M' H') ∧ Q o M') X.xe s
def liftO (k : Kt) (t : DTO) : TO := fun st H Q => ∃ Z r M DQ, SR k Z r M st H ∧ t r M DQ ∧ ∀ o H', (∃ M', SR k Z r M' st H' ∧ Same (out Z M H) (out Z M' H') ∧ DQ o M') → Q o H'
theorem DO.po {X : Cx} {W : DWX} {e : Option Expr} {t : DTO} (h : DO X W e t) : PO X e (liftO (kx X W) t) := ⟨fun pins s st H Q I ⟨Z, r, M, DQ, q, ht, k⟩ =>
  thn (h.run pins s st H Z r M DQ I q ht) fun _ _ ⟨v, H', I', rv, z⟩ => ⟨v, H', I', rv, k v H' z⟩⟩
def dNoPart : DTO := fun _ M Q => Q none M
def dPart (t : DTE) : DTO := fun r M Q => t r M fun x M1 => match x with
  | .int i => Q (some i) M1
  | _ => False
def aSl (x : D) (lo hi : Option Int) (M : Mh) (Q : QD) : Prop := match x with
  | .str z => z.length ≤ sizeLine ∧ Q (.str (cutS z lo hi)) M
  | .tup ds => Q (.tup (cutD ds lo hi)) M
  | x => ∃ ds, lstOf M x = some ds ∧ Q (.lst (cutD ds lo hi)) M
def dSl (te : DTE) (tl th : DTO) : DTE := fun r M Q => te r M fun x M1 => tl r M1 fun l M2 => th r M2 fun u M3 => aSl x l u M3 Q
theorem cut_all {α : Type} {xs : List α} {lo hi : Option Int} (h : HT.sIx xs.length 0 lo = 0 ∧ HT.sIx xs.length xs.length hi = xs.length) : cutD xs lo hi = xs := by
  unfold cutD
  rw [h.1, h.2]
  simp
section
variable {X : Cx} {W : DWX} {e : Expr} {lo hi : Option Expr} {te : DTE} {tl th : DTO} {pos p2 : Pos}
theorem do_none : DO X W none dNoPart := ⟨fun pins s st H Z r M Q I q h => (po_none (X := X)).run pins s st H _ I ⟨M, q, Same.refl _, h⟩⟩
theorem do_some (h : DE X W e te) : DO X W (some e) (dPart te) := ⟨fun pins s st H Z r M Q I q ht => (po_some h.pe).run pins s st H _ I ⟨Z, r, M, _, q, ht, fun x H1 ⟨d, M1, q1, rp, sm, e⟩ => by
  cases rp with
  | int i => exact ⟨i, rfl, M1, q1, sm, e⟩
  | _ => exact e.elim⟩⟩
theorem de_slice (he : DE X W e te) (hl : DO X W lo tl) (hu : DO X W hi th) : DE X W (.Subscript e (.Slice lo hi none p2) pos) (dSl te tl th) := by
  refine DE.of (pe_slice (sl_list.or (sl_tupA.or sl_str)) he.pe hl.po hu.po) fun st H Z r M Q q h => ?_
  refine ⟨Z, r, M, _, q, h, fun x H1 ⟨dx, M1, q1, rpx, sm1, h1⟩ => ⟨Z, r, M1, _, q1, h1, fun l H2 ⟨M2, q2, sm2, h2⟩ => ⟨Z, r, M2, _, q2, h2, fun u H3 ⟨M3, q3, sm3, h3⟩ => ?_⟩⟩⟩
  have rpx := rpx.mono (sm2.trans sm3)
  have sm := sm1.trans (sm2.trans sm3)
  unfold aSl at h3
  split at h3
  · cases rpx
    exact .inr (.inr ⟨_, rfl, h3.1, (EQ.val q3 (.str _) h3.2).mono sm⟩)
  · cases rpx with
    | @tup a xs ds ht rl =>
      refine .inr (.inl ⟨a, xs, rfl, sqT_mono (out_sub _ _ _) ht, fun e => ?_, fun e p hp => (EQ.newTup q3 hp (rl.cut l u) h3).mono sm⟩)
      rw [rl.length] at e
      rw [cut_all e] at h3
      exact (EQ.val q3 (.tup ht rl) h3).mono sm
  · obtain ⟨ds, e, h3⟩ := h3
    obtain ⟨a, xs, rfl, hs, rl⟩ := lstOf_rep q3.hr e rpx
    exact .inl ⟨a, xs, rfl, hs, fun p hp => (EQ.newLst q3 hp (rl.cut l u) h3).mono sm⟩
end
end DL

set_option maxHeartbeats 2000000
/-! DL4: statements, targets, loops, comprehensions. -/
namespace DL
open PySem PySem.Spec PyProof.Rows L2

/-! ### blocks -/
def dNext : DTS := fun D r M => D.nx r M
def dSeq (t u : DTS) : DTS := fun D r M => t { D with nx := u D } r M
def dDrop (te : DTE) : DTS := fun D r M => te r M fun _ M1 => D.nx r M1
def dRet (te : DTE) : DTS := fun D r M => te r M D.rt
def dRetN : DTS := fun D _ M => D.rt .non M
def dIfS (c : DTT) (t u : DTS) : DTS := fun D r M => c r M fun b M1 => if b = true then t D r M1 else u D r M1
def dBrk : DTS := fun D r M => D.bk r M
def dCnt : DTS := fun D r M => D.ct r M
section
variable {X : Cx} {W : DWX} {c : Stmt} {rest : List Stmt} {t u : DTS} {e : Expr} {te : DTE} {pos : Pos} {k : Kt} {Z F F' : Hp} {H : Hp} {st : Sg} {r : Rho} {M : Mh} {D : DEnds}
theorem nq_here {Q : Rho → Mh → Prop} (q : SR k Z r M st H) (h : Q r M) : NQ k Z (out Z M H) Q st H := ⟨r, M, q, Same.refl _, h⟩
theorem sq_lift {t : DTS} {F : Hp} (q : SR k Z r M st H) (sm : Same F (out Z M H)) (h : t D r M) : liftS k t (SQ k Z F D) st H :=
  ⟨Z, r, M, D, q, h, fun _ _ e => e.mono sm, fun _ _ e => e.mono sm, fun _ _ e => e.mono sm, fun _ _ e => e.mono sm⟩
theorem dss_nil : DSs X W [] dNext := DSs.of pss_nil fun st H Z r M D q h => nq_here q h
theorem dss_cons (h1 : DS X W c t) (h2 : DSs X W rest u) : DSs X W (c :: rest) (dSeq t u) :=
  DSs.of (pss_cons h1.ps h2.pss) fun st H Z r M D q h => ⟨Z, r, M, { D with nx := u D }, q, h, fun a b ⟨r1, M1, q1, sm, e⟩ => sq_lift q1 sm e, fun _ _ e => e, fun _ _ e => e, fun _ _ e => e⟩
theorem dss_one (h1 : DS X W c t) : DSs X W [c] t := DSs.of (pss_one h1.ps) fun st H Z r M D q h => sq_lift q (Same.refl _) h
theorem ds_pass : DS X W (.Pass pos) dNext := DS.of ps_pass fun st H Z r M D q h => nq_here q h
theorem ds_break : DS X W (.Break pos) dBrk := DS.of ps_break fun st H Z r M D q h => nq_here q h
theorem ds_continue : DS X W (.Continue pos) dCnt := DS.of ps_continue fun st H Z r M D q h => nq_here q h
theorem ds_doc {x j pos'} : DS X W (.Expr (.Constant (.str x) j pos) pos') dNext := DS.of ps_doc fun st H Z r M D q h => nq_here q h
theorem ds_expr (he : DE X W e te) (hs : swapsWith e none pos.line X.env = pure false := by rfl) : DS X W (.Expr e pos) (dDrop te) :=
  DS.of (ps_expr he.pe hs) fun st H Z r M D q h => ⟨Z, r, M, _, q, h, fun v H' ⟨d, M1, q1, rp, sm, e⟩ => ⟨r, M1, q1, sm, e⟩⟩
theorem ds_ret (he : DE X W e te) : DS X W (.Return (some e) pos) (dRet te) :=
  DS.of (ps_ret he.pe) fun st H Z r M D q h => ⟨Z, r, M, _, q, h, fun v H' ⟨d, M1, q1, rp, sm, e⟩ => ⟨d, M1, q1.hr, rp, sm, e⟩⟩
theorem ds_retN : DS X W (.Return none pos) dRetN := DS.of ps_retN fun st H Z r M D q h => ⟨.non, M, q.hr, .non, Same.refl _, h⟩
theorem ds_if {cnd : Expr} {a b : List Stmt} {tc : DTT} (hc : DT X W cnd tc) (ha : DSs X W a t) (hb : DSs X W b u) : DS X W (.If cnd a b pos) (dIfS tc t u) :=
  DS.of (ps_if hc.pt ha.pss hb.pss) fun st H Z r M D q h => ⟨Z, r, M, _, q, h, fun k H' ⟨M1, q1, sm, e⟩ => by
    cases k with
    | true => exact sq_lift q1 sm e
    | false => exact sq_lift q1 sm e⟩
end

/-! ### targets -/
abbrev DTG := D → Rho → Mh → (Rho → Mh → Prop) → Prop
abbrev DTGs := List D → Rho → Mh → (Rho → Mh → Prop) → Prop
structure DG (X : Cx) (W : DWX) (target : Expr) (t : DTG) : Prop where
  run : ∀ (pins : List (Addr × Obj)) (s : Shared) (st : Sg) (H Z : Hp) (r : Rho) (M : Mh) (v : V) (u : Value) (d : D) (Q : Rho → Mh → Prop), Inv X pins st H s → SR (kx X W) Z r M st H → RelV v u → Rep X.K (out Z M H) v d → t d r M Q →
    wpAny (model X.prog X.w) X.A (assign target X.env u) (fun _ s' => ∃ st' H', Inv X pins st' H' s' ∧ NQ (kx X W) Z (out Z M H) Q st' H') X.xe s
structure DGs (X : Cx) (W : DWX) (ts : List Expr) (t : DTGs) : Prop where
  run : ∀ (pins : List (Addr × Obj)) (s : Shared) (st : Sg) (H Z : Hp) (r : Rho) (M : Mh) (vs : List V) (us : List Value) (ds : List D) (Q : Rho → Mh → Prop), Inv X pins st H s → SR (kx X W) Z r M st H → Vals vs us → RepL X.K (out Z M H) vs ds → t ds r M Q →
    wpAny (model X.prog X.w) X.A (assignInOrder ((assignEach ts X.env).map (·.2)) us) (fun _ s' => ∃ st' H', Inv X pins st' H' s' ∧ NQ (kx X W) Z (out Z M H) Q st' H') X.xe s
def liftG (k : Kt) (t : DTG) : TG := fun v st H Q => ∃ Z r M d DQ, SR k Z r M st H ∧ Rep k.K (out Z M H) v d ∧ t d r M DQ ∧ ∀ st' H', NQ k Z (out Z M H) DQ st' H' → Q st' H'
def liftGs (k : Kt) (t : DTGs) : TGs := fun vs st H Q => ∃ Z r M ds DQ, SR k Z r M st H ∧ RepL k.K (out Z M H) vs ds ∧ t ds r M DQ ∧ ∀ st' H', NQ k Z (out Z M H) DQ st' H' → Q st' H'
theorem DG.pg {X : Cx} {W : DWX} {tg : Expr} {t : DTG} (h : DG X W tg t) : PG X tg (liftG (kx X W) t) := ⟨fun pins s st H v u Q I rv ⟨Z, r, M, d, DQ, q, rp, ht, k⟩ =>
  thn (h.run pins s st H Z r M v u d DQ I q rv rp ht) fun _ _ ⟨st', H', I', e⟩ => ⟨st', H', I', k _ _ e⟩⟩
theorem DGs.pgs {X : Cx} {W : DWX} {tg : List Expr} {t : DTGs} (h : DGs X W tg t) : PGs X tg (liftGs (kx X W) t) := ⟨fun pins s st H v u Q I rv ⟨Z, r, M, d, DQ, q, rp, ht, k⟩ =>
  thn (h.run pins s st H Z r M v u d DQ I q rv rp ht) fun _ _ ⟨st', H', I', e⟩ => ⟨st', H', I', k _ _ e⟩⟩
def gdName (i : Nat) : DTG := fun d r M Q => Q (r.set i (some d)) M
def gdNil : DTGs := fun ds r M Q => match ds with
  | [] => Q r M
  | _ => False
def gdCons (t : DTG) (u : DTGs) : DTGs := fun ds r M Q => match ds with
  | d :: ds => t d r M fun r1 M1 => u ds r1 M1 Q
  | [] => False
def gdTup (n : Nat) (t : DTGs) : DTG := fun d r M Q => match d with
  | .tup ds => ds.length = n ∧ t ds r M Q
  | _ => False
/-- o[i] = v, by values -/
abbrev DTSet := D → D → D → Mh → (Mh → Prop) → Prop
def DSet (X : Cx) (W : DWX) (t : DTSet) : Prop :=
  ∀ (pins : List (Addr × Obj)) (s : Shared) (st : Sg) (H Z : Hp) (r : Rho) (M : Mh) (o i v : V) (ov iv u : Value) (dx di dv : D) (Q : Mh → Prop), Inv X pins st H s → SR (kx X W) Z r M st H → RelV o ov → RelV i iv → RelV v u →
    Rep X.K (out Z M H) o dx → Rep X.K (out Z M H) i di → Rep X.K (out Z M H) v dv → t dx di dv M Q →
    wpAny (model X.prog X.w) X.A (setItem ov iv u) (fun _ s' => ∃ H', Inv X pins st H' s' ∧ ∃ M', SR (kx X W) Z r M' st H' ∧ Same (out Z M H) (out Z M' H') ∧ Q M') X.xe s
def gdSub (to ti : DTE) (t : DTSet) : DTG := fun d r M Q => to r M fun o M1 => ti r M1 fun i M2 => t o i d M2 fun M3 => Q r M3
def aSetL : DTSet := fun o i v M Q => ∃ p ds k j, o = .ref p ∧ i = .int k ∧ M p = some (.lst ds) ∧ ixN ds.length k = some j ∧ Q (mset M p (.lst (ds.set j v)))
section
variable {X : Cx} {W : DWX} {pos : Pos} {tg e : Expr}
theorem dg_name {i : Nat} {x : Str} (hN : X.N.Nodup) (hi : X.N[i]? = some x) (hx : Loc X.env.scope x) (hf : X.fn x = true ∨ X.env.scope.names.lookup x = some .local := by first | exact .inl rfl | exact .inr rfl | assumption) : DG X W (.Name x pos) (gdName i) :=
  ⟨fun pins s st H Z r M v u d Q I q rv rp h => (pg_name hN hi hx hf).run pins s st H v u _ I rv ⟨_, M, q.set rp i, Same.refl _, h⟩⟩
theorem dgs_nil : DGs X W [] gdNil := ⟨fun pins s st H Z r M vs us ds Q I q rv rp h => by
  unfold gdNil at h
  split at h
  · cases rp
    exact pgs_nil.run pins s st H _ us _ I rv ⟨rfl, r, M, q, Same.refl _, h⟩
  · exact h.elim⟩
theorem dgs_cons {es : List Expr} {t : DTG} {u : DTGs} (h1 : DG X W e t) (h2 : DGs X W es u) (hs : (assignEach (e :: es) X.env).map (·.2) = assign e X.env :: (assignEach es X.env).map (·.2) := by rfl) : DGs X W (e :: es) (gdCons t u) :=
  ⟨fun pins s st H Z r M vs us ds Q I q rv rp h => by
    unfold gdCons at h
    split at h
    · cases rp with
      | cons r1 r2 =>
        exact (pgs_cons h1.pg h2.pgs hs).run pins s st H _ us _ I rv ⟨_, _, rfl, Z, r, M, _, _, q, r1, h, fun st1 H1 ⟨r', M1, q1, sm, e⟩ => ⟨Z, r', M1, _, _, q1, r2.mono sm, e, fun st2 H2 z => z.mono sm⟩⟩
    · exact h.elim⟩
theorem dg_tup {es : List Expr} {k : Nat} {t : DTGs} {n : Nat} (hc : X.calm = true) (h : DGs X W es t) (hn : (assignEach es X.env).length = n := by rfl) (hst : (assignEach es X.env).findIdx? (·.1) = none := by rfl) : DG X W (.Tuple es k pos) (gdTup n t) :=
  ⟨fun pins s st H Z r M v u d Q I q rv rp hw => by
    unfold gdTup at hw
    split at hw
    · cases rp with
      | tup ht rl => exact (pg_tup hc h.pgs hn hst).run pins s st H _ u _ I rv ⟨_, _, rfl, sqT_mono (out_sub _ _ _) ht, by rw [rl.length]; exact hw.1, Z, r, M, _, _, q, rl, hw.2, fun _ _ e => e⟩
    · exact hw.elim⟩
theorem dg_sub {o i : Expr} {to ti : DTE} {t : DTSet} (ho : DE X W o to) (hi : DE X W i ti) (hs : DSet X W t)
    (ha : ∀ v, assign (.Subscript o i pos) X.env v = (do
      let ov ← holding [v] (eval o X.env)
      let iv ← holding [v, ov] (eval i X.env)
      standAt pos
      holding [v, ov, iv] (setItem ov iv v)
      release [v, ov, iv] []) := by intro _; rfl) : DG X W (.Subscript o i pos) (gdSub to ti t) := by
  refine ⟨fun pins s st H Z r M v u d Q I q rv rp h => ?_⟩
  rw [ha]
  refine wpAny_bind (wpAny_holding (thn (ho.run pins s st H Z r M _ I q h) fun ov s1 ⟨x, H1, I1, r1, dx, M1, q1, rp1, sm1, h1⟩ => ?_))
  refine wpAny_bind (wpAny_holding (thn (hi.run pins s1 st H1 Z r M1 _ I1 q1 h1) fun iv s2 ⟨y, H2, I2, r2, di, M2, q2, rp2, sm2, h2⟩ => ?_))
  refine wpAny_bind (wpAny_standAt (wpAny_bind (wpAny_holding (thn (hs pins s2 st H2 Z r M2 x y v ov iv u dx di d _ I2 q2 r1 r2 rv (rp1.mono sm2) rp2 (rp.mono (sm1.trans sm2)) h2) fun _ s3 ⟨H3, I3, M3, q3, sm3, h3⟩ => ?_))))
  exact wpAny_release ⟨st, H3, I3, r, M3, q3, sm1.trans (sm2.trans sm3), h3⟩
theorem set_l : DSet X W aSetL := by
  intro pins s st H Z r M o i v ov iv u dx di dv Q I q ro ri rv po pi pv h
  obtain ⟨p, ds, k, j, rfl, rfl, hp, hj, h⟩ := h
  cases po
  cases pi
  obtain ⟨xs, e, rl⟩ := q.hr.mem p _ hp
  refine thn (set_list pins s st H _ _ v ov iv u (fun H' => ∃ M', SR (kx X W) Z r M' st H' ∧ Same (out Z M H) (out Z M' H') ∧ Q M') I ro ri rv ⟨p, xs, k, j, rfl, rfl, e, by rw [rl.length]; exact hj, ?_⟩) fun _ _ z => z
  have he : ∀ b, b ≠ p → upd H p (.lst (xs.set j v)) b = H b := fun b hb => upd_ne hb
  refine ⟨_, q.mset (mo := .lst (ds.set j dv)) he (.inr (by rw [hp]; exact fun z => nomatch z)) ⟨_, upd_same, rl.set pv j⟩, ?_, h⟩
  rw [out_mset q.hr he (.inr (by rw [hp]; exact fun z => nomatch z))]
  exact Same.refl _
end

/-! ### assignments -/
def dAsg (te : DTE) (g : DTG) : DTS := fun D r M => te r M fun x M1 => g x r M1 D.nx
section
variable {X : Cx} {W : DWX} {pos : Pos} {tg e : Expr} {te : DTE} {g : DTG}
theorem ds_asg (he : DE X W e te) (hg : DG X W tg g) (hs : swapsWithSole [tg] e pos.line X.env = pure false := by rfl) (hw : swappedStores [tg] e X.env = pure none := by rfl)
    (h1 : (assignEach [tg] X.env).map (·.2) = [assign tg X.env] := by rfl) : DS X W (.Assign [tg] e pos) (dAsg te g) :=
  DS.of (ps_asg he.pe hg.pg hs hw h1) fun st H Z r M D q h => ⟨Z, r, M, _, q, h, fun v H' ⟨d, M1, q1, rp, sm, e⟩ => ⟨Z, r, M1, d, _, q1, rp, e, fun _ _ z => z.mono sm⟩⟩
theorem ds_set {i : Nat} {x : Str} {pos' : Pos} (hN : X.N.Nodup) (hi : X.N[i]? = some x) (hx : Loc X.env.scope x) (he : DE X W e te) (hs : swapsWith e (some (.Name x pos')) pos.line X.env = pure false := by rfl) (hf : X.fn x = true ∨ X.env.scope.names.lookup x = some .local := by first | exact .inl rfl | exact .inr rfl | assumption) :
    DS X W (.Assign [.Name x pos'] e pos) (dAsg te (gdName i)) :=
  DS.of (ps_set hN hi hx he.pe hs hf) fun st H Z r M D q h => ⟨Z, r, M, _, q, h, fun v H' ⟨d, M1, q1, rp, sm, e⟩ => ⟨_, M1, q1.set rp i, sm, e⟩⟩
/-- a, b = x, y: stored from the right; no tuple stands behind it -/
def dPar (i j : Nat) (ta : DTA) : DTS := fun D r M => ta r M fun ds M1 => match ds with
  | [v, w] => D.nx ((r.set i (some v)).set j (some w)) M1
  | _ => False
theorem ds_par {i j : Nat} {x y : Str} {a b : Expr} {ta : DTA} {px py pt : Pos} {kt k2 pt2} (hc : X.calm = true) (hN : X.N.Nodup) (hi : X.N[i]? = some x) (hj : X.N[j]? = some y) (hij : i ≠ j)
    (hx : X.env.scope.names.lookup x = some .local) (hy : X.env.scope.names.lookup y = some .local) (ha : DA X W [a, b] ta)
    (hw : swappedStores [.Tuple [.Name x px, .Name y py] kt pt] (.Tuple [a, b] k2 pt2) X.env = pure (some [x, y]))
    (hs : swapsWithSole [.Tuple [.Name x px, .Name y py] kt pt] (.Tuple [a, b] k2 pt2) pos.line X.env = pure false := by rfl) :
    DS X W (.Assign [.Tuple [.Name x px, .Name y py] kt pt] (.Tuple [a, b] k2 pt2) pos) (dPar i j ta) :=
  DS.of (ps_par hc hN hi hj hij hx hy ha.pa hw hs) fun st H Z r M D q h => ⟨Z, r, M, _, q, h, fun vs H' ⟨ds, M1, q1, rps, sm, e⟩ => by
    dsimp only at e
    split at e
    · cases rps with
      | cons r1 rr =>
        cases rr with
        | cons r2 rr =>
          cases rr
          exact ⟨_, _, rfl, _, M1, (q1.set r1 i).set r2 j, sm, e⟩
    · exact e.elim⟩
end

/-! ### what is walked -/
/-- an iterator that yields these, one after another, as long as F stands -/
structure ItR (K : PySem.W.Frag) (F : Hp) (J : It) (items : List D) : Prop where
  go : ∀ (i : Nat) (Z : Hp) (M : Mh) (H : Hp), HR K Z M H → Same F (out Z M H) → i < items.length → J.go i H
  stop : ∀ (Z : Hp) (M : Mh) (H : Hp), HR K Z M H → Same F (out Z M H) → J.stop items.length H
  yld : ∀ (i : Nat) (Z : Hp) (M : Mh) (H H' : Hp) (x : V), HR K Z M H → Same F (out Z M H) → i < items.length → J.yld i H x H' → ∃ d, items[i]? = some d ∧ HR K Z M H' ∧ Same (out Z M H) (out Z M H') ∧ Rep K (out Z M H') x d
abbrev DTI := Rho → Mh → (List D → Mh → Prop) → Prop
structure DI (X : Cx) (W : DWX) (tg iter : Expr) (t : DTI) : Prop where
  pi : ∃ wi, PI X tg iter wi ∧ ∀ (st : Sg) (H Z : Hp) (r : Rho) (M : Mh) (Q : List D → Mh → Prop) (R : It → Hp → Prop), SR (kx X W) Z r M st H → t r M Q →
    (∀ J H' items M', SR (kx X W) Z r M' st H' → Same (out Z M H) (out Z M' H') → ItR X.K (out Z M' H') J items → Q items M' → R J H') → wi st H R
section
variable {X : Cx} {W : DWX} {K : PySem.W.Frag} {F Z : Hp} {tg e : Expr} {te : DTE}
theorem ItR.mono {F' : Hp} {J : It} {items : List D} (h : ItR K F J items) (s : Same F F') : ItR K F' J items :=
  ⟨fun i Z M H q sm => h.go i Z M H q (s.trans sm), fun Z M H q sm => h.stop Z M H q (s.trans sm), fun i Z M H H' x q sm => h.yld i Z M H H' x q (s.trans sm)⟩
theorem itr_lst {a : Addr} {xs : List V} {items : List D} (h : SqL K F a xs) (r : RepL K F xs items) : ItR K F (Itl K a) items where
  go := fun i Z M H q sm hi => by
    have hi' : i < xs.length := by rw [r.length]; exact hi
    exact ⟨xs, xs[i], sqL_mono (sm.trans (out_sub _ _ _)) h, by simp [hi']⟩
  stop := fun Z M H q sm => ⟨xs, sqL_mono (sm.trans (out_sub _ _ _)) h, by rw [r.length]; exact Nat.le_refl _⟩
  yld := fun i Z M H H' x q sm hi y => by
    obtain ⟨e1, y⟩ := y
    subst e1
    have hx := y xs (sqL_mono (sm.trans (out_sub _ _ _)) h)
    obtain ⟨d, e2, rp⟩ := r.getV hx
    exact ⟨d, e2, q, Same.refl _, rp.mono sm⟩
theorem itr_tup {a : Addr} {xs : List V} {items : List D} (h : SqT K F a xs) (r : RepL K F xs items) : ItR K F (Itt K a) items where
  go := fun i Z M H q sm hi => by
    have hi' : i < xs.length := by rw [r.length]; exact hi
    exact ⟨xs, xs[i], sqT_mono (sm.trans (out_sub _ _ _)) h, by simp [hi']⟩
  stop := fun Z M H q sm => ⟨xs, sqT_mono (sm.trans (out_sub _ _ _)) h, by rw [r.length]; exact Nat.le_refl _⟩
  yld := fun i Z M H H' x q sm hi y => by
    obtain ⟨e1, y⟩ := y
    subst e1
    have hx := y xs (sqT_mono (sm.trans (out_sub _ _ _)) h)
    obtain ⟨d, e2, rp⟩ := r.getV hx
    exact ⟨d, e2, q, Same.refl _, rp.mono sm⟩
theorem itr_range (lo : Int) (n : Nat) : ItR K F (Itr lo n) ((List.range n).map fun i : Nat => D.int (lo + (i : Int))) where
  go := fun i Z M H q sm hi => by
    show i < n
    rw [List.length_map, List.length_range] at hi
    exact hi
  stop := fun Z M H q sm => by
    rw [List.length_map, List.length_range]
    exact Nat.le_refl n
  yld := fun i Z M H H' x q sm hi y => by
    obtain ⟨e1, e2⟩ := y
    subst e1 e2
    have hi' : i < n := by simpa using hi
    exact ⟨.int (lo + i), by rw [List.getElem?_map, List.getElem?_range hi']; rfl, q, Same.refl _, .int _⟩
/-- a list, that does not change -/
def iLst (te : DTE) : DTI := fun r M Q => te r M fun x M1 => match x with
  | .lst ds => Q ds M1
  | .scr ns => Q (ns.map .int) M1
  | _ => False
def iTup (te : DTE) : DTI := fun r M Q => te r M fun x M1 => match x with
  | .tup ds => Q ds M1
  | _ => False
theorem di_lst (h : DE X W e te) : DI X W tg e (iLst te) := ⟨_, pi_list h.pe, fun st H Z r M Q R q ht kR => ⟨Z, r, M, _, q, ht, fun v H1 ⟨d, M1, q1, rp, sm, z⟩ => by
  dsimp only at z
  split at z
  · cases rp with
    | @lst a xs ds h rl =>
      have h' : SqL X.K (out Z M1 H1) a xs := .inl (.inl h)
      exact ⟨a, rfl, ⟨xs, sqL_mono (out_sub _ _ _) h'⟩, kR _ _ _ M1 q1 sm (itr_lst h' rl) z⟩
  · cases rp with
    | @scr a ns h => exact ⟨a, rfl, ⟨_, sqL_mono (out_sub _ _ _) h⟩, kR _ _ _ M1 q1 sm (itr_lst h (repL_ints _)) z⟩
  · exact z.elim⟩⟩
theorem di_tup (h : DE X W e te) : DI X W tg e (iTup te) := ⟨_, pi_tup h.pe, fun st H Z r M Q R q ht kR => ⟨Z, r, M, _, q, ht, fun v H1 ⟨d, M1, q1, rp, sm, z⟩ => by
  dsimp only at z
  split at z
  · cases rp with
    | @tup a xs ds h rl => exact ⟨a, rfl, ⟨xs, sqT_mono (out_sub _ _ _) h⟩, kR _ _ _ M1 q1 sm (itr_tup h rl) z⟩
  · exact z.elim⟩⟩
def iRng1' (ta : DTA) : DTI := fun r M Q => ta r M fun ds M1 => match ds with
  | [.int j] => -(2 ^ 62) ≤ j ∧ j < 2 ^ 62 ∧ Q ((List.range j.toNat).map fun i : Nat => D.int (0 + (i : Int))) M1
  | _ => False
def iRng2' (ta : DTA) : DTI := fun r M Q => ta r M fun ds M1 => match ds with
  | [.int i, .int j] => -(2 ^ 62) ≤ i ∧ i < 2 ^ 62 ∧ -(2 ^ 62) ≤ j ∧ j < 2 ^ 62 ∧ Q ((List.range (j - i).toNat).map fun k : Nat => D.int (i + (k : Int))) M1
  | _ => False
theorem di_range1 {a : Expr} {ta : DTA} {p pos : Pos} (hg : Gl X "range") (hm : X.mg "range" = none) (ha : DA X W [a] ta) (hs : starEach [a] X.env = [(false, eval a X.env)] := by rfl) : DI X W tg (.Call (.Name "range" p) [a] [] pos) (iRng1' ta) :=
  ⟨_, pi_range1 hg hm ha.pa hs, fun st H Z r M Q R q ht kR => ⟨Z, r, M, _, q, ht, fun vs H1 ⟨ds, M1, q1, rps, sm, z⟩ => by
    dsimp only at z
    split at z
    · cases rps with
      | cons r1 rr =>
        cases rr
        cases r1
        exact ⟨_, rfl, z.1, z.2.1, kR _ _ _ M1 q1 sm (itr_range 0 _) z.2.2⟩
    · exact z.elim⟩⟩
theorem di_range2 {a b : Expr} {ta : DTA} {p pos : Pos} (hg : Gl X "range") (hm : X.mg "range" = none) (ha : DA X W [a, b] ta) (hs : starEach [a, b] X.env = [(false, eval a X.env), (false, eval b X.env)] := by rfl) (hs2 : starEach [b] X.env = [(false, eval b X.env)] := by rfl) :
    DI X W tg (.Call (.Name "range" p) [a, b] [] pos) (iRng2' ta) :=
  ⟨_, pi_range2 hg hm ha.pa hs hs2, fun st H Z r M Q R q ht kR => ⟨Z, r, M, _, q, ht, fun vs H1 ⟨ds, M1, q1, rps, sm, z⟩ => by
    dsimp only at z
    split at z
    · cases rps with
      | cons r1 rr =>
        cases rr with
        | cons r2 rr =>
          cases rr
          cases r1; cases r2
          exact ⟨_, _, rfl, ⟨z.1, z.2.1, z.2.2.1, z.2.2.2.1⟩, kR _ _ _ M1 q1 sm (itr_range _ _) z.2.2.2.2⟩
    · exact z.elim⟩⟩
end

/-! ### for -/
/-- the loop over these -/
def forL (g : DTG) (tb : DTS) (E : DEnds) : List D → Rho → Mh → Prop
  | [], r, M => E.nx r M
  | x :: xs, r, M => g x r M fun r1 M1 => tb { E with nx := forL g tb E xs, ct := forL g tb E xs, bk := E.nx } r1 M1
def dFor (ti : DTI) (g : DTG) (tb : DTS) : DTS := fun D r M => ti r M fun items M1 => forL g tb D items r M1
section
variable {X : Cx} {W : DWX} {tg iter : Expr} {body : List Stmt} {ti : DTI} {g : DTG} {tb : DTS} {pos : Pos}
theorem ds_for (hp : PassesOwn (model X.prog X.w) X.A X.env X.xe) (hc : X.calm = true) (hi : DI X W tg iter ti) (hg : DG X W tg g) (hb : DSs X W body tb) (hs : ∀ x, foldedSetIterable iter X.env x = pure x := by intro _; rfl) : DS X W (.For tg iter body [] pos) (dFor ti g tb) := by
  obtain ⟨wi, pi, k⟩ := hi.pi
  refine DS.of (ps_for hp hc pi hg.pg hb.pss hs) fun st H Z r M D q h => k st H Z r M _ _ q h fun J H1 items M1 q1 sm1 it h1 => ?_
  refine ⟨fun i m st' H' => m = items.length - i ∧ i ≤ items.length ∧ ∃ r' M', SR (kx X W) Z r' M' st' H' ∧ Same (out Z M1 H1) (out Z M' H') ∧ forL g tb D (items.drop i) r' M', ⟨items.length, by simp, Nat.zero_le _, r, M1, q1, Same.refl _, h1⟩, ?_⟩
  rintro i m st2 H2 ⟨rfl, hi, r2, M2, q2, sm2, h2⟩
  by_cases hlt : i < items.length
  · refine .inr ⟨it.go i Z M2 H2 q2.hr sm2 hlt, NQ (kx X W) Z (out Z M1 H1) (forL g tb D (items.drop (i + 1))), fun st3 H3 ⟨r3, M3, q3, sm3, h3⟩ => ⟨items.length - (i + 1), by omega, rfl, hlt, r3, M3, q3, sm3, h3⟩, fun x H3 y => ?_⟩
    obtain ⟨d, e, m3, sm3, rp⟩ := it.yld i Z M2 H2 H3 x q2.hr sm2 hlt y
    have q3 : SR (kx X W) Z r2 M2 st2 H3 := q2.step m3 sm3
    have ed : items.drop i = d :: items.drop (i + 1) := by
      obtain ⟨hl, e'⟩ := List.getElem?_eq_some_iff.mp e
      rw [← e', List.drop_eq_getElem_cons hl]
    rw [ed] at h2
    refine ⟨Z, r2, M2, d, _, q3, rp, h2, fun st4 H4 ⟨r4, M4, q4, sm4, h4⟩ => ?_⟩
    have s13 := sm2.trans sm3
    refine ⟨Z, r4, M4, _, q4, h4, fun a b e => e.mono (s13.trans sm4), fun a b e => e.mono (sm1.trans (s13.trans sm4)), fun a b e => e.mono (sm1.trans (s13.trans sm4)), fun a b e => e.mono (s13.trans sm4)⟩
  · have e : i = items.length := by omega
    subst e
    rw [List.drop_length] at h2
    exact .inl ⟨it.stop Z M2 H2 q2.hr sm2, r2, M2, q2, sm1.trans sm2, h2⟩
/-- a loop by what holds, of the items that are left -/
theorem forL_ind {E : DEnds} {g : DTG} {tb : DTS} (P : List D → Rho → Mh → Prop)
    (hs : ∀ x xs r M, P (x :: xs) r M → (∀ r M, P xs r M → forL g tb E xs r M) → g x r M fun r1 M1 => tb { E with nx := forL g tb E xs, ct := forL g tb E xs, bk := E.nx } r1 M1)
    (hd : ∀ r M, P [] r M → E.nx r M) : ∀ {items : List D} {r : Rho} {M : Mh}, P items r M → forL g tb E items r M
  | [], r, M, p => hd r M p
  | x :: xs, r, M, p => hs x xs r M p fun r M p => forL_ind P hs hd p
end

/-! ### while -/
def dWhile (c : DTT) (tb : DTS) : DTS := fun E r M => ∃ J : Nat → Rho → Mh → Prop, (∃ m, J m r M) ∧ ∀ m r M, J m r M →
  c r M fun b M1 => if b = true then ∃ N : Rho → Mh → Prop, (∀ r' M', N r' M' → ∃ m', m' < m ∧ J m' r' M') ∧ tb { E with nx := N, ct := N, bk := E.nx } r M1 else E.nx r M1
theorem ds_while {X : Cx} {W : DWX} {c : Expr} {body : List Stmt} {tc : DTT} {tb : DTS} {pos : Pos} (hp : PassesOwn (model X.prog X.w) X.A X.env X.xe) (hc : DT X W c tc) (hb : DSs X W body tb) : DS X W (.While c body [] pos) (dWhile tc tb) := by
  refine DS.of (ps_while hp hc.pt hb.pss) fun st H Z r M E q h => ?_
  obtain ⟨J, ⟨m0, w0⟩, turn⟩ := h
  refine ⟨fun m st' H' => ∃ r' M', SR (kx X W) Z r' M' st' H' ∧ Same (out Z M H) (out Z M' H') ∧ J m r' M', ⟨m0, r, M, q, Same.refl _, w0⟩, ?_⟩
  rintro m st2 H2 ⟨r2, M2, q2, sm2, w2⟩
  refine ⟨Z, r2, M2, _, q2, turn m r2 M2 w2, fun b H3 ⟨M3, q3, sm3, h3⟩ => ?_⟩
  have s13 := sm2.trans sm3
  cases b with
  | true =>
    obtain ⟨N, hN, h3⟩ := h3
    refine ⟨NQ (kx X W) Z (out Z M H) N, fun st4 H4 ⟨r4, M4, q4, sm4, n4⟩ => ?_, Z, r2, M3, _, q3, h3, fun a b e => e.mono s13, fun a b e => e.mono s13, fun a b e => e.mono s13, fun a b e => e.mono s13⟩
    obtain ⟨m', hm, w'⟩ := hN r4 M4 n4
    exact ⟨m', hm, r4, M4, q4, sm4, w'⟩
  | false => exact ⟨r2, M3, q3, s13, h3⟩
end DL

set_option maxHeartbeats 2000000
/-! DL5: comprehensions. -/
namespace DL
open PySem PySem.Spec PyProof.Rows L2

/-- the target of a comprehension: a name, or a tuple of names, by their places -/
inductive TPat where
  | one (i : Nat) | tup (is : List Nat)
def gNames : List Nat → TGs
  | [] => gNil
  | i :: is => gCons (gName i) (gNames is)
def gdNames : List Nat → DTGs
  | [] => gdNil
  | i :: is => gdCons (gdName i) (gdNames is)
def tpV (K : PySem.W.Frag) : TPat → TG
  | .one i => gName i
  | .tup is => gTup K is.length (gNames is)
def tpD : TPat → DTG
  | .one i => gdName i
  | .tup is => gdTup is.length (gdNames is)
def TPat.ixs : TPat → List Nat
  | .one i => [i]
  | .tup is => is
def wipeR (r : Rho) : List Nat → Rho
  | [] => r
  | v :: vs => (wipeR r vs).set v none
def dYes : DTT := fun _ M Q => Q true M
def lcL (p : TPat) (tt : DTT) (te : DTE) (r0 : Rho) (Q : QD) : List D → List D → Mh → Prop
  | [], acc, M => Q (.lst acc) M
  | x :: xs, acc, M => tpD p x r0 M fun r1 M1 => tt r1 M1 fun b M2 => if b = true then te r1 M2 fun y M3 => acc.length < sizeLine ∧ lcL p tt te r0 Q xs (acc ++ [y]) M3 else lcL p tt te r0 Q xs acc M2
def dLc (ti : DTI) (p : TPat) (tt : DTT) (te : DTE) (vs : List Nat) : DTE := fun r M Q => ti r M fun items M1 => lcL p tt te (wipeR r vs) Q items [] M1

section
variable {k : Kt} {F Z : Hp} {M : Mh} {H : Hp} {r : Rho} {st : Sg}
theorem wipeR_length (r : Rho) : ∀ vs : List Nat, (wipeR r vs).length = r.length
  | [] => rfl
  | v :: vs => by unfold wipeR; rw [List.length_set, wipeR_length r vs]
theorem set_none_sr (q : SR k Z r M st H) (i : Nat) : SR k Z (r.set i none) M (st.set i none) H where
  len := by rw [List.length_set, List.length_set, q.len]
  hr := q.hr
  tk := q.tk
  sl := fun j d e => by
    by_cases hj : i = j
    · subst hj
      rw [List.getElem?_set] at e
      split at e
      · split at e
        · cases e
        · cases e
      · rename_i n; exact absurd rfl n
    · rw [List.getElem?_set_ne hj] at e
      obtain ⟨v, h1, h2⟩ := q.sl j d e
      exact ⟨v, by rw [List.getElem?_set_ne hj]; exact h1, h2⟩
theorem wipe_sr (q : SR k Z r M st H) : ∀ vs : List Nat, SR k Z (wipeR r vs) M (wipe st vs) H
  | [] => q
  | v :: vs => set_none_sr (wipe_sr q vs) v
theorem wipe_set {x : Option V} {i : Nat} : ∀ {vs : List Nat} {st : Sg}, i ∈ vs → wipe (st.set i x) vs = wipe st vs
  | [], _, h => by simp at h
  | v :: vs, st, h => by
    unfold wipe
    by_cases hi : i ∈ vs
    · rw [wipe_set hi]
    · have e : i = v := by
        rcases List.mem_cons.mp h with h | h
        · exact h
        · exact absurd h hi
      subst e
      have key : ∀ (vs : List Nat) (st : Sg), i ∉ vs → wipe (st.set i x) vs = (wipe st vs).set i x := by
        intro vs
        induction vs with
        | nil => intro st _; rfl
        | cons w vs ih =>
          intro st h
          have h1 : w ≠ i := fun e => h (by rw [e]; exact List.mem_cons_self ..)
          have h2 : i ∉ vs := fun z => h (List.mem_cons_of_mem _ z)
          unfold wipe
          rw [ih st h2, List.set_comm _ _ (Ne.symm h1)]
      rw [key vs st hi, List.set_set]
theorem wipe_wipe (st : Sg) : ∀ vs us : List Nat, (∀ v ∈ us, v ∈ vs) → wipe (wipe st us) vs = wipe st vs
  | vs, [], _ => rfl
  | vs, u :: us, h => by
    show wipe ((wipe st us).set u none) vs = _
    rw [wipe_set (h u (List.mem_cons_self ..)), wipe_wipe st vs us fun v z => h v (List.mem_cons_of_mem _ z)]
/-- names are stored -/
theorem gNames_ok {vs : List Nat} : ∀ {is : List Nat} {xs : List V} {ds : List D} {r : Rho} {st : Sg} {Q : Rho → Mh → Prop}, (∀ i ∈ is, i ∈ vs) → SR k Z r M st H → RepL k.K (out Z M H) xs ds → gdNames is ds r M Q →
    gNames is xs st H fun st2 H2 => H2 = H ∧ wipe st2 vs = wipe st vs ∧ ∃ r2, SR k Z r2 M st2 H ∧ Q r2 M
  | [], xs, ds, r, st, Q, hi, q, rl, h => by
    have h : gdNil ds r M Q := h
    unfold gdNil at h
    split at h
    · cases rl
      exact ⟨rfl, rfl, rfl, r, q, h⟩
    · exact h.elim
  | i :: is, xs, ds, r, st, Q, hi, q, rl, h => by
    have h : gdCons (gdName i) (gdNames is) ds r M Q := h
    unfold gdCons at h
    split at h
    · cases rl with
      | @cons v vs' d' ds' r1 r2 =>
        refine ⟨_, _, rfl, ?_⟩
        have z := gNames_ok (vs := vs) (is := is) (fun j z => hi j (List.mem_cons_of_mem _ z)) (q.set r1 i) r2 h
        have e : wipe (st.set i (some v)) vs = wipe st vs := wipe_set (hi i (List.mem_cons_self ..))
        rw [e] at z
        exact z
    · exact h.elim
theorem tp_ok {vs : List Nat} {p : TPat} {v : V} {d : D} {Q : Rho → Mh → Prop} (hi : ∀ i ∈ p.ixs, i ∈ vs) (q : SR k Z r M st H) (rp : Rep k.K (out Z M H) v d) (h : tpD p d r M Q) :
    tpV k.K p v st H fun st2 H2 => H2 = H ∧ wipe st2 vs = wipe st vs ∧ ∃ r2, SR k Z r2 M st2 H ∧ Q r2 M := by
  cases p with
  | one i => exact ⟨rfl, wipe_set (hi i (List.mem_cons_self ..)), _, q.set rp i, h⟩
  | tup is =>
    have h : gdTup is.length (gdNames is) d r M Q := h
    unfold gdTup at h
    split at h
    · cases rp with
      | tup ht rl => exact ⟨_, _, rfl, sqT_mono (out_sub _ _ _) ht, by rw [rl.length]; exact h.1, gNames_ok hi q rl h.2⟩
    · exact h.elim
end

/-- no exception counts -/
@[reducible] def kxN (K : PySem.W.Frag) : Kt := ⟨K, fun _ _ => True, fun _ _ _ _ h => h⟩
theorem SR.conv0 {k kb : Kt} {Z : Hp} {r : Rho} {M : Mh} {st : Sg} {H : Hp} (q : SR k Z r M st H) (hk : kb.K = k.K) (ht : kb.T Z (out Z M H)) : SR kb Z r M st H :=
  ⟨q.len, fun i d e => by rw [hk]; exact q.sl i d e, by rw [hk]; exact q.hr, ht⟩
theorem liftT_conv {K : PySem.W.Frag} {kb : Kt} {t : DTT} {st : Sg} {H : Hp} {Q : Bool → Hp → Prop} (hk : kb.K = K) (hT : ∀ Z F, kb.T Z F) (z : liftT (kxN K) t st H Q) : liftT kb t st H Q := by
  obtain ⟨Z, r, M, DQ, q, ht, k⟩ := z
  exact ⟨Z, r, M, DQ, q.conv0 hk (hT _ _), ht, fun v H' ⟨M', q', sm, e⟩ => k v H' ⟨M', q'.conv0 hk.symm trivial, sm, e⟩⟩
theorem liftE_conv {K : PySem.W.Frag} {kb : Kt} {t : DTE} {st : Sg} {H : Hp} {Q : VK} (hk : kb.K = K) (hT : ∀ Z F, kb.T Z F) (z : liftE (kxN K) t st H Q) : liftE kb t st H Q := by
  obtain ⟨Z, r, M, DQ, q, ht, k⟩ := z
  exact ⟨Z, r, M, DQ, q.conv0 hk (hT _ _), ht, fun v H' ⟨d, M', q', rp, sm, e⟩ => k v H' ⟨d, M', q'.conv0 hk.symm trivial, by rw [← hk]; exact rp, sm, e⟩⟩
theorem PE_imp {X : Cx} {e : Expr} {t t' : TE} (h : PE X e t) (k : ∀ st H Q, t' st H Q → t st H Q) : PE X e t' := ⟨fun pins s st H Q I z => h.run pins s st H Q I (k _ _ _ z)⟩
theorem PTs_imp {X : Cx} {e : List Expr} {t t' : TT} (h : PTs X e t) (k : ∀ st H Q, t' st H Q → t st H Q) : PTs X e t' := ⟨fun pins s st H Q I z => h.run pins s st H Q I (k _ _ _ z)⟩
/-- the tests of a comprehension -/
def DTs (X : Cx) (W : DWX) (ifs : List Expr) (t : DTT) : Prop := PTs X ifs (liftT (kx X W) t)
section
variable {X : Cx} {W : DWX}
theorem dts_nil : DTs X W [] dYes := ⟨fun pins s st H Q I ⟨Z, r, M, DQ, q, ht, k⟩ => pts_nil.run pins s st H Q I (k true H ⟨M, q, Same.refl _, ht⟩)⟩
theorem dts_one {c : Expr} {t : DTT} (h : DT X W c t) : DTs X W [c] t := pts_one h.pt
/-- names as targets are stored alike whatever is wanted behind -/
theorem tgv_imp {K : PySem.W.Frag} {Q Q' : Sg → Hp → Prop} (h : ∀ s H, Q s H → Q' s H) : ∀ {is : List Nat} {vs : List V} {st : Sg} {H : Hp}, gNames is vs st H Q → gNames is vs st H Q'
  | [], _, _, _, ⟨e, z⟩ => ⟨e, h _ _ z⟩
  | _ :: _, _, _, _, ⟨v, r, e, z⟩ => ⟨v, r, e, tgv_imp (K := K) h z⟩
theorem tpv_imp {K : PySem.W.Frag} {Q Q' : Sg → Hp → Prop} (h : ∀ s H, Q s H → Q' s H) {p : TPat} {v : V} {st : Sg} {H : Hp} (z : tpV K p v st H Q) : tpV K p v st H Q' := by
  cases p with
  | one i => exact h _ _ z
  | tup is =>
    obtain ⟨a, xs, e1, e2, e3, z⟩ := z
    exact ⟨a, xs, e1, e2, e3, tgv_imp (K := K) h z⟩
theorem SR.conv {k kb : Kt} {Z : Hp} {r : Rho} {M : Mh} {st : Sg} {H : Hp} (q : SR k Z r M st H) (hk : kb.K = k.K) (ht : kb.T Z (out Z M H)) : SR kb Z r M st H :=
  ⟨q.len, fun i d e => by rw [hk]; exact q.sl i d e, by rw [hk]; exact q.hr, ht⟩
theorem takesN {X : Cx} {K : PySem.W.Frag} {Z F : Hp} : Takes X (XW K Z F WN) := fun _ _ x => by
  obtain ⟨_, _, _, _, _, _, _, _, _, _, _, _, _, _, _, _, z⟩ := x
  obtain ⟨_, _, _, _, _, _, _, _, z⟩ := z
  exact z.elim
theorem lc_ok {k kb : Kt} (hk : kb.K = k.K) (hT : ∀ Z F, kb.T Z F) {Z : Hp} {st : Sg} {r : Rho} {M1 : Mh} {H1 : Hp} {J : It} {items : List D} {p : TPat} {tt : DTT} {te : DTE} {vs : List Nat} {Q : QD} {Fin : VK} {L : Addr} (hix : ∀ i ∈ p.ixs, i ∈ vs)
    (q1 : SR k Z r M1 st H1) (it : ItR k.K (out Z M1 H1) J items) (h1 : lcL p tt te (wipeR r vs) Q items [] M1) (hL : H1 L = none)
    (fin : ∀ H' M2 acc av, Z L = none → (∀ (M3 : Mh), HR k.K Z M3 H' → Same (out Z M1 H1) (out Z M3 H') → SR k Z r M3 st H') → HR k.K (upd Z L (.lst av)) M2 H' → RepL k.K (out (upd Z L (.lst av)) M2 H') av acc → Same (out Z M1 H1) (out (upd Z L (.lst av)) M2 H') → Q (.lst acc) M2 → Fin (.ref L) H') :
    ∃ U : Nat → Nat → Hp → Prop, (∃ m, U 0 m (upd H1 L (.lst []))) ∧ ∀ i m H, U i m H →
      (J.stop i H ∧ Fin (.ref L) H) ∨ (J.go i H ∧ ∃ Nx : Hp → Prop, (∀ H', Nx H' → ∃ m', m' < m ∧ U (i + 1) m' H') ∧ ∀ x H', J.yld i H x H' → tpV k.K p x (wipe st vs) H' fun st2 H2 => wipe st2 vs = wipe st vs ∧ liftT kb tt st2 H2 fun b H3 =>
        if b = true then liftE kb te st2 H3 fun y H4 => ∃ acc, H4 L = some (.lst acc) ∧ acc.length < sizeLine ∧ Nx (upd H4 L (.lst (acc ++ [y]))) else Nx H3) := by
  have hzL : Z L = none := (q1.hr.fresh hL).2
  have nown : ∀ (xs : List V) x, HO.lst xs ≠ .own x := fun _ _ e => nomatch e
  have fresh_tk : ∀ {xs : List V} {M' : Mh} {H' : Hp}, Same (out Z M1 H1) (out (upd Z L (.lst xs)) M' H') → kb.T (upd Z L (.lst xs)) (out (upd Z L (.lst xs)) M' H') := fun _ => hT _ _
  -- the word: what has been made stands hidden at L
  let Wd : Nat → Hp → Prop := fun i H' => ∃ M' acc av, SR kb (upd Z L (.lst av)) r M' st H' ∧ RepL k.K (out (upd Z L (.lst av)) M' H') av acc ∧ Same (out Z M1 H1) (out (upd Z L (.lst av)) M' H') ∧ lcL p tt te (wipeR r vs) Q (items.drop i) acc M'
  refine ⟨fun i m H' => m = items.length - i ∧ i ≤ items.length ∧ Wd i H', ⟨items.length, by simp, Nat.zero_le _, M1, [], [], ?_, .nil, ?_, h1⟩, ?_⟩
  · obtain ⟨z1, z2⟩ := q1.hr.hide (o := .lst []) hL (nown [])
    exact ⟨q1.len, fun i d e => let ⟨v, a, b⟩ := q1.sl i d e; ⟨v, a, by rw [z2, hk]; exact b⟩, by rw [hk]; exact z1, hT _ _⟩
  · rw [(q1.hr.hide (o := .lst []) hL (nown [])).2]
    exact Same.refl _
  · rintro i m H2 ⟨rfl, hi, M2, acc, av, q2, rl2, sm2, h2⟩
    have hr2 : HR k.K (upd Z L (.lst av)) M2 H2 := by rw [← hk]; exact q2.hr
    by_cases hlt : i < items.length
    · refine .inr ⟨it.go i _ M2 H2 hr2 sm2 hlt, Wd (i + 1), fun H' w => ⟨items.length - (i + 1), by omega, rfl, hlt, w⟩, fun x H3 y => ?_⟩
      obtain ⟨d, e, m3, sm3, rp⟩ := it.yld i _ M2 H2 H3 x hr2 sm2 hlt y
      have q3 : SR kb (upd Z L (.lst av)) r M2 st H3 := q2.step (by rw [hk]; exact m3) sm3
      have ed : items.drop i = d :: items.drop (i + 1) := by
        obtain ⟨hl, e'⟩ := List.getElem?_eq_some_iff.mp e
        rw [← e', List.drop_eq_getElem_cons hl]
      rw [ed] at h2
      have tp := tp_ok (k := kb) (vs := vs) hix (wipe_sr q3 vs) (by rw [hk]; exact rp) h2
      rw [hk] at tp
      refine tpv_imp (fun st4 H4 z => ?_) tp
      obtain ⟨rfl, ew, r4, q4, h4⟩ := z
      refine ⟨by rw [ew]; exact wipe_wipe st vs vs fun _ h => h, _, r4, M2, _, q4, h4, fun b H5 ⟨M5, q5, sm5, h5⟩ => ?_⟩
      -- what is left of the state behind a step
      have back : ∀ {M' : Mh} {H' : Hp} (r' : Rho), SR kb (upd Z L (.lst av)) r' M' st4 H' → Same (out (upd Z L (.lst av)) M2 H4) (out (upd Z L (.lst av)) M' H') → SR kb (upd Z L (.lst av)) r M' st H' := fun r' qq sm => q3.step qq.hr sm
      cases b with
      | false => exact ⟨M5, acc, av, back r4 q5 sm5, rl2.mono (sm3.trans sm5), sm2.trans (sm3.trans sm5), h5⟩
      | true =>
        refine ⟨_, r4, M5, _, q5, h5, fun yv H6 ⟨dy, M6, q6, rp6, sm6, hl6, h6⟩ => ?_⟩
        have hLv := (q6.hr.hid L (.lst av) upd_same).1
        have q7 := back r4 q6 (sm5.trans sm6)
        obtain ⟨z1, z2⟩ := q6.hr.rehide (o' := .lst (av ++ [yv])) (nown _)
        have rl6 := rl2.mono (sm3.trans (sm5.trans sm6))
        refine ⟨av, hLv, by rw [rl6.length]; exact hl6, M6, acc ++ [dy], av ++ [yv], ⟨q7.len, fun i d e => let ⟨v, a, b⟩ := q7.sl i d e; ⟨v, a, by rw [z2]; exact b⟩, z1, hT _ _⟩, ?_, ?_, h6⟩
        · rw [z2]; exact rl6.append (.cons (by rw [← hk]; exact rp6) .nil)
        · rw [z2]; exact sm2.trans (sm3.trans (sm5.trans sm6))
    · have e : i = items.length := by omega
      subst e
      rw [List.drop_length] at h2
      exact .inl ⟨it.stop _ M2 H2 hr2 sm2, fin _ M2 acc av hzL (fun M3 m sm => q1.step m sm) hr2 rl2 sm2 h2⟩
/-- the new list never changes from now on -/
theorem lc_frz {k : Kt} {Z H1 H' : Hp} {st : Sg} {r : Rho} {M1 M2 : Mh} {L : Addr} {acc : List D} {av : List V} {Q : QD} (hz : Z L = none) (q1 : ∀ (M3 : Mh), HR k.K Z M3 H' → Same (out Z M1 H1) (out Z M3 H') → SR k Z r M3 st H') (m : HR k.K (upd Z L (.lst av)) M2 H')
    (rl : RepL k.K (out (upd Z L (.lst av)) M2 H') av acc) (sm : Same (out Z M1 H1) (out (upd Z L (.lst av)) M2 H')) (h : Q (.lst acc) M2) : EQ k Z st r (out Z M1 H1) Q (.ref L) H' := by
  obtain ⟨z1, z2, z3⟩ := m.show_ hz
  exact ⟨.lst acc, M2, q1 M2 z1 (sm.trans z2), .lst z3 (rl.mono z2), sm.trans z2, h⟩
/-- the new list may change -/
def ThawQ (Q : QD) : QD := fun d M => ∃ ds, d = .lst ds ∧ ∀ p, M p = none → Q (.ref p) (mset M p (.lst ds))
theorem lc_mut {k : Kt} {Z H1 H' : Hp} {st : Sg} {r : Rho} {M1 M2 : Mh} {L : Addr} {acc : List D} {av : List V} {Q : QD} (hz : Z L = none) (q1 : ∀ (M3 : Mh), HR k.K Z M3 H' → Same (out Z M1 H1) (out Z M3 H') → SR k Z r M3 st H') (m : HR k.K (upd Z L (.lst av)) M2 H')
    (rl : RepL k.K (out (upd Z L (.lst av)) M2 H') av acc) (sm : Same (out Z M1 H1) (out (upd Z L (.lst av)) M2 H')) (h : ThawQ Q (.lst acc) M2) : EQ k Z st r (out Z M1 H1) Q (.ref L) H' := by
  obtain ⟨ds, e, h⟩ := h
  cases e
  obtain ⟨z1, z2⟩ := hr_thaw m hz rl
  exact ⟨.ref L, _, q1 _ z1 (by rw [z2]; exact sm), .ref L, by rw [z2]; exact sm, h L (m.hid L _ upd_same).2.1⟩

theorem de_lc {elt tg iter : Expr} {ifs : List Expr} {scope : Scope} {own : List (Str × Nat)} {pos : Pos} {ti : DTI} {p : TPat} {tt : DTT} {te : DTE} (hc : X.calm = true) (hN : X.N.Nodup) (hi : DI X W tg iter ti) (ok : BlkOk X.N X.env.scope scope own) (hix : ∀ i ∈ p.ixs, i ∈ own.map (·.2))
    (hg : ∀ (s : Shared) (H : Hp) (C : Addr) (cl : List (Str × Addr)) (fp : List Addr), PG (Cx.blk X s H scope (compEnvC scope cl C X.env) fp) tg (tpV X.K p)) (ht : ∀ (s : Shared) (H : Hp) (C : Addr) (cl : List (Str × Addr)) (fp : List Addr), DTs (Cx.blk X s H scope (compEnvC scope cl C X.env) fp) WN ifs tt)
    (he : ∀ (s : Shared) (H : Hp) (C : Addr) (cl : List (Str × Addr)) (fp : List Addr), DE (Cx.blk X s H scope (compEnvC scope cl C X.env) fp) WN elt te) (hs : ∀ x, foldedSetIterable iter X.env x = pure x := by intro _; rfl) :
    DE X W (.ListComp elt [⟨tg, iter, ifs, 0⟩] scope pos) (dLc ti p tt te (own.map (·.2))) := by
  obtain ⟨wi, pi, k⟩ := hi.pi
  refine DE.of (pe_lc (tt := liftT (kxN X.K) tt) (te := liftE (kxN X.K) te) hc hN pi ok hg (fun s H C cl fp => PTs_imp (ht s H C cl fp) fun st H Q z => liftT_conv rfl (fun _ _ => takesN) z) (fun s H C cl fp => PE_imp (he s H C cl fp).pe fun st H Q z => liftE_conv rfl (fun _ _ => takesN) z) hs) fun st H Z r M Q q h => k st H Z r M _ _ q h fun J H1 items M1 q1 sm1 it h1 => ?_
  intro L hL
  exact lc_ok (k := kx X W) (kb := kxN X.K) rfl (fun _ _ => trivial) hix q1 it h1 hL fun H' M2 acc av a1 a2 a3 a4 a5 a6 => (lc_frz a1 a2 a3 a4 a5 a6).mono sm1
theorem ds_setLc {i : Nat} {y : Str} {py : Pos} {elt tg iter : Expr} {ifs : List Expr} {scope : Scope} {own : List (Str × Nat)} {pos spos : Pos} {ti : DTI} {p : TPat} {tt : DTT} {te : DTE} (hc : X.calm = true) (hN : X.N.Nodup) (hy : X.N[i]? = some y) (hyl : X.env.scope.names.lookup y = some .local)
    (hsw : swapsWith (.ListComp elt [⟨tg, iter, ifs, 0⟩] scope pos) (some (.Name y py)) spos.line X.env = pure true) (hi : DI X W tg iter ti) (ok : BlkOk X.N X.env.scope scope own) (hix : ∀ i ∈ p.ixs, i ∈ own.map (·.2))
    (hg : ∀ (s : Shared) (H : Hp) (C : Addr) (cl : List (Str × Addr)) (fp : List Addr), PG (Cx.blk X s H scope (compEnvC scope cl C X.env) fp) tg (tpV X.K p)) (ht : ∀ (s : Shared) (H : Hp) (C : Addr) (cl : List (Str × Addr)) (fp : List Addr), DTs (Cx.blk X s H scope (compEnvC scope cl C X.env) fp) WN ifs tt)
    (he : ∀ (s : Shared) (H : Hp) (C : Addr) (cl : List (Str × Addr)) (fp : List Addr), DE (Cx.blk X s H scope (compEnvC scope cl C X.env) fp) WN elt te) (hs : ∀ x, foldedSetIterable iter X.env x = pure x := by intro _; rfl) :
    DS X W (.Assign [.Name y py] (.ListComp elt [⟨tg, iter, ifs, 0⟩] scope pos) spos) (dAsg (dLc ti p tt te (own.map (·.2))) (gdName i)) := by
  obtain ⟨wi, pi, k⟩ := hi.pi
  refine DS.of (ps_setLc (tt := liftT (kxN X.K) tt) (te := liftE (kxN X.K) te) hc hN hy hyl hsw pi ok hg (fun s H C cl fp => PTs_imp (ht s H C cl fp) fun st H Q z => liftT_conv rfl (fun _ _ => takesN) z) (fun s H C cl fp => PE_imp (he s H C cl fp).pe fun st H Q z => liftE_conv rfl (fun _ _ => takesN) z) hs) fun st H Z r M D q h => k st H Z r M _ _ q h fun J H1 items M1 q1 sm1 it h1 => ?_
  intro L hL
  refine lc_ok (k := kx X W) (kb := kxN X.K) rfl (fun _ _ => trivial) (Fin := fun v H' => gName i v st H' (SQ (kx X W) Z (out Z M H) D).nx) hix q1 it h1 hL fun H' M2 acc av a1 a2 a3 a4 a5 a6 => ?_
  obtain ⟨d, M', q', rp, sm', e⟩ := lc_frz (Q := fun x M => gdName i x r M D.nx) a1 a2 a3 a4 a5 a6
  exact ⟨_, M', q'.set rp i, sm1.trans sm', e⟩
def dLcM (ti : DTI) (p : TPat) (tt : DTT) (te : DTE) (vs : List Nat) : DTE := fun r M Q => dLc ti p tt te vs r M (ThawQ Q)
theorem de_lcM {elt tg iter : Expr} {ifs : List Expr} {scope : Scope} {own : List (Str × Nat)} {pos : Pos} {ti : DTI} {p : TPat} {tt : DTT} {te : DTE} (hc : X.calm = true) (hN : X.N.Nodup) (hi : DI X W tg iter ti) (ok : BlkOk X.N X.env.scope scope own) (hix : ∀ i ∈ p.ixs, i ∈ own.map (·.2))
    (hg : ∀ (s : Shared) (H : Hp) (C : Addr) (cl : List (Str × Addr)) (fp : List Addr), PG (Cx.blk X s H scope (compEnvC scope cl C X.env) fp) tg (tpV X.K p)) (ht : ∀ (s : Shared) (H : Hp) (C : Addr) (cl : List (Str × Addr)) (fp : List Addr), DTs (Cx.blk X s H scope (compEnvC scope cl C X.env) fp) WN ifs tt)
    (he : ∀ (s : Shared) (H : Hp) (C : Addr) (cl : List (Str × Addr)) (fp : List Addr), DE (Cx.blk X s H scope (compEnvC scope cl C X.env) fp) WN elt te) (hs : ∀ x, foldedSetIterable iter X.env x = pure x := by intro _; rfl) :
    DE X W (.ListComp elt [⟨tg, iter, ifs, 0⟩] scope pos) (dLcM ti p tt te (own.map (·.2))) := by
  obtain ⟨wi, pi, k⟩ := hi.pi
  refine DE.of (pe_lc (tt := liftT (kxN X.K) tt) (te := liftE (kxN X.K) te) hc hN pi ok hg (fun s H C cl fp => PTs_imp (ht s H C cl fp) fun st H Q z => liftT_conv rfl (fun _ _ => takesN) z) (fun s H C cl fp => PE_imp (he s H C cl fp).pe fun st H Q z => liftE_conv rfl (fun _ _ => takesN) z) hs) fun st H Z r M Q q h => k st H Z r M _ _ q h fun J H1 items M1 q1 sm1 it h1 => ?_
  intro L hL
  exact lc_ok (k := kx X W) (kb := kxN X.K) rfl (fun _ _ => trivial) hix q1 it h1 hL fun H' M2 acc av a1 a2 a3 a4 a5 a6 => (lc_mut a1 a2 a3 a4 a5 a6).mono sm1
theorem ds_setLcM {i : Nat} {y : Str} {py : Pos} {elt tg iter : Expr} {ifs : List Expr} {scope : Scope} {own : List (Str × Nat)} {pos spos : Pos} {ti : DTI} {p : TPat} {tt : DTT} {te : DTE} (hc : X.calm = true) (hN : X.N.Nodup) (hy : X.N[i]? = some y) (hyl : X.env.scope.names.lookup y = some .local)
    (hsw : swapsWith (.ListComp elt [⟨tg, iter, ifs, 0⟩] scope pos) (some (.Name y py)) spos.line X.env = pure true) (hi : DI X W tg iter ti) (ok : BlkOk X.N X.env.scope scope own) (hix : ∀ i ∈ p.ixs, i ∈ own.map (·.2))
    (hg : ∀ (s : Shared) (H : Hp) (C : Addr) (cl : List (Str × Addr)) (fp : List Addr), PG (Cx.blk X s H scope (compEnvC scope cl C X.env) fp) tg (tpV X.K p)) (ht : ∀ (s : Shared) (H : Hp) (C : Addr) (cl : List (Str × Addr)) (fp : List Addr), DTs (Cx.blk X s H scope (compEnvC scope cl C X.env) fp) WN ifs tt)
    (he : ∀ (s : Shared) (H : Hp) (C : Addr) (cl : List (Str × Addr)) (fp : List Addr), DE (Cx.blk X s H scope (compEnvC scope cl C X.env) fp) WN elt te) (hs : ∀ x, foldedSetIterable iter X.env x = pure x := by intro _; rfl) :
    DS X W (.Assign [.Name y py] (.ListComp elt [⟨tg, iter, ifs, 0⟩] scope pos) spos) (dAsg (dLcM ti p tt te (own.map (·.2))) (gdName i)) := by
  obtain ⟨wi, pi, k⟩ := hi.pi
  refine DS.of (ps_setLc (tt := liftT (kxN X.K) tt) (te := liftE (kxN X.K) te) hc hN hy hyl hsw pi ok hg (fun s H C cl fp => PTs_imp (ht s H C cl fp) fun st H Q z => liftT_conv rfl (fun _ _ => takesN) z) (fun s H C cl fp => PE_imp (he s H C cl fp).pe fun st H Q z => liftE_conv rfl (fun _ _ => takesN) z) hs) fun st H Z r M D q h => k st H Z r M _ _ q h fun J H1 items M1 q1 sm1 it h1 => ?_
  intro L hL
  refine lc_ok (k := kx X W) (kb := kxN X.K) rfl (fun _ _ => trivial) (Fin := fun v H' => gName i v st H' (SQ (kx X W) Z (out Z M H) D).nx) hix q1 it h1 hL fun H' M2 acc av a1 a2 a3 a4 a5 a6 => ?_
  obtain ⟨d, M', q', rp, sm', e⟩ := lc_mut (Q := fun x M => gdName i x r M D.nx) a1 a2 a3 a4 a5 a6
  exact ⟨_, M', q'.set rp i, sm1.trans sm', e⟩
end
/-- what a comprehension with a pure element makes -/
theorem lcL_map {p : TPat} {te : DTE} {r0 : Rho} {Q : QD} (f : D → D) : ∀ {items acc : List D} {M : Mh}, (∀ x ∈ items, ∀ R : QD, R (f x) M → tpD p x r0 M fun r1 M1 => te r1 M1 R) → acc.length + items.length ≤ sizeLine → Q (.lst (acc ++ items.map f)) M →
    lcL p dYes te r0 Q items acc M
  | [], acc, M, h, hl, hq => by
    rw [List.map_nil, List.append_nil] at hq
    exact hq
  | x :: xs, acc, M, h, hl, hq => by
    have hl' : acc.length + (xs.length + 1) ≤ sizeLine := hl
    have key : acc.length < sizeLine ∧ lcL p dYes te r0 Q xs (acc ++ [f x]) M := ⟨by omega, lcL_map f (fun y hy => h y (List.mem_cons_of_mem _ hy)) (by rw [List.length_append, List.length_cons, List.length_nil]; omega) (by rw [List.append_assoc]; exact hq)⟩
    exact h x (List.mem_cons_self ..) (fun y M3 => acc.length < sizeLine ∧ lcL p dYes te r0 Q xs (acc ++ [y]) M3) key
end DL

set_option maxHeartbeats 2000000
/-! DL6: defs and their calls. -/
namespace DL
open PySem PySem.Spec PyProof.Rows L2

/-- a def's promise at the tree layer: arguments, what may change, what is wanted of a value, of an exception -/
abbrev DSp := List D → Mh → QD → DXK → Prop
def XQ (K : PySem.W.Frag) (Z F : Hp) (E : DXK) : XK := fun cls dx H' => ∃ fs M', ExF K (out Z M' H') dx fs ∧ HR K Z M' H' ∧ Same F (out Z M' H') ∧ E cls fs M'
/-- room for calls, and nothing is being shown -/
structure Rm (k : Nat) (A : Around) : Prop where
  room : Room k A
  gd : A.guards = some []
theorem Rm.mono {j k : Nat} {A : Around} (r : Rm k A) (h : j ≤ k) : Rm j A := ⟨r.room.mono h, r.gd⟩
theorem Rm.deeper {k : Nat} {A : Around} (r : Rm (k + 1) A) (env : Env) : Rm k (A.deeper env) := ⟨r.room.deeper env, by
  have e := r.gd
  obtain ⟨a, b, c, d, u⟩ := A
  exact e⟩
theorem Rm.in1 {k : Nat} {A : Around} (r : Rm (k + 1) A) : Rm k A.in1 := ⟨r.room.in1, by
  have e := r.gd
  obtain ⟨a, b, c, d, u⟩ := A
  exact e⟩
theorem Rm.make {k : Nat} {A : Around} (r : Rm (k + 1) A) (C : Addr) (us : List Value) (kw : List (Str × Value)) : Rm k (A.under (.builtin "type.__call__" ⟨.ref C :: us, kw⟩)) := ⟨r.room.make C us kw, by
  have e := r.gd
  simpa [Around.under, Code.guards, Code.isGuard, guardIds, pushGuards] using e⟩

/-- a def keeps its promise -/
structure FnG (P : Program) (w : World) (K : PySem.W.Frag) (mg : Str → Option Value) (base : Heap) (k : Nat) (f : Addr) (fd : FuncData) (ps : List Str) (sp : DSp) : Prop where
  len : ∀ ds M Q E, sp ds M Q E → ds.length = ps.length
  run : ∀ (A : Around) (outer : List Env) (s : Shared) (H Z : Hp) (M : Mh) (args : Args) (us : List Value) (vs : List V) (ds : List D) (Q : QD) (E : DXK), Rm k A → Env0 P w K mg base A outer s H → BindsTo s fd args (ps.zip us) → Vals vs us →
    HR K Z M H → RepL K (out Z M H) vs ds → sp ds M Q E → codeAny (model P w) A (.call (.ref f) args) (CR (L2.CX P w) outer P w H s (RQ K Z (out Z M H) Q) (XQ K Z (out Z M H) E)) s
theorem FnG.mono {P : Program} {w : World} {K : PySem.W.Frag} {mg : Str → Option Value} {base : Heap} {j k : Nat} {f : Addr} {fd : FuncData} {ps : List Str} {sp : DSp} (F : FnG P w K mg base j f fd ps sp) (h : j ≤ k) : FnG P w K mg base k f fd ps sp :=
  ⟨F.len, fun A outer s H Z M args us vs ds Q E hr => F.run A outer s H Z M args us vs ds Q E (hr.mono h)⟩
theorem FnG.imp {P : Program} {w : World} {K : PySem.W.Frag} {mg : Str → Option Value} {base : Heap} {k : Nat} {f : Addr} {fd : FuncData} {ps : List Str} {sp sp' : DSp} (F : FnG P w K mg base k f fd ps sp) (h : ∀ ds M Q E, sp' ds M Q E → sp ds M Q E) : FnG P w K mg base k f fd ps sp' :=
  ⟨fun ds M Q E q => F.len ds M Q E (h _ _ _ _ q), fun A outer s H Z M args us vs ds Q E hr he hb hv hh rp hs => F.run A outer s H Z M args us vs ds Q E hr he hb hv hh rp (h _ _ _ _ hs)⟩

/-- how a call binds: n positional arguments, the keywords ks; gD: all parameters' values -/
structure Bd (K : PySem.W.Frag) (fd : FuncData) (ps : List Str) (n : Nat) (ks : List Str) (gD : List D → List D → List D) : Prop where
  to : ∀ (s : Shared) (us ws : List Value) (vs zs : List V) (ds es : List D) (F : Hp), K.In s.heap → us.length = n → ws.length = ks.length → Vals vs us → Vals zs ws → RepL K F vs ds → RepL K F zs es →
    ∃ full fullV, BindsTo s fd ⟨us, ks.zip ws⟩ (ps.zip full) ∧ Vals fullV full ∧ RepL K F fullV (gD ds es)
section
variable {X : Cx} {W : DWX} {k : Nat} {f : Addr} {fd : FuncData} {ps ks : List Str} {sp : DSp}
/-- the exception of a callee is in our air -/
theorem xq_takes {pins : List (Addr × Obj)} {s s' : Shared} {st : Sg} {H Z : Hp} {r : Rho} {M : Mh} {e : Value} (I : Inv X pins st H s) (q : SR (kx X W) Z r M st H) (c : L2.CX X.prog X.w X.stack H s (XQ X.K Z (out Z M H) fun cls fs M' => W cls fs r M') e s') : X.xe e s' :=
  q.tk _ _ (XE.of_call I (fun cls d H' z => by
    obtain ⟨fs, M', x1, x2, x3, x4⟩ := z
    exact ⟨fs, r, M', x1, q.len, fun i d e => let ⟨v, a, b⟩ := q.sl i d e; ⟨v, a, b.mono x3⟩, x2, x3, x4⟩) c)
theorem run_g {A : Around} {pins : List (Addr × Obj)} {s : Shared} {st : Sg} {H Z : Hp} {r : Rho} {M : Mh} {Q : QD} {args : Args} {full : List Value} {fullV : List V} {ds : List D} (F : FnG X.prog X.w X.K X.mg X.base k f fd ps sp) (hr : Rm k A) (e0 : Env0 X.prog X.w X.K X.mg X.base A X.stack s H) (I : Inv X pins st H s) (q : SR (kx X W) Z r M st H)
    (hb : BindsTo s fd args (ps.zip full)) (rv : Vals fullV full) (rp : RepL X.K (out Z M H) fullV ds) (h : sp ds M Q fun cls fs M' => W cls fs r M') :
    codeAny (model X.prog X.w) A (.call (.ref f) args) (fun z s' => match z with
      | .ok (.ret u) => EP X pins st (EQ (kx X W) Z st r (out Z M H) Q) u s'
      | .ok _ => False
      | .error e => X.xe e s') s := by
  refine codeAny_mono (F.run A X.stack s H Z M args full fullV ds Q _ hr e0 hb rv q.hr rp h) fun z s' hq => ?_
  cases z with
  | error e => exact xq_takes I q hq
  | ok fl =>
    cases fl with
    | ret u =>
      obtain ⟨v, H', I', rv', d, M', h1, h2, h3, h4⟩ := I.after hq
      exact ⟨v, H', I', rv', d, M', q.step h1 h3, h2, h3, h4⟩
    | next => exact False.elim hq
    | brk => exact False.elim hq
    | cont => exact False.elim hq
theorem run_call {pins : List (Addr × Obj)} {s : Shared} {st : Sg} {H Z : Hp} {r : Rho} {M : Mh} {Q : QD} {us ws : List Value} {vs zs : List V} {ds es : List D} {n : Nat} {gD : List D → List D → List D} (F : FnG X.prog X.w X.K X.mg X.base k f fd ps sp) (hr : Rm k X.A) (hb : Bd X.K fd ps n ks gD)
    (I : Inv X pins st H s) (q : SR (kx X W) Z r M st H) (rv : Vals vs us) (rz : Vals zs ws) (rp : RepL X.K (out Z M H) vs ds) (rpz : RepL X.K (out Z M H) zs es) (l1 : ds.length = n) (l2 : es.length = ks.length) (h : sp (gD ds es) M Q fun cls fs M' => W cls fs r M') :
    wpAny (model X.prog X.w) X.A (call (.ref f) us (ks.zip ws)) (EP X pins st (EQ (kx X W) Z st r (out Z M H) Q)) X.xe s := by
  obtain ⟨full, fullV, b1, b2, b3⟩ := hb.to s us ws vs zs ds es _ I.kIn (by rw [← rv.length, rp.length]; exact l1) (by rw [← rz.length, rpz.length]; exact l2) rv rz rp rpz
  refine wpAny_call (codeAny_mono (run_g F hr I.env0 I q b1 b2 b3 h) fun z s' hq => ?_)
  cases z with
  | error e => exact hq
  | ok fl => cases fl <;> first | exact hq | exact hq.elim
end

/-! ### keywords' values -/
structure DK (X : Cx) (W : DWX) (kws : List Keyword) (t : DTA) : Prop where
  run : ∀ (pos : Pos) (pins : List (Addr × Obj)) (s : Shared) (st : Sg) (H Z : Hp) (r : Rho) (M : Mh) (Q : List D → Mh → Prop), Inv X pins st H s → SR (kx X W) Z r M st H → t r M Q →
    wpAny (model X.prog X.w) X.A (evalAll ((backToKw pos (keywordEach kws X.env)).map (·.2))) (AP X pins st (AQ (kx X W) Z st r (out Z M H) Q)) X.xe s
section
variable {X : Cx} {W : DWX} {kws : List Keyword} {e : Expr} {te : DTE} {t : DTA} {nm : Option Str} {kpos : Pos}
theorem DK.pk (h : DK X W kws t) : PK X kws (liftA (kx X W) t) := ⟨fun pos pins s st H Q I ⟨Z, r, M, DQ, q, ht, k⟩ =>
  thn (h.run pos pins s st H Z r M DQ I q ht) fun _ _ ⟨v, H', I', rv, z⟩ => ⟨v, H', I', rv, k v H' z⟩⟩
theorem dk_nil : DK X W [] dNil := ⟨fun pos pins s st H Z r M Q I q h => (pk_nil (X := X)).run pos pins s st H _ I ⟨[], M, q, .nil, Same.refl _, h⟩⟩
theorem dk_cons (ha : DE X W e te) (hr : DK X W kws t) : DK X W (⟨nm, e, kpos⟩ :: kws) (dCons te t) :=
  ⟨fun pos pins s st H Z r M Q I q h => (pk_cons ha.pe hr.pk).run pos pins s st H _ I ⟨Z, r, M, _, q, h, fun v H1 ⟨d, M1, q1, rp, sm, e⟩ => ⟨Z, r, M1, _, q1, e, fun vs H2 ⟨ds, M2, q2, rps, sm2, e2⟩ => ⟨d :: ds, M2, q2, .cons (rp.mono sm2) rps, sm.trans sm2, e2⟩⟩⟩⟩
end

/-! ### f(..) -/
/-- a call: its arguments, its keywords' values, then the promise -/
def dCall (W : DWX) (sp : DSp) (n m : Nat) (gD : List D → List D → List D) (t tk : DTA) : DTE := fun r M Q => t r M fun ds M1 => tk r M1 fun es M2 => ds.length = n ∧ es.length = m ∧ sp (gD ds es) M2 Q fun cls fs M' => W cls fs r M'
section
variable {X : Cx} {W : DWX} {k n : Nat} {f : Addr} {fd : FuncData} {ps ks : List Str} {sp : DSp} {gD : List D → List D → List D} {x : Str} {p pos : Pos} {e : Expr} {es : List Expr} {kw : Keyword} {kws : List Keyword} {t tk : DTA}
/-- f(e, ..) -/
theorem de_call (F : FnG X.prog X.w X.K X.mg X.base k f fd ps sp) (hr : Rm k X.A) (hg : Gl X x) (hm : X.mg x = some (.ref f)) (hk : PySem.W.keepIn X.K (.ref f) = true) (hb : Bd X.K fd ps n [] gD) (ha : DA X W (e :: es) t) (hdb : (x == ("__debug__" : Str)) = false := by decide)
    (he : starEach (e :: es) X.env = (false, eval e X.env) :: starEach es X.env := by rfl) (hpl : (backTo pos (starEach es X.env)).any (·.1) = false := by rfl) : DE X W (.Call (.Name x p) (e :: es) [] pos) (dCall W sp n 0 gD t dNil) := by
  refine ⟨fun pins s st H Z r M Q I q h => wpAny_Call_Name_kw (ld_glob I hg hm ?_ hdb)⟩
  refine PySem.W.callWith_K (h₀ := X.base) I.ok.mod.kin hk (thn (ha.run pos pins s st H Z r M _ I q h) fun us s1 ⟨vs, H1, I1, rv, ds, M1, q1, rps, sm, h1⟩ => ⟨I1.kIn, ?_⟩) he hpl
  obtain ⟨l1, _, h1⟩ := h1
  exact thn (run_call (ks := []) (ws := []) (zs := []) (es := []) F hr hb I1 q1 rv .nil rps .nil l1 rfl h1) fun u s2 ⟨v, H2, I2, rv2, e⟩ => ⟨v, H2, I2, rv2, e.mono sm⟩
/-- f() -/
theorem de_call0 (F : FnG X.prog X.w X.K X.mg X.base k f fd ps sp) (hr : Rm k X.A) (hg : Gl X x) (hm : X.mg x = some (.ref f)) (hk : PySem.W.keepIn X.K (.ref f) = true) (hb : Bd X.K fd ps 0 [] gD) (hdb : (x == ("__debug__" : Str)) = false := by decide) :
    DE X W (.Call (.Name x p) [] [] pos) (dCall W sp 0 0 gD dNil dNil) := by
  refine ⟨fun pins s st H Z r M Q I q h => wpAny_Call_Name_kw (ld_glob I hg hm ?_ hdb)⟩
  obtain ⟨_, _, h1⟩ := h
  exact PySem.W.callWith_K0 I.kIn hk (run_call (ks := []) (ws := []) (zs := []) (es := []) (us := []) (vs := []) (ds := []) F hr hb I q .nil .nil .nil .nil rfl rfl h1)
/-- f(e, .., k = v, ..) -/
theorem de_callK (F : FnG X.prog X.w X.K X.mg X.base k f fd ps sp) (hr : Rm k X.A) (hg : Gl X x) (hm : X.mg x = some (.ref f)) (hk : PySem.W.keepIn X.K (.ref f) = true) (hb : Bd X.K fd ps n ks gD) (ha : DA X W (e :: es) t) (hkw : DK X W kws tk)
    (hall : (backToKw pos (keywordEach kws X.env)).all (·.1.isSome) = true := by rfl) (hks : (backToKw pos (keywordEach kws X.env)).filterMap (·.1) = ks := by rfl)
    (hdb : (x == ("__debug__" : Str)) = false := by decide) (he : starEach (e :: es) X.env = (false, eval e X.env) :: starEach es X.env := by rfl)
    (hpl : ((backTo pos (starEach (e :: es) X.env)).any (·.1) || (backToKw pos (keywordEach kws X.env)).any (·.1.isNone)) = false := by rfl) : DE X W (.Call (.Name x p) (e :: es) kws pos) (dCall W sp n ks.length gD t tk) := by
  refine ⟨fun pins s st H Z r M Q I q h => wpAny_Call_Name_kw (ld_glob I hg hm ?_ hdb)⟩
  refine PySem.W.callWith_KW (h₀ := X.base) I.ok.mod.kin hk hall (thn (ha.run pos pins s st H Z r M _ I q h) fun us s1 ⟨vs, H1, I1, rv, ds, M1, q1, rps, sm, h1⟩ => ?_) hpl he
  refine thn (hkw.run pos pins s1 st H1 Z r M1 _ I1 q1 h1) fun ws s2 ⟨zs, H2, I2, rz, es', M2, q2, rpz, sm2, l1, l2, h2⟩ => ⟨I2.kIn, ?_⟩
  rw [hks]
  exact thn (run_call F hr hb I2 q2 rv rz (rps.mono sm2) rpz l1 l2 h2) fun u s3 ⟨v, H3, I3, rv3, e⟩ => ⟨v, H3, I3, rv3, e.mono (sm.trans sm2)⟩
end

/-! ### built-in functions by their names -/
def dCB (o : DRL) (t : DTA) : DTE := fun r M Q => t r M fun ds M1 => o ds M1 Q
section
variable {X : Cx} {W : DWX} {x : Str} {p pos : Pos} {e : Expr} {es : List Expr} {t : DTA} {id T : String} {o : DRL}
theorem de_callB (hc : DCall X W (.builtin id) o) (hg : Gl X x) (hm : X.mg x = none) (hv : bootBuiltins x = some (.builtin id)) (ha : DA X W (e :: es) t) (hn : x ≠ "__name__" := by decide) (hdb : (x == ("__debug__" : Str)) = false := by decide)
    (he : starEach (e :: es) X.env = (false, eval e X.env) :: starEach es X.env := by rfl) (hpl : (backTo pos (starEach es X.env)).any (·.1) = false := by rfl) : DE X W (.Call (.Name x p) (e :: es) [] pos) (dCB o t) := by
  refine ⟨fun pins s st H Z r M Q I q h => wpAny_Call_Name_kw (ld_blt I hg hm hv ?_ hn hdb)⟩
  exact PyProof.Rows.callWith_builtin1 (thn (ha.run pos pins s st H Z r M _ I q h) fun us s1 ⟨vs, H1, I1, rv, ds, M1, q1, rps, sm, h1⟩ => thn (hc pins s1 st H1 Z r M1 vs us ds Q I1 q1 rv rps h1) fun u s2 ⟨v, H2, I2, rv2, e⟩ => ⟨v, H2, I2, rv2, e.mono sm⟩) he hpl
theorem de_callTy (hc : DCall X W (.type T) o) (hg : Gl X x) (hm : X.mg x = none) (hv : bootBuiltins x = some (.type T)) (ha : DA X W (e :: es) t) (hn : x ≠ "__name__" := by decide) (hdb : (x == ("__debug__" : Str)) = false := by decide)
    (he : starEach (e :: es) X.env = (false, eval e X.env) :: starEach es X.env := by rfl) (hpl : (backTo pos (starEach es X.env)).any (·.1) = false := by rfl) : DE X W (.Call (.Name x p) (e :: es) [] pos) (dCB o t) := by
  refine ⟨fun pins s st H Z r M Q I q h => wpAny_Call_Name_kw (ld_blt I hg hm hv ?_ hn hdb)⟩
  exact PyProof.Rows.callWith_type1 (thn (ha.run pos pins s st H Z r M _ I q h) fun us s1 ⟨vs, H1, I1, rv, ds, M1, q1, rps, sm, h1⟩ => thn (hc pins s1 st H1 Z r M1 vs us ds Q I1 q1 rv rps h1) fun u s2 ⟨v, H2, I2, rv2, e⟩ => ⟨v, H2, I2, rv2, e.mono sm⟩) he hpl
end

/-! ### a def's body -/
/-- what a body hands back: some of what may change is let go, a list that is handed back too -/
def RetQ (Q : QD) : QD := fun d M => ∃ M', Less M' M ∧ (Q d M' ∨ ∃ p ds, d = .ref p ∧ M p = some (.lst ds) ∧ M' p = none ∧ Q (.lst ds) M')
def startD (N : List Str) (ds : List D) : Rho := ds.map some ++ List.replicate (N.length - ds.length) none
theorem start_sr {k : Kt} {Z : Hp} {N : List Str} {vs : List V} {ds : List D} {M : Mh} {H : Hp} (m : HR k.K Z M H) (rp : RepL k.K (out Z M H) vs ds) (t : k.T Z (out Z M H)) : SR k Z (startD N ds) M (L2.start N vs) H where
  len := by
    unfold startD L2.start
    rw [List.length_append, List.length_append, List.length_map, List.length_map, rp.length, List.length_replicate, List.length_replicate]
  hr := m
  tk := t
  sl := fun i d e => by
    unfold startD at e
    unfold L2.start
    by_cases hi : i < ds.length
    · rw [List.getElem?_append_left (by simpa using hi), List.getElem?_map] at e
      obtain ⟨d', e1, e2⟩ := Option.map_eq_some_iff.mp e
      cases e2
      obtain ⟨v, e3, e4⟩ := rp.get e1
      exact ⟨v, by rw [List.getElem?_append_left (by rw [List.length_map, rp.length]; exact hi), List.getElem?_map, e3]; rfl, e4⟩
    · rw [List.getElem?_append_right (by simpa using Nat.le_of_not_lt hi), List.getElem?_replicate] at e
      split at e <;> cases e
theorem RetQ.rq {K : PySem.W.Frag} {Z F : Hp} {Q : QD} {v : V} {H : Hp} (h : RQ K Z F (RetQ Q) v H) : RQ K Z F Q v H := by
  obtain ⟨d, M, m, rp, sm, M', l, h⟩ := h
  have m' := m.less l
  rcases h with h | ⟨p, ds, rfl, e1, e2, h⟩
  · exact ⟨d, M', m', rp.mono l.same, sm.trans l.same, h⟩
  · cases rp with
    | ref =>
      obtain ⟨xs, e3, rl⟩ := m.mem p _ e1
      have z : Z p = none := by
        cases q : Z p with
        | none => rfl
        | some u => have := (m.hid p u q).2.1; rw [e1] at this; cases this
      exact ⟨.lst ds, M', m', .lst (by rw [out_none z e2]; exact e3) (rl.mono l.same), sm.trans l.same, h⟩
/-- an exception lets go of what may change -/
def XLess (E : DXK) : DXK := fun cls fs M => ∃ M', Less M' M ∧ E cls fs M'
theorem XLess.here {E : DXK} {cls : Value} {fs : List (Str × D)} {M : Mh} (h : E cls fs M) : XLess E cls fs M := ⟨M, Less.refl, h⟩
theorem ExF.mono {K : PySem.W.Frag} {F F' : Hp} {dx : Option Addr} {fs : List (Str × D)} (s : Same F F') (h : ExF K F dx fs) : ExF K F' dx fs := h.imp id fun ⟨d, fv, a, b, c⟩ => ⟨d, fv, a, s _ _ b, c.mono s⟩
/-- THE RULE for a def -/
theorem fng_of {P : Program} {w : World} {K : PySem.W.Frag} {mg : Str → Option Value} {base : Heap} {k : Nat} {f : Addr} {x qual : Str} {params : Arguments} {body : List Stmt} {scope : Scope} {dvs : List V} {kws : List (Str × V)} {fd : FuncData} {N ps : List Str} {sp : DSp}
    (F : FunD K x qual params body scope dvs kws f fd) (S : FnScope N ps scope) (len : ∀ ds M Q E, sp ds M Q E → ds.length = ps.length)
    (hbody : ∀ (cdv : Value) (A : Around) (outer : List Env) (s : Shared) (H Z : Hp) (ds : List D) (M : Mh) (Q : QD) (E : DXK) (E1 : XK), Rm k (A.deeper (envOfC qual scope s.heap.objs.size f cdv)) → sp ds M Q E →
      ∃ t, DSs (cxOf (L2.CX P w) P w K mg base N qual scope f cdv A outer s H E1) (fun cls fs _ M' => XLess E cls fs M') body t ∧ t { nx := fun _ M' => RetQ Q .non M', rt := RetQ Q } (startD N ds) M) : FnG P w K mg base (k + 1) f fd ps sp := by
  obtain ⟨oc, od, dV, kV, doc, pm, an, cdv, ct, osl, rfl, lk, hcd, _, _⟩ := F.ex
  refine ⟨len, fun A outer s H Z M args us vs ds Q E hr e0 hb rv hh rp hsp => ?_⟩
  have hl : vs.length = ps.length := rp.length.trans (len _ _ _ _ hsp)
  have KX : K.In s.heap := e0.mod.kin.keeps fun b o e => (e0.bs b o e).1
  have lim : s.heap.NoLimit := e0.mod.nolimit.keeps fun b o e => (e0.bs b o e).1
  have kinds : ∀ y ∈ ps.zip us, scope.names.lookup y.1 = some .local ∨ (scope.names.lookup y.1 = some .cell ∧ ((cellsFrom (s.heap.objs.size + 1) scope.names []).lookup y.1).isSome = true) := fun ⟨n, v⟩ hy =>
    (S.par n (List.of_mem_zip hy).1).elim .inl fun q => .inr ⟨q, PySem.W.cellsFrom_some _ _ _ (.inl q)⟩
  refine codeAny_call_function hr.room.depth (KX _ _ lk) rfl S.co S.gen rfl (PySem.W.codeRec_of KX hcd) (hb _ _ _ _ ?_)
  refine wpAny_newFunctionEnv_cells S.kind kinds fun env he s1 x => ?_
  subst he
  refine ⟨lim.keeps x.toInCall.keep, codeAny_func ?_⟩
  let E1 : XK := XQ K Z (out Z M H) E
  obtain ⟨t, ht, hq⟩ := hbody cdv A outer s H Z ds M Q E E1 (hr.deeper _) hsp
  have I : Inv (cxOf (L2.CX P w) P w K mg base N qual scope f cdv A outer s H E1) [] (L2.start N vs) H s1 := inv_start S hr.room.hd e0 hl rv x
  have tk : Takes (cxOf (L2.CX P w) P w K mg base N qual scope f cdv A outer s H E1) (XW K Z (out Z M H) fun cls fs _ M' => XLess E cls fs M') :=
    Takes.imp (takes_of (X := cxOf (L2.CX P w) P w K mg base N qual scope f cdv A outer s H E1) rfl rfl rfl rfl) fun cls d st H' ⟨fs, r, M', a, b, c, e, g, M2, l, h⟩ => ⟨fs, M2, a.mono l.same, e.less l, g.trans l.same, h⟩
  have q0 : SR (kx (cxOf (L2.CX P w) P w K mg base N qual scope f cdv A outer s H E1) fun cls fs _ M' => XLess E cls fs M') Z (startD N ds) M (L2.start N vs) H := start_sr hh rp tk
  refine wpAny_mono (ht.run [] s1 (L2.start N vs) H Z (startD N ds) M _ I q0 hq) (fun fl s' hs => ?_) fun e s' hs => hs
  have fin : ∀ {st' : Sg} {H' : Hp} {v : V} {u : Value}, Inv (cxOf (L2.CX P w) P w K mg base N qual scope f cdv A outer s H E1) [] st' H' s' → RelV v u → RQ K Z (out Z M H) Q v H' → CE outer P w H s (RQ K Z (out Z M H) Q) u s' :=
    fun {st' H' v u} J rv' q => ⟨v, H', J.os, J.bare, J.base, J.hok, rv', q⟩
  cases fl with
  | ret u =>
    obtain ⟨v, st', H', J, rv', q⟩ := hs
    exact fin J rv' (RetQ.rq q)
  | next =>
    obtain ⟨st', H', J, r', M', q', sm', z⟩ := hs
    exact fin (v := V.non) (u := Value.none) J rfl (RetQ.rq ⟨.non, M', q'.hr, .non, sm', z⟩)
  | brk =>
    obtain ⟨_, _, _, _, _, _, _, z⟩ := hs
    exact False.elim z
  | cont =>
    obtain ⟨_, _, _, _, _, _, _, z⟩ := hs
    exact False.elim z
/-- a body's loops and whiles let its exceptions pass -/
theorem pass_body {P : Program} {w : World} {K : PySem.W.Frag} {mg : Str → Option Value} {base : Heap} {N : List Str} {qual : Str} {scope : Scope} {f : Addr} {cdv : Value} {A : Around} {outer : List Env} {s : Shared} {H : Hp} {E1 : XK} :
    PassesOwn (model P w) (cxOf (L2.CX P w) P w K mg base N qual scope f cdv A outer s H E1).A (cxOf (L2.CX P w) P w K mg base N qual scope f cdv A outer s H E1).env (cxOf (L2.CX P w) P w K mg base N qual scope f cdv A outer s H E1).xe :=
  passes_of (X := cxOf (L2.CX P w) P w K mg base N qual scope f cdv A outer s H E1) rfl
theorem less_mset {M : Mh} {p : Addr} {o : MO} (h : M p = none) : Less M (mset M p o) := fun a => by
  by_cases e : a = p
  · subst e; exact .inr h
  · rw [mset_ne e]; exact .inl rfl
theorem RetQ.here {Q : QD} {d : D} {M : Mh} (h : Q d M) : RetQ Q d M := ⟨M, Less.refl, .inl h⟩
theorem RetQ.lst {Q : QD} {p : Addr} {ds : List D} {M : Mh} (hp : M p = none) (h : Q (.lst ds) M) : RetQ Q (.ref p) (mset M p (.lst ds)) := ⟨M, less_mset hp, .inr ⟨p, ds, rfl, mset_same, hp, h⟩⟩
/-- every parameter is written; no defaults -/
theorem Bd.all {K : PySem.W.Frag} {x qual : Str} {params : Arguments} {body : List Stmt} {scope : Scope} {f : Addr} {fd : FuncData} {ps : List Str} {dvs : List V} {kws : List (Str × V)} {n : Nat} (F : FunD K x qual params body scope dvs kws f fd) (hd : dvs = []) (hn : n = ps.length)
    (h : ∀ (kV doc pm : Value) (an : Option Addr) (cdv ct : Value) (us : List Value), us.length = ps.length → bindArgs (PySem.W.fnOf x qual params body scope .none kV doc pm an cdv ct) ⟨us, []⟩ = pure (ps.zip us)) : Bd K fd ps n [] (fun ds _ => ds) := by
  obtain ⟨oc, od, dV, kV, doc, pm, an, cdv, ct, osl, rfl, lk, hcd, hD, hK⟩ := F.ex
  rcases hD with ⟨_, rfl⟩ | ⟨e, _⟩
  · refine ⟨fun s us ws vs zs ds es Fr X l1 l2 rv rz rp rpz => ⟨us, vs, ?_, rv, rp⟩⟩
    cases rz with
    | nil => exact .of_eq (h kV doc pm an cdv ct us (l1.trans hn))
    | cons _ _ => simp at l2
  · exact absurd hd e
/-- .. with defaults -/
theorem Bd.allD {K : PySem.W.Frag} {x qual : Str} {params : Arguments} {body : List Stmt} {scope : Scope} {f : Addr} {fd : FuncData} {ps : List Str} {dvs : List V} {kws : List (Str × V)} {n : Nat} (F : FunD K x qual params body scope dvs kws f fd) (hd : dvs ≠ []) (hn : n = ps.length)
    (h : ∀ (T : Addr) (kV doc pm : Value) (an : Option Addr) (cdv ct : Value) (us : List Value), us.length = ps.length → ∃ k : Option (Array Value) → Sem (List (Str × Value)), bindArgs (PySem.W.fnOf x qual params body scope (.ref T) kV doc pm an cdv ct) ⟨us, []⟩ = (seqItems? (.ref T) >>= k) ∧
      ∀ its : List Value, its.length = dvs.length → k (some its.toArray) = pure (ps.zip us)) : Bd K fd ps n [] (fun ds _ => ds) := by
  obtain ⟨oc, od, dV, kV, doc, pm, an, cdv, ct, osl, rfl, lk, hcd, hD, hK⟩ := F.ex
  rcases hD with ⟨e, _⟩ | ⟨_, T, o, its, m, rfl, lT, oT, rT⟩
  · exact absurd e hd
  · refine ⟨fun s us ws vs zs ds es Fr X l1 l2 rv rz rp rpz => ?_⟩
    cases rz with
    | cons _ _ => simp at l2
    | nil =>
      obtain ⟨k, e1, e2⟩ := h T kV doc pm an cdv ct us (l1.trans hn)
      refine ⟨us, vs, BindsTo.of_looks fun M => ?_, rv, rp⟩
      show PySem.W.Looks M s.heap (bindArgs _ ⟨us, []⟩) _
      rw [e1]
      exact looks_items X lT oT (.of_pure (e2 its rT.length.symm))
end DL

set_option maxHeartbeats 2000000
/-! DL7: built-in functions and methods, repr, isinstance. -/
namespace DL
open PySem PySem.Spec PyProof.Rows L2

section
variable {X : Cx} {W : DWX}
theorem DCall.imp {f : Value} {o o' : DRL} (h : DCall X W f o) (k : ∀ ds M Q, o' ds M Q → o ds M Q) : DCall X W f o' :=
  fun pins s st H Z r M xs vs ds Q I q rx ra ho => h pins s st H Z r M xs vs ds Q I q rx ra (k _ _ _ ho)
/-! ### len -/
def aLen : DRL := fun ds M Q => match ds with
  | [.str x] => x.length ≤ sizeLine ∧ Q (.int x.length) M
  | [d] => ∃ es, seqOf M d = some es ∧ Q (.int es.length) M
  | _ => False
theorem c_len : DCall X W (.builtin "len") aLen := .of (call_len_seq.or call_len_str) fun st H Z r M xs ds Q q rp h => by
  unfold aLen at h
  split at h
  · cases rp with
    | cons r1 rr =>
      cases rr; cases r1
      exact .inr ⟨_, rfl, h.1, EQ.val q (.int _) h.2⟩
  · cases rp with
    | cons r1 rr =>
      cases rr
      obtain ⟨es, e, h⟩ := h
      obtain ⟨a, ys, rfl, hs, rl⟩ := seqOf_rep q.hr e r1
      exact .inl ⟨a, ys, rfl, hs, EQ.val q (.int _) (by rw [rl.length]; exact h)⟩
  · exact h.elim
/-! ### abs, int, bool, str of numbers; max, min of two -/
def aI1 (f : Int → Int) : DRL := fun ds M Q => match ds with
  | [.int i] => Q (.int (f i)) M
  | _ => False
def aI2 (f : Int → Int → Int) : DRL := fun ds M Q => match ds with
  | [.int i, .int j] => Q (.int (f i j)) M
  | _ => False
def absI (i : Int) : Int := if i < 0 then -i else i
def maxI (i j : Int) : Int := if j > i then j else i
def minI (i j : Int) : Int := if j < i then j else i
theorem c_abs : DCall X W (.builtin "abs") (aI1 absI) := .of call_abs fun st H Z r M xs ds Q q rp h => by
  unfold aI1 at h
  split at h
  · cases rp with
    | cons r1 rr => cases rr; cases r1; exact ⟨_, rfl, EQ.val q (.int _) h⟩
  · exact h.elim
theorem c_int : DCall X W (.type "int") (aI1 id) := .of call_int1 fun st H Z r M xs ds Q q rp h => by
  unfold aI1 at h
  split at h
  · cases rp with
    | cons r1 rr => cases rr; cases r1; exact .inl ⟨_, rfl, EQ.val q (.int _) h⟩
  · exact h.elim
theorem c_max2 (hc : X.calm = true) : DCall X W (.builtin "max") (aI2 maxI) := .of (call_max2 hc) fun st H Z r M xs ds Q q rp h => by
  unfold aI2 at h
  split at h
  · cases rp with
    | cons r1 rr => cases rr with
      | cons r2 rr => cases rr; cases r1; cases r2; exact ⟨_, _, rfl, EQ.val q (.int _) h⟩
  · exact h.elim
theorem c_min2 (hc : X.calm = true) : DCall X W (.builtin "min") (aI2 minI) := .of (call_min2 hc) fun st H Z r M xs ds Q q rp h => by
  unfold aI2 at h
  split at h
  · cases rp with
    | cons r1 rr => cases rr with
      | cons r2 rr => cases rr; cases r1; cases r2; exact ⟨_, _, rfl, EQ.val q (.int _) h⟩
  · exact h.elim
def aStrI : DRL := fun ds M Q => match ds with
  | [.int i] => i.natAbs.log2 < 1920 ∧ Q (.str (toString i)) M
  | _ => False
theorem c_strI : DCall X W (.type "str") aStrI := .of call_str_int fun st H Z r M xs ds Q q rp h => by
  unfold aStrI at h
  split at h
  · cases rp with
    | cons r1 rr => cases rr; cases r1; exact ⟨_, rfl, h.1, EQ.val q (.str _) h.2⟩
  · exact h.elim
theorem divp {i j : Int} (h : CDivW i j) : Builtin.divisionGoesByPylong i j = false := PyProof.noPylong_of_log2 h.2
def aDivmod : DRL := fun ds M Q => match ds with
  | [.int i, .int j] => CDivW i j ∧ Q (.tup [.int (i / j), .int (i % j)]) M
  | _ => False
theorem c_divmod : DCall X W (.builtin "divmod") aDivmod := .of call_divmodW fun st H Z r M xs ds Q q rp h => by
  unfold aDivmod at h
  split at h
  · cases rp with
    | cons r1 rr => cases rr with
      | cons r2 rr =>
        cases rr; cases r1; cases r2
        exact ⟨_, _, rfl, ⟨h.1.1, divp h.1⟩, fun p hp => EQ.newTup q hp (.cons (.int _) (.cons (.int _) .nil)) h.2⟩
  · exact h.elim
/-! ### list, tuple -/
def aList : DRL := fun ds M Q => match ds with
  | [d] => ∃ es, seqOf M d = some es ∧ Q (.lst es) M
  | _ => False
theorem c_list : DCall X W (.type "list") aList := .of call_list_of fun st H Z r M xs ds Q q rp h => by
  unfold aList at h
  split at h
  · cases rp with
    | cons r1 rr =>
      cases rr
      obtain ⟨es, e, h⟩ := h
      obtain ⟨a, ys, rfl, hs, rl⟩ := seqOf_rep q.hr e r1
      exact ⟨a, ys, rfl, hs, fun l hl => EQ.newLst q hl rl h⟩
  · exact h.elim
def aTuple : DRL := fun ds M Q => match ds with
  | [.tup es] => Q (.tup es) M
  | [d] => ∃ es, lstOf M d = some es ∧ Q (.tup es) M
  | _ => False
theorem c_tuple : DCall X W (.type "tuple") aTuple := .of call_tuple_of fun st H Z r M xs ds Q q rp h => by
  unfold aTuple at h
  split at h
  · cases rp with
    | cons r1 rr =>
      cases rr
      cases r1 with
      | tup ht rl => exact ⟨_, _, rfl, .inr ⟨sqT_mono (out_sub _ _ _) ht, EQ.val q (.tup ht rl) h⟩⟩
  · cases rp with
    | cons r1 rr =>
      cases rr
      obtain ⟨es, e, h⟩ := h
      obtain ⟨a, ys, rfl, hs, rl⟩ := lstOf_rep q.hr e r1
      exact ⟨a, ys, rfl, .inl ⟨hs, fun l hl => EQ.newTup q hl rl h⟩⟩
  · exact h.elim
/-! ### sum, all, any -/
def intsD : List D → Option (List Int)
  | [] => some []
  | .int i :: ds => (intsD ds).map (i :: ·)
  | _ => none
theorem intsD_rep {K : PySem.W.Frag} {F : Hp} : ∀ {vs : List V} {ds : List D} {ns : List Int}, RepL K F vs ds → intsD ds = some ns → vs = ns.map V.int
  | _, _, _, .nil, e => by cases e; rfl
  | _, _, _, .cons (.int i) r, e => by
    obtain ⟨ms, e1, e2⟩ := Option.map_eq_some_iff.mp (show (intsD _).map (i :: ·) = some _ from e)
    subst e2
    rw [List.map_cons, ← intsD_rep r e1]
  | _, _, _, .cons .non r, e => by cases e
  | _, _, _, .cons (.bl _) r, e => by cases e
  | _, _, _, .cons (.str _) r, e => by cases e
  | _, _, _, .cons (.ref _) r, e => by cases e
  | _, _, _, .cons (.ty _) r, e => by cases e
  | _, _, _, .cons (.tup _ _) r, e => by cases e
  | _, _, _, .cons (.lst _ _) r, e => by cases e
  | _, _, _, .cons (.dic _ _) r, e => by cases e
  | _, _, _, .cons (.ins _ _) r, e => by cases e
  | _, _, _, .cons (.obj _ _) r, e => by cases e
  | _, _, _, .cons (.scr _) r, e => by cases e
  | _, _, _, .cons (.exc _ _) r, e => by cases e
theorem intsD_map (ns : List Int) : intsD (ns.map D.int) = some ns := by
  induction ns with
  | nil => rfl
  | cons n ns ih => rw [List.map_cons]; show (intsD _).map (n :: ·) = _; rw [ih]; rfl
def blsD : List D → Option (List Bool)
  | [] => some []
  | .bl i :: ds => (blsD ds).map (i :: ·)
  | _ => none
theorem blsD_rep {K : PySem.W.Frag} {F : Hp} : ∀ {vs : List V} {ds : List D} {ns : List Bool}, RepL K F vs ds → blsD ds = some ns → vs = ns.map V.bl
  | _, _, _, .nil, e => by cases e; rfl
  | _, _, _, .cons (.bl i) r, e => by
    obtain ⟨ms, e1, e2⟩ := Option.map_eq_some_iff.mp (show (blsD _).map (i :: ·) = some _ from e)
    subst e2
    rw [List.map_cons, ← blsD_rep r e1]
  | _, _, _, .cons .non r, e => by cases e
  | _, _, _, .cons (.int _) r, e => by cases e
  | _, _, _, .cons (.str _) r, e => by cases e
  | _, _, _, .cons (.ref _) r, e => by cases e
  | _, _, _, .cons (.ty _) r, e => by cases e
  | _, _, _, .cons (.tup _ _) r, e => by cases e
  | _, _, _, .cons (.lst _ _) r, e => by cases e
  | _, _, _, .cons (.dic _ _) r, e => by cases e
  | _, _, _, .cons (.ins _ _) r, e => by cases e
  | _, _, _, .cons (.obj _ _) r, e => by cases e
  | _, _, _, .cons (.scr _) r, e => by cases e
  | _, _, _, .cons (.exc _ _) r, e => by cases e
theorem blsD_map (ns : List Bool) : blsD (ns.map D.bl) = some ns := by
  induction ns with
  | nil => rfl
  | cons n ns ih => rw [List.map_cons]; show (blsD _).map (n :: ·) = _; rw [ih]; rfl
def aSum : DRL := fun ds M Q => match ds with
  | [d] => ∃ es ns, lstOf M d = some es ∧ intsD es = some ns ∧ Q (.int ns.sum) M
  | _ => False
theorem c_sum (hc : X.calm = true) : DCall X W (.builtin "sum") aSum := .of (cr_sum hc) fun st H Z r M xs ds Q q rp h => by
  unfold aSum at h
  split at h
  · cases rp with
    | cons r1 rr =>
      cases rr
      obtain ⟨es, ns, e, e2, h⟩ := h
      obtain ⟨a, ys, rfl, hs, rl⟩ := lstOf_rep q.hr e r1
      rw [intsD_rep rl e2] at hs
      exact ⟨a, ns, rfl, hs, EQ.val q (.int _) h⟩
  · exact h.elim
def aAll : DRL := fun ds M Q => match ds with
  | [d] => ∃ es bs, lstOf M d = some es ∧ blsD es = some bs ∧ Q (.bl (bs.all id)) M
  | _ => False
theorem c_all (hc : X.calm = true) : DCall X W (.builtin "all") aAll := .of (cr_all hc) fun st H Z r M xs ds Q q rp h => by
  unfold aAll at h
  split at h
  · cases rp with
    | cons r1 rr =>
      cases rr
      obtain ⟨es, ns, e, e2, h⟩ := h
      obtain ⟨a, ys, rfl, hs, rl⟩ := lstOf_rep q.hr e r1
      rw [blsD_rep rl e2] at hs
      exact ⟨a, ns, rfl, hs, EQ.val q (.bl _) h⟩
  · exact h.elim
def aAny : DRL := fun ds M Q => match ds with
  | [d] => ∃ es bs, lstOf M d = some es ∧ blsD es = some bs ∧ Q (.bl (bs.any id)) M
  | _ => False
theorem c_any (hc : X.calm = true) : DCall X W (.builtin "any") aAny := .of (cr_any hc) fun st H Z r M xs ds Q q rp h => by
  unfold aAny at h
  split at h
  · cases rp with
    | cons r1 rr =>
      cases rr
      obtain ⟨es, ns, e, e2, h⟩ := h
      obtain ⟨a, ys, rfl, hs, rl⟩ := lstOf_rep q.hr e r1
      rw [blsD_rep rl e2] at hs
      exact ⟨a, ns, rfl, hs, EQ.val q (.bl _) h⟩
  · exact h.elim
/-- max, min of one list of numbers -/
def aMaxL : DRL := fun ds M Q => match ds with
  | [d] => ∃ es ns, lstOf M d = some es ∧ intsD es = some ns ∧ 0 < ns.length ∧ ∀ m, m ∈ ns → (∀ y, y ∈ ns → y ≤ m) → Q (.int m) M
  | _ => False
theorem c_maxL (hc : X.calm = true) : DCall X W (.builtin "max") aMaxL := .of (cr_max hc) fun st H Z r M xs ds Q q rp h => by
  unfold aMaxL at h
  split at h
  · cases rp with
    | cons r1 rr =>
      cases rr
      obtain ⟨es, ns, e, e2, h0, h⟩ := h
      obtain ⟨a, ys, rfl, hs, rl⟩ := lstOf_rep q.hr e r1
      rw [intsD_rep rl e2] at hs
      exact ⟨a, ns, rfl, hs, h0, fun m h1 h2 => EQ.val q (.int _) (h m h1 h2)⟩
  · exact h.elim
def aMinL : DRL := fun ds M Q => match ds with
  | [d] => ∃ es ns, lstOf M d = some es ∧ intsD es = some ns ∧ 0 < ns.length ∧ ∀ m, m ∈ ns → (∀ y, y ∈ ns → m ≤ y) → Q (.int m) M
  | _ => False
theorem c_minL (hc : X.calm = true) : DCall X W (.builtin "min") aMinL := .of (cr_min hc) fun st H Z r M xs ds Q q rp h => by
  unfold aMinL at h
  split at h
  · cases rp with
    | cons r1 rr =>
      cases rr
      obtain ⟨es, ns, e, e2, h0, h⟩ := h
      obtain ⟨a, ys, rfl, hs, rl⟩ := lstOf_rep q.hr e r1
      rw [intsD_rep rl e2] at hs
      exact ⟨a, ns, rfl, hs, h0, fun m h1 h2 => EQ.val q (.int _) (h m h1 h2)⟩
  · exact h.elim
end

/-! ### data as the semantics reads it -/
section
variable {X : Cx} {pins : List (Addr × Obj)} {st : Sg} {H : Hp} {s : Shared}
theorem rd_eq {h : Heap} {u v : Value} {p : PyData} {as : List Addr} (e : v = u) (q : Reads h u p as) : Reads h v p as := by rw [e]; exact q
mutual
theorem reads_of (I : Inv X pins st H s) (hsy : H sysModules = none) : ∀ {v : V} {d : D} {p : PyData} {u : Value}, Rep X.K H v d → py d = some p → RelV v u → ∃ as, Reads s.heap u p as ∧ sysModules ∉ as
  | _, _, _, _, .non, e, r => by cases e; cases r; exact ⟨[], .none, by simp⟩
  | _, _, _, _, .bl b, e, r => by cases e; cases r; exact ⟨[], .bool b, by simp⟩
  | _, _, _, _, .int b, e, r => by cases e; obtain ⟨t, rfl⟩ := r; exact ⟨[], .int b t, by simp⟩
  | _, _, _, _, .str b, e, r => by cases e; obtain ⟨t, rfl⟩ := r; exact ⟨[], .str b t, by simp⟩
  | _, _, _, _, .ref b, e, r => by cases e
  | _, _, _, _, .ty b, e, r => by cases e
  | _, _, _, _, .scr h, e, r => by cases e
  | _, _, _, _, .exc h r', e, r => by cases e
  | _, _, _, _, .ins h r', e, r => by cases e
  | _, _, _, _, .obj h r', e, r => by cases e
  | _, _, _, _, .tup (ds := ds) h r', e, r => by
    cases r
    obtain ⟨ps, e3, rfl⟩ := Option.map_eq_some_iff.mp (show (pyL ds).map PyData.tuple = some _ from e)
    obtain ⟨its, rv, ⟨o, ho, hc, n, hd⟩, _⟩ := I.tuple h
    obtain ⟨as, q, hn⟩ := readsL_of I hsy r' e3 rv
    exact ⟨as, .tuple ho hc hd q, hn⟩
  | _, _, _, _, .lst (a := a) (ds := ds) h r', e, r => by
    cases r
    obtain ⟨ps, e3, rfl⟩ := Option.map_eq_some_iff.mp (show (pyL ds).map PyData.list = some _ from e)
    obtain ⟨its, rv, ⟨o, n, ho, hc, _, hd⟩, _⟩ := I.list (SqL.of h)
    obtain ⟨as, q, hn⟩ := readsL_of I hsy r' e3 rv
    refine ⟨_, .list ho hc hd q, fun z => ?_⟩
    rcases List.mem_cons.mp z with z | z
    · rw [z, h] at hsy; cases hsy
    · exact hn z
  | _, _, _, _, .dic (a := a) (ds := ds) h r', e, r => by
    cases r
    obtain ⟨ps, e3, rfl⟩ := Option.map_eq_some_iff.mp (show (pyK ds).map PyData.dict = some _ from e)
    obtain ⟨_, hs, vs, kv, o, es, ep, ho, hx, hd, _, hp, _⟩ := h.ok I.hok
    obtain ⟨as, bs, q1, q2, hn1, hn2⟩ := readsK_of I hsy r' e3 kv hp
    refine ⟨_, .dict ho hx.1 hd q1 q2, fun z => ?_⟩
    rcases List.mem_append.mp z with z | z
    · rcases List.mem_cons.mp z with z | z
      · rw [← z] at hs; simp at hs
      · exact hn1 z
    · exact hn2 z
theorem readsL_of (I : Inv X pins st H s) (hsy : H sysModules = none) : ∀ {vs : List V} {ds : List D} {ps : List PyData} {us : List Value}, RepL X.K H vs ds → pyL ds = some ps → Vals vs us → ∃ as, ReadsAll s.heap us ps as ∧ sysModules ∉ as
  | _, _, _, _, .nil, e, r => by cases e; cases r; exact ⟨[], .nil, by simp⟩
  | _, _, _, _, .cons (d := d) (ds := ds) h r', e, r => by
    have e2 : (match py d, pyL ds with | some p, some ps => some (p :: ps) | _, _ => none) = some _ := e
    split at e2
    · rename_i p ps e3 e4
      cases e2
      cases r with
      | cons r1 r2 =>
        obtain ⟨as, q1, n1⟩ := reads_of I hsy h e3 r1
        obtain ⟨bs, q2, n2⟩ := readsL_of I hsy r' e4 r2
        exact ⟨_, .cons q1 q2, fun z => (List.mem_append.mp z).elim n1 n2⟩
    · cases e2
theorem readsK_of (I : Inv X pins st H s) (hsy : H sysModules = none) : ∀ {vs : List (Key × V)} {ds : List (Key × D)} {ps : List (PyData × PyData)} {us : List (Key × Value)} {es : List DictEntry}, RepK X.K H vs ds → pyK ds = some ps → KV vs us → Pairs (mixKind X.prog X.w) es us →
    ∃ as bs, ReadsAll s.heap (es.map (·.key)) (ps.map (·.1)) as ∧ ReadsAll s.heap (es.map (·.val)) (ps.map (·.2)) bs ∧ sysModules ∉ as ∧ sysModules ∉ bs
  | _, _, _, _, _, .nil, e, r, hp => by cases e; cases r; cases hp; exact ⟨[], [], .nil, .nil, by simp, by simp⟩
  | _, _, _, _, _, .cons (k := k) (d := d) (ds := ds) h r', e, r, hp => by
    have e2 : (match py d, pyK ds with | some p, some ps => some ((keyPy k, p) :: ps) | _, _ => none) = some _ := e
    split at e2
    · rename_i p ps e3 e4
      cases e2
      cases r with
      | cons r1 r2 =>
        cases hp with
        | cons h1 h2 h3 =>
          obtain ⟨ek, rv⟩ := r1
          obtain ⟨bs1, q1, n1⟩ := reads_of I hsy h e3 rv
          obtain ⟨as, bs, q2, q3, n2, n3⟩ := readsK_of I hsy r' e4 r2 h3
          have hkey : ∀ {en : DictEntry} {kk : Key}, keyIs kk en.key = true → Reads s.heap en.key (keyPy kk) [] := fun {en kk} z => by
            rcases keyIs_shape z with ⟨i, t, rfl, e⟩ | ⟨x, t, rfl, e⟩
            · rw [e]; exact .int i t
            · rw [e]; exact .str x t
          have hk2 := hkey h1
          rw [← ek] at hk2
          refine ⟨_, _, .cons hk2 q2, .cons (rd_eq h2 q1) q3, by simpa using n2, fun z => (List.mem_append.mp z).elim n1 n3⟩
    · cases e2
end
end

/-! ### repr -/
/-- what is shown without trouble -/
def ShowOk (p : PyData) : Prop := p.showable = true ∧ p.shown.length ≤ sizeLine ∧ p.depth ≤ 60
def aRepr : DRL := fun ds M Q => match ds with
  | [.lst es] => ∃ p, py (.lst es) = some p ∧ ShowOk p ∧ Q (.str p.shown) M
  | [.tup es] => ∃ p, py (.tup es) = some p ∧ ShowOk p ∧ Q (.str p.shown) M
  | [.dic es] => ∃ p, py (.dic es) = some p ∧ ShowOk p ∧ Q (.str p.shown) M
  | _ => False
theorem c_repr {X : Cx} {W : DWX} {k : Nat} (hr : Rm k X.A) (hsy : (X.K.lookup sysModules).isSome = true) : DCall X W (.builtin "repr") aRepr := by
  intro pins s st H Z r M xs vs ds Q I q rv rp h
  have hsy2 : H sysModules = none := by
    obtain ⟨o, e⟩ := Option.isSome_iff_exists.mp hsy
    exact (I.bs sysModules o (I.ok.mod.kin _ _ e)).2
  have main : ∀ (a : Addr) (d : D) (p : PyData), xs = [.ref a] → Rep X.K (out Z M H) (.ref a) d → py d = some p → ShowOk p → Q (.str p.shown) M → wpAny (model X.prog X.w) X.A (call (.builtin "repr") vs) (EP X pins st (EQ (kx X W) Z st r (out Z M H) Q)) X.xe s := by
    intro a d p e r1 e1 sh hq
    subst e
    obtain ⟨u, rfl, ru⟩ := vals1 rv
    cases (show u = Value.ref a from ru)
    obtain ⟨as, rd, hn⟩ := reads_of I hsy2 (r1.mono (out_sub _ _ _)) e1 (u := .ref a) rfl
    have hun := hr.room.un
    exact repr_of_reads' rd sh.1 (fun _ => hn) hr.gd (by have := sh.2.2; omega) (fun _ _ z => z) (fun h' u tk kk => ⟨.str _, H, I.kept (t' := tk) kk, ⟨u, rfl⟩, EQ.val q (.str _) hq⟩) sh.2.1
  unfold aRepr at h
  split at h
  · cases rp with
    | cons r1 rr =>
      cases rr
      obtain ⟨p, e, sh, h⟩ := h
      cases r1 with
      | lst h1 h2 => exact main _ _ p rfl (.lst h1 h2) e sh h
  · cases rp with
    | cons r1 rr =>
      cases rr
      obtain ⟨p, e, sh, h⟩ := h
      cases r1 with
      | tup h1 h2 => exact main _ _ p rfl (.tup h1 h2) e sh h
  · cases rp with
    | cons r1 rr =>
      cases rr
      obtain ⟨p, e, sh, h⟩ := h
      cases r1 with
      | dic h1 h2 => exact main _ _ p rfl (.dic h1 h2) e sh h
  · exact h.elim

/-! ### isinstance -/
/-- the type of a thing -/
def tyD (M : Mh) : D → Option Value
  | .non => some (.type "NoneType")
  | .bl _ => some (.type "bool")
  | .int _ => some (.type "int")
  | .str _ => some (.type "str")
  | .tup _ => some (.type "tuple")
  | .lst _ => some (.type "list")
  | .scr _ => some (.type "list")
  | .dic _ => some (.type "dict")
  | .ins C _ => some (.ref C)
  | .obj C _ => some (.ref C)
  | .ref a => match M a with
    | some (.lst _) => some (.type "list")
    | some .pool => some (.type "list")
    | some (.dic _) => some (.type "dict")
    | some (.ins C _ _) => some (.ref C)
    | some (.slt C _ _) => some (.ref C)
    | none => none
  | .ty _ => none
  | .exc _ _ _ => none
def clsD : D → Option Value
  | .ty n => some (.type n)
  | .ref C => some (.ref C)
  | _ => none
/-- what isinstance asks of a class of the program -/
structure IsiC (K : PySem.W.Frag) (C : Addr) : Prop where
  ic : PySem.W.isClsIn K C = true
  pg : PySem.W.plainGet K C "__class__" = true
  ha : PySem.W.findIn K (.ref C) "__class__" = some (some (.builtin "object.__class__"))
  hm : PySem.W.mroIn K C (.type "object") = some true
theorem obj_cls (K : PySem.W.Frag) : PySem.W.specialIn K (.builtin "object.__class__") "__get__" = some (some (.builtin "getset_descriptor.__get__")) ∧ PySem.W.takesIn K (.builtin "object.__class__") = some true := by
  refine ⟨?_, ?_⟩
  · kernel_rfl
  · kernel_rfl
def aIsi (K : PySem.W.Frag) : DRL := fun ds M Q => match ds with
  | [d, c] => ∃ t u b, tyD M d = some t ∧ (∀ C, t = .ref C → IsiC K C) ∧ clsD c = some u ∧ PySem.W.kitOne K t u = some b ∧ Q (.bl b) M
  | _ => False
end DL
namespace DL
open PySem PySem.Spec PyProof.Rows L2
section
variable {X : Cx} {W : DWX}
theorem kit_d {pins : List (Addr × Obj)} {st : Sg} {H Z : Hp} {s : Shared} {M : Mh} {v : V} {d : D} {u t : Value} (I : Inv X pins st H s) (m : HR X.K Z M H) (rp : Rep X.K (out Z M H) v d) (ru : RelV v u) (e : tyD M d = some t) (hi : ∀ C, t = .ref C → IsiC X.K C) :
    ∃ P : Heap → Prop, PySem.W.KitX X.K u t P ∧ P s.heap ∧ u ≠ .builtin "__main__.__loader__#opaque" := by
  have one : ∀ (a C : Addr), u = .ref a → t = .ref C → (∃ ox od, PySem.W.InstAt s.heap a ox C (some od)) → ∃ P : Heap → Prop, PySem.W.KitX X.K u t P ∧ P s.heap ∧ u ≠ .builtin "__main__.__loader__#opaque" := fun a C e1 e2 ⟨ox, od, J⟩ => by
    subst e1; subst e2
    have c := hi C rfl
    exact ⟨_, OwX.kitx_slt c.ic c.pg c.ha (obj_cls X.K).1 (obj_cls X.K).2 c.hm, J, fun z => nomatch z⟩
  have fIns : ∀ (a C dx : Addr) xs, H a = some (.ins C dx xs) → ∃ ox od, PySem.W.InstAt s.heap a ox C (some od) := fun a C dx xs e => by
    obtain ⟨mA, O, _⟩ := ins_get I.hok e
    obtain ⟨od, J, _⟩ := O.look
    exact ⟨_, od, J⟩
  have fSl : ∀ (a C dx : Addr) xs, H a = some (SlX.SlO a C dx xs) → H dx = some (.xd []) → ∃ ox od, PySem.W.InstAt s.heap a ox C (some od) := fun a C dx xs e e' => by
    obtain ⟨sl, od, _, J, _⟩ := SlX.slt_inst I (.inr ⟨e, e'⟩)
    exact ⟨_, od, J⟩
  have fL : ∀ (a : Addr) (xs : List V), SqL X.K H a xs → u = .ref a → ∃ P : Heap → Prop, PySem.W.KitX X.K u (.type "list") P ∧ P s.heap ∧ u ≠ .builtin "__main__.__loader__#opaque" := fun a xs h e => by
    subst e
    obtain ⟨its, rv, ⟨o, n, ho, hc, _⟩, _⟩ := I.list h
    exact ⟨_, PySem.W.kitx_list, ⟨o, ho, hc⟩, fun z => nomatch z⟩
  have fD : ∀ (a : Addr) (xs : List (Key × V)), Rd H a (.dK xs) → u = .ref a → ∃ P : Heap → Prop, PySem.W.KitX X.K u (.type "dict") P ∧ P s.heap ∧ u ≠ .builtin "__main__.__loader__#opaque" := fun a xs h e => by
    subst e
    obtain ⟨_, _, vs, _, o, es, ep, h1, h2, _⟩ := h.ok I.hok
    exact ⟨_, PySem.W.kitx_dict, ⟨o, h1, h2.1⟩, fun z => nomatch z⟩
  cases rp with
  | non => cases e; cases (show u = Value.none from ru); exact ⟨_, PySem.W.kitx_none, True.intro, fun z => nomatch z⟩
  | bl y => cases e; cases (show u = Value.bool y from ru); exact ⟨_, PySem.W.kitx_bool, True.intro, fun z => nomatch z⟩
  | int i => cases e; obtain ⟨t, q⟩ := (show ∃ t, u = Value.int i t from ru); cases q; exact ⟨_, PySem.W.kitx_int, True.intro, fun z => nomatch z⟩
  | str y => cases e; obtain ⟨t, q⟩ := (show ∃ t, u = Value.str y t from ru); cases q; exact ⟨_, PySem.W.kitx_str, True.intro, fun z => nomatch z⟩
  | ty n => cases e
  | tup h r =>
    cases e
    cases (show u = Value.ref _ from ru)
    obtain ⟨its, rv, ⟨o, ho, hc, _⟩, _⟩ := I.tuple (sqT_mono (out_sub _ _ _) h)
    exact ⟨_, PySem.W.kitx_tuple, ⟨o, ho, hc⟩, fun z => nomatch z⟩
  | lst h r => cases e; exact fL _ _ (SqL.of (out_sub _ _ _ _ _ h)) ru
  | exc h r => cases e
  | scr h => cases e; exact fL _ _ (sqL_mono (out_sub _ _ _) h) ru
  | dic h r => cases e; exact fD _ _ (Rd.mono (out_sub _ _ _) h) ru
  | ins h r => cases e; exact one _ _ ru rfl (fSl _ _ _ _ (out_sub _ _ _ _ _ h.1) (out_sub _ _ _ _ _ h.2))
  | obj h r => cases e; exact one _ _ ru rfl (fIns _ _ _ _ (out_sub _ _ _ _ _ h))
  | ref a =>
    have e2 : (match M a with
      | some (.lst _) => some (.type "list")
      | some .pool => some (.type "list")
      | some (.dic _) => some (.type "dict")
      | some (.ins C _ _) => some (.ref C)
      | some (.slt C _ _) => some (.ref C)
      | none => none) = some t := e
    split at e2
    · rename_i em; cases e2; obtain ⟨xs, q, _⟩ := m.mem _ _ em; exact fL _ _ (SqL.of q) ru
    · rename_i em; cases e2; obtain ⟨i, j, k, q, _⟩ := m.mem _ _ em; exact fL _ _ (SqL.of q) ru
    · rename_i em; cases e2; obtain ⟨xs, q, _⟩ := m.mem _ _ em; exact fD _ _ (.inl q) ru
    · rename_i em; cases e2; obtain ⟨xs, q, _⟩ := m.mem _ _ em; exact one _ _ ru rfl (fIns _ _ _ _ q)
    · rename_i em; cases e2; obtain ⟨xs, q, q2, _⟩ := m.mem _ _ em; exact one _ _ ru rfl (fSl _ _ _ _ q (out_sub _ _ _ _ _ q2))
    · cases e2
theorem cls_d {K : PySem.W.Frag} {F : Hp} {v : V} {d : D} {u w : Value} (rp : Rep K F v d) (rv : RelV v u) (e : clsD d = some w) : u = w := by
  cases rp <;> cases e
  · exact rv
  · exact rv
theorem c_isi : DCall X W (.builtin "isinstance") (aIsi X.K) := by
  intro pins s st H Z r M xs vs ds Q I q rv rp h
  unfold aIsi at h
  split at h
  · cases rp with
    | cons r1 rr =>
      cases rr with
      | cons r2 rr =>
        cases rr
        obtain ⟨t, w, b, e1, hi, e2, e3, h⟩ := h
        obtain ⟨u1, u2, rfl, q1, q2⟩ := vals2 rv
        have := cls_d r2 q2 e2
        subst this
        obtain ⟨P, z, p, hx⟩ := kit_d I q.hr r1 q1 e1 hi
        exact PySem.W.kia_one z I.kIn p e3 hx fun tk => ⟨.bl b, H, I.tok tk, rfl, EQ.val q (.bl b) h⟩
  · exact h.elim
end
end DL

set_option maxHeartbeats 2000000
/-! DL8: methods of built-in types. -/
namespace DL
open PySem PySem.Spec PyProof.Rows L2

abbrev DRM := D → List D → Mh → QD → Prop
def DMt (X : Cx) (W : DWX) (id : String) (o : DRM) : Prop :=
  ∀ (pins : List (Addr × Obj)) (s : Shared) (st : Sg) (H Z : Hp) (r : Rho) (M : Mh) (x : V) (xs : List V) (v : Value) (vs : List Value) (d : D) (ds : List D) (Q : QD), Inv X pins st H s → SR (kx X W) Z r M st H → RelV x v → Vals xs vs → Rep X.K (out Z M H) x d → RepL X.K (out Z M H) xs ds → o d ds M Q →
    wpAny (model X.prog X.w) X.A (call (.builtin id) (v :: vs)) (EP X pins st (EQ (kx X W) Z st r (out Z M H) Q)) X.xe s
/-- the built-in type a receiver is of -/
def bty (M : Mh) : D → Option String
  | .int _ => some "int"
  | .str _ => some "str"
  | .lst _ => some "list"
  | .scr _ => some "list"
  | .dic _ => some "dict"
  | .ref a => match M a with
    | some (.lst _) => some "list"
    | some .pool => some "list"
    | some (.dic _) => some "dict"
    | _ => none
  | _ => none
def dBM (T : String) (o : DRM) (te : DTE) (ta : DTA) : DTE := fun r M Q => te r M fun x M1 => bty M1 x = some T ∧ ta r M1 fun ds M2 => o x ds M2 Q
section
variable {X : Cx} {W : DWX}
theorem DMt.of {id : String} {r0 : V → List V → Hp → VK → Prop} {o : DRM} (h : MtR X id r0)
    (k : ∀ (st : Sg) (H Z : Hp) (r : Rho) (M : Mh) (x : V) (xs : List V) (d : D) (ds : List D) (Q : QD), SR (kx X W) Z r M st H → Rep X.K (out Z M H) x d → RepL X.K (out Z M H) xs ds → o d ds M Q → r0 x xs H (EQ (kx X W) Z st r (out Z M H) Q)) : DMt X W id o :=
  fun pins s st H Z r M x xs v vs d ds Q I q rx rxs ra rb ho => h pins s st H x xs v vs _ I rx rxs (k st H Z r M x xs d ds Q q ra rb ho)
theorem DMt.or {id : String} {o o' : DRM} (h : DMt X W id o) (h' : DMt X W id o') : DMt X W id (fun d ds M Q => o d ds M Q ∨ o' d ds M Q) :=
  fun pins s st H Z r M x xs v vs d ds Q I q rx rxs ra rb ho => ho.elim (h pins s st H Z r M x xs v vs d ds Q I q rx rxs ra rb) (h' pins s st H Z r M x xs v vs d ds Q I q rx rxs ra rb)
theorem bty_is {pins : List (Addr × Obj)} {st : Sg} {H Z : Hp} {s : Shared} {M : Mh} {v : V} {d : D} {u : Value} {T : String} (I : Inv X pins st H s) (m : HR X.K Z M H) (rp : Rep X.K (out Z M H) v d) (ru : RelV v u) (e : bty M d = some T) :
    s.TypeIs u T ∧ ∀ a, u = .ref a → ∃ ob, s.heap.get? a = some ob ∧ ob.dict = none := by
  have fL : ∀ (a : Addr) (xs : List V), SqL X.K H a xs → u = .ref a → s.TypeIs u "list" ∧ ∀ a, u = .ref a → ∃ ob, s.heap.get? a = some ob ∧ ob.dict = none := fun a xs h e => by
    subst e
    obtain ⟨its, rv, pl, _⟩ := I.list h
    refine ⟨pl.isList.typeIs, fun b e => ?_⟩
    cases e
    obtain ⟨o, n, ho, hc, hd, _⟩ := pl
    exact ⟨o, ho, hd⟩
  have fD : ∀ (a : Addr) (xs : List (Key × V)), Rd H a (.dK xs) → u = .ref a → s.TypeIs u "dict" ∧ ∀ a, u = .ref a → ∃ ob, s.heap.get? a = some ob ∧ ob.dict = none := fun a xs h e => by
    subst e
    obtain ⟨_, _, vs, _, o, es, ep, h1, h2, _⟩ := h.ok I.hok
    refine ⟨⟨o, h1, h2.1⟩, fun b e => ?_⟩
    cases e
    exact ⟨o, h1, h2.2.1⟩
  cases rp with
  | non => cases e
  | bl y => cases e
  | ty n => cases e
  | ins h r => cases e
  | obj h r => cases e
  | int i => cases e; obtain ⟨t, q⟩ := (show ∃ t, u = Value.int i t from ru); cases q; exact ⟨typeIs_int s i t, fun _ e => nomatch e⟩
  | str y => cases e; obtain ⟨t, q⟩ := (show ∃ t, u = Value.str y t from ru); cases q; exact ⟨typeIs_str s y t, fun _ e => nomatch e⟩
  | tup h r => cases e
  | lst h r => cases e; exact fL _ _ (SqL.of (out_sub _ _ _ _ _ h)) ru
  | exc h r => cases e
  | scr h => cases e; exact fL _ _ (sqL_mono (out_sub _ _ _) h) ru
  | dic h r => cases e; exact fD _ _ (Rd.mono (out_sub _ _ _) h) ru
  | ref a =>
    have e2 : (match M a with
      | some (.lst _) => some "list"
      | some .pool => some "list"
      | some (.dic _) => some "dict"
      | _ => none) = some T := e
    split at e2
    · rename_i em; cases e2; obtain ⟨xs, q, _⟩ := m.mem _ _ em; exact fL _ _ (SqL.of q) ru
    · rename_i em; cases e2; obtain ⟨i, j, k, q, _⟩ := m.mem _ _ em; exact fL _ _ (SqL.of q) ru
    · rename_i em; cases e2; obtain ⟨xs, q, _⟩ := m.mem _ _ em; exact fD _ _ (.inl q) ru
    · cases e2
variable {o e : Expr} {es : List Expr} {to : DTE} {t : DTA} {name : Str} {apos cpos : Pos} {T id : String} {rd : DRM}
theorem de_bm0 (pa : PlainAttrs T) (slot : Slot T name id) (hty : typeOf (.builtin id) = pure (.type "method_descriptor")) (hm : DMt X W id rd) (ho : DE X W o to)
    (hbase : attributeBase o name X.env (eval o X.env) = eval o X.env := by rfl) (hline : (apos.endLine == cpos.line) = true := by rfl) : DE X W (.Call (.Attribute o name apos) [] [] cpos) (dBM T rd to dNil) := by
  refine ⟨fun pins s st H Z r M Q I q h => wpAny_Call_method0_late hbase hline (thn (ho.run pins s st H Z r M _ I q h) fun v s1 ⟨x, H1, I1, rx, d, M1, q1, rp, sm, ty, h1⟩ => ?_)⟩
  obtain ⟨h2, h3⟩ := bty_is I1 q1.hr rp rx ty
  exact ⟨T, id, pa, slot, hty, h2, h3, Calls.callWith_builtin rfl (PySem.evalArgs_none (thn (hm pins s1 st H1 Z r M1 x [] v [] d [] Q I1 q1 rx .nil rp .nil h1) fun u s2 ⟨y, H2, I2, ry, e⟩ => ⟨y, H2, I2, ry, e.mono sm⟩))⟩
theorem de_bm (pa : PlainAttrs T) (slot : Slot T name id) (hty : typeOf (.builtin id) = pure (.type "method_descriptor")) (hm : DMt X W id rd) (ho : DE X W o to) (ha : DA X W (e :: es) t)
    (hbase : attributeBase o name X.env (eval o X.env) = eval o X.env := by rfl)
    (hfew : ((backTo cpos (starEach (e :: es) X.env)).all (fun x => !x.1) && (backToKw cpos (keywordEach [] X.env)).all (fun x => x.1.isSome)
      && decide ((e :: es).length + ([] : List Keyword).length + (if ([] : List Keyword).isEmpty then 0 else 1) < 30)) = true := by rfl)
    (hline : (apos.endLine == cpos.line) = true := by rfl) (hs : starEach (e :: es) X.env = (false, eval e X.env) :: starEach es X.env := by rfl) (hplain : (backTo cpos (starEach es X.env)).any (·.1) = false := by rfl) :
    DE X W (.Call (.Attribute o name apos) (e :: es) [] cpos) (dBM T rd to t) := by
  refine ⟨fun pins s st H Z r M Q I q h => wpAny_Call_method_late hbase hfew hline rfl (thn (ho.run pins s st H Z r M _ I q h) fun v s1 ⟨x, H1, I1, rx, d, M1, q1, rp, sm, ty, h1⟩ => ?_)⟩
  obtain ⟨h2, h3⟩ := bty_is I1 q1.hr rp rx ty
  refine ⟨T, id, pa, slot, hty, h2, h3, ?_⟩
  have hA := ha.run cpos pins s1 st H1 Z r M1 _ I1 q1 h1
  rw [hs] at hA ⊢
  refine Calls.callWith_builtin (by show (false || (backTo cpos (starEach es X.env)).any (·.1)) = false; rw [hplain] <;> rfl) (Calls.evalArgs_plain ?_)
  exact thn hA fun us s2 ⟨vs, H2, I2, rvs, ds, M2, q2, rps, sm2, h4⟩ => thn (hm pins s2 st H2 Z r M2 x vs v us d ds Q I2 q2 rx rvs (rp.mono sm2) rps h4) fun u s3 ⟨y, H3, I3, ry, e⟩ => ⟨y, H3, I3, ry, e.mono (sm.trans sm2)⟩

/-! ### list.append, extend, pop, clear, index, count -/
theorem sr_mlst {k : Kt} {Z : Hp} {r : Rho} {M : Mh} {st : Sg} {H : Hp} {p : Addr} {ds ds' : List D} {xs' : List V} (q : SR k Z r M st H) (e : M p = some (.lst ds)) (rl : RepL k.K (out Z M H) xs' ds') :
    SR k Z r (mset M p (.lst ds')) st (upd H p (.lst xs')) ∧ Same (out Z M H) (out Z (mset M p (.lst ds')) (upd H p (.lst xs'))) := by
  have hn : H p = none ∨ M p ≠ none := .inr (by rw [e]; exact fun z => nomatch z)
  refine ⟨q.mset (fun b hb => upd_ne hb) hn ⟨xs', upd_same, rl⟩, ?_⟩
  rw [out_mset q.hr (fun b hb => upd_ne hb) hn]
  exact Same.refl _
def mAppend : DRM := fun d ds M Q => match d, ds with
  | .ref p, [y] => ∃ xs, M p = some (.lst xs) ∧ xs.length < sizeLine ∧ Q .non (mset M p (.lst (xs ++ [y])))
  | _, _ => False
theorem m_append : DMt X W "list.append" mAppend := .of mt_append fun st H Z r M x xs d ds Q q rp rl h => by
  unfold mAppend at h
  split at h
  · obtain ⟨ys, e, hz, h⟩ := h
    cases rp
    cases rl with
    | cons r1 rr =>
      cases rr
      obtain ⟨zs, e2, r2⟩ := q.hr.mem _ _ e
      obtain ⟨q', sm⟩ := sr_mlst q e (r2.append (.cons r1 .nil))
      exact ⟨_, zs, _, rfl, rfl, e2, by rw [r2.length]; exact hz, .non, _, q', .non, sm, h⟩
  · exact h.elim
def mPop : DRM := fun d ds M Q => match d, ds with
  | .ref p, [] => ∃ xs y, M p = some (.lst xs) ∧ xs[xs.length - 1]? = some y ∧ Q y (mset M p (.lst xs.dropLast))
  | _, _ => False
theorem RepL.dropLast {K : PySem.W.Frag} {F : Hp} {v : List V} {d : List D} (h : RepL K F v d) : RepL K F v.dropLast d.dropLast := by
  rw [List.dropLast_eq_take, List.dropLast_eq_take, h.length]
  exact h.take _
theorem RepL.erase {K : PySem.W.Frag} {F : Hp} : ∀ {v : List V} {d : List D} (i : Nat), RepL K F v d → RepL K F (v.eraseIdx i) (d.eraseIdx i)
  | _, _, _, .nil => .nil
  | _, _, 0, .cons _ t => t
  | _, _, i + 1, .cons r t => .cons r (RepL.erase i t)
theorem m_pop : DMt X W "list.pop" mPop := .of mt_pop fun st H Z r M x xs d ds Q q rp rl h => by
  unfold mPop at h
  split at h
  · obtain ⟨ys, y, e, hy, h⟩ := h
    cases rp
    cases rl
    obtain ⟨zs, e2, r2⟩ := q.hr.mem _ _ e
    obtain ⟨q', sm⟩ := sr_mlst q e r2.dropLast
    obtain ⟨z, hz, rz⟩ := r2.get hy
    exact ⟨_, zs, z, rfl, rfl, e2, by rw [r2.length]; exact hz, y, _, q', rz.mono sm, sm, h⟩
  · exact h.elim
def mPopAt : DRM := fun d ds M Q => match d, ds with
  | .ref p, [.int i] => ∃ xs k y, M p = some (.lst xs) ∧ -(2 ^ 63) ≤ i ∧ i < 2 ^ 63 ∧ seqIndex? i xs.length = some k ∧ xs[k]? = some y ∧ Q y (mset M p (.lst (xs.eraseIdx k)))
  | _, _ => False
theorem m_popAt : DMt X W "list.pop" mPopAt := .of mt_popAt fun st H Z r M x xs d ds Q q rp rl h => by
  unfold mPopAt at h
  split at h
  · obtain ⟨ys, k, y, e, h1, h2, h3, hy, h⟩ := h
    cases rp
    cases rl with
    | cons r1 rr =>
      cases rr
      cases r1
      obtain ⟨zs, e2, r2⟩ := q.hr.mem _ _ e
      obtain ⟨q', sm⟩ := sr_mlst q e (r2.erase k)
      obtain ⟨z, hz, rz⟩ := r2.get hy
      exact ⟨_, zs, _, k, z, rfl, rfl, e2, h1, h2, by rw [r2.length]; exact h3, hz, y, _, q', rz.mono sm, sm, h⟩
  · exact h.elim
def mClear : DRM := fun d ds M Q => match d, ds with
  | .ref p, [] => ∃ xs, M p = some (.lst xs) ∧ Q .non (mset M p (.lst []))
  | _, _ => False
theorem m_clear : DMt X W "list.clear" mClear := .of mt_clear fun st H Z r M x xs d ds Q q rp rl h => by
  unfold mClear at h
  split at h
  · obtain ⟨ys, e, h⟩ := h
    cases rp
    cases rl
    obtain ⟨zs, e2, r2⟩ := q.hr.mem _ _ e
    obtain ⟨q', sm⟩ := sr_mlst q e (xs' := []) (ds' := []) .nil
    exact ⟨_, zs, rfl, rfl, e2, .non, _, q', .non, sm, h⟩
  · exact h.elim
/-- a list's values, wherever it stands -/
theorem lstM_rep {K : PySem.W.Frag} {Z H : Hp} {M : Mh} {v : V} {d : D} {es : List D} (m : HR K Z M H) (rp : Rep K (out Z M H) v d) (e : seqOf M d = some es) (hd : ∀ x, d ≠ .tup x) (hs : ∀ x, d ≠ .scr x) :
    ∃ a xs, v = .ref a ∧ H a = some (.lst xs) ∧ RepL K (out Z M H) xs es := by
  cases rp with
  | lst h r => cases e; exact ⟨_, _, rfl, out_sub _ _ _ _ _ h, r⟩
  | tup h r => exact absurd rfl (hd _)
  | scr h => exact absurd rfl (hs _)
  | exc h r => cases e
  | ref a =>
    have e2 : (match M a with | some (.lst ds) => some ds | _ => none) = some es := e
    split at e2
    · rename_i em
      cases e2
      obtain ⟨xs, q, r⟩ := m.mem _ _ em
      exact ⟨_, _, rfl, q, r⟩
    · cases e2
  | non => cases e
  | bl _ => cases e
  | int _ => cases e
  | str _ => cases e
  | ty _ => cases e
  | dic _ _ => cases e
  | ins _ _ => cases e
  | obj _ _ => cases e
def mExtend : DRM := fun d ds M Q => match d, ds with
  | .ref p, [y] => ∃ xs zs, M p = some (.lst xs) ∧ seqOf M y = some zs ∧ (∀ x, y ≠ .tup x) ∧ (∀ x, y ≠ .scr x) ∧ xs.length + zs.length ≤ sizeLine ∧ Q .non (mset M p (.lst (xs ++ zs)))
  | _, _ => False
theorem m_extend : DMt X W "list.extend" mExtend := .of mt_extend fun st H Z r M x xs d ds Q q rp rl h => by
  unfold mExtend at h
  split at h
  · obtain ⟨ys, zs, e, e1, n1, n2, hz, h⟩ := h
    cases rp
    cases rl with
    | cons r1 rr =>
      cases rr
      obtain ⟨a, us, rfl, hb, rb⟩ := lstM_rep q.hr r1 e1 n1 n2
      obtain ⟨zs', e2, r2⟩ := q.hr.mem _ _ e
      obtain ⟨q', sm⟩ := sr_mlst q e (r2.append rb)
      exact ⟨_, _, zs', us, rfl, rfl, e2, hb, by rw [r2.length, rb.length]; exact hz, .non, _, q', .non, sm, h⟩
  · exact h.elim

/-- list.index: the first equal one -/
def firstEq (ps : List PyData) (p : PyData) : Nat := ps.findIdx fun z => PyData.eqv z p
def mIndex : DRM := fun d ds M Q => match ds with
  | [y] => ∃ es ps p, lstOf M d = some es ∧ pyL es = some ps ∧ py y = some p ∧ SeqAt.shaped (.list ps) = true ∧ SeqAt.shaped p = true ∧ (ps.any fun z => PyData.eqv z p) = true ∧ Q (.int (firstEq ps p : Nat)) M
  | _ => False
theorem m_index (hu : X.A.units + 65 < cLine) : DMt X W "list.index" mIndex := .of (mt_indexD hu) fun st H Z r M x xs d ds Q q rp rl h => by
  unfold mIndex at h
  split at h
  · obtain ⟨es, ps, p, e1, e2, e3, s1, s2, ha, h⟩ := h
    cases rl with
    | cons r1 rr =>
      cases rr
      obtain ⟨a, ys, rfl, hs, rl⟩ := lstOf_rep q.hr e1 rp
      have hd : PyData.hasDictAll ps = false := by
        have := shaped_noDict _ (SeqAt.canLay_of_shaped s1)
        simpa [PyData.hasDict] using this
      have hlt : firstEq ps p < ps.length := List.findIdx_lt_length.mpr (by simpa using ha)
      refine ⟨a, _, p, ps, firstEq ps p, ps[firstEq ps p], rfl, rfl, .lst hs ?_, Dp.mono (out_sub _ _ _) (py_dp r1 e3 (shaped_noDict p (SeqAt.canLay_of_shaped s2))), s1, s2, List.getElem?_eq_getElem hlt, ?_, fun m z hm hz => ?_, EQ.val q (.int _) h⟩
      · exact pyL_dp (rl.mono (out_sub _ _ _)) e2 hd
      · exact List.findIdx_getElem (w := hlt)
      · have hl : m < ps.length := Nat.lt_trans hm hlt
        rw [List.getElem?_eq_getElem hl] at hz
        cases hz
        have := List.not_of_lt_findIdx hm
        simpa using this
  · exact h.elim

/-! ### texts -/
def strsD : List D → Option (List Str)
  | [] => some []
  | .str i :: ds => (strsD ds).map (i :: ·)
  | _ => none
theorem strsD_rep {K : PySem.W.Frag} {F : Hp} : ∀ {vs : List V} {ds : List D} {ns : List Str}, RepL K F vs ds → strsD ds = some ns → vs = ns.map V.str
  | _, _, _, .nil, e => by cases e; rfl
  | _, _, _, .cons (.str i) r, e => by
    obtain ⟨ms, e1, e2⟩ := Option.map_eq_some_iff.mp (show (strsD _).map (i :: ·) = some _ from e)
    subst e2
    rw [List.map_cons, ← strsD_rep r e1]
  | _, _, _, .cons .non r, e => by cases e
  | _, _, _, .cons (.bl _) r, e => by cases e
  | _, _, _, .cons (.int _) r, e => by cases e
  | _, _, _, .cons (.ref _) r, e => by cases e
  | _, _, _, .cons (.ty _) r, e => by cases e
  | _, _, _, .cons (.tup _ _) r, e => by cases e
  | _, _, _, .cons (.lst _ _) r, e => by cases e
  | _, _, _, .cons (.dic _ _) r, e => by cases e
  | _, _, _, .cons (.ins _ _) r, e => by cases e
  | _, _, _, .cons (.obj _ _) r, e => by cases e
  | _, _, _, .cons (.scr _) r, e => by cases e
  | _, _, _, .cons (.exc _ _) r, e => by cases e
theorem strsD_map (ns : List Str) : strsD (ns.map D.str) = some ns := by
  induction ns with
  | nil => rfl
  | cons n ns ih => rw [List.map_cons]; show (strsD _).map (n :: ·) = _; rw [ih]; rfl
theorem repL_strs {K : PySem.W.Frag} {F : Hp} : ∀ (ns : List Str), RepL K F (ns.map V.str) (ns.map D.str)
  | [] => .nil
  | n :: ns => .cons (.str n) (repL_strs ns)
def mJoin : DRM := fun d ds M Q => match d, ds with
  | .str a, [y] => ∃ es ns, seqOf M y = some es ∧ strsD es = some ns ∧ (ns.map (·.length)).sum + ns.length * a.length ≤ 16777216 ∧ Q (.str (Txt.join a ns)) M
  | _, _ => False
theorem m_join : DMt X W "str.join" mJoin := .of mt_join fun st H Z r M x xs d ds Q q rp rl h => by
  unfold mJoin at h
  split at h
  · obtain ⟨es, ns, e1, e2, hz, h⟩ := h
    cases rp
    cases rl with
    | cons r1 rr =>
      cases rr
      obtain ⟨a, ys, rfl, hs, rl⟩ := seqOf_rep q.hr e1 r1
      have := strsD_rep rl e2
      subst this
      exact ⟨_, a, ns, rfl, rfl, hs, hz, EQ.val q (.str _) h⟩
  · exact h.elim
def mSplit : DRM := fun d ds M Q => match d, ds with
  | .str a, [.str b] => (b.length == 0) = false ∧ a.length + 2 ≤ sizeLine ∧ Q (.lst ((Txt.split a b).map D.str)) M
  | _, _ => False
theorem m_split : DMt X W "str.split" mSplit := .of mt_split fun st H Z r M x xs d ds Q q rp rl h => by
  unfold mSplit at h
  split at h
  · obtain ⟨h1, h2, h⟩ := h
    cases rp
    cases rl with
    | cons r1 rr =>
      cases rr
      cases r1
      exact ⟨_, _, rfl, rfl, h1, h2, fun p hp => EQ.newLst q hp (repL_strs _) h⟩
  · exact h.elim
/-- of two texts -/
def m2S (g : Str → Str → D) : DRM := fun d ds M Q => match d, ds with
  | .str a, [.str b] => Q (g a b) M
  | _, _ => False
theorem m_of2 {id : String} {g : Str → Str → V} {g' : Str → Str → D} (hm : MtR X id fun x xs H Q => ∃ a b, x = .str a ∧ xs = [.str b] ∧ Q (g a b) H) (hr : ∀ a b F, Rep X.K F (g a b) (g' a b)) : DMt X W id (m2S g') := .of hm fun st H Z r M x xs d ds Q q rp rl h => by
  unfold m2S at h
  split at h
  · cases rp
    cases rl with
    | cons r1 rr =>
      cases rr
      cases r1
      exact ⟨_, _, rfl, rfl, EQ.val q (hr _ _ _) h⟩
  · exact h.elim
theorem m_startswith : DMt X W "str.startswith" (m2S fun a b => .bl (Txt.startswith a b)) := m_of2 mt_startswith fun _ _ _ => .bl _
theorem m_endswith : DMt X W "str.endswith" (m2S fun a b => .bl (Txt.endswith a b)) := m_of2 mt_endswith fun _ _ _ => .bl _
theorem m_find : DMt X W "str.find" (m2S fun a b => .int (Txt.find a b)) := m_of2 mt_find fun _ _ _ => .int _
theorem m_scount : DMt X W "str.count" (m2S fun a b => .int (Txt.count a b)) := m_of2 mt_count fun _ _ _ => .int _
def mUpper : DRM := fun d ds M Q => match d, ds with
  | .str a, [] => a.length ≤ 5592405 ∧ Q (.str (Txt.upper a)) M
  | _, _ => False
theorem m_upper : DMt X W "str.upper" mUpper := .of mt_upper fun st H Z r M x xs d ds Q q rp rl h => by
  unfold mUpper at h
  split at h
  · cases rp
    cases rl
    exact ⟨_, rfl, rfl, h.1, EQ.val q (.str _) h.2⟩
  · exact h.elim
end
end DL

set_option maxHeartbeats 2000000
/-! DL9: instances of the program's classes. -/
namespace DL
open PySem PySem.Spec PyProof.Rows L2

/-- the class a thing is an instance of -/
def clsI (M : Mh) : D → Option Addr
  | .ins C _ => some C
  | .obj C _ => some C
  | .ref a => match M a with
    | some (.ins C _ _) => some C
    | some (.slt C _ _) => some C
    | _ => none
  | _ => none
/-- .. and the name is none of its own attributes -/
def clsM (M : Mh) (m : Str) : D → Option Addr
  | .ins C _ => some C
  | .obj C fs => match fs.lookup m with
    | none => some C
    | some _ => none
  | .ref a => match M a with
    | some (.ins C _ fs) => match fs.lookup m with
      | none => some C
      | some _ => none
    | some (.slt C _ _) => some C
    | _ => none
  | _ => none
theorem repF_lookup {K : PySem.W.Frag} {F : Hp} {f : Str} : ∀ {xs : List (Str × V)} {fs : List (Str × D)}, RepF K F xs fs → (∀ d, fs.lookup f = some d → ∃ v, xs.lookup f = some v ∧ Rep K F v d) ∧ (fs.lookup f = none → xs.lookup f = none)
  | _, _, .nil => ⟨fun d e => (nomatch e), fun _ => rfl⟩
  | _, _, .cons (k := k) (v := v) (vs := vs) (d := d) (ds := ds) h r => by
    obtain ⟨i1, i2⟩ := repF_lookup (f := f) r
    by_cases e : f = k
    · subst e
      refine ⟨fun d' q => ?_, fun q => ?_⟩
      · have : ((f, d) :: ds).lookup f = some d := by simp [List.lookup]
        rw [this] at q; cases q
        exact ⟨v, by simp [List.lookup], h⟩
      · have : ((f, d) :: ds).lookup f = some d := by simp [List.lookup]
        rw [this] at q; cases q
    · have hb : (f == k) = false := by simpa using e
      have e1 : ((k, d) :: ds).lookup f = ds.lookup f := by simp [List.lookup, hb]
      have e2 : ((k, v) :: vs).lookup f = vs.lookup f := by simp [List.lookup, hb]
      rw [e1, e2]
      exact ⟨i1, i2⟩
/-- what a class must have, whether its instances have slots or not -/
structure ICls (K : PySem.W.Frag) (C : Addr) : Prop where
  pg : PySem.W.plainGet K C Str.empty = true
  ic : PySem.W.isClsIn K C = true
theorem ICls.get {K : PySem.W.Frag} {C : Addr} (c : ICls K C) (f : Str) : PySem.W.plainGet K C f = true := c.pg
section
variable {X : Cx} {W : DWX} {pins : List (Addr × Obj)} {st : Sg} {H Z : Hp} {s : Shared} {M : Mh} {r : Rho} {v : V} {d : D} {u : Value}
theorem inst_at {C : Addr} (I : Inv X pins st H s) (m : HR X.K Z M H) (rp : Rep X.K (out Z M H) v d) (e : clsI M d = some C) : ∃ a ox od, v = .ref a ∧ PySem.W.InstAt s.heap a ox C (some od) := by
  have fIns : ∀ (a C dx : Addr) xs, H a = some (.ins C dx xs) → ∃ ox od, PySem.W.InstAt s.heap a ox C (some od) := fun a C dx xs e => by
    obtain ⟨mA, O, _⟩ := ins_get I.hok e
    obtain ⟨od, J, _⟩ := O.look
    exact ⟨_, od, J⟩
  have fSl : ∀ (a C dx : Addr) xs, H a = some (SlX.SlO a C dx xs) → H dx = some (.xd []) → ∃ ox od, PySem.W.InstAt s.heap a ox C (some od) := fun a C dx xs e e' => by
    obtain ⟨sl, od, _, J, _⟩ := SlX.slt_inst I (.inr ⟨e, e'⟩)
    exact ⟨_, od, J⟩
  cases rp with
  | ins h r => cases e; obtain ⟨ox, od, J⟩ := fSl _ _ _ _ (out_sub _ _ _ _ _ h.1) (out_sub _ _ _ _ _ h.2); exact ⟨_, ox, od, rfl, J⟩
  | obj h r => cases e; obtain ⟨ox, od, J⟩ := fIns _ _ _ _ (out_sub _ _ _ _ _ h); exact ⟨_, ox, od, rfl, J⟩
  | ref a =>
    have e2 : (match M a with
      | some (.ins C _ _) => some C
      | some (.slt C _ _) => some C
      | _ => none) = some C := e
    split at e2
    · rename_i em; cases e2; obtain ⟨xs, q, _⟩ := m.mem _ _ em; obtain ⟨ox, od, J⟩ := fIns _ _ _ _ q; exact ⟨_, ox, od, rfl, J⟩
    · rename_i em; cases e2; obtain ⟨xs, q, q2, _⟩ := m.mem _ _ em; obtain ⟨ox, od, J⟩ := fSl _ _ _ _ q (out_sub _ _ _ _ _ q2); exact ⟨_, ox, od, rfl, J⟩
    · cases e2
  | _ => cases e
theorem meth_at {A : Around} {E : Value → Shared → Prop} {C g : Addr} {m : Str} {pl : Sem Bool} {Q : Value × List Value → Shared → Prop} (I : Inv X pins st H s) (hm : HR X.K Z M H) (rp : Rep X.K (out Z M H) v d) (rv : RelV v u) (e : clsM M m d = some C) (c : ICls X.K C) (k : Meth X.K C m g)
    (h : ∀ a, v = .ref a → u = .ref a → Q (.ref g, [.ref a]) s) : wpAny (model X.prog X.w) A (getMethod u m pl) Q E s := by
  have fIns : ∀ (a C' dx : Addr) xs (fs : List (Str × D)), v = .ref a → H a = some (.ins C' dx xs) → RepF X.K (out Z M H) xs fs → (match fs.lookup m with | none => some C' | some _ => none) = some C → wpAny (model X.prog X.w) A (getMethod u m pl) Q E s := fun a C' dx xs fs ev ea rf e => by
    subst ev
    cases (show u = Value.ref a from rv)
    split at e
    · rename_i hl
      cases e
      obtain ⟨mA, O, r, _, _, _⟩ := ins_get I.hok ea
      have hn : mA m = none := RelO.none_of (by rw [← (repF_lookup rf).2 hl]; exact r m)
      exact get_meth I.kIn O (c.get m) k.at_ k.fn hn (h a rfl rfl)
    · cases e
  have fSl : ∀ (a dx : Addr) xs, v = .ref a → H a = some (SlX.SlO a C dx xs) → H dx = some (.xd []) → wpAny (model X.prog X.w) A (getMethod u m pl) Q E s := fun a dx xs ev e e' => by
    subst ev
    cases (show u = Value.ref a from rv)
    obtain ⟨sl, od, r, J, hl⟩ := SlX.slt_inst I (.inr ⟨e, e'⟩)
    refine PySem.W.method_fn I.kIn J (PySem.W.plainGet_of (c.get m)).1 (PySem.W.plainGet_of (c.get m)).2 k.at_ (beq_iff_eq.mp k.fn) ?_ (h a rfl rfl)
    show (PySem.W.lookIn m od).map (·.isSome) = some false
    rw [hl m]
    rfl
  cases rp with
  | ins h r => cases e; exact fSl _ _ _ rfl (out_sub _ _ _ _ _ h.1) (out_sub _ _ _ _ _ h.2)
  | obj h' r => exact fIns _ _ _ _ _ rfl (out_sub _ _ _ _ _ h') r e
  | ref a =>
    have e2 : (match M a with
      | some (.ins C _ fs) => match fs.lookup m with
        | none => some C
        | some _ => none
      | some (.slt C _ _) => some C
      | _ => none) = some C := e
    split at e2
    · rename_i em; obtain ⟨xs, q, q2⟩ := hm.mem _ _ em; exact fIns _ _ _ _ _ rfl q q2 e2
    · rename_i em; cases e2; obtain ⟨xs, q, q2, _⟩ := hm.mem _ _ em; exact fSl _ _ _ rfl q (out_sub _ _ _ _ _ q2)
    · cases e2
  | _ => cases e
end

/-! ### e.f, a property -/
structure PropC (K : PySem.W.Frag) (C : Addr) (f : Str) (p g : Addr) : Prop extends ICls K C where
  at_ : PySem.W.findIn K (.ref C) f = some (some (.ref p))
  gt : PySem.W.specialIn K (.ref p) "__get__" = some (some (.builtin "property.__get__"))
  tak : PySem.W.takesIn K (.ref p) = some true
  rec_ : ∃ rest, PySem.W.recIn K p "property" = some (.ref g :: rest)
/-- one parameter -/
structure Bd1 (K : PySem.W.Frag) (fd : FuncData) (p : Str) : Prop where
  to : ∀ (s : Shared) (u : Value), K.In s.heap → BindsTo s fd ⟨[u], []⟩ [(p, u)]
theorem cx_no {P : Program} {w : World} {outer : List Env} {H : Hp} {s : Shared} {K : PySem.W.Frag} {Z F : Hp} {u : Value} {s' : Shared} (h : L2.CX P w outer H s (XQ K Z F fun _ _ _ => False) u s') : False := by
  obtain ⟨_, _, _, _, _, _, _, _, _, _, _, _, h⟩ := h
  obtain ⟨_, _, _, _, _, z⟩ := h
  exact z
def dProp (C : Addr) (sp : DSp) (te : DTE) : DTE := fun r M Q => te r M fun x M1 => clsI M1 x = some C ∧ sp [x] M1 Q fun _ _ _ => False
section
variable {X : Cx} {W : DWX} {k n : Nat} {C p g : Addr} {f m : Str} {fd : FuncData} {ps ks : List Str} {sp : DSp} {e o : Expr} {es : List Expr} {kws : List Keyword} {pos apos : Pos} {te : DTE} {t tk : DTA} {gD : List D → List D → List D}
theorem de_prop (he : DE X W e te) (hp : PropC X.K C f p g) (F : FnG X.prog X.w X.K X.mg X.base k g fd ps sp) (hr : Rm (k + 1) X.A) (hb : Bd X.K fd ps 1 [] gD) (hg : ∀ x, gD [x] [] = [x] := by intro _; rfl)
    (hab : attributeBase e f X.env (eval e X.env) = eval e X.env := by rfl) : DE X W (.Attribute e f pos) (dProp C sp te) := by
  refine ⟨fun pins s st H Z r M Q I q h => ?_⟩
  refine attr_of hab (thn (he.run pins s st H Z r M _ I q h) fun u s1 ⟨v, H1, I1, rv, d, M1, q1, rp, sm, hc, hs⟩ => ?_)
  obtain ⟨a, ox, od, rfl, J⟩ := inst_at I1 q1.hr rp hc
  cases (show u = Value.ref a from rv)
  obtain ⟨rest, hrec⟩ := hp.rec_
  have I2 := I1.tok (s1.toks + 1)
  refine PySem.W.get_bind I1.kIn J (PySem.W.plainGet_of (hp.get f)).1 (PySem.W.findObj_data hp.ic hp.at_ hp.gt hp.tak) (PySem.W.plainGet_of (hp.get f)).2 (wpAny_call (PySem.W.prop_get (s := { s1 with toks := s1.toks + 1 }) I1.kIn hrec ?_))
  obtain ⟨full, fullV, b1, b2, b3⟩ := hb.to { s1 with toks := s1.toks + 1 } [.ref a] [] [.ref a] [] [d] [] _ I2.kIn rfl rfl (.cons rfl .nil) .nil (.cons rp .nil) .nil
  rw [hg] at b3
  refine codeAny_mono (F.run X.A.in1 X.stack { s1 with toks := s1.toks + 1 } H1 Z M1 ⟨[.ref a], []⟩ full fullV [d] Q _ hr.in1 I2.env0.in1 b1 b2 q1.hr b3 hs) fun z s' hq => ?_
  cases z with
  | error er =>
    exact (cx_no hq).elim
  | ok fl =>
    cases fl with
    | ret u =>
      obtain ⟨v, H', I3, rv, d', M', q3, q4, q5, q6⟩ := I2.after hq
      show wpAny _ _ (handedOut u) _ _ _
      rw [PySem.W.handedOut_of (handed_of rv)]
      exact wpAny_pure ⟨v, H', I3, rv, d', M', q1.step q3 q5, q4, sm.trans q5, q6⟩
    | next => exact False.elim hq
    | brk => exact False.elim hq
    | cont => exact False.elim hq

/-! ### o.m(..) -/
def dMeth (W : DWX) (C : Addr) (m : Str) (sp : DSp) (n : Nat) (gD : List D → List D → List D) (te : DTE) (t : DTA) : DTE := fun r M Q => te r M fun x M1 => clsM M1 m x = some C ∧ t r M1 fun ds M2 => ds.length = n ∧ sp (gD (x :: ds) []) M2 Q fun cls fs M' => W cls fs r M'
theorem de_meth {pl : Sem Bool} (c : ICls X.K C) (hm : Meth X.K C m g) (F : FnG X.prog X.w X.K X.mg X.base k g fd ps sp) (hr : Rm k X.A) (hb : Bd X.K fd ps (n + 1) [] gD) (he : DE X W o te) (ha : DA X W (e :: es) t)
    (hst : starEach (e :: es) X.env = (false, eval e X.env) :: starEach es X.env := by rfl) (hpl : (backTo pos (starEach es X.env)).any (·.1) = false := by rfl)
    (ht : eval (.Call (.Attribute o m apos) (e :: es) [] pos) X.env = (do
      let ov ← eval o X.env
      standAt apos.atName
      let (f, first) ← holding [ov] (getMethod ov m pl)
      callWith pos f first (backTo pos (starEach (e :: es) X.env)) (backToKw pos (keywordEach [] X.env))) := by rfl) : DE X W (.Call (.Attribute o m apos) (e :: es) [] pos) (dMeth W C m sp n gD te t) := by
  refine ⟨fun pins s st H Z r M Q I q h => ?_⟩
  refine PySem.W.methodCall_KW (pl := pl) (thn (he.run pins s st H Z r M _ I q h) fun u s1 ⟨v, H1, I1, rv, d, M1, q1, rp, sm, hc, hs⟩ => ?_) ht
  refine meth_at I1 q1.hr rp rv hc c hm fun a ev eu => ?_
  subst ev; subst eu
  refine PySem.W.callWith_K (first := [.ref a]) (h₀ := X.base) I.ok.mod.kin hm.kp (thn (ha.run pos pins s1 st H1 Z r M1 _ I1 q1 hs) fun us s2 ⟨vs, H2, I2, rv2, ds, M2, q2, rps, sm2, l, h2⟩ => ⟨I2.kIn, ?_⟩) hst hpl
  exact thn (run_call (ks := []) (ws := []) (zs := []) (es := []) (us := .ref a :: us) (vs := .ref a :: vs) (ds := d :: ds) F hr hb I2 q2 (.cons rv rv2) .nil (.cons (rp.mono sm2) rps) .nil (congrArg (· + 1) l) rfl h2) fun u s3 ⟨v, H3, I3, rv3, e⟩ => ⟨v, H3, I3, rv3, e.mono (sm.trans sm2)⟩
theorem de_meth0 {pl : Sem Bool} (c : ICls X.K C) (hm : Meth X.K C m g) (F : FnG X.prog X.w X.K X.mg X.base k g fd ps sp) (hr : Rm k X.A) (hb : Bd X.K fd ps 1 [] gD) (he : DE X W o te)
    (ht : eval (.Call (.Attribute o m apos) [] [] pos) X.env = (do
      let ov ← eval o X.env
      standAt apos.atName
      let (f, first) ← holding [ov] (getMethod ov m pl)
      callWith pos f first (backTo pos (starEach [] X.env)) (backToKw pos (keywordEach [] X.env))) := by rfl) : DE X W (.Call (.Attribute o m apos) [] [] pos) (dMeth W C m sp 0 gD te dNil) := by
  refine ⟨fun pins s st H Z r M Q I q h => ?_⟩
  refine PySem.W.methodCall_KW (pl := pl) (thn (he.run pins s st H Z r M _ I q h) fun u s1 ⟨v, H1, I1, rv, d, M1, q1, rp, sm, hc, _, hs⟩ => ?_) ht
  refine meth_at I1 q1.hr rp rv hc c hm fun a ev eu => ?_
  subst ev; subst eu
  exact PySem.W.callWith_K0 (first := [.ref a]) I1.kIn hm.kp (thn (run_call (ks := []) (ws := []) (zs := []) (es := []) (us := [.ref a]) (vs := [.ref a]) (ds := [d]) F hr hb I1 q1 (.cons rv .nil) .nil (.cons rp .nil) .nil rfl rfl hs) fun u s3 ⟨v, H3, I3, rv3, e⟩ => ⟨v, H3, I3, rv3, e.mono sm⟩)

/-! ### slots and attributes, read -/
def dSlot (C : Addr) (i : Nat) (te : DTE) : DTE := fun r M Q => te r M fun x M1 => match x with
  | .ins C' ds => C' = C ∧ ∃ d, ds[i]? = some d ∧ Q d M1
  | .ref a => ∃ dx ds d, M1 a = some (.slt C dx ds) ∧ ds[i]? = some (some d) ∧ Q d M1
  | _ => False
theorem de_slot {p : Addr} {i : Nat} (c : SlX.SCls X.K C) (t : SlX.Slot1 X.K C f p i) (he : DE X W e te) (hab : attributeBase e f X.env (eval e X.env) = eval e X.env := by rfl) : DE X W (.Attribute e f pos) (dSlot C i te) := by
  refine ⟨fun pins s st H Z r M Q I q h => ?_⟩
  refine attr_of hab (thn (he.run pins s st H Z r M _ I q h) fun u s1 ⟨v, H1, I1, rv, d, M1, q1, rp, sm, hc⟩ => ?_)
  cases rp with
  | ins h1 h2 =>
    obtain ⟨rfl, d', e1, hq⟩ := hc
    obtain ⟨y, e2, ry⟩ := h2.get e1
    cases (show u = Value.ref _ from rv)
    exact SlX.getslot_ok I1 (.inr ⟨out_sub _ _ _ _ _ h1.1, out_sub _ _ _ _ _ h1.2⟩) c t (by rw [List.getElem?_map, e2]; rfl) fun w s2 I2 rw' => ⟨y, H1, I2, rw', d', M1, q1, ry, sm, hq⟩
  | ref a =>
    obtain ⟨dx, ds, d', e1, e2, hq⟩ := hc
    obtain ⟨xs, x1, x2, x3, x4⟩ := q1.hr.mem _ _ e1
    obtain ⟨y, e3, ry⟩ := x4 i d' e2
    cases (show u = Value.ref _ from rv)
    exact SlX.getslot_ok I1 (.inr ⟨x1, out_sub _ _ _ _ _ x2⟩) c t e3 fun w s2 I2 rw' => ⟨y, H1, I2, rw', d', M1, q1, ry, sm, hq⟩
  | _ => exact hc.elim
def fldOf (M : Mh) (f : Str) : D → Option (Addr × D)
  | .obj C fs => (fs.lookup f).map fun d => (C, d)
  | .ref a => match M a with
    | some (.ins C _ fs) => (fs.lookup f).map fun d => (C, d)
    | _ => none
  | _ => none
/-- an attribute of an ordinary instance of the class at C -/
structure FldC (K : PySem.W.Frag) (C : Addr) (f : Str) : Prop where
  c : Cls K C
  n : NoAttr K C f
def dFld (C : Addr) (f : Str) (te : DTE) : DTE := fun r M Q => te r M fun x M1 => ∃ d, fldOf M1 f x = some (C, d) ∧ Q d M1
theorem de_fld (c : FldC X.K C f) (he : DE X W e te) (hab : attributeBase e f X.env (eval e X.env) = eval e X.env := by rfl) : DE X W (.Attribute e f pos) (dFld C f te) := by
  refine ⟨fun pins s st H Z r M Q I q h => ?_⟩
  refine attr_of hab (thn (he.run pins s st H Z r M _ I q h) fun u s1 ⟨v, H1, I1, rv, d, M1, q1, rp, sm, d', hc, hq⟩ => ?_)
  have go : ∀ (a C' dx : Addr) xs (fs : List (Str × D)), v = .ref a → H1 a = some (.ins C' dx xs) → RepF X.K (out Z M1 H1) xs fs → (fs.lookup f).map (fun d => (C', d)) = some (C, d') →
      wpAny (model X.prog X.w) X.A (getAttr u f true) (EP X pins st (EQ (kx X W) Z st r (out Z M H) Q)) X.xe s1 := fun a C' dx xs fs ev ea rf e => by
    subst ev
    cases (show u = Value.ref a from rv)
    obtain ⟨d2, e1, e2⟩ := Option.map_eq_some_iff.mp e
    cases e2
    obtain ⟨y, e3, ry⟩ := (repF_lookup rf).1 _ e1
    exact getattr_ok I1 ea c.c c.n e3 fun w s2 I2 rw' => ⟨y, H1, I2, rw', _, M1, q1, ry, sm, hq⟩
  cases rp with
  | obj h1 h2 => exact go _ _ _ _ _ rfl (out_sub _ _ _ _ _ h1) h2 hc
  | ref a =>
    have e2 : (match M1 a with
      | some (.ins C _ fs) => (fs.lookup f).map fun d => (C, d)
      | _ => none) = some (C, d') := hc
    split at e2
    · rename_i em; obtain ⟨xs, q, q2⟩ := q1.hr.mem _ _ em; exact go _ _ _ _ _ rfl q q2 e2
    · cases e2
  | _ => cases hc

/-! ### .. and stored -/
theorem sr_mslt {k : Kt} {Z : Hp} {r : Rho} {M : Mh} {st : Sg} {H : Hp} {a : Addr} {o : HO} {mo : MO} (q : SR k Z r M st H) (e : M a ≠ none) (rl : MoR k.K (out Z M H) (upd H a o) a mo) :
    SR k Z r (mset M a mo) st (upd H a o) ∧ Same (out Z M H) (out Z (mset M a mo) (upd H a o)) := by
  refine ⟨q.mset (fun b hb => upd_ne hb) (.inr e) rl, ?_⟩
  rw [out_mset q.hr (fun b hb => upd_ne hb) (.inr e)]
  exact Same.refl _
def putD (i : Nat) (d : D) (ds : List (Option D)) : List (Option D) := (ds ++ List.replicate (i + 1 - ds.length) none).set i (some d)
theorem putD_get {i : Nat} {d : D} {ds : List (Option D)} : (putD i d ds)[i]? = some (some d) := by
  unfold putD
  exact List.getElem?_set_self (by simp only [List.length_append, List.length_replicate]; omega)
theorem putD_ne {i j : Nat} {d x : D} {ds : List (Option D)} (h : j ≠ i) (e : (putD i d ds)[j]? = some (some x)) : ds[j]? = some (some x) := by
  unfold putD at e
  rw [List.getElem?_set_ne (Ne.symm h)] at e
  by_cases hj : j < ds.length
  · rwa [List.getElem?_append_left hj] at e
  · rw [List.getElem?_append_right (by omega), List.getElem?_replicate] at e
    split at e <;> cases e
def dSetSlot (C : Addr) (i : Nat) (to tv : DTE) : DTS := fun D r M => tv r M fun y M1 => to r M1 fun x M2 => ∃ a dx ds, x = .ref a ∧ M2 a = some (.slt C dx ds) ∧ D.nx r (mset M2 a (.slt C dx (putD i y ds)))
theorem ds_slot {p : Addr} {i : Nat} {value : Expr} {pos' : Pos} {tv : DTE} (c : SlX.SCls X.K C) (t : SlX.Slot1 X.K C f p i) (ho : DE X W o te) (hv : DE X W value tv) (hs : swapsWith value (some (.Attribute o f pos')) pos.line X.env = pure false := by rfl) :
    DS X W (.Assign [.Attribute o f pos'] value pos) (dSetSlot C i te tv) := by
  refine ⟨fun pins s st H Z r M D I q h => ?_⟩
  refine plainObj_wpAny_Assign_Attribute (thn (hv.run pins s st H Z r M _ I q h) fun u s1 ⟨y, H1, I1, ry, dy, M1, q1, rpy, sm1, h1⟩ => thn (ho.run pins s1 st H1 Z r M1 _ I1 q1 h1) fun ov s2 ⟨x, H2, I2, rx, d, M2, q2, rp, sm2, a, dx, ds, ed, em, hn⟩ => ?_) hs
  subst ed
  cases rp with
  | ref =>
    cases (show ov = Value.ref a from rx)
    obtain ⟨xs, x1, x2, x3, x4⟩ := q2.hr.mem _ _ em
    have hd := out_sub _ _ _ _ _ x2
    have ne : dx ≠ a := fun z => by
      rw [z, x1] at hd
      exact SlX.slO_not (Option.some.inj hd)
    refine SlX.setslot_ok I2 (.inr ⟨x1, hd⟩) c t ry fun s3 I3 => ?_
    have eh : SlX.slH H2 a C dx (SlX.putS i y xs) = upd H2 a (SlX.SlO a C dx (SlX.putS i y xs)) := by
      funext b
      unfold SlX.slH
      by_cases h1 : b = a
      · rw [h1, upd_same, upd_same]
      · rw [upd_ne h1, upd_ne h1]
        by_cases h2 : b = dx
        · rw [h2, upd_same, hd]
        · rw [upd_ne h2]
    rw [eh] at I3
    have rpy2 := rpy.mono sm2
    obtain ⟨q3, sm3⟩ := sr_mslt (o := SlX.SlO a C dx (SlX.putS i y xs)) (mo := .slt C dx (putD i dy ds)) q2 (by rw [em]; exact fun z => nomatch z) (by
      refine ⟨_, upd_same, x2, ?_, fun j dj ej => ?_⟩
      · unfold SlX.putS putD
        rw [List.length_set, List.length_set, List.length_append, List.length_append, List.length_replicate, List.length_replicate, x3]
      · by_cases hj : j = i
        · subst hj
          rw [putD_get] at ej
          cases ej
          exact ⟨y, SlX.putS_get _ _ _, rpy2⟩
        · obtain ⟨w, e1, e2⟩ := x4 j dj (putD_ne hj ej)
          exact ⟨w, (SlX.putS_ne hj).mpr e1, e2⟩)
    exact ⟨st, _, I3, r, _, q3, (sm1.trans sm2).trans sm3, hn⟩
def putFD (f : Str) (d : D) : List (Str × D) → List (Str × D)
  | [] => [(f, d)]
  | (g, x) :: fs => if g = f then (g, d) :: fs else (g, x) :: putFD f d fs
theorem repF_put {K : PySem.W.Frag} {F : Hp} {f : Str} {y : V} {dy : D} (h : Rep K F y dy) : ∀ {xs : List (Str × V)} {fs : List (Str × D)}, RepF K F xs fs → RepF K F (putF f y xs) (putFD f dy fs)
  | _, _, .nil => .cons h .nil
  | _, _, .cons (k := k) (v := v) (vs := vs) (d := d) (ds := ds) r t => by
    unfold putF putFD
    by_cases e : k = f
    · rw [if_pos e, if_pos e]; exact .cons h t
    · rw [if_neg e, if_neg e]; exact .cons r (repF_put h t)
theorem repF_length {K : PySem.W.Frag} {F : Hp} : ∀ {xs : List (Str × V)} {fs : List (Str × D)}, RepF K F xs fs → xs.length = fs.length
  | _, _, .nil => rfl
  | _, _, .cons _ t => congrArg (· + 1) (repF_length t)
def dSetFld (C : Addr) (f : Str) (to tv : DTE) : DTS := fun D r M => tv r M fun y M1 => to r M1 fun x M2 => ∃ a dx fs, x = .ref a ∧ M2 a = some (.ins C dx fs) ∧ fs.length < 1000 ∧ D.nx r (mset M2 a (.ins C dx (putFD f y fs)))
theorem ds_fld {value : Expr} {pos' : Pos} {tv : DTE} (c : FldC X.K C f) (ho : DE X W o te) (hv : DE X W value tv) (hs : swapsWith value (some (.Attribute o f pos')) pos.line X.env = pure false := by rfl) :
    DS X W (.Assign [.Attribute o f pos'] value pos) (dSetFld C f te tv) := by
  refine ⟨fun pins s st H Z r M D I q h => ?_⟩
  refine plainObj_wpAny_Assign_Attribute (thn (hv.run pins s st H Z r M _ I q h) fun u s1 ⟨y, H1, I1, ry, dy, M1, q1, rpy, sm1, h1⟩ => thn (ho.run pins s1 st H1 Z r M1 _ I1 q1 h1) fun ov s2 ⟨x, H2, I2, rx, d, M2, q2, rp, sm2, a, dx, fs, ed, em, hl, hn⟩ => ?_) hs
  subst ed
  cases rp with
  | ref =>
    cases (show ov = Value.ref a from rx)
    obtain ⟨xs, x1, x2⟩ := q2.hr.mem _ _ em
    refine setattr_ok I2 x1 c.c c.n (by rw [repF_length x2]; exact hl) ry fun s3 I3 => ?_
    obtain ⟨q3, sm3⟩ := sr_mslt (o := .ins C dx (putF f y xs)) (mo := .ins C dx (putFD f dy fs)) q2 (by rw [em]; exact fun z => nomatch z) ⟨_, upd_same, repF_put (rpy.mono sm2) x2⟩
    exact ⟨st, _, I3, r, _, q3, (sm1.trans sm2).trans sm3, hn⟩

/-! ### C(..) -/
/-- what is made: an instance with slots that never changes from now on, or one that changes -/
def MadeQ (Q : QD) (C x dx : Addr) : QD := fun v M => v = .non ∧ ((∃ ds, M x = some (.slt C dx (ds.map some)) ∧ Q (.ins C ds) (mdel M x)) ∨ (∃ fs, M x = some (.ins C dx fs) ∧ Q (.ref x) M) ∨ ∃ fs, M x = some (.ins C dx fs) ∧ Q (.obj C fs) (mdel M x))
/-- an instance with slots, before its __init__ -/
def newS (C x dx : Addr) : MO := .slt C dx []
def newI (C x dx : Addr) : MO := .ins C dx []
def dMake (W : DWX) (C : Addr) (sp : DSp) (mk : Addr → Addr → Addr → MO) (n m : Nat) (gD : List D → List D → List D) (t tk : DTA) : DTE := fun r M Q => t r M fun ds M1 => tk r M1 fun es M2 => ds.length = n ∧ es.length = m ∧
  ∀ x dx, M2 x = none → M2 dx = none → dx ≠ x → sp (gD (.ref x :: ds) es) (mset M2 x (mk C x dx)) (MadeQ Q C x dx) (XLess fun cls fs M' => W cls fs r M')
theorem MadeQ.rq {K : PySem.W.Frag} {Z F H' : Hp} {Q : QD} {C x dx : Addr} {v : V} (h : RQ K Z F (MadeQ Q C x dx) v H') : v = .non ∧ RQ K Z F Q (.ref x) H' := by
  obtain ⟨d, M, m, rp, sm, e, h⟩ := h
  subst e
  cases rp
  refine ⟨rfl, ?_⟩
  have nz : ∀ o, M x = some o → Z x = none := fun o e => by
    cases q : Z x with
    | none => rfl
    | some u => have := (m.hid x u q).2.1; rw [e] at this; cases this
  rcases h with ⟨ds, e, h⟩ | ⟨fs, e, h⟩ | ⟨fs, e, h⟩
  · obtain ⟨xs, x1, x2, x3, x4⟩ := m.mem _ _ e
    have z := nz _ e
    refine ⟨_, mdel M x, m.less less_del, ?_, sm.trans less_del.same, h⟩
    have key : ∀ (us : List (Option V)) (es : List D), us.length = es.length → (∀ (i : Nat) d, es[i]? = some d → ∃ v, us[i]? = some (some v) ∧ Rep K (out Z M H') v d) → ∃ ws, us = ws.map some ∧ RepL K (out Z M H') ws es := by
      intro us
      induction us with
      | nil => intro es l _; cases es with
        | nil => exact ⟨[], rfl, .nil⟩
        | cons _ _ => cases l
      | cons u us ih =>
        intro es l k
        cases es with
        | nil => cases l
        | cons d es =>
          obtain ⟨w, e1, e2⟩ := k 0 d rfl
          obtain ⟨ws, e3, e4⟩ := ih es (Nat.succ.inj l) fun i d e => k (i + 1) d (by simpa using e)
          have : u = some w := by simpa using e1
          exact ⟨w :: ws, by rw [this, e3]; rfl, .cons e2 e4⟩
    obtain ⟨ws, e5, e6⟩ := key xs ds (by rw [x3, List.length_map]) fun i d e => x4 i d (by rw [List.getElem?_map, e]; rfl)
    subst e5
    exact .ins ⟨by rw [out_none z mdel_same]; exact x1, less_del.same _ _ x2⟩ (e6.mono less_del.same)
  · exact ⟨_, M, m, .ref x, sm, h⟩
  · obtain ⟨xs, x1, x2⟩ := m.mem _ _ e
    have z := nz _ e
    exact ⟨_, mdel M x, m.less less_del, .obj (by rw [out_none z mdel_same]; exact x1) (x2.mono less_del.same), sm.trans less_del.same, h⟩
theorem XLess.xq {K : PySem.W.Frag} {Z F : Hp} {E : DXK} {cls : Value} {d : Option Addr} {H' : Hp} (h : XQ K Z F (XLess E) cls d H') : XQ K Z F E cls d H' := by
  obtain ⟨fs, M', a, b, c, M2, l, e⟩ := h
  exact ⟨fs, M2, a.mono l.same, b.less l, c.trans l.same, e⟩
theorem run_mk {g : Addr} {mk : Addr → Addr → Addr → MO} {pins : List (Addr × Obj)} {s : Shared} {st : Sg} {H Z : Hp} {r : Rho} {M : Mh} {Q : QD} {us ws : List Value} {vs zs : List V} {ds es : List D} (mkc : Mk X.K C g) (F : FnG X.prog X.w X.K X.mg X.base k g fd ps sp) (hr : Rm (k + 1) X.A) (hb : Bd X.K fd ps (n + 1) ks gD)
    (hmk : mk = newS ∨ mk = newI) (I : Inv X pins st H s) (q : SR (kx X W) Z r M st H) (rv : Vals vs us) (rz : Vals zs ws) (rp : RepL X.K (out Z M H) vs ds) (rpz : RepL X.K (out Z M H) zs es) (l1 : ds.length = n) (l2 : es.length = ks.length)
    (h : ∀ x dx, M x = none → M dx = none → dx ≠ x → sp (gD (.ref x :: ds) es) (mset M x (mk C x dx)) (MadeQ Q C x dx) (XLess fun cls fs M' => W cls fs r M')) :
    wpAny (model X.prog X.w) X.A (call (.ref C) us (ks.zip ws)) (EP X pins st (EQ (kx X W) Z st r (out Z M H) Q)) X.xe s := by
  obtain ⟨dx, edx⟩ : ∃ x, x = s.heap.objs.size := ⟨_, rfl⟩
  obtain ⟨x, ex⟩ : ∃ x, x = dx + 1 := ⟨_, rfl⟩
  have hx : H x = none := I.hok.fresh (by rw [ex, edx]; exact Nat.le_succ _)
  have hdx : H dx = none := I.hok.fresh (by rw [edx]; exact Nat.le_refl _)
  have ne : dx ≠ x := by rw [ex]; exact Nat.ne_of_lt (Nat.lt_succ_self _)
  have ne' := Ne.symm ne
  have hsp := h x dx (q.hr.fresh hx).1 (q.hr.fresh hdx).1 ne
  have I1 := Inv.made (C := C) I
  rw [← edx, ← ex] at I1
  have hH : ∃ H2 : Hp, Inv X pins st H2 { s with heap := (s.heap.push PySem.W.emptyDict).push (PySem.W.instObj C dx) } ∧ HR X.K Z (mset M x (mk C x dx)) H2 ∧ Same (out Z M H) (out Z (mset M x (mk C x dx)) H2) := by
    rcases hmk with e | e
    · subst e
      have ei : (upd (upd H dx (.own x)) x (.ins C dx [])) x = some (.ins C dx []) := upd_same
      obtain ⟨od, ho, _⟩ := SlX.slt_at I1 (.inl ⟨ei, rfl⟩)
      have I2 : Inv X pins st (SlX.slH (upd (upd H dx (.own x)) x (.ins C dx [])) x C dx []) { s with heap := (s.heap.push PySem.W.emptyDict).push (PySem.W.instObj C dx), toks := s.toks } := by
        obtain ⟨_, sl, mA, e0, _⟩ := SlX.slt_at I1 (.inl ⟨ei, rfl⟩)
        exact SlX.inv_slot (s := { s with heap := (s.heap.push PySem.W.emptyDict).push (PySem.W.instObj C dx) }) (h' := (s.heap.push PySem.W.emptyDict).push (PySem.W.instObj C dx)) (t' := s.toks) I1 (.inl ⟨ei, rfl⟩) (fun _ _ _ _ z => z) (fun _ z => z) e0 (SlX.SlR.nil _)
      have eh : SlX.slH (upd (upd H dx (.own x)) x (.ins C dx [])) x C dx [] = upd (upd H dx (.xd [])) x (SlX.SlO x C dx []) := by
        funext b
        unfold SlX.slH
        by_cases h1 : b = x
        · rw [h1, upd_same, upd_same]
        · rw [upd_ne h1, upd_ne h1]
          by_cases h2 : b = dx
          · rw [h2, upd_same, upd_same]
          · rw [upd_ne h2, upd_ne h2, upd_ne h1, upd_ne h2]
      rw [eh] at I2
      have m1 := q.hr.new (o := .xd []) hdx
      have hx1 : upd H dx (.xd []) x = none := by rw [upd_ne ne']; exact hx
      refine ⟨_, I2, m1.mset (fun b hb => upd_ne hb) (.inl hx1) ⟨[], upd_same, ?_, rfl, fun i d e => by simp at e⟩, ?_⟩
      · rw [out_new q.hr hdx]; exact upd_same
      · rw [out_mset m1 (fun b hb => upd_ne hb) (.inl hx1)]
        exact same_new q.hr hdx
    · subst e
      have m1 := q.hr.new (o := .own x) hdx
      have hx1 : upd H dx (.own x) x = none := by rw [upd_ne ne']; exact hx
      refine ⟨_, I1, m1.mset (fun b hb => upd_ne hb) (.inl hx1) ⟨[], upd_same, .nil⟩, ?_⟩
      rw [out_mset m1 (fun b hb => upd_ne hb) (.inl hx1)]
      exact same_new q.hr hdx
  obtain ⟨H2, I2, m2, sm2⟩ := hH
  obtain ⟨full, fullV, b1, b2, b3⟩ := hb.to { s with heap := (s.heap.push PySem.W.emptyDict).push (PySem.W.instObj C dx) } (.ref x :: us) ws (.ref x :: vs) zs (.ref x :: ds) es _ I2.kIn (by rw [List.length_cons, ← rv.length, rp.length, l1]) (by rw [← rz.length, rpz.length]; exact l2) (.cons rfl rv) rz (.cons (.ref x) (rp.mono sm2)) (rpz.mono sm2)
  have run := F.run _ X.stack _ H2 Z (mset M x (mk C x dx)) ⟨.ref x :: us, ks.zip ws⟩ full fullV _ _ _ (hr.make C us (ks.zip ws)) (I2.env0.make C us (ks.zip ws)) b1 b2 m2 b3 hsp
  refine wpAny_call (make_map (f := g) I.kIn mkc.makes mkc.init (beq_iff_eq.mp mkc.fn) ?_)
  rw [← edx, ← ex]
  refine codeAny_mono run fun z s' hq' => ?_
  cases z with
  | error e =>
    have I2' := I2
    have q2 := q.step m2 sm2
    refine q2.tk _ _ (XE.of_call I2' (fun cls d H' z => ?_) hq')
    obtain ⟨fs, M', x1, x2, x3, x4⟩ := XLess.xq z
    exact ⟨fs, r, M', x1, q.len, fun i d e => let ⟨v, a, b⟩ := q2.sl i d e; ⟨v, a, b.mono x3⟩, x2, x3, x4⟩
  | ok fl =>
    cases fl with
    | ret u =>
      have I2' := I2
      obtain ⟨v, H', I3, rv', rq⟩ := I2'.after hq'
      obtain ⟨ev, d, M', h1, h2, h3, h4⟩ := MadeQ.rq rq
      subst ev
      exact ⟨rv', V.ref x, H', I3, rfl, d, M', q.step h1 (sm2.trans h3), h2, sm2.trans h3, h4⟩
    | next => exact False.elim hq'
    | brk => exact False.elim hq'
    | cont => exact False.elim hq'

theorem de_make {g : Addr} {mk : Addr → Addr → Addr → MO} {x : Str} {p : Pos} (mkc : Mk X.K C g) (F : FnG X.prog X.w X.K X.mg X.base k g fd ps sp) (hr : Rm (k + 1) X.A) (hg : Gl X x) (hm : X.mg x = some (.ref C)) (hb : Bd X.K fd ps (n + 1) [] gD) (hmk : mk = newS ∨ mk = newI) (ha : DA X W (e :: es) t)
    (hdb : (x == ("__debug__" : Str)) = false := by decide) (he : starEach (e :: es) X.env = (false, eval e X.env) :: starEach es X.env := by rfl) (hpl : (backTo pos (starEach es X.env)).any (·.1) = false := by rfl) :
    DE X W (.Call (.Name x p) (e :: es) [] pos) (dMake W C sp mk n 0 gD t dNil) := by
  refine ⟨fun pins s st H Z r M Q I q h => wpAny_Call_Name_kw (ld_glob I hg hm ?_ hdb)⟩
  refine PySem.W.callWith_K (h₀ := X.base) I.ok.mod.kin mkc.kp (thn (ha.run pos pins s st H Z r M _ I q h) fun us s1 ⟨vs, H1, I1, rv, ds, M1, q1, rps, sm, l1, l2, h1⟩ => ⟨I1.kIn, ?_⟩) he hpl
  exact thn (run_mk (ks := []) (ws := []) (zs := []) (es := []) mkc F hr hb hmk I1 q1 rv .nil rps .nil l1 rfl h1) fun u s2 ⟨v, H2, I2, rv2, e⟩ => ⟨v, H2, I2, rv2, e.mono sm⟩
theorem de_make0 {g : Addr} {mk : Addr → Addr → Addr → MO} {x : Str} {p : Pos} (mkc : Mk X.K C g) (F : FnG X.prog X.w X.K X.mg X.base k g fd ps sp) (hr : Rm (k + 1) X.A) (hg : Gl X x) (hm : X.mg x = some (.ref C)) (hb : Bd X.K fd ps 1 [] gD) (hmk : mk = newS ∨ mk = newI)
    (hdb : (x == ("__debug__" : Str)) = false := by decide) :
    DE X W (.Call (.Name x p) [] [] pos) (dMake W C sp mk 0 0 gD dNil dNil) := by
  refine ⟨fun pins s st H Z r M Q I q h => wpAny_Call_Name_kw (ld_glob I hg hm ?_ hdb)⟩
  obtain ⟨_, _, h1⟩ := h
  exact PySem.W.callWith_K0 I.kIn mkc.kp (run_mk (ks := []) (ws := []) (zs := []) (es := []) (us := []) (vs := []) (ds := []) mkc F hr hb hmk I q .nil .nil .nil .nil rfl rfl h1)
theorem de_makeK {g : Addr} {mk : Addr → Addr → Addr → MO} {x : Str} {p : Pos} (mkc : Mk X.K C g) (F : FnG X.prog X.w X.K X.mg X.base k g fd ps sp) (hr : Rm (k + 1) X.A) (hg : Gl X x) (hm : X.mg x = some (.ref C)) (hb : Bd X.K fd ps (n + 1) ks gD) (hmk : mk = newS ∨ mk = newI) (ha : DA X W (e :: es) t) (hkw : DK X W kws tk)
    (hall : (backToKw pos (keywordEach kws X.env)).all (·.1.isSome) = true := by rfl) (hks : (backToKw pos (keywordEach kws X.env)).filterMap (·.1) = ks := by rfl)
    (hdb : (x == ("__debug__" : Str)) = false := by decide) (he : starEach (e :: es) X.env = (false, eval e X.env) :: starEach es X.env := by rfl)
    (hpl : ((backTo pos (starEach (e :: es) X.env)).any (·.1) || (backToKw pos (keywordEach kws X.env)).any (·.1.isNone)) = false := by rfl) : DE X W (.Call (.Name x p) (e :: es) kws pos) (dMake W C sp mk n ks.length gD t tk) := by
  refine ⟨fun pins s st H Z r M Q I q h => wpAny_Call_Name_kw (ld_glob I hg hm ?_ hdb)⟩
  refine PySem.W.callWith_KW (h₀ := X.base) I.ok.mod.kin mkc.kp hall (thn (ha.run pos pins s st H Z r M _ I q h) fun us s1 ⟨vs, H1, I1, rv, ds, M1, q1, rps, sm, h1⟩ => ?_) hpl he
  refine thn (hkw.run pos pins s1 st H1 Z r M1 _ I1 q1 h1) fun ws s2 ⟨zs, H2, I2, rz, es', M2, q2, rpz, sm2, l1, l2, h2⟩ => ⟨I2.kIn, ?_⟩
  rw [hks]
  exact thn (run_mk mkc F hr hb hmk I2 q2 rv rz (rps.mono sm2) rpz l1 l2 h2) fun u s3 ⟨v, H3, I3, rv3, e⟩ => ⟨v, H3, I3, rv3, e.mono (sm.trans sm2)⟩
/-- C(k = v, ..) -/
theorem de_makeK0 {g : Addr} {mk : Addr → Addr → Addr → MO} {x : Str} {p : Pos} (mkc : Mk X.K C g) (F : FnG X.prog X.w X.K X.mg X.base k g fd ps sp) (hr : Rm (k + 1) X.A) (hg : Gl X x) (hm : X.mg x = some (.ref C)) (hb : Bd X.K fd ps 1 ks gD) (hmk : mk = newS ∨ mk = newI) (hkw : DK X W kws tk)
    (hall : (backToKw pos (keywordEach kws X.env)).all (·.1.isSome) = true := by rfl) (hks : (backToKw pos (keywordEach kws X.env)).filterMap (·.1) = ks := by rfl) (hdb : (x == ("__debug__" : Str)) = false := by decide)
    (hpl : ((backTo pos (starEach [] X.env)).any (·.1) || (backToKw pos (keywordEach kws X.env)).any (·.1.isNone)) = false := by rfl) : DE X W (.Call (.Name x p) [] kws pos) (dMake W C sp mk 0 ks.length gD dNil tk) := by
  refine ⟨fun pins s st H Z r M Q I q h => wpAny_Call_Name_kw (ld_glob I hg hm ?_ hdb)⟩
  refine PySem.W.callWith_KW0 (h₀ := X.base) I.ok.mod.kin mkc.kp hall ?_ hpl
  refine thn (hkw.run pos pins s st H Z r M _ I q h) fun ws s2 ⟨zs, H2, I2, rz, es', M2, q2, rpz, sm2, l1, l2, h2⟩ => ⟨I2.kIn, ?_⟩
  rw [hks]
  exact thn (run_mk (us := []) (vs := []) (ds := []) mkc F hr hb hmk I2 q2 .nil rz .nil rpz rfl l2 h2) fun u s3 ⟨v, H3, I3, rv3, e⟩ => ⟨v, H3, I3, rv3, e.mono sm2⟩
/-- f(k = v, ..) -/
theorem de_callK0 {g : Addr} {x : Str} {p : Pos} (F : FnG X.prog X.w X.K X.mg X.base k g fd ps sp) (hr : Rm k X.A) (hg : Gl X x) (hm : X.mg x = some (.ref g)) (hk : PySem.W.keepIn X.K (.ref g) = true) (hb : Bd X.K fd ps 0 ks gD) (hkw : DK X W kws tk)
    (hall : (backToKw pos (keywordEach kws X.env)).all (·.1.isSome) = true := by rfl) (hks : (backToKw pos (keywordEach kws X.env)).filterMap (·.1) = ks := by rfl) (hdb : (x == ("__debug__" : Str)) = false := by decide)
    (hpl : ((backTo pos (starEach [] X.env)).any (·.1) || (backToKw pos (keywordEach kws X.env)).any (·.1.isNone)) = false := by rfl) : DE X W (.Call (.Name x p) [] kws pos) (dCall W sp 0 ks.length gD dNil tk) := by
  refine ⟨fun pins s st H Z r M Q I q h => wpAny_Call_Name_kw (ld_glob I hg hm ?_ hdb)⟩
  refine PySem.W.callWith_KW0 (h₀ := X.base) I.ok.mod.kin hk hall ?_ hpl
  refine thn (hkw.run pos pins s st H Z r M _ I q h) fun ws s2 ⟨zs, H2, I2, rz, es', M2, q2, rpz, sm2, l1, l2, h2⟩ => ⟨I2.kIn, ?_⟩
  rw [hks]
  exact thn (run_call (us := []) (vs := []) (ds := []) F hr hb I2 q2 .nil rz .nil rpz rfl l2 h2) fun u s3 ⟨v, H3, I3, rv3, e⟩ => ⟨v, H3, I3, rv3, e.mono sm2⟩
end
end DL

set_option maxHeartbeats 2000000
/-! DL10: try .. except, raise. -/
namespace DL
open PySem PySem.Spec PyProof.Rows L2

/-- a clause: the class it names, the slot of its name, what its suite does (the exception's address, its class, its dict) -/
structure Cl where
  c : Value
  i : Option Nat
  t : Addr → Value → Option Addr → DTS
/-- behind the suite of 'except c as n' the name is gone -/
def goneD (i : Nat) (E : DEnds) : DEnds := ⟨fun r M => E.nx (r.set i none) M, E.rt, fun r M => E.bk (r.set i none) M, fun r M => E.ct (r.set i none) M⟩
/-- what the clauses want of an exception of the body -/
def wTry (K : PySem.W.Frag) (W : DWX) (E : DEnds) : List Cl → DWX
  | [] => W
  | cl :: l => fun cls fs r M => ∃ b, PySem.W.exmOne K cls cl.c = some b ∧ (b = true → ∀ a, match cl.i with
      | none => ∀ dx, cl.t a cls dx E r M
      | some i => fs ≠ [] ∧ ∀ dd, cl.t a cls (some dd) (goneD i E) (r.set i (some (.exc a dd fs))) M) ∧ (b = false → wTry K W E l cls fs r M)
def dTry (K : PySem.W.Frag) (W : DWX) (l : List Cl) (tb : DWX → DTS) : DTS := fun E r M => tb (wTry K W E l) E r M
/-- a suite, in the context of its clause -/
def SuiteD (X : Cx) (suite : List Stmt) (t : Addr → Value → Option Addr → DTS) : Prop :=
  ∀ (a : Addr) (oe : Obj) (cls : Value) (d : Option Addr) (pn : List (Addr × Obj)), Zc cls d oe → (∃ vs, oe.data = .fields vs) → DSs (X.suite a ((a, oe) :: pn)) WN suite (t a cls d)
inductive Clauses (X : Cx) : List ExceptHandler → List Cl → Prop
  | nil : Clauses X [] []
  | bare {x : Str} {c : Value} {t : Addr → Value → Option Addr → DTS} {b0 : Stmt} {sui : List Stmt} {p1 p2 : Pos} {hds : List ExceptHandler} {l : List Cl} (hc : Names X x c) (hs : SuiteD X (b0 :: sui) t) (rest : Clauses X hds l) :
      Clauses X (.ExceptHandler (some (.Name x p1)) none (b0 :: sui) p2 :: hds) (⟨c, none, t⟩ :: l)
  | name {x n : Str} {i : Nat} {c : Value} {t : Addr → Value → Option Addr → DTS} {b0 : Stmt} {sui : List Stmt} {p1 p2 : Pos} {hds : List ExceptHandler} {l : List Cl} (hc : Names X x c) (hi : X.N[i]? = some n) (hl : X.env.kindOf n = some .local)
      (hs : SuiteD X (b0 :: sui) t) (rest : Clauses X hds l) : Clauses X (.ExceptHandler (some (.Name x p1)) (some n) (b0 :: sui) p2 :: hds) (⟨c, some i, t⟩ :: l)
/-- a suite's end, seen from the try -/
theorem suite_nq {X : Cx} {A : Around} {cm : Bool} {pn : List (Addr × Obj)} {xe : Value → Shared → Prop} {W : DWX} {Z F F1 : Hp} (sm : Same F F1) (tk : Takes X (XW X.K Z F1 W)) {Q : Rho → Mh → Prop} {st : Sg} {H : Hp} (h : NQ (kx { X with A := A, calm := cm, pn := pn, xe := xe } WN) Z F1 Q st H) : NQ (kx X W) Z F Q st H := by
  obtain ⟨r, M, q, s, z⟩ := h
  exact ⟨r, M, ⟨q.len, q.sl, q.hr, (kx X W).mono _ _ _ s tk⟩, sm.trans s, z⟩
section
variable {X : Cx} {W : DWX} {pins : List (Addr × Obj)} {st : Sg} {H Z : Hp} {r : Rho} {M : Mh} {E : DEnds} {F0 : Hp}
/-- the clauses look at an exception that has landed -/
theorem clauses_ok {B : Heap} {sI s : Shared} {s2 : Sg} {H2 : Hp} {a : Addr} {cls : Value} {d : Option Addr} {fs : List (Str × D)} {r2 : Rho} {M2 : Mh} (ok : X.Ok) (hN : X.N.Nodup) (hst : X.stack = X.env :: X.outer) (hf : X.env.frame = some X.env.locals)
    (tk : Takes X (XW X.K Z F0 W)) (J : Inv X pins s2 H2 sI) (nb : ∀ b o, sI.heap.get? b = some o → b ∉ frs X.stack → B.get? b = some o) (up : sI.heap.UpToSlots s.heap) (fl : HandSPX.FlyingZ B (X.env :: X.outer) a (Zc cls d) s.heap) (na : H2 a = none) (os : s.os = sI.os) (ag : AllBare s.gens)
    (ex : ExF X.K (out Z M2 H2) d fs) (ql : r2.length = s2.length) (qs : ∀ (i : Nat) d, r2[i]? = some (some d) → ∃ v, s2[i]? = some (some v) ∧ Rep X.K (out Z M2 H2) v d) (qm : HR X.K Z M2 H2) (sm : Same F0 (out Z M2 H2)) :
    ∀ {hds : List ExceptHandler} {l : List Cl}, Clauses X hds l → wTry X.K W E l cls fs r2 M2 → wpAny (model X.prog X.w) X.A (handleBy (.ref a) X.env hds) (SP X pins (SQ (kx X W) Z F0 E)) X.xe s := by
  have Js : Inv X pins s2 H2 s := J.landed nb fl.1 up os ag
  obtain ⟨oe, vs, he, hz, hd⟩ := fl.there
  have nfr : a ∉ frs (X.env :: X.outer) := fun hm => by
    obtain ⟨_, o', e', hnf⟩ := fl.2.2.1.mem hm
    rw [he] at e'
    exact hnf vs (by rw [← Option.some.inj e']; exact hd)
  have nL : a ≠ X.env.locals := fun z => nfr (List.mem_filterMap.mpr ⟨X.env, List.mem_cons_self, by rw [hf, z]⟩)
  have nF : a ∉ X.fs := fun hm => by
    obtain ⟨e, hq, q⟩ := List.mem_filterMap.mp hm
    exact nfr (List.mem_filterMap.mpr ⟨e, List.mem_cons_of_mem _ hq, q⟩)
  have S : Inv (X.suite a ((a, oe) :: (X.pn ++ pins))) [] s2 H2 s := Js.suite he hd na nL nF
  have tk2 : Takes X (XW X.K Z (out Z M2 H2) W) := (kx X W).mono Z F0 _ sm tk
  have looks : ∀ {c : Value} {b : Bool}, PySem.W.exmOne X.K cls c = some b → ∀ {Q : Bool → Shared → Prop} {E1 : Value → Shared → Prop} {A : Around}, Q b s → wpAny (model X.prog X.w) A (excMatches (.ref a) c) Q E1 s := fun {c b} hb {Q E1 A} q =>
    (PySem.W.exm_one (M := model X.prog X.w) (h := s.heap) Js.kIn (fun A Q E s' k q => wpAny_typeOf_ref (k _ _ he) (by rw [hz.1]; exact q)) hb).here q
  have name : ∀ {x : Str} {c : Value} {p : Pos} {Q : Value → Shared → Prop} {E1 : Value → Shared → Prop}, Names X x c → Q c s → wpAny (model X.prog X.w) (X.A.mark (some (.ref a))) (eval (.Name x p) X.env) Q E1 s := fun {x c p Q E1} hc q => by
    obtain ⟨hg, hdb, hm | ⟨hm, hv, hn⟩⟩ := hc
    · exact ld_glob (X := X.suite a ((a, oe) :: (X.pn ++ pins))) S hg hm q hdb
    · exact ld_blt (X := X.suite a ((a, oe) :: (X.pn ++ pins))) S hg hm hv q hn hdb
  intro hds l hc
  induction hc with
  | nil =>
    intro w
    refine wpAny_handleBy_nil ?_
    obtain ⟨k1, k2, k3, o1, v1, T, oT, ts, e1, z1, d1, t1, rest⟩ := id fl
    unfold PySem.passOn
    refine wpAny_bind (wpAny_field e1 d1 t1 ?_)
    rw [if_neg (fun z => by simp at z)]
    have fin : wpAny (model X.prog X.w) X.A (setFlight (.ref a) X.env.frame) (fun _ s4 => wpAny (model X.prog X.w) X.A (throw (.ref a) : Sem Flow) (SP X pins (SQ (kx X W) Z F0 E)) X.xe s4) X.xe s := by
      rw [hf]
      exact HandSPX.setFlight_upZ fl fun h4 hh up4 => wpAny_throw (tk2 _ _ ⟨a, B, sI, pins, s2, H2, cls, d, rfl, J, nb, up.trans up4, .inr (.inr (by rw [hst]; exact hh)), na, os, ag, fs, r2, M2, ex, ql, qs, qm, Same.refl _, w⟩)
    first
      | exact wpAny_bind fin
      | exact wpAny_bind (wpAny_pure (wpAny_bind fin))
  | @bare x c t b0 sui p1 p2 hds l hc hs rest ih =>
    intro w
    obtain ⟨b, hb, yes, no⟩ := w
    refine wpAny_handleBy_cons (codeAny_handlers_test (name hc (looks hb ?_))) (fun q => nomatch q)
    cases b with
    | false => exact ih (no rfl)
    | true =>
      refine codeAny_handlers_suite (HandSPX.lands_againZ fl fun h4 fl4 up4 => ?_)
      have J4 : Inv X pins s2 H2 { s with heap := h4 } := J.landed nb fl4.1 (up.trans up4) os ag
      obtain ⟨oe4, vs4, he4, hz4, hd4⟩ := fl4.there
      have hw := yes rfl a d
      have q0 : SR (kx (X.suite a ((a, oe4) :: (X.pn ++ pins))) WN) Z r2 M2 s2 H2 := ⟨ql, qs, qm, takesN⟩
      refine wpAny_mono ((hs a oe4 cls d (X.pn ++ pins) hz4 ⟨_, hd4⟩).run [] _ s2 H2 Z r2 M2 E (J4.suite he4 hd4 na nL nF) q0 hw) (fun f s6 h6 => ?_) (fun _ _ z => z.elim)
      cases f with
      | next => obtain ⟨a6, b6, I6, z6⟩ := h6; exact ⟨a6, b6, I6.unsuite ok, suite_nq sm tk2 z6⟩
      | brk => obtain ⟨a6, b6, I6, z6⟩ := h6; exact ⟨a6, b6, I6.unsuite ok, suite_nq sm tk2 z6⟩
      | cont => obtain ⟨a6, b6, I6, z6⟩ := h6; exact ⟨a6, b6, I6.unsuite ok, suite_nq sm tk2 z6⟩
      | ret u => obtain ⟨v6, a6, b6, I6, rv, z6⟩ := h6; exact ⟨v6, a6, b6, I6.unsuite ok, rv, z6.mono sm⟩
  | @name x n i c t b0 sui p1 p2 hds l hc hi hl hs rest ih =>
    intro w
    obtain ⟨b, hb, yes, no⟩ := w
    refine wpAny_handleBy_cons (codeAny_handlers_test (name hc (looks hb ?_))) (fun q => nomatch q)
    cases b with
    | false => exact ih (no rfl)
    | true =>
      refine codeAny_handlers_suite_as (HandSPX.lands_againZ fl fun h4 fl4 up4 => ?_)
      have J4 : Inv X pins s2 H2 { s with heap := h4 } := J.landed nb fl4.1 (up.trans up4) os ag
      obtain ⟨oe4, vs4, he4, hz4, hd4⟩ := fl4.there
      obtain ⟨hne, hw⟩ := (show fs ≠ [] ∧ ∀ dd, t a cls (some dd) (goneD i E) (r2.set i (some (.exc a dd fs))) M2 from yes rfl a)
      rcases ex with ⟨_, e0⟩ | ⟨dd, fv, ed, hdd, rf⟩
      · exact absurd e0 hne
      · subst ed
        have q0 : SR (kx (X.suite a ((a, oe4) :: (X.pn ++ pins))) WN) Z r2 M2 s2 H2 := ⟨ql, qs, qm, takesN⟩
        refine store_ok (X := X.suite a ((a, oe4) :: (X.pn ++ pins))) (v := .ref a) (J4.suite he4 hd4 na nL nF) hN hi (.inl hl) rfl (fun s5 S5 => ?_) (.inr hl)
        refine wpAny_mono ((hs a oe4 cls (some dd) (X.pn ++ pins) hz4 ⟨_, hd4⟩).run [] s5 _ H2 Z _ M2 (goneD i E) S5 (q0.set (.exc hdd rf) i) (hw dd)) (fun f s6 h6 => ?_) (fun _ _ z => z.elim)
        have away : ∀ {s6' : Sg} {H6 : Hp} {Q : Shared → Prop}, Inv (X.suite a ((a, oe4) :: (X.pn ++ pins))) [] s6' H6 s6 → (∀ s7, Inv X pins (s6'.set i none) H6 s7 → Q s7) →
            wpAny (model X.prog X.w) X.A (do bindName X.env n .none; unbindBehindTheSuite X.env n p2) (fun _ s7 => Q s7) X.xe s6 := fun {s6' H6 Q} I6 hq => gone_ok (I6.unsuite ok) hN hi hl hq
        have goneN : ∀ {Q : Rho → Mh → Prop} {a6 : Sg} {b6 : Hp}, NQ (kx (X.suite a ((a, oe4) :: (X.pn ++ pins))) WN) Z (out Z M2 H2) (fun r M => Q (r.set i none) M) a6 b6 → NQ (kx X W) Z F0 Q (a6.set i none) b6 := fun {Q a6 b6} z => by
          obtain ⟨r6, M6, q6, sm6, z6⟩ := suite_nq (X := X) (W := W) sm tk2 z
          exact ⟨_, M6, set_none_sr q6 i, sm6, z6⟩
        cases f with
        | next => obtain ⟨a6, b6, I6, z6⟩ := h6; exact away I6 fun s7 I7 => ⟨_, _, I7, goneN z6⟩
        | brk => obtain ⟨a6, b6, I6, z6⟩ := h6; exact away I6 fun s7 I7 => ⟨_, _, I7, goneN z6⟩
        | cont => obtain ⟨a6, b6, I6, z6⟩ := h6; exact away I6 fun s7 I7 => ⟨_, _, I7, goneN z6⟩
        | ret u => obtain ⟨v6, a6, b6, I6, rv, z6⟩ := h6; exact away I6 fun s7 I7 => ⟨v6, _, _, I7, rv, z6.mono sm⟩

variable {body : List Stmt} {h0 : ExceptHandler} {hds : List ExceptHandler} {l : List Cl} {tb : DWX → DTS} {pos : Pos}
theorem ds_try (hst : X.stack = X.env :: X.outer) (hf : X.env.frame = some X.env.locals) (hN : X.N.Nodup) (hc : Clauses X (h0 :: hds) l)
    (hb : ∀ (W2 : DWX) (pn : List (Addr × Obj)) (xe : Value → Shared → Prop), PassesOwn (model X.prog X.w) X.A X.env xe → DSs (X.tr pn xe) W2 body (tb W2)) :
    DS X W (.Try body (h0 :: hds) [] [] pos) (dTry X.K W l tb) := by
  refine ⟨fun pins s st H Z r M E I q h => ?_⟩
  have ok := I.ok
  have hfr : X.A.frames = some (X.env :: X.outer) := by rw [ok.frames, hst]
  refine wpAny_Try_except ?_
  let xe' : Value → Shared → Prop := fun e s1 => wpAny (model X.prog X.w) X.A (noteFrame e X.env) (fun _ s2 => wpAny (model X.prog X.w) X.A (setFlight e none) (fun _ s3 =>
    wpAny (model X.prog X.w) X.A (handleBy e X.env (h0 :: hds)) (SP X pins (SQ (kx X W) Z (out Z M H) E)) X.xe s3) X.xe s2) X.xe s1
  have tk2 : Takes (X.tr (X.pn ++ pins) xe') (XW X.K Z (out Z M H) (wTry X.K W E l)) := fun u s' xx => by
    obtain ⟨a, B, sI, pins', s2, H2, cls, d, rfl, J', nb, up, sky, na, os, ag, fs, r2, M2, ex, ql, qs, qm, sm, w⟩ := xx
    have J : Inv X pins s2 H2 sI := J'.ofTry ok
    have sky2 : Sky B (X.env :: X.outer) a (Zc cls d) X.env.locals s'.heap := hst ▸ sky
    show wpAny (model X.prog X.w) X.A (noteFrame (.ref a) X.env) _ _ _
    exact Sky.land Zc.steady hfr hf sky2 fun h3 fl up3 => clauses_ok (s := { s' with heap := h3 }) ok hN hst hf q.tk J nb (up.trans up3) fl na os ag ex ql qs qm sm hc w
  have q2 : SR (kx (X.tr (X.pn ++ pins) xe') (wTry X.K W E l)) Z r M st H := ⟨q.len, q.sl, q.hr, tk2⟩
  have back : ∀ {Q : Rho → Mh → Prop} {a : Sg} {b : Hp}, NQ (kx (X.tr (X.pn ++ pins) xe') (wTry X.K W E l)) Z (out Z M H) Q a b → NQ (kx X W) Z (out Z M H) Q a b := fun {Q a b} z => by
    obtain ⟨r6, M6, q6, sm6, z6⟩ := z
    exact ⟨r6, M6, ⟨q6.len, q6.sl, q6.hr, (kx X W).mono _ _ _ sm6 q.tk⟩, sm6, z6⟩
  refine wpAny_mono ((hb (wTry X.K W E l) (X.pn ++ pins) xe' PassesOwn.looking).run [] s st H Z r M E (I.toTry _) q2 h) (fun f s1 h1 => ?_) (fun e s1 he => he)
  cases f with
  | next => obtain ⟨a, b, J, z⟩ := h1; exact wpAny_execs_nil ⟨a, b, J.ofTry ok, back z⟩
  | brk => obtain ⟨a, b, J, z⟩ := h1; exact ⟨a, b, J.ofTry ok, back z⟩
  | cont => obtain ⟨a, b, J, z⟩ := h1; exact ⟨a, b, J.ofTry ok, back z⟩
  | ret u => obtain ⟨v, a, b, J, rv, z⟩ := h1; exact ⟨v, a, b, J.ofTry ok, rv, z⟩
end
/-! ### e.f of a caught exception -/
def dXf (a C : Addr) (cls : Value) (d : Option Addr) (f : Str) (te : DTE) : DTE := fun r M Q => te r M fun x M1 => cls = .ref C ∧ ∃ dd fs y, d = some dd ∧ x = .exc a dd fs ∧ fs.lookup f = some y ∧ Q y M1
theorem de_xf {X : Cx} {a C : Addr} {oe : Obj} {cls : Value} {d : Option Addr} {pn : List (Addr × Obj)} {e : Expr} {te : DTE} {pos : Pos} {n : Str} (T : XfC X.K C) (hno : PySem.W.findIn X.K (.ref C) n = some none)
    (hz : Zc cls d oe) (hf : ∃ vs, oe.data = .fields vs) (he : DE (X.suite a ((a, oe) :: pn)) WN e te) (hb : attributeBase e n X.env (eval e X.env) = eval e X.env := by rfl) :
    DE (X.suite a ((a, oe) :: pn)) WN (.Attribute e n pos) (dXf a C cls d n te) :=
  DE.of (pe_xf T hno hz hf he.pe hb) fun st H Z r M Q q h => ⟨Z, r, M, _, q, h, fun v H1 ⟨x, M1, q1, rp, sm, ec, dd, fs, y, ed, ex, hl, hq⟩ => by
    subst ex
    cases rp with
    | exc h1 h2 =>
      obtain ⟨w, e1, e2⟩ := (repF_lookup h2).1 y hl
      exact ⟨rfl, ec, dd, _, w, ed, out_sub _ _ _ _ _ h1, e1, y, M1, q1, e2, sm, hq⟩⟩
/-! ### raise C(e), C with one field that its __init__ stores -/
def initSp (K : PySem.W.Frag) (f : Str) : Sp := fun vs H Q _ => ∃ (a C : Addr) (y : V), vs = [.ref a, y] ∧ OexC K C ∧ PySem.W.findIn K (.ref C) f = some none ∧ H a = some (exo a C none) ∧
  ∀ dx, H dx = none → dx ≠ a → Q .non (upd (upd H dx (exd dx [(f, y)])) a (exo a C (some dx)))
/-- what the written part says of such a class -/
structure Exc1 (K : PySem.W.Frag) (C fI : Addr) (f : Str) : Prop where
  T : OexC K C
  init : PySem.W.findIn K (.ref C) "__init__" = some (some (.ref fI))
  fn : PySem.W.typeIn K (.ref fI) = some (.type "function")
  no : PySem.W.findIn K (.ref C) f = some none
theorem exc_init {CX : CXT} {P : Program} {w : World} {K : PySem.W.Frag} {mg : Str → Option Value} {base : Heap} {fI : Addr} {x qual f y : Str} {params : Arguments} {body : List Stmt} {scope : Scope} {fd : FuncData} {p1 p2 p3 p4 : Pos}
    (F : FunD K x qual params body scope [] [] fI fd) (S : FnScope ["self", y] ["self", y] scope) (hb : body = [.Assign [.Attribute (.Name "self" p1) f p2] (.Name y p3) p4]) (hd : (y == ("__debug__" : Str)) = false) (hcd : (y == ("__classdict__" : Str)) = false) : FnOk P w K mg base CX 1 fI fd ["self", y] (initSp K f) := by
  have v0 : Vis scope "self" := (S.par "self" (List.Mem.head _)).elim (fun z => .inl z) (fun z => .inr (.inl z))
  have v1 : Vis scope y := (S.par y (List.Mem.tail _ (List.Mem.head _))).elim (fun z => .inl z) (fun z => .inr (.inl z))
  subst hb
  refine F.ok S (fun vs H Q E ⟨a, C, y, e, _⟩ => by rw [e]; rfl) (fun cdv A outer s H vs Q E hr h => ?_)
  obtain ⟨a, C, z, e, T, no, ea, q⟩ := h
  subst e
  refine ⟨_, pss_one (ps_ost (pe_var (i := 0) rfl v0) (pe_var (i := 1) rfl v1 hd hcd)), ?_⟩
  exact ⟨z, rfl, .ref a, rfl, a, C, rfl, T, no, .inl ⟨ea, fun dx n ne => q dx n ne⟩⟩
def dRaise (W : DWX) (C : Addr) (f : Str) (ta : DTA) : DTS := fun E r M => ta r M fun ds M1 => ∃ y, ds = [y] ∧ W (.ref C) [(f, y)] r M1
theorem ds_raise {X : Cx} {W : DWX} {x f y : Str} {C fI : Addr} {fd : FuncData} {e : Expr} {ta : DTA} {p p5 p6 : Pos} (hc : X.calm = true) (T : Exc1 X.K C fI f) (F1 : FnOk X.prog X.w X.K X.mg X.base (fun _ _ _ _ _ _ => False) 1 fI fd ["self", y] (initSp X.K f)) (hr : Rm 2 X.A)
    (hb : ∀ us : List Value, us.length = 2 → bindArgs fd ⟨us, []⟩ = pure ((["self", y] : List Str).zip us)) (hg : Gl X x) (hm : X.mg x = some (.ref C)) (ha : DA X W [e] ta)
    (hdb : (x == ("__debug__" : Str)) = false := by decide) (he : starEach [e] X.env = (false, eval e X.env) :: starEach [] X.env := by rfl) : DS X W (.Raise (some (.Call (.Name x p) [e] [] p5)) none p6) (dRaise W C f ta) := by
  refine ⟨fun pins s st H Z r M E I q h => ?_⟩
  refine (ps_raise (W := XW X.K Z (out Z M H) W) hc q.tk (pmk_oex (CX := fun _ _ _ _ _ _ => False) (dvs := []) T.T T.init T.fn F1 hr.room (Binds.all hb) .nil (fun _ _ _ _ _ _ _ z => z.elim) hg hm ha.pa hdb he rfl)).run pins s st H _ I ?_
  refine ⟨Z, r, M, _, q, h, fun vs H1 ⟨ds, M1, q1, rps, sm, y, ed, w⟩ => ?_⟩
  subst ed
  cases rps with
  | @cons vv _ _ _ r1 rr =>
    cases rr
    refine ⟨Nat.le_of_ble_eq_true rfl, fun a na => ?_⟩
    refine ⟨a, C, _, rfl, T.T, T.no, upd_same, fun dx nd ne => ⟨rfl, dx, [(f, vv)], upd_same, ?_, ?_, ?_⟩⟩
    · rw [upd_ne ne, upd_same]
    · rw [upd_ne ne] at nd; exact nd
    · have nd1 : H1 dx = none := by rw [upd_ne ne] at nd; exact nd
      have eh : ∀ (o1 o2 o3 o4 : HO), upd (del (upd (upd (upd H1 a o1) dx o2) a o3) a) dx o4 = upd H1 dx o4 := fun o1 o2 o3 o4 => by
        funext b
        by_cases h1 : b = dx
        · rw [h1, upd_same, upd_same]
        · rw [upd_ne h1, upd_ne h1]
          by_cases h2 : b = a
          · rw [h2, del_same, na]
          · rw [del_ne h2, upd_ne h2, upd_ne h1, upd_ne h2]
      rw [eh]
      have m1 := q1.hr.new (o := .xd [(f, vv)]) nd1
      have sm1 := same_new (o := .xd [(f, vv)]) q1.hr nd1
      exact ⟨[(f, y)], r, M1, .inr ⟨dx, _, rfl, by rw [out_new q1.hr nd1]; exact upd_same, .cons (r1.mono sm1) .nil⟩, q1.len, fun i d e => let ⟨v, h1, h2⟩ := q1.sl i d e; ⟨v, h1, h2.mono sm1⟩, m1, sm.trans sm1, w⟩

/-! ### what is never reached -/
section
variable {X : Cx} {W : DWX}
theorem de_dead {e : Expr} : DE X W e (fun _ _ _ => False) := ⟨fun _ _ _ _ _ _ _ _ _ _ h => h.elim⟩
theorem dt_dead {e : Expr} : DT X W e (fun _ _ _ => False) := ⟨fun _ _ _ _ _ _ _ _ _ _ h => h.elim⟩
theorem ds_dead {c : Stmt} : DS X W c (fun _ _ _ => False) := ⟨fun _ _ _ _ _ _ _ _ _ _ h => h.elim⟩
theorem dss_dead {c : List Stmt} : DSs X W c (fun _ _ _ => False) := ⟨fun _ _ _ _ _ _ _ _ _ _ h => h.elim⟩
end
end DL

set_option maxHeartbeats 2000000
/-! DL11: further walks, dict displays. -/
namespace DL
open PySem PySem.Spec PyProof.Rows L2

section
variable {X : Cx} {W : DWX} {K : PySem.W.Frag} {F Z : Hp} {tg e : Expr} {te : DTE}
/-! ### texts, sign by sign -/
def signsOf (x : Str) : List D := x.cps.toList.map fun c => D.str ⟨#[c]⟩
theorem itr_str (x : Str) : ItR K F (Its x) (signsOf x) where
  go := fun i Z M H q sm hi => by
    show i < x.cps.size
    unfold signsOf at hi
    simpa using hi
  stop := fun Z M H q sm => by
    show x.cps.size ≤ _
    unfold signsOf
    simp
  yld := fun i Z M H H' y q sm hi z => by
    obtain ⟨e1, c, e2, e3⟩ := z
    subst e1 e3
    refine ⟨.str ⟨#[c]⟩, ?_, q, Same.refl _, .str _⟩
    unfold signsOf
    rw [List.getElem?_map, Array.getElem?_toList, e2]
    rfl
def iStrD (te : DTE) : DTI := fun r M Q => te r M fun x M1 => match x with
  | .str z => Q (signsOf z) M1
  | _ => False
theorem di_str (h : DE X W e te) : DI X W tg e (iStrD te) := ⟨_, pi_str h.pe, fun st H Z r M Q R q ht kR => ⟨Z, r, M, _, q, ht, fun v H1 ⟨d, M1, q1, rp, sm, z⟩ => by
  dsimp only at z
  split at z
  · cases rp
    exact ⟨_, rfl, kR _ _ _ M1 q1 sm (itr_str _) z⟩
  · exact z.elim⟩⟩
/-! ### enumerate -/
def numbered (l : List D) : List D := l.zipIdx.map fun p => D.tup [.int (p.2 : Int), p.1]
theorem numbered_get (l : List D) (i : Nat) : (numbered l)[i]? = (l[i]?).map fun d => D.tup [.int (i : Int), d] := by
  unfold numbered
  rw [List.getElem?_map, List.getElem?_zipIdx]
  cases l[i]? with
  | none => rfl
  | some d => simp
theorem itr_enum {a : Addr} {xs : List V} {items : List D} (h : SqL K F a xs) (r : RepL K F xs items) : ItR K F (Ite K a) (numbered items) where
  go := fun i Z M H q sm hi => by
    have hi' : i < xs.length := by unfold numbered at hi; rw [r.length]; simpa using hi
    exact ⟨xs, xs[i], sqL_mono (sm.trans (out_sub _ _ _)) h, by simp [hi']⟩
  stop := fun Z M H q sm => ⟨xs, sqL_mono (sm.trans (out_sub _ _ _)) h, by unfold numbered; rw [r.length]; simp⟩
  yld := fun i Z M H H' x q sm hi y => by
    obtain ⟨T, x', e1, e2, e3, y⟩ := y
    subst e1 e3
    have hx := y xs (sqL_mono (sm.trans (out_sub _ _ _)) h)
    obtain ⟨d, e4, rp⟩ := r.getV hx
    refine ⟨.tup [.int (i : Int), d], by rw [numbered_get, e4]; rfl, q.new e2, same_new q e2, ?_⟩
    refine .tup (.inl (.inl ?_)) (.cons (.int _) (.cons (rp.mono (sm.trans (same_new q e2))) .nil))
    rw [out_new q e2]; exact upd_same
def iEnumD (ta : DTA) : DTI := fun r M Q => ta r M fun ds M1 => match ds with
  | [.lst xs] => Q (numbered xs) M1
  | [.scr ns] => Q (numbered (ns.map .int)) M1
  | _ => False
theorem di_enum {ta : DTA} {p pos tpos : Pos} {elts : List Expr} {kk : Nat} (hg : Gl X "enumerate") (hm : X.mg "enumerate" = none) (ha : DA X W [e] ta) (hs : starEach [e] X.env = [(false, eval e X.env)] := by rfl) :
    DI X W (.Tuple elts kk tpos) (.Call (.Name "enumerate" p) [e] [] pos) (iEnumD ta) := ⟨_, pi_enum hg hm ha.pa hs, fun st H Z r M Q R q ht kR => ⟨Z, r, M, _, q, ht, fun vs H1 ⟨ds, M1, q1, rps, sm, z⟩ => by
  dsimp only at z
  split at z
  · cases rps with
    | cons r1 rr =>
      cases rr
      cases r1 with
      | lst h1 h2 => exact ⟨_, _, rfl, .inl (.inl (out_sub _ _ _ _ _ h1)), kR _ _ _ M1 q1 sm (itr_enum (.inl (.inl h1)) h2) z⟩
  · cases rps with
    | cons r1 rr =>
      cases rr
      cases r1 with
      | scr h1 => exact ⟨_, _, rfl, sqL_mono (out_sub _ _ _) h1, kR _ _ _ M1 q1 sm (itr_enum h1 (repL_ints _)) z⟩
  · exact z.elim⟩⟩
/-! ### zip -/
def pairsD (l m : List D) : List D := (l.zip m).map fun p => D.tup [p.1, p.2]
theorem itr_zip {a b : Addr} {xs ys : List V} {l m : List D} (ha : SqL K F a xs) (hb : SqL K F b ys) (ra : RepL K F xs l) (rb : RepL K F ys m) : ItR K F (Itz K a b) (pairsD l m) where
  go := fun i Z M H q sm hi => by
    have hi' : i < min l.length m.length := by unfold pairsD at hi; simpa using hi
    have h1 : i < xs.length := by rw [ra.length]; omega
    have h2 : i < ys.length := by rw [rb.length]; omega
    exact ⟨xs, ys, xs[i], ys[i], sqL_mono (sm.trans (out_sub _ _ _)) ha, sqL_mono (sm.trans (out_sub _ _ _)) hb, by simp [h1], by simp [h2]⟩
  stop := fun Z M H q sm => ⟨xs, ys, sqL_mono (sm.trans (out_sub _ _ _)) ha, sqL_mono (sm.trans (out_sub _ _ _)) hb, by
    unfold pairsD
    rw [ra.length, rb.length, List.length_map, List.length_zip]
    omega⟩
  yld := fun i Z M H H' x q sm hi y => by
    obtain ⟨T, x1, x2, e1, e2, e3, y1, y2⟩ := y
    subst e1 e3
    obtain ⟨d1, e4, r1⟩ := ra.getV (y1 xs (sqL_mono (sm.trans (out_sub _ _ _)) ha))
    obtain ⟨d2, e5, r2⟩ := rb.getV (y2 ys (sqL_mono (sm.trans (out_sub _ _ _)) hb))
    have ss := sm.trans (same_new (o := .tup [x1, x2]) q e2)
    refine ⟨.tup [d1, d2], ?_, q.new e2, same_new q e2, .tup (.inl (.inl (by rw [out_new q e2]; exact upd_same))) (.cons (r1.mono ss) (.cons (r2.mono ss) .nil))⟩
    unfold pairsD
    have hz : (l.zip m)[i]? = some (d1, d2) := by
      rw [List.getElem?_zip_eq_some]
      exact ⟨e4, e5⟩
    rw [List.getElem?_map, hz]
    rfl
theorem itr_zipT {a b : Addr} {xs ys : List V} {l m : List D} (ha : SqT K F a xs) (hb : SqT K F b ys) (ra : RepL K F xs l) (rb : RepL K F ys m) : ItR K F (RZ.ItzT K a b) (pairsD l m) where
  go := fun i Z M H q sm hi => by
    have hi' : i < min l.length m.length := by unfold pairsD at hi; simpa using hi
    have h1 : i < xs.length := by rw [ra.length]; omega
    have h2 : i < ys.length := by rw [rb.length]; omega
    exact ⟨xs, ys, xs[i], ys[i], sqT_mono (sm.trans (out_sub _ _ _)) ha, sqT_mono (sm.trans (out_sub _ _ _)) hb, by simp [h1], by simp [h2]⟩
  stop := fun Z M H q sm => ⟨xs, ys, sqT_mono (sm.trans (out_sub _ _ _)) ha, sqT_mono (sm.trans (out_sub _ _ _)) hb, by
    unfold pairsD
    rw [ra.length, rb.length, List.length_map, List.length_zip]
    omega⟩
  yld := fun i Z M H H' x q sm hi y => by
    obtain ⟨T, x1, x2, e1, e2, e3, y1, y2⟩ := y
    subst e1 e3
    obtain ⟨d1, e4, r1⟩ := ra.getV (y1 xs (sqT_mono (sm.trans (out_sub _ _ _)) ha))
    obtain ⟨d2, e5, r2⟩ := rb.getV (y2 ys (sqT_mono (sm.trans (out_sub _ _ _)) hb))
    have ss := sm.trans (same_new (o := .tup [x1, x2]) q e2)
    refine ⟨.tup [d1, d2], ?_, q.new e2, same_new q e2, .tup (.inl (.inl (by rw [out_new q e2]; exact upd_same))) (.cons (r1.mono ss) (.cons (r2.mono ss) .nil))⟩
    unfold pairsD
    have hz : (l.zip m)[i]? = some (d1, d2) := by
      rw [List.getElem?_zip_eq_some]
      exact ⟨e4, e5⟩
    rw [List.getElem?_map, hz]
    rfl
def iZipD (ta : DTA) : DTI := fun r M Q => ta r M fun ds M1 => match ds with
  | [.lst xs, .lst ys] => Q (pairsD xs ys) M1
  | [.tup xs, .tup ys] => Q (pairsD xs ys) M1
  | _ => False
theorem di_zip {ta : DTA} {e2 : Expr} {p pos tpos : Pos} {elts : List Expr} {kk : Nat} (hg : Gl X "zip") (hm : X.mg "zip" = none) (ha : DA X W [e, e2] ta)
    (hs : starEach [e, e2] X.env = (false, eval e X.env) :: starEach [e2] X.env := by rfl) (hpl : (backTo pos (starEach [e2] X.env)).any (·.1) = false := by rfl) :
    DI X W (.Tuple elts kk tpos) (.Call (.Name "zip" p) [e, e2] [] pos) (iZipD ta) := ⟨_, RZ.pi_zipA hg hm ha.pa hs hpl, fun st H Z r M Q R q ht kR => ⟨Z, r, M, _, q, ht, fun vs H1 ⟨ds, M1, q1, rps, sm, z⟩ => by
  dsimp only at z
  split at z
  · cases rps with
    | cons r1 rr =>
      cases rr with
      | cons r2 rr =>
        cases rr
        cases r1 with
        | lst h1 h2 =>
          cases r2 with
          | lst h3 h4 => exact ⟨_, _, _, _, rfl, .inl ⟨.inl (.inl (out_sub _ _ _ _ _ h1)), .inl (.inl (out_sub _ _ _ _ _ h3)), kR _ _ _ M1 q1 sm (itr_zip (.inl (.inl h1)) (.inl (.inl h3)) h2 h4) z⟩⟩
  · cases rps with
    | cons r1 rr =>
      cases rr with
      | cons r2 rr =>
        cases rr
        cases r1 with
        | tup h1 h2 =>
          cases r2 with
          | tup h3 h4 => exact ⟨_, _, _, _, rfl, .inr ⟨sqT_mono (out_sub _ _ _) h1, sqT_mono (out_sub _ _ _) h3, kR _ _ _ M1 q1 sm (itr_zipT h1 h3 h2 h4) z⟩⟩
  · exact z.elim⟩⟩
end
/-! ### {k: v, ..} -/
def keyD : D → Option Key
  | .int i => some (.inl i)
  | .str x => some (.inr x)
  | _ => none
def dPairs : List (DTE × DTE) → Rho → Mh → (List (Key × D) → Mh → Prop) → Prop
  | [], _, M, Q => Q [] M
  | (tk, tv) :: l, r, M, Q => tk r M fun x M1 => tv r M1 fun y M2 => dPairs l r M2 fun ps M3 => ∃ k, keyD x = some k ∧ Q ((k, y) :: ps) M3
def putKD (kvs : List (Key × D)) (k : Key) (d : D) : List (Key × D) :=
  if (kvs.any fun kv => decide (kv.1 = k)) = true then kvs.map (fun kv => if kv.1 = k then (kv.1, d) else kv) else kvs ++ [(k, d)]
def mergeD (kvs more : List (Key × D)) : List (Key × D) := more.foldl (fun acc kv => putKD acc kv.1 kv.2) kvs
section
variable {K : PySem.W.Frag} {F : Hp}
theorem RepK.append : ∀ {v w : List (Key × V)} {d e : List (Key × D)}, RepK K F v d → RepK K F w e → RepK K F (v ++ w) (d ++ e)
  | _, _, _, _, .nil, s => s
  | _, _, _, _, .cons h r, s => .cons h (RepK.append r s)
theorem RepK.any {k : Key} : ∀ {v : List (Key × V)} {d : List (Key × D)}, RepK K F v d → (v.any fun kv => decide (kv.1 = k)) = (d.any fun kv => decide (kv.1 = k))
  | _, _, .nil => rfl
  | _, _, .cons h r => by rw [List.any_cons, List.any_cons, RepK.any r]
theorem RepK.mapPut {k : Key} {y : V} {dy : D} (hy : Rep K F y dy) : ∀ {v : List (Key × V)} {d : List (Key × D)}, RepK K F v d → RepK K F (v.map fun kv => if kv.1 = k then (kv.1, y) else kv) (d.map fun kv => if kv.1 = k then (kv.1, dy) else kv)
  | _, _, .nil => .nil
  | _, _, .cons (k := k') h r => by
    rw [List.map_cons, List.map_cons]
    by_cases e : k' = k
    · simp only [e, if_true]; exact .cons hy (RepK.mapPut hy r)
    · simp only [e, if_false]; exact .cons h (RepK.mapPut hy r)
theorem RepK.put {k : Key} {y : V} {dy : D} (hy : Rep K F y dy) {v : List (Key × V)} {d : List (Key × D)} (r : RepK K F v d) : RepK K F (putK v k y) (putKD d k dy) := by
  unfold putK putKD
  rw [r.any]
  split
  · exact r.mapPut hy
  · exact r.append (.cons hy .nil)
theorem RepK.merge : ∀ {more : List (Key × V)} {dm : List (Key × D)} {v : List (Key × V)} {d : List (Key × D)}, RepK K F more dm → RepK K F v d → RepK K F (mergeK v more) (mergeD d dm)
  | _, _, _, _, .nil, s => s
  | _, _, _, _, .cons (k := k) (vs := vs) (ds := ds) h r, s => (show RepK K F (mergeK (putK _ k _) vs) (mergeD (putKD _ k _) ds) from RepK.merge r (s.put h))
theorem RepK.length : ∀ {v : List (Key × V)} {d : List (Key × D)}, RepK K F v d → v.length = d.length
  | _, _, .nil => rfl
  | _, _, .cons _ r => congrArg (· + 1) (RepK.length r)
theorem keyD_rep {v : V} {d : D} {k : Key} (h : Rep K F v d) (e : keyD d = some k) : v = kV k := by
  cases h <;> cases e <;> rfl
end
theorem takes_hide {X : Cx} {W : DWX} {Z F : Hp} {p : Addr} {o : HO} (tk : Takes X (XW X.K Z F W)) (hz : Z p = none) : Takes X (XW X.K (upd Z p o) F W) :=
  Takes.imp tk fun c d st' H' ⟨fs, r, M', ex, l, qs, m, sm, w⟩ => by
    obtain ⟨z1, z2, _⟩ := m.show_ hz
    exact ⟨fs, r, M', ex.mono z2, l, fun i d e => let ⟨v, a, b⟩ := qs i d e; ⟨v, a, b.mono z2⟩, z1, sm.trans z2, w⟩
/-- the pairs' values -/
def DqP (k : Kt) (Z : Hp) (st : Sg) (r : Rho) (F : Hp) (Q : List (Key × D) → Mh → Prop) : List (V × V) → Hp → Prop := fun ps H' => ∃ kvs ds M', SR k Z r M' st H' ∧ ps = kvs.map (fun kv => (kV kv.1, kv.2)) ∧ RepK k.K (out Z M' H') kvs ds ∧ Same F (out Z M' H') ∧ Q ds M'
inductive DPs (X : Cx) (W : DWX) (pos : Pos) : List (Option Expr) → List Expr → List (DTE × DTE) → Prop
  | nil : DPs X W pos [] [] []
  | cons {k v : Expr} {ks : List (Option Expr)} {vs : List Expr} {tk tv : DTE} {trs : List (DTE × DTE)} (hk : DE X W k tk) (hv : DE X W v tv) (hr : DPs X W pos ks vs trs) : DPs X W pos (some k :: ks) (v :: vs) ((tk, tv) :: trs)
theorem DPs.pps {X : Cx} {W : DWX} {pos : Pos} {ks : List (Option Expr)} {vs : List Expr} {trs : List (DTE × DTE)} (h : DPs X W pos ks vs trs) : PPs X pos ks vs (trs.map fun p => (liftE (kx X W) p.1, liftE (kx X W) p.2)) := by
  induction h with
  | nil => exact pps_nil
  | cons hk hv _ ih => exact pps_cons hk.pe hv.pe ih
theorem pairs_lift {X : Cx} {W : DWX} {Z : Hp} {st : Sg} {r : Rho} : ∀ {trs : List (DTE × DTE)} {H : Hp} {M : Mh} {Q : List (Key × D) → Mh → Prop} {R : List (V × V) → Hp → Prop}, SR (kx X W) Z r M st H → dPairs trs r M Q → (∀ ps H', DqP (kx X W) Z st r (out Z M H) Q ps H' → R ps H') →
    tPairs (trs.map fun p => (liftE (kx X W) p.1, liftE (kx X W) p.2)) st H R
  | [], H, M, Q, R, q, h, k => k [] H ⟨[], [], M, q, rfl, .nil, Same.refl _, h⟩
  | (tk, tv) :: trs, H, M, Q, R, q, h, k => ⟨Z, r, M, _, q, h, fun x H1 ⟨dx, M1, q1, rx, sm1, h1⟩ => ⟨Z, r, M1, _, q1, h1, fun y H2 ⟨dy, M2, q2, ry, sm2, h2⟩ =>
      pairs_lift (trs := trs) q2 h2 fun ps H3 ⟨kvs, ds, M3, q3, e, rk, sm3, kk, hk, hq⟩ => k _ H3 ⟨(kk, y) :: kvs, (kk, dy) :: ds, M3, q3, by rw [keyD_rep rx hk, e]; rfl, .cons (ry.mono sm3) rk, (sm1.trans sm2).trans sm3, hq⟩⟩⟩
def dDisp (trs : List (DTE × DTE)) : DTE := fun r M Q => dPairs trs r M fun kvs M1 => kvs.length ≤ 15 ∧ Q (.dic (mergeD [] kvs)) M1
theorem de_disp {X : Cx} {W : DWX} {pos : Pos} {keys : List (Option Expr)} {values : List Expr} {trs : List (DTE × DTE)} (h : DPs X W pos keys values trs) (hall : keys.all (·.isSome) = true := by rfl) (hl : keys.length = values.length := by rfl) (h0 : keys ≠ [] := by simp)
    (h15 : keys.length ≤ 15 := by decide) : DE X W (.Dict keys values pos) (dDisp trs) := DE.of (pe_disp h.pps hall hl h0 h15) fun st H Z r M Q q hq => by
  intro p hp
  have nown : ∀ (xs : List (Key × V)) x, HO.dK xs ≠ .own x := fun _ _ e => nomatch e
  obtain ⟨z1, z2⟩ := q.hr.hide (o := .dK []) hp (nown [])
  have hzp := (q.hr.fresh hp).2
  have q0 : SR (kx X W) (upd Z p (.dK [])) r M st (upd H p (.dK [])) := ⟨q.len, fun i d e => by rw [z2]; exact q.sl i d e, z1, ?_⟩
  · refine pairs_lift q0 hq fun ps H3 ⟨kvs, ds, M3, q3, e, rk, sm3, l15, hQ⟩ => ?_
    refine ⟨(q3.hr.hid p _ upd_same).1, kvs, e, by rw [rk.length]; exact l15, ?_⟩
    obtain ⟨y1, y2⟩ := q3.hr.rehide (o' := .dK (mergeK [] kvs)) (nown _)
    obtain ⟨w1, w2, w3⟩ := y1.show_ hzp
    rw [y2] at w2
    have sm : Same (out Z M H) (out Z M3 (upd H3 p (.dK (mergeK [] kvs)))) := by
      rw [← z2]
      exact sm3.trans w2
    exact ⟨_, M3, q.step w1 sm, .dic (.inl w3) ((rk.merge .nil).mono w2), sm, hQ⟩
  · exact takes_hide (by rw [z2]; exact q.tk) hzp
theorem de_disp0 {X : Cx} {W : DWX} {pos : Pos} : DE X W (.Dict [] [] pos) (dC (.dic [])) := DE.of pe_dnewK fun st H Z r M Q q h => fun p hp => EQ.new q hp (.dic (.inl upd_same) .nil) h
end DL

set_option maxHeartbeats 2000000
/-! DL12: the pool, the law's end, the head's facts. -/
namespace DL
open PySem PySem.Spec PyProof.Rows L2

/-! ### the pool: what is drawn may be any number -/
def PoolOk (i j k : Int) : Prop := 0 ≤ i ∧ i < 2147483648 ∧ 0 ≤ j ∧ 0 ≤ k
theorem hr_swap {K : PySem.W.Frag} {Z : Hp} {M : Mh} {H : Hp} {p : Addr} {o u : MO} (m : HR K Z M H) (e : M p = some o) (h : MoR K (out Z M H) H p u) : HR K Z (mset M p u) H ∧ out Z (mset M p u) H = out Z M H := by
  have eo : out Z (mset M p u) H = out Z M H := out_mset m (fun _ _ => rfl) (.inr (by rw [e]; exact fun z => nomatch z))
  exact ⟨m.mset (fun _ _ => rfl) (.inr (by rw [e]; exact fun z => nomatch z)) h, eo⟩
theorem pool_open {K : PySem.W.Frag} {Z : Hp} {M : Mh} {H : Hp} {p : Addr} (m : HR K Z M H) (e : M p = some .pool) :
    ∃ i j k, PoolOk i j k ∧ HR K Z (mset M p (.lst [.int i, .int j, .int k])) H ∧ out Z (mset M p (.lst [.int i, .int j, .int k])) H = out Z M H := by
  obtain ⟨i, j, k, e1, h1, h2, h3, h4⟩ := m.mem _ _ e
  exact ⟨i, j, k, ⟨h1, h2, h3, h4⟩, hr_swap m e ⟨_, e1, .cons (.int i) (.cons (.int j) (.cons (.int k) .nil))⟩⟩
theorem pool_shut {K : PySem.W.Frag} {Z : Hp} {M : Mh} {H : Hp} {p : Addr} {i j k : Int} (m : HR K Z (mset M p (.lst [.int i, .int j, .int k])) H) (h : PoolOk i j k) :
    HR K Z (mset M p .pool) H ∧ out Z (mset M p .pool) H = out Z (mset M p (.lst [.int i, .int j, .int k])) H := by
  obtain ⟨xs, e1, e2⟩ := m.mem p _ mset_same
  have ex : xs = [.int i, .int j, .int k] := by
    cases e2 with
    | cons a b => cases a; cases b with
      | cons a b => cases a; cases b with
        | cons a b => cases a; cases b; rfl
  subst ex
  have q := hr_swap m mset_same (u := .pool) ⟨i, j, k, e1, h⟩
  rw [mset_mset] at q
  exact q
/-- a def that works on an open pool, seen with the pool shut -/
def OpenP (sp : DSp) : DSp := fun ds M Q E => ∃ p ds', ds = .ref p :: ds' ∧ M p = some .pool ∧ ∀ i j k, PoolOk i j k →
  sp ds (mset M p (.lst [.int i, .int j, .int k])) (fun d M' => ∃ i' j' k', PoolOk i' j' k' ∧ M' = mset M p (.lst [.int i', .int j', .int k']) ∧ Q d M) (fun _ _ _ => False)
theorem rq_imp {K : PySem.W.Frag} {Z F : Hp} {Q Q' : QD} {v : V} {H : Hp} (k : ∀ d M, HR K Z M H → Rep K (out Z M H) v d → Q d M → ∃ d' M', HR K Z M' H ∧ Rep K (out Z M' H) v d' ∧ Same (out Z M H) (out Z M' H) ∧ Q' d' M') (h : RQ K Z F Q v H) : RQ K Z F Q' v H := by
  obtain ⟨d, M, m, rp, sm, h⟩ := h
  obtain ⟨d', M', m', rp', sm', h'⟩ := k d M m rp h
  exact ⟨d', M', m', rp', sm.trans sm', h'⟩
theorem cr_imp {P : Program} {w : World} {outer : List Env} {H : Hp} {s : Shared} {Q Q' : VK} {E E' : XK} {z : Result} {s' : Shared} (k : ∀ v H', Q v H' → Q' v H') (ke : ∀ c d H', E c d H' → E' c d H') (h : CR (L2.CX P w) outer P w H s Q E z s') : CR (L2.CX P w) outer P w H s Q' E' z s' := by
  cases z with
  | error e =>
    obtain ⟨a, B, H', c, d, x1, x2, x3, x4, x5, x6, x7, x8⟩ := h
    exact ⟨a, B, H', c, d, x1, x2, x3, x4, x5, x6, x7, ke _ _ _ x8⟩
  | ok fl =>
    cases fl with
    | ret u =>
      obtain ⟨v, H', a, b, c, d, e, q⟩ := h
      exact ⟨v, H', a, b, c, d, e, k _ _ q⟩
    | next => exact h
    | brk => exact h
    | cont => exact h
theorem fng_pool {P : Program} {w : World} {K : PySem.W.Frag} {mg : Str → Option Value} {base : Heap} {k : Nat} {f : Addr} {fd : FuncData} {ps : List Str} {sp : DSp} (F : FnG P w K mg base k f fd ps sp) : FnG P w K mg base k f fd ps (OpenP sp) where
  len := fun ds M Q E ⟨p, ds', e, em, h⟩ => F.len _ _ _ _ (h 0 0 0 ⟨Int.le_refl _, by decide, Int.le_refl _, Int.le_refl _⟩)
  run := fun A outer s H Z M args us vs ds Q E hr e0 hb rv hh rp ⟨p, ds', ed, em, h⟩ => by
    obtain ⟨i, j, k, po, m1, eo⟩ := pool_open hh em
    have r := F.run A outer s H Z _ args us vs ds _ _ hr e0 hb rv m1 (by rw [eo]; exact rp) (h i j k po)
    refine codeAny_mono r fun z s' q => cr_imp (fun v H' q => ?_) (fun c d H' q => ?_) q
    · rw [eo] at q
      refine rq_imp (fun d M' m' rp' hq => ?_) q
      obtain ⟨i', j', k', po', eM, hQ⟩ := hq
      subst eM
      obtain ⟨m2, eo2⟩ := pool_shut m' po'
      rw [mset_id em] at m2 eo2
      exact ⟨d, M, m2, by rw [eo2]; exact rp', by rw [eo2]; exact Same.refl _, hQ⟩
    · obtain ⟨_, _, _, _, _, z⟩ := q
      exact z.elim
/-- a def that makes a pool -/
def NewP (sp : DSp) : DSp := fun ds M Q E => sp ds M (fun d M' => ∃ p i j k, d = .ref p ∧ M p = none ∧ PoolOk i j k ∧ M' = mset M p (.lst [.int i, .int j, .int k]) ∧ Q (.ref p) (mset M p .pool)) fun _ _ _ => False
theorem fng_newPool {P : Program} {w : World} {K : PySem.W.Frag} {mg : Str → Option Value} {base : Heap} {k : Nat} {f : Addr} {fd : FuncData} {ps : List Str} {sp : DSp} (F : FnG P w K mg base k f fd ps sp) : FnG P w K mg base k f fd ps (NewP sp) where
  len := fun ds M Q E h => F.len _ _ _ _ h
  run := fun A outer s H Z M args us vs ds Q E hr e0 hb rv hh rp h => by
    refine codeAny_mono (F.run A outer s H Z M args us vs ds _ _ hr e0 hb rv hh rp h) fun z s' q => cr_imp (fun v H' q => ?_) (fun c d H' q => ?_) q
    · refine rq_imp (fun d M' m' rp' hq => ?_) q
      obtain ⟨p, i, j, k, ed, ep, po, eM, hQ⟩ := hq
      subst ed eM
      obtain ⟨m2, eo2⟩ := pool_shut m' po
      cases rp'
      exact ⟨.ref p, _, m2, .ref p, by rw [eo2]; exact Same.refl _, hQ⟩
    · obtain ⟨_, _, _, _, _, z⟩ := q
      exact z.elim

/-! ### the law's end -/
/-- the script: at most n numbers, none of more than 2^20 bits -/
def LawSp (n : Nat) : DSp := fun ds M Q _ => ∃ ns : List Int, ds = [.scr ns] ∧ ns.length ≤ n ∧ (∀ i ∈ ns, Builtin.Int.intBits i ≤ 1048576) ∧ (∀ a, M a = none) ∧ ∀ M', Q (.bl true) M'
theorem out_empty (H : Hp) : out (fun _ => none) (fun _ => none) H = H := by
  funext b
  exact out_none rfl rfl
theorem law_end {P : Program} {w : World} {K : PySem.W.Frag} {mg mb : Str → Option Value} {k n : Nat} {fa a : Addr} {fd : FuncData} {x : Str} {s : Shared} {vs : List Value} {ns : List Int} (KX : K.In s.heap) (hns : s.heap.Ns mainGlobals mg) (hb : s.heap.Ns builtinsNs mb) (hbb : ∀ x : Str, x ≠ "__name__" → mb x = bootBuiltins x)
    (hlim : s.heap.NoLimit) (hg : s.gens = #[]) (ha : s.heap.get? a = some { cls := .type "list", data := .seq vs.toArray }) (hi : IntsAre vs ns) (hl : ns.length ≤ n) (hn : n ≤ sizeLine) (hbits : ∀ i ∈ ns, Builtin.Int.intBits i ≤ 1048576) (hr : Room k callerA)
    (F : ∀ base : Heap, K.In base → base.Ns mainGlobals mg → FnG P w K mg base k fa fd [x] (LawSp n)) (hbind : ∀ (s : Shared) (u : Value), BindsTo s fd ⟨[u], []⟩ [(x, u)]) :
    codeAny (model P w) callerA (.call (.ref fa) ⟨[.ref a], []⟩) (fun r s' => r = .ok (.ret (.bool true)) ∧ OldK s.heap s'.heap ∧ s'.os = s.os ∧ AllBare s'.gens) s := by
  have rv := vals_ints hi
  have hlz : (ns.map V.int).length ≤ sizeLine := by rw [List.length_map]; exact Nat.le_trans hl hn
  -- what is tracked: the script, where it is none of the module's own objects
  obtain ⟨H, hH⟩ : ∃ H : Hp, H = fun b => if b = a ∧ K.lookup a = none then some (.frz { cls := .type "list", data := .seq vs.toArray } (.lst (ns.map V.int))) else none := ⟨_, rfl⟩
  have at_ : ∀ {b : Addr} {u : HO}, H b = some u → b = a ∧ K.lookup a = none ∧ u = .frz { cls := .type "list", data := .seq vs.toArray } (.lst (ns.map V.int)) := fun {b u} e => by
    rw [hH] at e
    dsimp only at e
    by_cases h : b = a ∧ K.lookup a = none
    · rw [if_pos h] at e; cases e; exact ⟨h.1, h.2, rfl⟩
    · rw [if_neg h] at e; cases e
  have free : ∀ {b : Addr}, (∀ u, H b ≠ some u) → H b = none := fun {b} h => by
    cases q : H b with
    | none => rfl
    | some u => exact absurd q (h u)
  have hS : SqL K H a (ns.map V.int) := by
    cases q : K.lookup a with
    | none => exact .inl (.inr ⟨_, by rw [hH]; exact if_pos ⟨rfl, q⟩⟩)
    | some o =>
      have e := KX a o q
      rw [ha] at e
      have e2 := Option.some.inj e
      subst e2
      exact .inr ⟨_, vs.toArray, _, q, rfl, rfl, rfl, by rw [List.size_toArray, ← rv.length]; exact hlz, by simpa using rv⟩
  have hok : HOk P w H s.heap := fun b u e => by
    obtain ⟨rfl, _, rfl⟩ := at_ e
    exact ⟨ha, hlz, vs, _, rv, ha⟩
  have dic : ∀ {b : Addr} {o : Obj} {es : Array DictEntry} {ep : Nat}, s.heap.get? b = some o → o.data = .dict es ep → H b = none := fun {b o es ep} e d => free fun u q => by
    obtain ⟨rfl, _, _⟩ := at_ q
    rw [ha] at e
    have e2 := Option.some.inj e
    rw [← e2] at d
    exact nomatch d
  have ns_ : ∀ {b : Addr} {m : Str → Option Value}, s.heap.Ns b m → (hidT s.heap H).Ns b m := fun {b m} ⟨o, es, ep, e, d, r⟩ => ⟨o, es, ep, hidT_get e (dic e d), d, r⟩
  have hK : K.In (hidT s.heap H) := fun b o e => hidT_get (KX b o e) (free fun u q => by
    obtain ⟨rfl, hk, _⟩ := at_ q
    rw [hk] at e
    cases e)
  have e0 : Env0 P w K mg (hidT s.heap H) callerA [] s H :=
    ⟨rfl, ⟨hK, ns_ hns, ⟨mb, ns_ hb, hbb⟩, let ⟨mc, h1, h2⟩ := hlim; ⟨mc, ns_ h1, h2⟩⟩, fun b o e => of_hidT e, Nat.le_of_eq (hidT_size _ _), trivial, fun b hb => absurd (show b ∈ ([] : List Addr) from hb) (by simp), hok, .of_eq hg⟩
  have hh : HR K (fun _ => none) (fun _ => none) H := ⟨fun _ _ e => (nomatch e), fun _ _ e => (nomatch e)⟩
  refine codeAny_mono ((F _ hK (ns_ hns)).run callerA [] s H (fun _ => none) (fun _ => none) ⟨[.ref a], []⟩ [.ref a] [.ref a] [.scr ns] (fun d _ => d = .bl true) (fun _ _ _ => False) ⟨hr, rfl⟩ e0 (hbind s (.ref a)) (.cons rfl .nil) hh
    (by rw [out_empty]; exact .cons (.scr hS) .nil) ⟨ns, rfl, hl, hbits, fun _ => rfl, fun _ => rfl⟩) fun z s' h => ?_
  cases z with
  | error e => exact (cx_no h).elim
  | ok fl =>
    cases fl with
    | next => exact False.elim h
    | brk => exact False.elim h
    | cont => exact False.elim h
    | ret u =>
      obtain ⟨v, H', os, bare, un, hok', r', d, M', m', rp, sm, ed⟩ := h
      have ed' : d = .bl true := ed
      subst ed'
      cases rp
      cases (show u = Value.bool true from r')
      refine ⟨rfl, OldK.of_keep fun b o e => ?_, os, bare⟩
      cases q : H b with
      | none => exact un.keep b o e q (fun z => by cases (show b ∈ ([] : List Addr) from z)) (by simp)
      | some u =>
        obtain ⟨rfl, _, rfl⟩ := at_ q
        rw [ha] at e
        rw [← e]
        exact (hok' b _ (un.frzs b _ _ q)).1
/-- THE END -/
theorem walk_g {l : PySem.W.OpenLaw} {n k : Nat} {q : Program} {loose : List Str} {XP : (Str → Option Value) → Heap → Prop} {YP : World → Heap → Prop} {d : DefRec} {x : Str} (hn : l.most = some n) (hn2 : n ≤ sizeLine) (hdf : d.params.defaults = []) (hr : Room k callerA)
    (F : ∀ (w : World) (mg : Str → Option Value) (fa : Addr) (h : Heap), YP w h → h.Ns mainGlobals mg → mg d.name = some (.ref fa) → ∃ (K : PySem.W.Frag) (fd : FuncData), K.In h ∧ (∀ (s : Shared) (u : Value), BindsTo s fd ⟨[u], []⟩ [(x, u)]) ∧
      ∀ base : Heap, K.In base → base.Ns mainGlobals mg → FnG l.prog w K mg base k fa fd [x] (LawSp n)) :
    PySem.W.WalkO q loose XP YP l.row.toRowW d [] (fun f vs => PySem.call f vs) := by
  refine Att.attach_callB hn hdf fun w s₀ s₁ mg mb fa o pm cd doc a vs ns G Y ho hd hcd hmg hobj hints hlen hbits hg => ?_
  obtain ⟨K, fd, KX, hb, hF⟩ := F w mg fa _ Y G.T.g hmg
  exact law_end KX G.T.g G.T.b G.T.builtins G.T.nolimit hg hobj hints hlen hn2 hbits hr hF hb
end DL

set_option maxHeartbeats 2000000
/-! DL13: the head's facts, each a test of the written part. -/
namespace DL
open PySem PySem.Spec PyProof.Rows L2 He

abbrev Fc := PySem.W.Frag → Bool
/-! ### the hook -/
def obsF (fa : List Fc) (fn : List He5.DefA) (K : PySem.W.Frag) : AlD := ((fa.all fun f => f K) && fn.all fun d => d.ok K, fn.map fun d => He5.fnA K (d.at_ K))
def valF (fn : List He5.DefA) : AlD := (true, fn.map He5.DefA.val)
def SaysF (fa : List Fc) (fn : List He5.DefA) (K : PySem.W.Frag) : Prop := obsF fa fn K = valF fn
def asF (g : Addr → Option Obj) (n : Nat) : List Addr := asD g n ++ [cStatics, sysModules]
def obsFG (n : Nat) (fa : List Fc) (fn : List He5.DefA) (g : Addr → Option Obj) : AlD := obsF fa fn (frG g (asF g n))
def hookF (n : Nat) (fa : List Fc) (fn : List He5.DefA) : PySem.W.Hook where
  α := AlD
  obs := fun s => obsFG n fa fn s.heap.get?
  val := fun _ => valF fn
  says := fun _ h => ∃ K : PySem.W.Frag, K.In h ∧ SaysF fa fn K
  of := fun _ _ e => ⟨_, frG_in, e⟩
  keeps := fun _ _ _ ⟨K, hK, c⟩ k => ⟨K, hK.keeps k, c⟩
theorem obsFG_eq {n : Nat} {fa : List Fc} {fn : List He5.DefA} {g : Addr → Option Obj} {s : Shared} (h : ∀ a, g a = s.heap.get? a) : obsFG n fa fn g = (hookF n fa fn).obs s := by
  have e : g = s.heap.get? := funext h
  rw [e]
  rfl
section
variable {fa : List Fc} {fn : List He5.DefA} {K : PySem.W.Frag}
theorem SaysF.fact (c : SaysF fa fn K) (i : Nat) {f : Fc} (h : fa[i]? = some f := by rfl) : f K = true :=
  List.all_eq_true.mp (ba (show ((fa.all fun f => f K) && fn.all fun d => d.ok K) = true from congrArg (fun z : AlD => z.1) c)).1 f (List.mem_of_getElem? h)
theorem SaysF.def_ (c : SaysF fa fn K) (i : Nat) {d : He5.DefA} (h : fn[i]? = some d := by rfl) : ∃ fd, FunD K d.name d.qual d.params d.body d.scope (d.dvs K) (d.kws K) (d.at_ K) fd := by
  have c2 := (ba (show ((fa.all fun f => f K) && fn.all fun d => d.ok K) = true from congrArg (fun z : AlD => z.1) c)).2
  have e : (fn.map fun d => He5.fnA K (d.at_ K))[i]? = (fn.map He5.DefA.val)[i]? := congrArg (fun z : AlD => z.2[i]?) c
  rw [List.getElem?_map, List.getElem?_map, h] at e
  exact He5.DefA.funD (Option.some.inj e) (List.all_eq_true.mp c2 d (List.mem_of_getElem? h))
end
/-! ### the facts -/
def isT {α : Type} [DecidableEq α] (a b : α) : Bool := decide (a = b)
theorem isT_ok {α : Type} [DecidableEq α] {a b : α} (h : isT a b = true) : a = b := of_decide_eq_true h
section
variable {K : PySem.W.Frag} {x f m : Str} {i : Nat}
def bIcls (x : Str) : Fc := fun K => PySem.W.plainGet K (ga K x) Str.empty && PySem.W.isClsIn K (ga K x)
theorem bIcls_ok (h : bIcls x K = true) : ICls K (ga K x) := ⟨(ba h).1, (ba h).2⟩
/-- a property's getter -/
def pgA (K : PySem.W.Frag) (C : Addr) (f : Str) : Addr := match PySem.W.recIn K (ma K C f) "property" with
  | some (.ref g :: _) => g
  | _ => 0
def bProp (x f : Str) : Fc := fun K => bIcls x K && (isT (PySem.W.findIn K (.ref (ga K x)) f) (some (some (.ref (ma K (ga K x) f)))) && (isT (PySem.W.specialIn K (.ref (ma K (ga K x) f)) "__get__") (some (some (.builtin "property.__get__"))) &&
  (isT (PySem.W.takesIn K (.ref (ma K (ga K x) f))) (some true) && (match PySem.W.recIn K (ma K (ga K x) f) "property" with
    | some (.ref _ :: _) => true
    | _ => false))))
theorem bProp_ok (h : bProp x f K = true) : PropC K (ga K x) f (ma K (ga K x) f) (pgA K (ga K x) f) := by
  obtain ⟨h1, h⟩ := ba h
  obtain ⟨h2, h⟩ := ba h
  obtain ⟨h3, h⟩ := ba h
  obtain ⟨h4, h5⟩ := ba h
  refine { bIcls_ok h1 with at_ := isT_ok h2, gt := isT_ok h3, tak := isT_ok h4, rec_ := ?_ }
  unfold pgA
  split at h5
  · rename_i g r e
    exact ⟨r, by rw [e]⟩
  · cases h5
def bScls (x : Str) : Fc := fun K => PySem.W.plainGet K (ga K x) Str.empty && (PySem.W.isClsIn K (ga K x) && (PySem.W.plainOver K (ga K x) && isT (PySem.W.findIn K (.ref (ga K x)) "__setattr__") (some (some (.builtin "object.__setattr__")))))
theorem bScls_ok (h : bScls x K = true) : SlX.SCls K (ga K x) := by
  obtain ⟨h1, h⟩ := ba h
  obtain ⟨h2, h⟩ := ba h
  obtain ⟨h3, h4⟩ := ba h
  exact ⟨h1, h2, h3, isT_ok h4⟩
def bSlot (x f : Str) (i : Nat) : Fc := fun K => isT (PySem.W.findIn K (.ref (ga K x)) f) (some (some (.ref (ma K (ga K x) f)))) && (isT (PySem.W.specialIn K (.ref (ma K (ga K x) f)) "__get__") (some (some (.builtin "member_descriptor.__get__"))) &&
  (isT (PySem.W.takesIn K (.ref (ma K (ga K x) f))) (some true) && (isT (PySem.W.typeIn K (.ref (ma K (ga K x) f))) (some (.type "member_descriptor")) && (isT (PySem.W.slotIn K (ma K (ga K x) f) (ga K x)) (some i) && decide (i < 1000)))))
theorem bSlot_ok (h : bSlot x f i K = true) : SlX.Slot1 K (ga K x) f (ma K (ga K x) f) i := by
  obtain ⟨h1, h⟩ := ba h
  obtain ⟨h2, h⟩ := ba h
  obtain ⟨h3, h⟩ := ba h
  obtain ⟨h4, h⟩ := ba h
  obtain ⟨h5, h6⟩ := ba h
  exact ⟨isT_ok h1, isT_ok h2, isT_ok h3, isT_ok h4, isT_ok h5, of_decide_eq_true h6⟩
def bIsi (x : Str) : Fc := fun K => PySem.W.isClsIn K (ga K x) && (PySem.W.plainGet K (ga K x) "__class__" && (isT (PySem.W.findIn K (.ref (ga K x)) "__class__") (some (some (.builtin "object.__class__"))) && isT (PySem.W.mroIn K (ga K x) (.type "object")) (some true)))
theorem bIsi_ok (h : bIsi x K = true) : IsiC K (ga K x) := by
  obtain ⟨h1, h⟩ := ba h
  obtain ⟨h2, h⟩ := ba h
  obtain ⟨h3, h4⟩ := ba h
  exact ⟨h1, h2, isT_ok h3, isT_ok h4⟩
/-- isinstance of a thing of the built-in type T and the class x -/
def bKitT (T : String) (x : Str) (b : Bool) : Fc := fun K => isT (PySem.W.kitOne K (.type T) (.ref (ga K x))) (some b)
def bKitC (x y : Str) (b : Bool) : Fc := fun K => isT (PySem.W.kitOne K (.ref (ga K x)) (.ref (ga K y))) (some b)
def bKitX (x : Str) (T : String) (b : Bool) : Fc := fun K => isT (PySem.W.kitOne K (.ref (ga K x)) (.type T)) (some b)
theorem bKitT_ok {T : String} {b : Bool} (h : bKitT T x b K = true) : PySem.W.kitOne K (.type T) (.ref (ga K x)) = some b := isT_ok h
theorem bKitC_ok {y : Str} {b : Bool} (h : bKitC x y b K = true) : PySem.W.kitOne K (.ref (ga K x)) (.ref (ga K y)) = some b := isT_ok h
theorem bKitX_ok {T : String} {b : Bool} (h : bKitX x T b K = true) : PySem.W.kitOne K (.ref (ga K x)) (.type T) = some b := isT_ok h
def bExm (x y : Str) (b : Bool) : Fc := fun K => isT (PySem.W.exmOne K (.ref (ga K x)) (.ref (ga K y))) (some b)
theorem bExm_ok {y : Str} {b : Bool} (h : bExm x y b K = true) : PySem.W.exmOne K (.ref (ga K x)) (.ref (ga K y)) = some b := isT_ok h
/-- an own class over ValueError whose __init__ stores one field -/
def oexB (K : PySem.W.Frag) (C : Addr) : Bool := match K.lookup C with
  | some ⟨.type "type", _, .cls cd, sl⟩ => (match cd.mro, sl.toList with
    | .ref C' :: bm, [_, _, _, _, some (.builtin n), _] => decide (C' = C) && (decide (n = "ValueError.__new__") && (!cd.hasDel && (cd.hasDict && PySem.HandSPX.refsVE bm)))
    | _, _ => false)
  | _ => false
theorem oexB_ok {C : Addr} (h : oexB K C = true) : ∃ nm q N bs bm sn sub ab col dd k0 k1 k2 k3 k5, K.lookup C = some (excClassObj nm q C N bs bm true sn sub ab col dd k0 k1 k2 k3 k5 "ValueError.__new__") ∧ PySem.HandSPX.refsVE bm = true := by
  unfold oexB at h
  split at h
  · rename_i dd cd sl e
    split at h
    · rename_i C' bm k0 k1 k2 k3 n k5 hm hs
      obtain ⟨h1, h⟩ := ba h
      obtain ⟨h2, h⟩ := ba h
      obtain ⟨h3, h⟩ := ba h
      obtain ⟨h4, h5⟩ := ba h
      have e1 := of_decide_eq_true h1
      have e2 := of_decide_eq_true h2
      subst e1 e2
      obtain ⟨nm, bs, mro, N, q, hd, sn, sub, ab, col, del⟩ := cd
      dsimp only at hm h3 h4
      subst hm h4
      have e3 : del = false := by simpa using h3
      subst e3
      obtain ⟨l⟩ := sl
      dsimp only at hs
      subst hs
      exact ⟨nm, q, N, bs, bm, sn, sub, ab, col, dd, k0, k1, k2, k3, k5, e, h5⟩
    · cases h
  · cases h
def bExc (x f : Str) : Fc := fun K => oexB K (ga K x) && (isT (PySem.W.findIn K (.ref (ga K x)) "__setattr__") (some (some (.builtin "object.__setattr__"))) && (isT (PySem.W.subIn K (.ref (ga K x)) (.type "BaseException")) (some true) &&
  (isT (PySem.W.typeIn K (.ref (ga K x))) (some (.type "type")) && (PySem.W.keepIn K (.ref (ga K x)) && (isT (PySem.W.findIn K (.ref (ga K x)) "__init__") (some (some (.ref (ma K (ga K x) "__init__")))) && (isT (PySem.W.typeIn K (.ref (ma K (ga K x) "__init__"))) (some (.type "function")) &&
  (isT (PySem.W.findIn K (.ref (ga K x)) f) (some none) && xfB K (ga K x))))))))
theorem bExc_ok (h : bExc x f K = true) : Exc1 K (ga K x) (ma K (ga K x) "__init__") f ∧ XfC K (ga K x) := by
  obtain ⟨h1, h⟩ := ba h
  obtain ⟨h2, h⟩ := ba h
  obtain ⟨h3, h⟩ := ba h
  obtain ⟨h4, h⟩ := ba h
  obtain ⟨h5, h⟩ := ba h
  obtain ⟨h6, h⟩ := ba h
  obtain ⟨h7, h⟩ := ba h
  obtain ⟨h8, h9⟩ := ba h
  exact ⟨⟨⟨oexB_ok h1, isT_ok h2, isT_ok h3, isT_ok h4, h5⟩, isT_ok h6, isT_ok h7, isT_ok h8⟩, xfB_ok h9⟩
/-- the module's name x holds a tuple of these -/
def bTup (x : Str) (vs : List Dv) : Fc := fun K => He.tupB K x vs
def bSys : Fc := fun K => (K.lookup sysModules).isSome
end
end DL

set_option maxHeartbeats 2000000
/-! DL14: how defs are put together. -/
namespace DL
open PySem PySem.Spec PyProof.Rows L2

/-- a def that keeps its promise, with its function object -/
def OkF (P : Program) (w : World) (K : PySem.W.Frag) (mg : Str → Option Value) (base : Heap) (k : Nat) (d : He5.DefA) (ps : List Str) (sp : DSp) : Prop :=
  ∃ fd, FunD K d.name d.qual d.params d.body d.scope (d.dvs K) (d.kws K) (d.at_ K) fd ∧ FnG P w K mg base k (d.at_ K) fd ps sp ∧ Bd K fd ps ps.length [] (fun ds _ => ds)
/-! promises by the number of parameters -/
def sp0 (g : Mh → QD → DXK → Prop) : DSp := fun ds M Q E => ds = [] ∧ g M Q E
def sp1 (g : D → Mh → QD → DXK → Prop) : DSp := fun ds M Q E => ∃ a, ds = [a] ∧ g a M Q E
def sp2 (g : D → D → Mh → QD → DXK → Prop) : DSp := fun ds M Q E => ∃ a b, ds = [a, b] ∧ g a b M Q E
def sp3 (g : D → D → D → Mh → QD → DXK → Prop) : DSp := fun ds M Q E => ∃ a b c, ds = [a, b, c] ∧ g a b c M Q E
def sp4 (g : D → D → D → D → Mh → QD → DXK → Prop) : DSp := fun ds M Q E => ∃ a b c d, ds = [a, b, c, d] ∧ g a b c d M Q E
def sp5 (g : D → D → D → D → D → Mh → QD → DXK → Prop) : DSp := fun ds M Q E => ∃ a b c d e, ds = [a, b, c, d, e] ∧ g a b c d e M Q E
def sp6 (g : D → D → D → D → D → D → Mh → QD → DXK → Prop) : DSp := fun ds M Q E => ∃ a b c d e f, ds = [a, b, c, d, e, f] ∧ g a b c d e f M Q E
theorem sp0_len {g} {ds : List D} {M : Mh} {Q : QD} {E : DXK} (h : sp0 g ds M Q E) : ds.length = 0 := by obtain ⟨rfl, _⟩ := h; rfl
theorem sp1_len {g} {ds : List D} {M : Mh} {Q : QD} {E : DXK} (h : sp1 g ds M Q E) : ds.length = 1 := by obtain ⟨_, rfl, _⟩ := h; rfl
theorem sp2_len {g} {ds : List D} {M : Mh} {Q : QD} {E : DXK} (h : sp2 g ds M Q E) : ds.length = 2 := by obtain ⟨_, _, rfl, _⟩ := h; rfl
theorem sp3_len {g} {ds : List D} {M : Mh} {Q : QD} {E : DXK} (h : sp3 g ds M Q E) : ds.length = 3 := by obtain ⟨_, _, _, rfl, _⟩ := h; rfl
theorem sp4_len {g} {ds : List D} {M : Mh} {Q : QD} {E : DXK} (h : sp4 g ds M Q E) : ds.length = 4 := by obtain ⟨_, _, _, _, rfl, _⟩ := h; rfl
theorem sp5_len {g} {ds : List D} {M : Mh} {Q : QD} {E : DXK} (h : sp5 g ds M Q E) : ds.length = 5 := by obtain ⟨_, _, _, _, _, rfl, _⟩ := h; rfl
theorem sp6_len {g} {ds : List D} {M : Mh} {Q : QD} {E : DXK} (h : sp6 g ds M Q E) : ds.length = 6 := by obtain ⟨_, _, _, _, _, _, rfl, _⟩ := h; rfl
theorem OkF.imp {P : Program} {w : World} {K : PySem.W.Frag} {mg : Str → Option Value} {base : Heap} {k : Nat} {d : He5.DefA} {ps : List Str} {sp sp' : DSp} (F : OkF P w K mg base k d ps sp) (h : ∀ ds M Q E, sp' ds M Q E → sp ds M Q E) : OkF P w K mg base k d ps sp' := by
  obtain ⟨fd, a, b, c⟩ := F
  exact ⟨fd, a, b.imp h, c⟩
theorem OkF.pool {P : Program} {w : World} {K : PySem.W.Frag} {mg : Str → Option Value} {base : Heap} {k : Nat} {d : He5.DefA} {ps : List Str} {sp : DSp} (F : OkF P w K mg base k d ps sp) : OkF P w K mg base k d ps (OpenP sp) := by
  obtain ⟨fd, a, b, c⟩ := F
  exact ⟨fd, a, fng_pool b, c⟩
theorem OkF.newPool {P : Program} {w : World} {K : PySem.W.Frag} {mg : Str → Option Value} {base : Heap} {k : Nat} {d : He5.DefA} {ps : List Str} {sp : DSp} (F : OkF P w K mg base k d ps sp) : OkF P w K mg base k d ps (NewP sp) := by
  obtain ⟨fd, a, b, c⟩ := F
  exact ⟨fd, a, fng_newPool b, c⟩
/-- the i-th statement of a class's body -/
def inS (s : Stmt) (j : Nat) : Stmt := match s with
  | .ClassDef _ _ _ b _ _ _ _ _ _ _ => b.getD j (.Pass ⟨0, 0, 0, 0⟩)
  | _ => .Pass ⟨0, 0, 0, 0⟩
section
variable {K : PySem.W.Frag} {F : Hp}
/-- positional values and keywords' values, put in the parameters' order -/
def gP {α : Type} (pick : List (Nat ⊕ Nat)) (l m : List α) : List α := pick.filterMap fun i => match i with
  | .inl i => l[i]?
  | .inr i => m[i]?
theorem vals_gP {vs zs : List V} {us ws : List Value} (h1 : Vals vs us) (h2 : Vals zs ws) : ∀ pick : List (Nat ⊕ Nat), Vals (gP pick vs zs) (gP pick us ws)
  | [] => .nil
  | p :: r => by
    have ih := vals_gP h1 h2 r
    have one : ∀ {a : List V} {b : List Value} (i : Nat), Vals a b → (a[i]? = none ∧ b[i]? = none) ∨ ∃ x y, a[i]? = some x ∧ b[i]? = some y ∧ RelV x y := by
      intro a b i h
      induction h generalizing i with
      | nil => exact .inl ⟨by simp, by simp⟩
      | cons h t ih =>
        cases i with
        | zero => exact .inr ⟨_, _, rfl, rfl, h⟩
        | succ i => simpa using ih i
    unfold gP at ih ⊢
    rw [List.filterMap_cons, List.filterMap_cons]
    cases p with
    | inl i =>
      rcases one i h1 with ⟨e1, e2⟩ | ⟨x, y, e1, e2, h⟩
      · simp only [e1, e2]; exact ih
      · simp only [e1, e2]; exact .cons h ih
    | inr i =>
      rcases one i h2 with ⟨e1, e2⟩ | ⟨x, y, e1, e2, h⟩
      · simp only [e1, e2]; exact ih
      · simp only [e1, e2]; exact .cons h ih
theorem repL_gP {vs zs : List V} {ds es : List D} (h1 : RepL K F vs ds) (h2 : RepL K F zs es) : ∀ pick : List (Nat ⊕ Nat), RepL K F (gP pick vs zs) (gP pick ds es)
  | [] => .nil
  | p :: r => by
    have ih := repL_gP h1 h2 r
    have one : ∀ {a : List V} {b : List D} (i : Nat), RepL K F a b → (a[i]? = none ∧ b[i]? = none) ∨ ∃ x y, a[i]? = some x ∧ b[i]? = some y ∧ Rep K F x y := fun {a b} i h => by
      cases e : b[i]? with
      | none =>
        refine .inl ⟨?_, rfl⟩
        rw [List.getElem?_eq_none_iff] at e ⊢
        rw [h.length]; exact e
      | some d =>
        obtain ⟨v, e1, e2⟩ := h.get e
        exact .inr ⟨v, d, e1, rfl, e2⟩
    unfold gP at ih ⊢
    rw [List.filterMap_cons, List.filterMap_cons]
    cases p with
    | inl i =>
      rcases one i h1 with ⟨e1, e2⟩ | ⟨x, y, e1, e2, h⟩
      · simp only [e1, e2]; exact ih
      · simp only [e1, e2]; exact .cons h ih
    | inr i =>
      rcases one i h2 with ⟨e1, e2⟩ | ⟨x, y, e1, e2, h⟩
      · simp only [e1, e2]; exact ih
      · simp only [e1, e2]; exact .cons h ih
variable {x qual : Str} {params : Arguments} {body : List Stmt} {scope : Scope} {f : Addr} {fd : FuncData} {ps ks : List Str} {dvs : List V} {kws : List (Str × V)} {n : Nat}
/-- every parameter is given, some by name; no defaults -/
theorem Bd.kw (pick : List (Nat ⊕ Nat)) (F : FunD K x qual params body scope dvs kws f fd) (hd : dvs = [])
    (h : ∀ (kV doc pm : Value) (an : Option Addr) (cdv ct : Value) (us ws : List Value), us.length = n → ws.length = ks.length → bindArgs (PySem.W.fnOf x qual params body scope .none kV doc pm an cdv ct) ⟨us, ks.zip ws⟩ = pure (ps.zip (gP pick us ws))) : Bd K fd ps n ks (gP pick) := by
  obtain ⟨oc, od, dV, kV, doc, pm, an, cdv, ct, osl, rfl, lk, hcd, hD, hK⟩ := F.ex
  rcases hD with ⟨_, rfl⟩ | ⟨e, _⟩
  · exact ⟨fun s us ws vs zs ds es Fr X l1 l2 rv rz rp rpz => ⟨_, _, .of_eq (h kV doc pm an cdv ct us ws l1 l2), vals_gP rv rz pick, repL_gP rp rpz pick⟩⟩
  · exact absurd hd e
/-- .. with defaults, that are not used -/
theorem Bd.kwD (pick : List (Nat ⊕ Nat)) (F : FunD K x qual params body scope dvs kws f fd) (hd : dvs ≠ [])
    (h : ∀ (T : Addr) (kV doc pm : Value) (an : Option Addr) (cdv ct : Value) (us ws : List Value), us.length = n → ws.length = ks.length → ∃ k : Option (Array Value) → Sem (List (Str × Value)), bindArgs (PySem.W.fnOf x qual params body scope (.ref T) kV doc pm an cdv ct) ⟨us, ks.zip ws⟩ = (seqItems? (.ref T) >>= k) ∧
      ∀ its : List Value, its.length = dvs.length → k (some its.toArray) = pure (ps.zip (gP pick us ws))) : Bd K fd ps n ks (gP pick) := by
  obtain ⟨oc, od, dV, kV, doc, pm, an, cdv, ct, osl, rfl, lk, hcd, hD, hK⟩ := F.ex
  rcases hD with ⟨e, _⟩ | ⟨_, T, o, its, m, rfl, lT, oT, rT⟩
  · exact absurd e hd
  · refine ⟨fun s us ws vs zs ds es Fr X l1 l2 rv rz rp rpz => ?_⟩
    obtain ⟨k, e1, e2⟩ := h T kV doc pm an cdv ct us ws l1 l2
    refine ⟨_, _, BindsTo.of_looks fun M => ?_, vals_gP rv rz pick, repL_gP rp rpz pick⟩
    rw [e1]
    exact looks_items X lT oT (.of_pure (e2 its rT.length.symm))
/-- the last parameters are defaults -/
theorem Bd.dfl (F : FunD K x qual params body scope dvs [] f fd) (hd : dvs ≠ []) (es : List D) (hr : ∀ Fr, RepL K Fr dvs es) (hn : n + dvs.length = ps.length)
    (h : ∀ (T : Addr) (kV doc pm : Value) (an : Option Addr) (cdv ct : Value) (us : List Value), us.length = n → ∃ k : Option (Array Value) → Sem (List (Str × Value)), bindArgs (PySem.W.fnOf x qual params body scope (.ref T) kV doc pm an cdv ct) ⟨us, []⟩ = (seqItems? (.ref T) >>= k) ∧
      ∀ its : List Value, its.length = dvs.length → k (some its.toArray) = pure (ps.zip (us ++ its))) : Bd K fd ps n [] (fun ds _ => ds ++ es) := by
  obtain ⟨oc, od, dV, kV, doc, pm, an, cdv, ct, osl, rfl, lk, hcd, hD, hK⟩ := F.ex
  rcases hD with ⟨e, _⟩ | ⟨_, T, o, its, m, rfl, lT, oT, rT⟩
  · exact absurd e hd
  · refine ⟨fun s us ws vs zs ds es' Fr X l1 l2 rv rz rp rpz => ?_⟩
    cases rz with
    | cons _ _ => simp at l2
    | nil =>
      obtain ⟨k, e1, e2⟩ := h T kV doc pm an cdv ct us l1
      refine ⟨us ++ its, vs ++ dvs, BindsTo.of_looks fun M => ?_, rv.append rT, rp.append (hr _)⟩
      show PySem.W.Looks M s.heap (bindArgs _ ⟨us, []⟩) _
      rw [e1]
      exact looks_items X lT oT (.of_pure (e2 its rT.length.symm))
end
/-- an exception class's __init__ -/
def OkX (P : Program) (w : World) (K : PySem.W.Frag) (mg : Str → Option Value) (base : Heap) (C fI : Addr) (f y : Str) : Prop :=
  ∃ fd, FnOk P w K mg base (fun _ _ _ _ _ _ => False) 1 fI fd ["self", y] (initSp K f) ∧ (∀ us : List Value, us.length = 2 → bindArgs fd ⟨us, []⟩ = pure ((["self", y] : List Str).zip us)) ∧ Exc1 K C fI f ∧ XfC K C
theorem okX_of {P : Program} {w : World} {K : PySem.W.Frag} {mg : Str → Option Value} {base : Heap} {C fI : Addr} {x qual f y : Str} {params : Arguments} {body : List Stmt} {scope : Scope} {fd : FuncData} {p1 p2 p3 p4 : Pos} (h : Exc1 K C fI f ∧ XfC K C)
    (F : FunD K x qual params body scope [] [] fI fd) (S : FnScope ["self", y] ["self", y] scope) (hb : body = [.Assign [.Attribute (.Name "self" p1) f p2] (.Name y p3) p4]) (hbd : ∀ (kV doc pm : Value) (an : Option Addr) (cdv ct : Value) (us : List Value), us.length = 2 → bindArgs (PySem.W.fnOf x qual params body scope .none kV doc pm an cdv ct) ⟨us, []⟩ = pure ((["self", y] : List Str).zip us))
    (hd : (y == ("__debug__" : Str)) = false := by decide) (hcd : (y == ("__classdict__" : Str)) = false := by decide) : OkX P w K mg base C fI f y := by
  refine ⟨fd, exc_init F S hb hd hcd, fun us hl => ?_, h⟩
  obtain ⟨oc, od, dV, kV, doc, pm, an, cdv, ct, osl, rfl, _, _, hD, _⟩ := F.ex
  rcases hD with ⟨_, rfl⟩ | ⟨e, _⟩
  · exact hbd kV doc pm an cdv ct us hl
  · exact absurd rfl e
end DL

set_option maxHeartbeats 2000000
/-! DL15: values of the laws, plain facts for the readings. -/
namespace DL
open PySem PySem.Spec PyProof.Rows L2

/-! ### a < b < c -/
def liftR (k : Kt) (o : DR2) : R2 := fun x y H Q => ∃ Z M a b DQ, HR k.K Z M H ∧ k.T Z (out Z M H) ∧ Rep k.K (out Z M H) x a ∧ Rep k.K (out Z M H) y b ∧ o a b M DQ ∧ ∀ v H' d M', HR k.K Z M' H' → Rep k.K (out Z M' H') v d → Same (out Z M H) (out Z M' H') → DQ d M' → Q v H'
theorem sr_blank {k : Kt} {Z : Hp} {M : Mh} {H : Hp} (st : Sg) (m : HR k.K Z M H) (t : k.T Z (out Z M H)) : SR k Z (List.replicate st.length none) M st H :=
  ⟨by simp, fun i d e => (by rw [List.getElem?_replicate] at e; split at e <;> cases e), m, t⟩
theorem DOp.opR {X : Cx} {W : DWX} {f : Value → Value → Sem Value} {o : DR2} (h : DOp X W f o) : OpR X f (liftR (kx X W) o) := fun pins s st H x y v u Q I rx ry ⟨Z, M, a, b, DQ, m, t, ra, rb, ho, k⟩ =>
  thn (h pins s st H Z _ M x y v u a b DQ I (sr_blank st m t) rx ry ra rb ho) fun w s' ⟨z, H', I', rz, d, M', q', rp, sm, hq⟩ => ⟨z, H', I', rz, k z H' d M' q'.hr rp sm hq⟩
def dChain (o o' : DR2) (ta tb tc : DTE) : DTE := fun r M Q => ta r M fun x M1 => tb r M1 fun y M2 => o x y M2 fun z M3 => ∃ k, z = .bl k ∧ if k = true then tc r M3 fun w M4 => o' y w M4 Q else Q (.bl false) M3
theorem chain_lift {X : Cx} {W : DWX} {o o' : DR2} {ta tb tc : DTE} {st : Sg} {H Z : Hp} {r : Rho} {M : Mh} {Q : QD} {R : VK} (q : SR (kx X W) Z r M st H) (h : dChain o o' ta tb tc r M Q) (fin : ∀ v H', EQ (kx X W) Z st r (out Z M H) Q v H' → R v H') :
    tChain (liftR (kx X W) o) (liftR (kx X W) o') (liftE (kx X W) ta) (liftE (kx X W) tb) (liftE (kx X W) tc) st H R := by
  refine ⟨Z, r, M, _, q, h, fun x H1 ⟨dx, M1, q1, rx, sm1, h1⟩ => ⟨Z, r, M1, _, q1, h1, fun y H2 ⟨dy, M2, q2, ry, sm2, h2⟩ => ?_⟩⟩
  refine ⟨Z, M2, dx, dy, _, q2.hr, q2.tk, rx.mono sm2, ry, h2, fun v H3 d M3 m3 rv sm3 ⟨k, ek, h3⟩ => ?_⟩
  subst ek
  cases rv
  refine ⟨k, rfl, ?_⟩
  have q3 := q2.step m3 sm3
  cases k with
  | false => exact fin _ _ ⟨_, M3, q3, .bl _, sm1.trans (sm2.trans sm3), h3⟩
  | true => exact ⟨Z, r, M3, _, q3, h3, fun w H4 ⟨dw, M4, q4, rw', sm4, h4⟩ => ⟨Z, M4, dy, dw, _, q4.hr, q4.tk, ry.mono (sm3.trans sm4), rw', h4, fun v H5 d M5 m5 rv sm5 h5 => fin _ _ ⟨d, M5, q4.step m5 sm5, rv, sm1.trans (sm2.trans (sm3.trans (sm4.trans sm5))), h5⟩⟩⟩
theorem de_chain {X : Cx} {W : DWX} {op op' : CmpOp} {o o' : DR2} {a b c : Expr} {ta tb tc : DTE} {pos : Pos} (ho : DOp X W (compareOp op) o) (ho' : DOp X W (compareOp op') o') (ha : DE X W a ta) (hb : DE X W b tb) (hc : DE X W c tc)
    (hm : lastMarks [op, op'] [b, c] = false := by with_unfolding_all rfl) : DE X W (.Compare a [op, op'] [b, c] pos) (dChain o o' ta tb tc) :=
  DE.of (pe_chain ho.opR ho'.opR ha.pe hb.pe hc.pe hm) fun st H Z r M Q q h => chain_lift q h fun _ _ z => z
theorem dt_chain {X : Cx} {W : DWX} {op op' : CmpOp} {o o' : DR2} {a b c : Expr} {ta tb tc : DTE} {pos : Pos} (ho : DOp X W (compareOp op) o) (ho' : DOp X W (compareOp op') o') (ha : DE X W a ta) (hb : DE X W b tb) (hc : DE X W c tc)
    (hm : lastMarks [op, op'] [b, c] = false := by with_unfolding_all rfl) : DT X W (.Compare a [op, op'] [b, c] pos) (dB (dChain o o' ta tb tc)) :=
  DT.of (pt_chain ho.opR ho'.opR ha.pe hb.pe hc.pe hm) fun st H Z r M Q q h => chain_lift q h fun v H' e => dB_liftQ e

/-- data of built-in kinds -/
def Plain : D → Prop
  | .non => True
  | .bl _ => True
  | .int _ => True
  | .str _ => True
  | .tup _ => True
  | .lst _ => True
  | .dic _ => True
  | _ => False
/-- its type's name -/
def tn : D → String
  | .non => "NoneType"
  | .bl _ => "bool"
  | .int _ => "int"
  | .str _ => "str"
  | .tup _ => "tuple"
  | .lst _ => "list"
  | .dic _ => "dict"
  | _ => ""
def isTn (t T : String) : Bool := t == T || (t == "bool" && T == "int")
theorem kit_tt (K : PySem.W.Frag) {t T : String} (ht : t ∈ ["NoneType", "bool", "int", "str", "tuple", "list", "dict"]) (hT : T ∈ ["bool", "int", "str", "tuple", "list", "dict"]) : PySem.W.kitOne K (.type t) (.type T) = some (isTn t T) := by
  simp only [List.mem_cons, List.mem_nil_iff, or_false] at ht hT
  rcases ht with rfl | rfl | rfl | rfl | rfl | rfl | rfl <;> rcases hT with rfl | rfl | rfl | rfl | rfl | rfl <;> kernel_rfl
theorem plain_ty {a : D} (h : Plain a) (M : Mh) : tyD M a = some (.type (tn a)) ∧ tn a ∈ ["NoneType", "bool", "int", "str", "tuple", "list", "dict"] := by
  cases a <;> first | exact h.elim | exact ⟨rfl, by simp [tn]⟩
theorem isi_plain {K : PySem.W.Frag} {a : D} {T : String} {M : Mh} {Q : QD} (h : Plain a) (hT : T ∈ ["bool", "int", "str", "tuple", "list", "dict"]) (q : Q (.bl (isTn (tn a) T)) M) : aIsi K [a, .ty T] M Q :=
  ⟨_, _, _, (plain_ty h M).1, fun C e => (nomatch e), rfl, kit_tt K (plain_ty h M).2 hT, q⟩
def isIntD : D → Bool
  | .int _ => true
  | _ => false
def isStrD : D → Bool
  | .str _ => true
  | _ => false
theorem py_plain {a : D} {p : PyData} (h : py a = some p) : Plain a := by
  cases a <;> first | trivial | cases h
end DL
namespace DL
open PySem PySem.Spec PyProof.Rows L2
/-! ### blocks -/
def blkB (N : List Str) (sc scope : Scope) (own : List (Str × Nat)) : Bool :=
  decide (scope.kind = .function) && ((scope.names.all fun y => decide (scope.names.lookup y.1 = some y.2)) && ((own.all fun p => decide (N[p.2]? = some p.1)) &&
  ((scope.names.all fun y => !decide (y.2 = .free) || (decide (sc.names.lookup y.1 = some .cell) || decide (sc.names.lookup y.1 = some .free))) &&
    scope.names.all fun y => !(decide (y.2 = .local) || decide (y.2 = .cell)) || (decide (y.1 ∈ own.map (·.1)) || !decide (y.1 ∈ N)))))
theorem blkB_ok {N : List Str} {sc scope : Scope} {own : List (Str × Nat)} (h : blkB N sc scope own = true) : BlkOk N sc scope own := by
  obtain ⟨h1, h⟩ := He.ba h
  obtain ⟨h2, h⟩ := He.ba h
  obtain ⟨h3, h⟩ := He.ba h
  obtain ⟨h4, h5⟩ := He.ba h
  refine ⟨of_decide_eq_true h1, fun y hy => of_decide_eq_true (List.all_eq_true.mp h2 y hy), fun p hp => of_decide_eq_true (List.all_eq_true.mp h3 p hp), fun y hy e => ?_, fun y hy e => ?_⟩
  · have := List.all_eq_true.mp h4 y hy
    simpa [e] using this
  · have := List.all_eq_true.mp h5 y hy
    have e2 : (decide (y.2 = .local) || decide (y.2 = .cell)) = true := by simpa using e
    rw [e2] at this
    simpa using this
/-! ### readings -/
theorem isi_iff {K : PySem.W.Frag} {a : D} {T : String} {M : Mh} {Q : QD} (h : Plain a) (hT : T ∈ ["bool", "int", "str", "tuple", "list", "dict"]) : aIsi K [a, .ty T] M Q ↔ Q (.bl (isTn (tn a) T)) M := by
  refine ⟨fun ⟨t, u, b, e1, _, e2, e3, q⟩ => ?_, isi_plain h hT⟩
  obtain ⟨e4, e5⟩ := plain_ty h M
  rw [e4] at e1
  cases e1
  cases e2
  rw [kit_tt K e5 hT] at e3
  cases e3
  exact q
theorem isi_str {K : PySem.W.Frag} {a : D} {M : Mh} {Q : QD} (h : Plain a) : aIsi K [a, .ty "str"] M Q ↔ Q (.bl (isStrD a)) M := by
  rw [isi_iff h (by decide)]
  cases a <;> first | exact h.elim | exact Iff.rfl
theorem isi_tup {K : PySem.W.Frag} {a : D} {M : Mh} {Q : QD} (h : Plain a) : aIsi K [a, .ty "tuple"] M Q ↔ Q (.bl (match a with | .tup _ => true | _ => false)) M := by
  rw [isi_iff h (by decide)]
  cases a <;> first | exact h.elim | exact Iff.rfl
theorem find_neg (x : Str) (c : Nat) : Txt.find x ⟨#[c]⟩ < 0 ↔ c ∉ x.cps.toList := by
  have h := PySem.StrLaws.found_one x c
  unfold Txt.find
  cases e : Builtin.Str.occurrences x ⟨#[c]⟩ 0 x.length 1 with
  | nil =>
    rw [e] at h
    have h' : decide (c ∈ x.cps.toList) = false := h.symm
    simpa using h'
  | cons i r =>
    rw [e] at h
    have h' : decide (c ∈ x.cps.toList) = true := h.symm
    have h2 : c ∈ x.cps.toList := of_decide_eq_true h'
    constructor
    · intro z
      have z' : (i : Int) < 0 := z
      omega
    · intro z; exact absurd h2 z
/-- a comprehension whose steps leave what may change as it is -/
theorem lcL_rel {p : TPat} {tt : DTT} {te : DTE} {r0 : Rho} {Q : QD} {M : Mh} (R : D → Option D → Prop) : ∀ {items acc : List D},
    (∀ x ∈ items, ∀ (K1 : D → Mh → Prop) (K0 : Mh → Prop), (∀ o, R x o → match o with | some y => K1 y M | none => K0 M) → tpD p x r0 M fun r1 M1 => tt r1 M1 fun b M2 => if b = true then te r1 M2 K1 else K0 M2) →
    acc.length + items.length ≤ sizeLine → (∀ os : List (Option D), Paired R items os → Q (.lst (acc ++ os.filterMap id)) M) → lcL p tt te r0 Q items acc M
  | [], acc, h, hl, hq => by
    have := hq [] .nil
    simpa [lcL] using this
  | x :: xs, acc, h, hl, hq => by
    have hl' : acc.length + (xs.length + 1) ≤ sizeLine := hl
    refine h x (List.mem_cons_self ..) (fun y M3 => acc.length < sizeLine ∧ lcL p tt te r0 Q xs (acc ++ [y]) M3) (fun M3 => lcL p tt te r0 Q xs acc M3) fun o ro => ?_
    cases o with
    | some y =>
      refine ⟨by omega, lcL_rel R (fun y hy => h y (List.mem_cons_of_mem _ hy)) (by rw [List.length_append, List.length_cons, List.length_nil]; omega) fun os po => ?_⟩
      have := hq (some y :: os) (.cons ro po)
      simpa using this
    | none =>
      refine lcL_rel R (fun y hy => h y (List.mem_cons_of_mem _ hy)) (by omega) fun os po => ?_
      have := hq (none :: os) (.cons ro po)
      simpa using this
/-- .. and whose values hang on nothing but the thing walked -/
theorem lcL_fm {p : TPat} {tt : DTT} {te : DTE} {r0 : Rho} {Q : QD} {M : Mh} (f : D → Option D) {items acc : List D}
    (h : ∀ x ∈ items, ∀ (K1 : D → Mh → Prop) (K0 : Mh → Prop), (match f x with | some y => K1 y M | none => K0 M) → tpD p x r0 M fun r1 M1 => tt r1 M1 fun b M2 => if b = true then te r1 M2 K1 else K0 M2)
    (hl : acc.length + items.length ≤ sizeLine) (hq : Q (.lst (acc ++ items.filterMap f)) M) : lcL p tt te r0 Q items acc M := by
  refine lcL_rel (fun x o => o = f x) (fun x hx K1 K0 k => h x hx K1 K0 (k _ rfl)) hl fun os po => ?_
  have e : os.filterMap id = items.filterMap f := by
    clear h hl hq
    induction po with
    | nil => rfl
    | cons e _ ih =>
      subst e
      rw [List.filterMap_cons, List.filterMap_cons, ih]
      rfl
  rw [e]; exact hq

theorem sp0_iff {g} {M : Mh} {Q : QD} {E : DXK} : sp0 g [] M Q E ↔ g M Q E := ⟨fun h => by
  obtain ⟨e, h⟩ := h
  cases e
  exact h, fun h => ⟨rfl, h⟩⟩
theorem sp1_iff {g} {a : D} {M : Mh} {Q : QD} {E : DXK} : sp1 g [a] M Q E ↔ g a M Q E := ⟨fun h => by
  obtain ⟨a1, e, h⟩ := h
  cases e
  exact h, fun h => ⟨_, rfl, h⟩⟩
theorem sp2_iff {g} {a b : D} {M : Mh} {Q : QD} {E : DXK} : sp2 g [a, b] M Q E ↔ g a b M Q E := ⟨fun h => by
  obtain ⟨a1, b1, e, h⟩ := h
  cases e
  exact h, fun h => ⟨_, _, rfl, h⟩⟩
theorem sp3_iff {g} {a b c : D} {M : Mh} {Q : QD} {E : DXK} : sp3 g [a, b, c] M Q E ↔ g a b c M Q E := ⟨fun h => by
  obtain ⟨a1, b1, c1, e, h⟩ := h
  cases e
  exact h, fun h => ⟨_, _, _, rfl, h⟩⟩
theorem sp4_iff {g} {a b c d : D} {M : Mh} {Q : QD} {E : DXK} : sp4 g [a, b, c, d] M Q E ↔ g a b c d M Q E := ⟨fun h => by
  obtain ⟨a1, b1, c1, d1, e, h⟩ := h
  cases e
  exact h, fun h => ⟨_, _, _, _, rfl, h⟩⟩
theorem sp5_iff {g} {a b c d e : D} {M : Mh} {Q : QD} {E : DXK} : sp5 g [a, b, c, d, e] M Q E ↔ g a b c d e M Q E := ⟨fun h => by
  obtain ⟨a1, b1, c1, d1, e1, e, h⟩ := h
  cases e
  exact h, fun h => ⟨_, _, _, _, _, rfl, h⟩⟩
theorem sp6_iff {g} {a b c d e f : D} {M : Mh} {Q : QD} {E : DXK} : sp6 g [a, b, c, d, e, f] M Q E ↔ g a b c d e f M Q E := ⟨fun h => by
  obtain ⟨a1, b1, c1, d1, e1, f1, e, h⟩ := h
  cases e
  exact h, fun h => ⟨_, _, _, _, _, _, rfl, h⟩⟩
theorem isi_int {K : PySem.W.Frag} {a : D} {M : Mh} {Q : QD} (h : Plain a) : aIsi K [a, .ty "int"] M Q ↔ Q (.bl (match a with | .int _ => true | .bl _ => true | _ => false)) M := by
  rw [isi_iff h (by decide)]
  cases a <;> first | exact h.elim | exact Iff.rfl
theorem isi_bool {K : PySem.W.Frag} {a : D} {M : Mh} {Q : QD} (h : Plain a) : aIsi K [a, .ty "bool"] M Q ↔ Q (.bl (match a with | .bl _ => true | _ => false)) M := by
  rw [isi_iff h (by decide)]
  cases a <;> first | exact h.elim | exact Iff.rfl
theorem rm_u64 {k : Nat} {A : Around} (r : Rm k A) : A.units + 64 < cLine := by have := r.room.un; omega
theorem rm_u65 {k : Nat} {A : Around} (r : Rm k A) : A.units + 65 < cLine := by have := r.room.un; omega
theorem ixN_nat {n i : Nat} (h : i < n) : ixN n (i : Int) = some i := by
  unfold ixN
  rw [if_pos (Int.natCast_nonneg i), if_pos (by omega)]
  rfl
theorem atI_nat {α : Type} (l : List α) (i : Nat) (h : i < l.length) : atI l (i : Int) = l[i]? := by
  unfold atI
  rw [ixN_nat h]
  rfl
theorem atI_zero {α : Type} (a : α) (l : List α) : atI (a :: l) 0 = some a := atI_nat (a :: l) 0 (by simp)
/-! ### lists that may change -/
theorem ix_m {M : Mh} {p : Addr} {ds : List D} {i : Int} {d : D} {Q : QD} (e : M p = some (.lst ds)) (h : atI ds i = some d) (q : Q d M) : aIx (.ref p) (.int i) M Q := by
  refine ⟨ds, d, ?_, h, q⟩
  show (match M p with | some (.lst ds) => some ds | _ => none) = some ds
  rw [e]
theorem set_m {M : Mh} {p : Addr} {ds : List D} {i : Int} {j : Nat} {v : D} {Q : Mh → Prop} (e : M p = some (.lst ds)) (h : ixN ds.length i = some j) (q : Q (mset M p (.lst (ds.set j v)))) : aSetL (.ref p) (.int i) v M Q :=
  ⟨p, ds, i, j, rfl, rfl, e, h, q⟩
end DL

set_option maxHeartbeats 2000000
/-! DL16: how long data shows. -/
namespace DL
open PySem PySem.Spec PyProof.Rows L2

mutual
/-- a bound of the shown text's length -/
def szP : PyData → Nat
  | .none => 4
  | .bool _ => 5
  | .int i => i.natAbs.log2 + 2
  | .str x => 10 * x.length + 2
  | .list xs => 2 + szA xs
  | .tuple xs => 4 + szA xs
  | .dict kvs => 2 + szK kvs
def szA : List PyData → Nat
  | [] => 0
  | x :: xs => szP x + 2 + szA xs
def szK : List (PyData × PyData) → Nat
  | [] => 0
  | (k, v) :: r => szP k + szP v + 4 + szK r
end
mutual
/-- every number is shown, every sign is one -/
def okP : PyData → Bool
  | .none => true
  | .bool _ => true
  | .int i => decide (i.natAbs.log2 < 1920)
  | .str x => PyData.strOk x
  | .list xs => okA xs
  | .tuple xs => okA xs
  | .dict kvs => okK kvs
def okA : List PyData → Bool
  | [] => true
  | x :: xs => okP x && okA xs
def okK : List (PyData × PyData) → Bool
  | [] => true
  | (k, v) :: r => okP k && okP v && okK r
end
theorem join_le (ts : List Str) : (Str.join ", " ts).length ≤ piled ts := by
  by_cases h : ts = []
  · subst h; exact Nat.le_refl _
  · have := join_length_add ts h
    omega
mutual
theorem shown_le : ∀ p : PyData, okP p = true → p.showable = true ∧ p.shown.length ≤ szP p
  | .none, _ => ⟨rfl, by rw [PyData.shown_none]; decide⟩
  | .bool b, _ => ⟨rfl, by rw [PyData.shown_bool]; cases b <;> decide⟩
  | .int i, h => by
    have h1 : i.natAbs.log2 < 1920 := of_decide_eq_true (by simpa [okP] using h)
    refine ⟨by simpa [PyData.showable] using h1, ?_⟩
    rw [PyData.shown_int]
    have := int_text_length_le (a := i) (k := i.natAbs.log2 + 1) (by omega) (by omega)
    show (Str.ofString (toString i)).length ≤ _
    rw [PySem.ofString_length]
    simp only [szP]
    omega
  | .str x, h => by
    refine ⟨rfl, ?_⟩
    rw [PyData.shown_str]
    simp only [szP]
    refine StrLaws.reprText_len x fun c hc => ?_
    have q : x.cps.all (· < 0x110000) = true := by
      simp only [okP] at h
      exact h
    rw [← Array.all_toList] at q
    have := of_decide_eq_true (List.all_eq_true.mp q c hc)
    omega
  | .list xs, h => by
    obtain ⟨h1, h2⟩ := shown_leA xs (by simpa [okP] using h)
    refine ⟨by simpa [PyData.showable] using h1, ?_⟩
    rw [PyData.shown_list, strLen_append, strLen_append]
    have := join_le (PyData.shownAll xs)
    have e1 : (("[" : String) : Str).length = 1 := rfl
    have e2 : (("]" : String) : Str).length = 1 := rfl
    simp only [szP]
    omega
  | .tuple xs, h => by
    obtain ⟨h1, h2⟩ := shown_leA xs (by simpa [okP] using h)
    refine ⟨by simpa [PyData.showable] using h1, ?_⟩
    rw [PyData.shown_tuple, strLen_append, strLen_append]
    have := join_le (PyData.shownAll xs)
    have e1 : (("(" : String) : Str).length = 1 := rfl
    have e3 : (((if xs.length == 1 then ",)" else ")" : String) : Str)).length ≤ 2 := by split <;> decide
    simp only [szP]
    omega
  | .dict kvs, h => by
    obtain ⟨h1, h2⟩ := shown_leK kvs (by simpa [okP] using h)
    refine ⟨by simpa [PyData.showable] using h1, ?_⟩
    rw [PyData.shown_dict, strLen_append, strLen_append]
    have := join_le (PyData.shownKv kvs)
    have e1 : (("{" : String) : Str).length = 1 := rfl
    have e2 : (("}" : String) : Str).length = 1 := rfl
    simp only [szP]
    omega
theorem shown_leA : ∀ ps : List PyData, okA ps = true → PyData.showableAll ps = true ∧ piled (PyData.shownAll ps) ≤ szA ps
  | [], _ => ⟨rfl, by rw [PyData.shownAll_nil]; exact Nat.le_refl _⟩
  | p :: ps, h => by
    obtain ⟨h1, h2⟩ := He.ba (show (okP p && okA ps) = true by simpa [okA] using h)
    obtain ⟨a1, a2⟩ := shown_le p h1
    obtain ⟨b1, b2⟩ := shown_leA ps h2
    refine ⟨by simp [PyData.showableAll, a1, b1], ?_⟩
    rw [PyData.shownAll_cons, piled_cons]
    simp only [szA]
    omega
theorem shown_leK : ∀ ps : List (PyData × PyData), okK ps = true → PyData.showableKv ps = true ∧ piled (PyData.shownKv ps) ≤ szK ps
  | [], _ => ⟨rfl, by rw [PyData.shownKv_nil]; exact Nat.le_refl _⟩
  | (k, v) :: ps, h => by
    obtain ⟨h1, h3⟩ := He.ba (show (okP k && okP v && okK ps) = true by simpa [okK] using h)
    obtain ⟨h1, h2⟩ := He.ba h1
    obtain ⟨a1, a2⟩ := shown_le k h1
    obtain ⟨c1, c2⟩ := shown_le v h2
    obtain ⟨b1, b2⟩ := shown_leK ps h3
    refine ⟨by simp [PyData.showableKv, a1, b1, c1], ?_⟩
    rw [PyData.shownKv_cons, piled_cons, strLen_append, strLen_append]
    have e : ((": " : String) : Str).length = 2 := rfl
    simp only [szK]
    omega
end
theorem showOk_of {p : PyData} (h : okP p = true) (hs : szP p ≤ 16777216) (hd : p.depth ≤ 60) : ShowOk p := by
  obtain ⟨h1, h2⟩ := shown_le p h
  have := sizeLine_eq
  exact ⟨h1, by omega, hd⟩
/-- a thing: data that shows, not too long, not too deep -/
def Good (p : PyData) : Prop := okP p = true ∧ szP p ≤ 100000 ∧ p.depth ≤ 20
def Thing (d : D) : Prop := ∃ p, py d = some p ∧ Good p
theorem Thing.plain {d : D} (h : Thing d) : Plain d := by
  obtain ⟨p, e, _⟩ := h
  exact py_plain e
theorem Thing.str {z : Str} (h : Thing (.str z)) : z.length ≤ 10000 ∧ PyData.strOk z = true := by
  obtain ⟨p, e, h1, h2, _⟩ := h
  cases e
  refine ⟨by simp only [szP] at h2; omega, by simp only [okP] at h1; exact h1⟩
end DL
namespace DL
open PySem PySem.Spec PyProof.Rows L2
theorem len_seq {M : Mh} {b : D} {ds : List D} {Q : QD} (e : seqOf M b = some ds) (q : Q (.int ds.length) M) : aLen [b] M Q := by
  cases b <;> first | exact ⟨ds, e, q⟩ | cases e
theorem ix_s {M : Mh} {b : D} {ds : List D} {i : Int} {d : D} {Q : QD} (e : seqOf M b = some ds) (h : atI ds i = some d) (q : Q d M) : aIx b (.int i) M Q := by
  cases b <;> first | exact ⟨ds, d, e, h, q⟩ | cases e
theorem RetQ.drop {Q : QD} {d : D} {M : Mh} {p : Addr} {o : MO} (hp : M p = none) (h : Q d M) : RetQ Q d (mset M p o) := ⟨M, less_mset hp, .inl h⟩
theorem good_of {p : PyData} (h1 : okP p = true) (h2 : decide (szP p ≤ 100000) = true) (h3 : decide (p.depth ≤ 20) = true) : Good p := ⟨h1, of_decide_eq_true h2, of_decide_eq_true h3⟩
theorem log2_lt {n k : Nat} (h : n < 2 ^ (k + 1)) : n.log2 < k + 1 := by
  by_cases h0 : n = 0
  · subst h0; simp
  · exact (Nat.log2_lt h0).mpr h
theorem strOk_int (i : Int) : PyData.strOk (Str.ofString (toString i)) = true := by
  unfold PyData.strOk
  rw [← Array.all_toList]
  refine List.all_eq_true.mpr fun c hc => decide_eq_true ?_
  by_cases h : c ≠ 45 ∧ (c < 48 ∨ 57 < c)
  · exact absurd hc (int_text_free' c h i)
  · omega
end DL

set_option maxHeartbeats 2000000
/-! DL17: expressions whose value hangs on the variables alone. -/
namespace DL
open PySem PySem.Spec PyProof.Rows L2

def dP (f : Rho → Option D) : DTE := fun r M Q => ∃ d, f r = some d ∧ Q d M
def dPA (f : Rho → Option (List D)) : DTA := fun r M Q => ∃ d, f r = some d ∧ Q d M
/-- small displays -/
def fTup (g : Rho → Option (List D)) : Rho → Option D := fun r => match g r with
  | some l => if l.length ≤ 1000 then some (.tup l) else none
  | none => none
def fLst (g : Rho → Option (List D)) : Rho → Option D := fun r => match g r with
  | some l => if l.length ≤ 1000 then some (.lst l) else none
  | none => none
def fCons (f : Rho → Option D) (g : Rho → Option (List D)) : Rho → Option (List D) := fun r => match f r, g r with
  | some d, some l => some (d :: l)
  | _, _ => none
def fVar (i : Nat) : Rho → Option D := fun r => match r[i]? with
  | some (some d) => some d
  | _ => none
def fKv : List (Key × (Rho → Option D)) → Rho → Option (List (Key × D))
  | [], _ => some []
  | (k, f) :: l, r => match f r, fKv l r with
    | some d, some m => some ((k, d) :: m)
    | _, _ => none
def fDic (l : List (Key × (Rho → Option D))) : Rho → Option D := fun r => match fKv l r with
  | some m => if m.length ≤ 15 then some (.dic (mergeD [] m)) else none
  | none => none
section
variable {X : Cx} {W : DWX} {pos : Pos} {e : Expr} {es : List Expr} {f : Rho → Option D} {g : Rho → Option (List D)}
theorem DE.imp {t t' : DTE} (h : DE X W e t) (k : ∀ r M Q, t' r M Q → t r M Q) : DE X W e t' := ⟨fun pins s st H Z r M Q I q z => h.run pins s st H Z r M Q I q (k _ _ _ z)⟩
theorem DA.imp {t t' : DTA} (h : DA X W es t) (k : ∀ r M Q, t' r M Q → t r M Q) : DA X W es t' := ⟨fun po pins s st H Z r M Q I q z => h.run po pins s st H Z r M Q I q (k _ _ _ z)⟩
theorem dp_int {i j} : DE X W (.Constant (.int i) j pos) (dP fun _ => some (.int i)) := de_int.imp fun r M Q ⟨d, e, q⟩ => by cases e; exact q
theorem dp_bl {i j} : DE X W (.Constant (.bool i) j pos) (dP fun _ => some (.bl i)) := de_bl.imp fun r M Q ⟨d, e, q⟩ => by cases e; exact q
theorem dp_str {i j} : DE X W (.Constant (.str i) j pos) (dP fun _ => some (.str i)) := de_str.imp fun r M Q ⟨d, e, q⟩ => by cases e; exact q
theorem dp_non {j} : DE X W (.Constant .none j pos) (dP fun _ => some .non) := de_non.imp fun r M Q ⟨d, e, q⟩ => by cases e; exact q
theorem dp_neg {i j} {p2 : Pos} : DE X W (.UnaryOp .USub (.Constant (.int i) j p2) pos) (dP fun _ => some (.int (-i))) := (de_un un_neg_ de_int).imp fun r M Q ⟨d, e, q⟩ => by cases e; exact q
theorem dp_var (i : Nat) {x : Str} (hN : X.N[i]? = some x := by rfl) (hv : Vis X.env.scope x := by first | exact Or.inl rfl | exact Or.inr (Or.inl rfl) | exact Or.inr (Or.inr rfl)) (hd : (x == ("__debug__" : Str)) = false := by decide)
    (hcd : (x == ("__classdict__" : Str)) = false := by decide) : DE X W (.Name x pos) (dP (fVar i)) := (de_var hN hv hd hcd).imp fun r M Q ⟨d, e, q⟩ => by
  unfold fVar at e
  unfold dVar
  split at e
  · cases e
    rename_i h
    first
      | exact q
      | (rw [h]; exact q)
  · cases e
theorem dp_of {d : D} (h : DE X W e (dC d)) : DE X W e (dP fun _ => some d) := h.imp fun r M Q ⟨d', e, q⟩ => by cases e; exact q
theorem dpa_nil : DA X W [] (dPA fun _ => some []) := da_nil.imp fun r M Q ⟨d, e, q⟩ => by cases e; exact q
theorem dpa_cons (h : DE X W e (dP f)) (hr : DA X W es (dPA g)) (hs : starEach (e :: es) X.env = (false, eval e X.env) :: starEach es X.env := by rfl) : DA X W (e :: es) (dPA (fCons f g)) := (da_cons h hr hs).imp fun r M Q ⟨d, e, q⟩ => by
  unfold fCons at e
  split at e
  · rename_i a l h1 h2
    cases e
    exact ⟨a, h1, l, h2, q⟩
  · cases e
theorem dp_tup {x1} (h : DA X W es (dPA g)) : DE X W (.Tuple es x1 pos) (dP (fTup g)) := (de_tup h).imp fun r M Q ⟨d, e, q⟩ => by
  unfold fTup at e
  split at e
  · rename_i l h1
    split at e
    · rename_i hl
      cases e
      exact ⟨l, h1, by have := sizeLine_eq; omega, q⟩
    · cases e
  · cases e
theorem dp_lst (h : DA X W es (dPA g)) : DE X W (.List es pos) (dP (fLst g)) := (de_lst h).imp fun r M Q ⟨d, e, q⟩ => by
  unfold fLst at e
  split at e
  · rename_i l h1
    split at e
    · rename_i hl
      cases e
      exact ⟨l, h1, by have := sizeLine_eq; omega, q⟩
    · cases e
  · cases e
theorem dp_disp0 : DE X W (.Dict [] [] pos) (dP fun _ => some (.dic [])) := dp_of de_disp0
inductive DPk (X : Cx) (W : DWX) : List (Option Expr) → List Expr → List (Key × (Rho → Option D)) → List (DTE × DTE) → Prop
  | nil : DPk X W [] [] [] []
  | str {x : Str} {j} {p : Pos} {v : Expr} {ks : List (Option Expr)} {vs : List Expr} {f : Rho → Option D} {l : List (Key × (Rho → Option D))} {trs : List (DTE × DTE)} (hv : DE X W v (dP f)) (r : DPk X W ks vs l trs) : DPk X W (some (.Constant (.str x) j p) :: ks) (v :: vs) ((.inr x, f) :: l) ((dC (.str x), dP f) :: trs)
  | int {x : Int} {j} {p : Pos} {v : Expr} {ks : List (Option Expr)} {vs : List Expr} {f : Rho → Option D} {l : List (Key × (Rho → Option D))} {trs : List (DTE × DTE)} (hv : DE X W v (dP f)) (r : DPk X W ks vs l trs) : DPk X W (some (.Constant (.int x) j p) :: ks) (v :: vs) ((.inl x, f) :: l) ((dC (.int x), dP f) :: trs)
theorem DPk.dps {pos : Pos} {ks : List (Option Expr)} {vs : List Expr} {l : List (Key × (Rho → Option D))} {trs : List (DTE × DTE)} (h : DPk X W ks vs l trs) : DPs X W pos ks vs trs ∧ ∀ r M Q m, fKv l r = some m → Q m M → dPairs trs r M Q := by
  induction h with
  | nil => exact ⟨.nil, fun r M Q m e q => by cases e; exact q⟩
  | str hv _ ih =>
    refine ⟨.cons de_str hv ih.1, fun r M Q m e q => ?_⟩
    unfold fKv at e
    split at e
    · rename_i d m' h1 h2
      cases e
      exact ⟨d, h1, ih.2 r M _ m' h2 ⟨_, rfl, q⟩⟩
    · cases e
  | int hv _ ih =>
    refine ⟨.cons de_int hv ih.1, fun r M Q m e q => ?_⟩
    unfold fKv at e
    split at e
    · rename_i d m' h1 h2
      cases e
      exact ⟨d, h1, ih.2 r M _ m' h2 ⟨_, rfl, q⟩⟩
    · cases e
theorem dp_disp {keys : List (Option Expr)} {values : List Expr} {l : List (Key × (Rho → Option D))} {trs : List (DTE × DTE)} (h : DPk X W keys values l trs) (hall : keys.all (·.isSome) = true := by rfl) (hl : keys.length = values.length := by rfl) (h0 : keys ≠ [] := by simp)
    (h15 : keys.length ≤ 15 := by decide) : DE X W (.Dict keys values pos) (dP (fDic l)) := (de_disp h.dps.1 hall hl h0 h15).imp fun r M Q ⟨d, e, q⟩ => by
  unfold fDic at e
  split at e
  · rename_i m h1
    split at e
    · rename_i hm
      cases e
      exact (h.dps (pos := pos)).2 r M _ m h1 ⟨hm, q⟩
    · cases e
  · cases e
end
end DL
namespace DL
open PySem PySem.Spec PyProof.Rows L2
section
variable {i j : Int} {M : Mh} {Q : QD} {x y : Str} {a b : List D} {p : Int → Int → Bool} {f : Int → Int → Int} {g : Int → Int} {C : Int → Int → Prop} {ns : List Int}
theorem aAdd_ii : aAdd (.int i) (.int j) M Q ↔ Q (.int (i + j)) M := Iff.rfl
theorem aAdd_ss : aAdd (.str x) (.str y) M Q ↔ x.length + y.length ≤ sizeLine ∧ Q (.str (x ++ y)) M := Iff.rfl
theorem aAdd_tt : aAdd (.tup a) (.tup b) M Q ↔ a.length + b.length ≤ sizeLine ∧ Q (.tup (a ++ b)) M := Iff.rfl
theorem aAdd_ll : aAdd (.lst a) (.lst b) M Q ↔ a.length + b.length ≤ sizeLine ∧ Q (.lst (a ++ b)) M := Iff.rfl
theorem aInt_ii : aInt f C (.int i) (.int j) M Q ↔ C i j ∧ Q (.int (f i j)) M := Iff.rfl
theorem aInt0_ii : aInt0 f (.int i) (.int j) M Q ↔ Q (.int (f i j)) M := Iff.rfl
theorem aMul_ii : aMul (.int i) (.int j) M Q ↔ IntMulOk i j ∧ Q (.int (i * j)) M := Iff.rfl
theorem aCmp_ii : aCmp p (.int i) (.int j) M Q ↔ Q (.bl (p i j)) M := Iff.rfl
theorem aLen_s : aLen [.str x] M Q ↔ x.length ≤ sizeLine ∧ Q (.int x.length) M := Iff.rfl
theorem aLen_t : aLen [.tup a] M Q ↔ Q (.int a.length) M := ⟨fun ⟨_, e, q⟩ => by cases e; exact q, fun q => ⟨_, rfl, q⟩⟩
theorem aLen_l : aLen [.lst a] M Q ↔ Q (.int a.length) M := ⟨fun ⟨_, e, q⟩ => by cases e; exact q, fun q => ⟨_, rfl, q⟩⟩
theorem aLen_r : aLen [.scr ns] M Q ↔ Q (.int ns.length) M := ⟨fun ⟨_, e, q⟩ => by cases e; simpa using q, fun q => ⟨_, rfl, by simpa using q⟩⟩
theorem aNeg_i : aNeg (.int i) M Q ↔ Q (.int (-i)) M := Iff.rfl
theorem aI1_i : aI1 g [.int i] M Q ↔ Q (.int (g i)) M := Iff.rfl
theorem aI2_i : aI2 f [.int i, .int j] M Q ↔ Q (.int (f i j)) M := Iff.rfl
theorem aStrI_i : aStrI [.int i] M Q ↔ i.natAbs.log2 < 1920 ∧ Q (.str (toString i)) M := Iff.rfl
end
end DL
namespace DL
open PySem PySem.Spec PyProof.Rows L2
theorem join_small {sep : Str} (hs : sep.cps = #[]) : ∀ ss : List Str, (∀ s ∈ ss, s.length ≤ 1 ∧ PyData.strOk s = true) → (Str.join sep ss).length ≤ ss.length ∧ PyData.strOk (Str.join sep ss) = true
  | [], _ => ⟨Nat.le_refl _, by show Array.all #[] _ = true; simp⟩
  | [x], h => by
    have := h x (List.mem_cons_self ..)
    exact ⟨by simpa [Str.join] using this.1, this.2⟩
  | x :: y :: r, h => by
    have h1 := h x (List.mem_cons_self ..)
    have h2 := join_small hs (y :: r) fun s hs => h s (List.mem_cons_of_mem _ hs)
    have e : (Str.join sep (x :: y :: r)).cps = x.cps ++ (sep.cps ++ (Str.join sep (y :: r)).cps) := by
      show (x.cps ++ sep.cps) ++ (Str.join sep (y :: r)).cps = _
      rw [Array.append_assoc]
    rw [hs] at e
    have e2 : (Str.join sep (x :: y :: r)).cps = x.cps ++ (Str.join sep (y :: r)).cps := by simpa using e
    refine ⟨?_, ?_⟩
    · show (Str.join sep (x :: y :: r)).cps.size ≤ _
      rw [e2, Array.size_append]
      have a1 : x.cps.size ≤ 1 := h1.1
      have a2 : (Str.join sep (y :: r)).cps.size ≤ (y :: r).length := h2.1
      simp only [List.length_cons] at a2 ⊢
      omega
    · show (Str.join sep (x :: y :: r)).cps.all (· < 0x110000) = true
      rw [e2, Array.all_append]
      have a1 : x.cps.all (· < 0x110000) = true := h1.2
      have a2 : (Str.join sep (y :: r)).cps.all (· < 0x110000) = true := h2.2
      rw [a1, a2]
      rfl
/-- signs, each a text by itself -/
def Signs (ds : List D) : Prop := ∃ ss : List Str, ds = ss.map D.str ∧ ∀ s ∈ ss, s.length ≤ 1 ∧ PyData.strOk s = true
theorem Signs.set {ds : List D} {x : Str} (h : Signs ds) (hx : x.length ≤ 1 ∧ PyData.strOk x = true) (j : Nat) : Signs (ds.set j (.str x)) := by
  obtain ⟨ss, rfl, h⟩ := h
  refine ⟨ss.set j x, by rw [List.map_set], fun s hs => ?_⟩
  rcases List.mem_or_eq_of_mem_set hs with hs | rfl
  · exact h s hs
  · exact hx
theorem sum_le_length : ∀ ss : List Str, (∀ s ∈ ss, s.length ≤ 1 ∧ PyData.strOk s = true) → (ss.map (·.length)).sum ≤ ss.length
  | [], _ => Nat.le_refl _
  | x :: r, h => by
    have h1 := (h x (List.mem_cons_self ..)).1
    have h2 := sum_le_length r fun s hs => h s (List.mem_cons_of_mem _ hs)
    rw [List.map_cons, List.sum_cons, List.length_cons]
    omega
theorem join_m {M : Mh} {p : Addr} {ds : List D} {sep : Str} {Q : QD} (hs : sep.cps = #[]) (e : M p = some (.lst ds)) (hd : Signs ds) (hl : ds.length ≤ 1000) (q : ∀ z, z.length ≤ ds.length → PyData.strOk z = true → Q (.str z) M) : mJoin (.str sep) [.ref p] M Q := by
  obtain ⟨ss, rfl, h⟩ := hd
  refine ⟨ss.map D.str, ss, ?_, strsD_map ss, ?_, ?_⟩
  · show (match M p with | some (.lst ds) => some ds | _ => none) = _
    rw [e]
  · have := sum_le_length ss h
    have e0 : sep.length = 0 := by show sep.cps.size = 0; rw [hs]; rfl
    rw [e0]
    rw [List.length_map] at hl
    omega
  · have := join_small hs ss h
    rw [← PySem.StrLaws.glued_eq_join] at this
    rw [List.length_map] at q
    exact q _ this.1 this.2
theorem atI_mem {α : Type} {l : List α} {i : Int} (h0 : 0 ≤ i) (h1 : i < l.length) : ∃ a, atI l i = some a ∧ a ∈ l := by
  obtain ⟨k, rfl⟩ := Int.eq_ofNat_of_zero_le h0
  have hk : k < l.length := by omega
  exact ⟨l[k], by show atI l (k : Int) = _; rw [atI_nat _ _ hk, List.getElem?_eq_getElem hk], List.getElem_mem hk⟩
/-- a sign of a text -/
theorem ix_sign {z : Str} {i : Int} {M : Mh} {Q : QD} (h0 : 0 ≤ i) (h1 : i < z.length) (hz : z.length ≤ sizeLine) (hok : PyData.strOk z = true) (q : ∀ x : Str, x.length ≤ 1 ∧ PyData.strOk x = true → Q (.str x) M) : aIx (.str z) (.int i) M Q := by
  have hl : i < z.cps.toList.length := by
    have : z.cps.toList.length = z.length := by simp [Str.length]
    omega
  obtain ⟨c, e, hc⟩ := atI_mem h0 hl
  refine ⟨c, hz, e, q _ ⟨Nat.le_refl _, ?_⟩⟩
  have q2 : z.cps.all (· < 0x110000) = true := hok
  rw [← Array.all_toList] at q2
  show Array.all #[c] _ = true
  simpa using List.all_eq_true.mp q2 c hc
theorem ixN_pos {n : Nat} {i : Int} (h0 : 0 ≤ i) (h1 : i < n) : ∃ j, ixN n i = some j := by
  obtain ⟨k, rfl⟩ := Int.eq_ofNat_of_zero_le h0
  exact ⟨k, ixN_nat (by omega)⟩
end DL
namespace DL
open PySem PySem.Spec PyProof.Rows L2
theorem aEq_ii {i j : Int} {M : Mh} {Q : QD} : aEq (.int i) (.int j) M Q ↔ Q (.bl (i == j)) M := ⟨fun ⟨_, _, e1, e2, _, _, q⟩ => by
  cases e1; cases e2
  simpa [PyData.eqv] using q, fun q => ⟨_, _, rfl, rfl, by simp [SeqAt.shaped, PyData.canLay0, PyData.depth], by simp [SeqAt.shaped, PyData.canLay0, PyData.depth], by simpa [PyData.eqv] using q⟩⟩
theorem aNe_ii {i j : Int} {M : Mh} {Q : QD} : aNe (.int i) (.int j) M Q ↔ Q (.bl (!(i == j))) M := ⟨fun ⟨_, _, e1, e2, _, _, q⟩ => by
  cases e1; cases e2
  simpa [PyData.eqv] using q, fun q => ⟨_, _, rfl, rfl, by simp [SeqAt.shaped, PyData.canLay0, PyData.depth], by simp [SeqAt.shaped, PyData.canLay0, PyData.depth], by simpa [PyData.eqv] using q⟩⟩
theorem aEq_ss {x y : Str} {M : Mh} {Q : QD} (hx : PyData.strOk x = true) (hy : PyData.strOk y = true) (q : Q (.bl (x == y)) M) : aEq (.str x) (.str y) M Q :=
  ⟨_, _, rfl, rfl, by simp [SeqAt.shaped, PyData.canLay0, PyData.depth, hx], by simp [SeqAt.shaped, PyData.canLay0, PyData.depth, hy], by simpa [PyData.eqv] using q⟩
theorem aNe_ss {x y : Str} {M : Mh} {Q : QD} (hx : PyData.strOk x = true) (hy : PyData.strOk y = true) (q : Q (.bl (!(x == y))) M) : aNe (.str x) (.str y) M Q :=
  ⟨_, _, rfl, rfl, by simp [SeqAt.shaped, PyData.canLay0, PyData.depth, hx], by simp [SeqAt.shaped, PyData.canLay0, PyData.depth, hy], by simpa [PyData.eqv] using q⟩
end DL
namespace DL
open PySem PySem.Spec PyProof.Rows L2
/-- two texts, of any signs -/
def aEqT : DR2 := fun x y M Q => match x, y with
  | .str a, .str b => Q (.bl (decide (a = b))) M
  | _, _ => False
def aNeT : DR2 := fun x y M Q => match x, y with
  | .str a, .str b => Q (.bl (!decide (a = b))) M
  | _, _ => False
theorem dec_str {a b : Str} : decide (V.str a = V.str b) = decide (a = b) := by
  by_cases h : a = b
  · subst h; simp
  · rw [decide_eq_false h]; exact decide_eq_false fun z => h (by cases z; rfl)
section
variable {X : Cx} {W : DWX}
theorem op_eqT : DOp X W (compareOp .Eq) aEqT := .of op_eq fun st H Z r M x y da db Q q ra rb h => by
  unfold aEqT at h
  split at h
  · cases ra; cases rb
    refine ⟨rfl, EQ.val q (.bl _) ?_⟩
    rw [dec_str]; exact h
  · exact h.elim
theorem op_neT : DOp X W (compareOp .NotEq) aNeT := .of op_ne fun st H Z r M x y da db Q q ra rb h => by
  unfold aNeT at h
  split at h
  · cases ra; cases rb
    refine ⟨rfl, EQ.val q (.bl _) ?_⟩
    rw [dec_str]; exact h
  · exact h.elim
end
theorem aNeT_ss {x y : Str} {M : Mh} {Q : QD} : aNeT (.str x) (.str y) M Q ↔ Q (.bl (!decide (x = y))) M := Iff.rfl
theorem aEqT_ss {x y : Str} {M : Mh} {Q : QD} : aEqT (.str x) (.str y) M Q ↔ Q (.bl (decide (x = y))) M := Iff.rfl
theorem pyL_map {ds : List D} {ps : List PyData} (h : pyL ds = some ps) : py (.lst ds) = some (.list ps) := by
  show (pyL ds).map PyData.list = _
  rw [h]; rfl
theorem pyL_cons {d : D} {ds : List D} {p : PyData} {ps : List PyData} (h1 : py d = some p) (h2 : pyL ds = some ps) : pyL (d :: ds) = some (p :: ps) := by
  show (match py d, pyL ds with | some p, some ps => some (p :: ps) | _, _ => none) = _
  rw [h1, h2]
/-- repr of a list of things -/
theorem repr_lst {ds : List D} {ps : List PyData} {M : Mh} {Q : QD} (h : pyL ds = some ps) (hg : ∀ p ∈ ps, Good p) (hl : ps.length ≤ 20) (q : Q (.str (PyData.list ps).shown) M) : aRepr [.lst ds] M Q := by
  refine ⟨_, pyL_map h, ?_, q⟩
  have key : ∀ ps : List PyData, (∀ p ∈ ps, Good p) → okA ps = true ∧ szA ps ≤ 100002 * ps.length ∧ PyData.depthAll ps ≤ 20 := fun ps => by
    induction ps with
    | nil => intro _; exact ⟨rfl, Nat.le_refl _, by simp [PyData.depthAll]⟩
    | cons p ps ih =>
      intro h
      obtain ⟨a1, a2, a3⟩ := h p (List.mem_cons_self ..)
      obtain ⟨b1, b2, b3⟩ := ih fun x hx => h x (List.mem_cons_of_mem _ hx)
      refine ⟨by simp only [okA, a1, b1, Bool.and_self], ?_, ?_⟩
      · simp only [szA, List.length_cons]; omega
      · simp only [PyData.depthAll]; omega
  obtain ⟨k1, k2, k3⟩ := key ps hg
  refine showOk_of (by simp only [okP]; exact k1) ?_ ?_
  · simp only [szP]; omega
  · simp only [PyData.depth]; omega
/-- .. where the heap may grow on the way -/
theorem lcL_inv {p : TPat} {tt : DTT} {te : DTE} {r0 : Rho} {Q : QD} (Inv : Mh → Prop) (R : D → Option D → Prop) : ∀ {items acc : List D} {M : Mh},
    (∀ x ∈ items, ∀ (M : Mh), Inv M → ∀ (K1 : D → Mh → Prop) (K0 : Mh → Prop), (∀ o M', R x o → Inv M' → match o with | some y => K1 y M' | none => K0 M') → tpD p x r0 M fun r1 M1 => tt r1 M1 fun b M2 => if b = true then te r1 M2 K1 else K0 M2) →
    acc.length + items.length ≤ sizeLine → Inv M → (∀ (M : Mh) (os : List (Option D)), Inv M → Paired R items os → Q (.lst (acc ++ os.filterMap id)) M) → lcL p tt te r0 Q items acc M
  | [], acc, M, h, hl, hi, hq => by
    have := hq M [] hi .nil
    simpa [lcL] using this
  | x :: xs, acc, M, h, hl, hi, hq => by
    have hl' : acc.length + (xs.length + 1) ≤ sizeLine := hl
    refine h x (List.mem_cons_self ..) M hi (fun y M3 => acc.length < sizeLine ∧ lcL p tt te r0 Q xs (acc ++ [y]) M3) (fun M3 => lcL p tt te r0 Q xs acc M3) fun o M3 ro hi3 => ?_
    cases o with
    | some y =>
      refine ⟨by omega, lcL_inv Inv R (fun y hy => h y (List.mem_cons_of_mem _ hy)) (by rw [List.length_append, List.length_cons, List.length_nil]; omega) hi3 fun M4 os hi4 po => ?_⟩
      have := hq M4 (some y :: os) hi4 (.cons ro po)
      simpa using this
    | none =>
      refine lcL_inv Inv R (fun y hy => h y (List.mem_cons_of_mem _ hy)) (by omega) hi3 fun M4 os hi4 po => ?_
      have := hq M4 (none :: os) hi4 (.cons ro po)
      simpa using this
theorem paired_all {d : D} : ∀ {items : List D} {os : List (Option D)}, Paired (fun _ o => o = some d) items os → os.filterMap id = List.replicate items.length d
  | _, _, .nil => rfl
  | _, _, .cons e r => by
    subst e
    rw [List.filterMap_cons]
    show d :: List.filterMap id _ = _
    rw [paired_all r]
    rfl
end DL

set_option maxHeartbeats 4000000
namespace DL
open PySem PySem.Spec PyProof.Rows L2

/-! ### names -/
def lettersS : Str := "abcdefghijklmnopqrstuvwxyz"
def digitsS : Str := "0123456789"
def lettersL : List Nat := lettersS.cps.toList
def digitsL : List Nat := digitsS.cps.toList
def nameL (l : List Nat) : Bool := decide (1 ≤ l.length ∧ l.length ≤ 8) && ((match l with | c :: _ => decide (c ∈ lettersL) | [] => false) && l.all fun c => decide (c ∈ lettersL) || decide (c ∈ digitsL))
theorem pyL_strs : ∀ ss : List Str, pyL (ss.map D.str) = some (ss.map PyData.str)
  | [] => rfl
  | s :: ss => by
    show (match py (.str s), pyL (ss.map D.str) with | some p, some ps => some (p :: ps) | _, _ => none) = _
    rw [pyL_strs ss]
    rfl
theorem shaped_strs (ss : List Str) (hok : ∀ s ∈ ss, PyData.strOk s = true) : SeqAt.shaped (.list (ss.map PyData.str)) = true := by
  have h1 : ∀ ss : List Str, (∀ s ∈ ss, PyData.strOk s = true) → PyData.canLayAll0 (ss.map PyData.str) = true := fun ss => by
    induction ss with
    | nil => intro _; rfl
    | cons s ss ih =>
      intro h
      simp only [List.map_cons, PyData.canLayAll0, PyData.canLay0, ih fun x hx => h x (List.mem_cons_of_mem _ hx), h s (List.mem_cons_self ..), Bool.and_self]
  have h2 : ∀ ss : List Str, PyData.depthAll (ss.map PyData.str) ≤ 1 := fun ss => by
    induction ss with
    | nil => simp [PyData.depthAll]
    | cons s ss ih => simp only [List.map_cons, PyData.depthAll, PyData.depth]; omega
  show (PyData.canLay0 (.list (ss.map PyData.str)) && decide (PyData.depth (.list (ss.map PyData.str)) ≤ 64)) = true
  rw [Bool.and_eq_true]
  refine ⟨by simp only [PyData.canLay0]; exact h1 ss hok, decide_eq_true ?_⟩
  have := h2 ss
  simp only [PyData.depth]
  omega
theorem blsD_rep1 : ∀ m : Nat, blsD (List.replicate m (.bl true)) = some (List.replicate m true)
  | 0 => rfl
  | m + 1 => by
    rw [List.replicate_succ, List.replicate_succ]
    show (blsD (List.replicate m (.bl true))).map _ = _
    rw [blsD_rep1 m]
    rfl
theorem all_rep1 (m : Nat) : (List.replicate m true).all id = true := by
  rw [List.all_eq_true]
  intro x hx
  exact List.eq_of_mem_replicate hx
def isCountD : D → Bool
  | .int i => decide (0 ≤ i)
  | _ => false
def kindD : D → Bool
  | .str z => inV (.str z) [.str "beyond", .str "upto", .str "reach"]
  | _ => false
def isNameD : D → Bool
  | .str z => nameL z.cps.toList
  | _ => false
/-- what the law expects of a row of names -/
def dueL : List D → List D → List D
  | [], all => .str "made" :: all
  | d :: r, all => if isNameD d then dueL r all else [.str "refused", d]
theorem due_day (a : D) : (if isNameD a then [.str "made", a] else [.str "refused", a]) = dueL [a] [a] := by
  show _ = (if isNameD a then dueL [] [a] else [.str "refused", a])
  rfl
theorem due_rule (a b : D) : (if isNameD a then (if isNameD b then [.str "made", a, b] else [.str "refused", b]) else [.str "refused", a]) = dueL [a, b] [a, b] := by
  show _ = (if isNameD a then (if isNameD b then dueL [] [a, b] else [.str "refused", b]) else [.str "refused", a])
  rfl
theorem thing_str {z : Str} (h : z.length ≤ 1000) (hok : PyData.strOk z = true) : Thing (.str z) := ⟨_, rfl, by simp only [okP]; exact hok, by simp only [szP]; omega, Nat.zero_le _⟩
theorem thing_made : Thing (.str "made") := thing_str (by decide) (by decide +kernel)
theorem thing_refused : Thing (.str "refused") := thing_str (by decide) (by decide +kernel)
theorem dueL_things {all : List D} (ha : ∀ d ∈ all, Thing d) : ∀ {ds : List D}, (∀ d ∈ ds, Thing d) → (∀ d ∈ dueL ds all, Thing d) ∧ (dueL ds all).length ≤ all.length + 2
  | [], _ => ⟨fun d hd => by
    rcases List.mem_cons.mp hd with rfl | hd
    · exact thing_made
    · exact ha d hd, by simp [dueL]⟩
  | d :: r, h => by
    show (∀ x ∈ (if isNameD d then dueL r all else [.str "refused", d]), Thing x) ∧ (if isNameD d then dueL r all else [.str "refused", d]).length ≤ _
    split
    · exact dueL_things ha fun x hx => h x (List.mem_cons_of_mem _ hx)
    · refine ⟨fun x hx => ?_, by simp⟩
      simp only [List.mem_cons, List.mem_nil_iff, or_false] at hx
      rcases hx with rfl | rfl
      · exact thing_refused
      · exact h _ (List.mem_cons_self ..)
/-- what repr tells of things -/
theorem things_repr {ds : List D} (h : ∀ d ∈ ds, Thing d) (hl : ds.length ≤ 20) : ∃ z : Str, ∀ (M : Mh) (Q : QD), Q (.str z) M → aRepr [.lst ds] M Q := by
  have key : ∀ ds : List D, (∀ d ∈ ds, Thing d) → ∃ ps, pyL ds = some ps ∧ (∀ p ∈ ps, Good p) ∧ ps.length = ds.length := fun ds => by
    induction ds with
    | nil => intro _; exact ⟨[], rfl, fun p hp => by simp at hp, rfl⟩
    | cons d ds ih =>
      intro h
      obtain ⟨p, e, g⟩ := h d (List.mem_cons_self ..)
      obtain ⟨ps, e2, g2, l2⟩ := ih fun x hx => h x (List.mem_cons_of_mem _ hx)
      refine ⟨p :: ps, pyL_cons e e2, fun q hq => ?_, by simp [l2]⟩
      rcases List.mem_cons.mp hq with rfl | hq
      · exact g
      · exact g2 q hq
  obtain ⟨ps, e, g, l⟩ := key ds h
  exact ⟨_, fun M Q q => repr_lst e g (by omega) q⟩
def topS (i : Nat) : Stmt := PySem.Challenge.pw_overhours_k02_names.main.body.getD i (.Pass ⟨0, 0, 0, 0⟩)
abbrev d_InvalidMost_init : He5.DefA := ⟨fun K => He.ma K (He.ga K "InvalidMost") "__init__", "__init__", "InvalidMost.__init__", defArgs (inS (topS 3) 0), defBody (inS (topS 3) 0), defScope (inS (topS 3) 0), [], []⟩
theorem sc_InvalidMost_init : FnScope ["self", "given"] ["self", "given"] (defScope (inS (topS 3) 0)) := ⟨rfl, rfl, rfl, by decide +kernel, rfl, by decide +kernel, by decide +kernel⟩
abbrev d_InvalidName_init : He5.DefA := ⟨fun K => He.ma K (He.ga K "InvalidName") "__init__", "__init__", "InvalidName.__init__", defArgs (inS (topS 2) 0), defBody (inS (topS 2) 0), defScope (inS (topS 2) 0), [], []⟩
theorem sc_InvalidName_init : FnScope ["self", "given"] ["self", "given"] (defScope (inS (topS 2) 0)) := ⟨rfl, rfl, rfl, by decide +kernel, rfl, by decide +kernel, by decide +kernel⟩
abbrev d_InvalidRate_init : He5.DefA := ⟨fun K => He.ma K (He.ga K "InvalidRate") "__init__", "__init__", "InvalidRate.__init__", defArgs (inS (topS 6) 0), defBody (inS (topS 6) 0), defScope (inS (topS 6) 0), [], []⟩
theorem sc_InvalidRate_init : FnScope ["self", "given"] ["self", "given"] (defScope (inS (topS 6) 0)) := ⟨rfl, rfl, rfl, by decide +kernel, rfl, by decide +kernel, by decide +kernel⟩
abbrev d_InvalidNumber_init : He5.DefA := ⟨fun K => He.ma K (He.ga K "InvalidNumber") "__init__", "__init__", "InvalidNumber.__init__", defArgs (inS (topS 5) 0), defBody (inS (topS 5) 0), defScope (inS (topS 5) 0), [], []⟩
theorem sc_InvalidNumber_init : FnScope ["self", "given"] ["self", "given"] (defScope (inS (topS 5) 0)) := ⟨rfl, rfl, rfl, by decide +kernel, rfl, by decide +kernel, by decide +kernel⟩
abbrev d_InvalidKind_init : He5.DefA := ⟨fun K => He.ma K (He.ga K "InvalidKind") "__init__", "__init__", "InvalidKind.__init__", defArgs (inS (topS 4) 0), defBody (inS (topS 4) 0), defScope (inS (topS 4) 0), [], []⟩
theorem sc_InvalidKind_init : FnScope ["self", "given"] ["self", "given"] (defScope (inS (topS 4) 0)) := ⟨rfl, rfl, rfl, by decide +kernel, rfl, by decide +kernel, by decide +kernel⟩
abbrev d_is_integer : He5.DefA := ⟨fun K => He.ga K "is_integer", "is_integer", "is_integer", defArgs (topS 10), defBody (topS 10), defScope (topS 10), [], []⟩
abbrev d_is_count : He5.DefA := ⟨fun K => He.ga K "is_count", "is_count", "is_count", defArgs (topS 11), defBody (topS 11), defScope (topS 11), [], []⟩
abbrev d_is_name : He5.DefA := ⟨fun K => He.ga K "is_name", "is_name", "is_name", defArgs (topS 12), defBody (topS 12), defScope (topS 12), [], []⟩
abbrev d_Day_init : He5.DefA := ⟨fun K => He.ma K (He.ga K "Day") "__init__", "__init__", "Day.__init__", defArgs (inS (topS 15) 1), defBody (inS (topS 15) 1), defScope (inS (topS 15) 1), [.non], []⟩
abbrev d_Day_name : He5.DefA := ⟨fun K => pgA K (He.ga K "Day") "name", "name", "Day.name", defArgs (inS (topS 15) 2), defBody (inS (topS 15) 2), defScope (inS (topS 15) 2), [], []⟩
abbrev d_Day_most : He5.DefA := ⟨fun K => pgA K (He.ga K "Day") "most", "most", "Day.most", defArgs (inS (topS 15) 3), defBody (inS (topS 15) 3), defScope (inS (topS 15) 3), [], []⟩
abbrev d_Rule_init : He5.DefA := ⟨fun K => He.ma K (He.ga K "Rule") "__init__", "__init__", "Rule.__init__", defArgs (inS (topS 16) 1), defBody (inS (topS 16) 1), defScope (inS (topS 16) 1), [], []⟩
abbrev d_Rule_first : He5.DefA := ⟨fun K => pgA K (He.ga K "Rule") "first", "first", "Rule.first", defArgs (inS (topS 16) 2), defBody (inS (topS 16) 2), defScope (inS (topS 16) 2), [], []⟩
abbrev d_Rule_last : He5.DefA := ⟨fun K => pgA K (He.ga K "Rule") "last", "last", "Rule.last", defArgs (inS (topS 16) 3), defBody (inS (topS 16) 3), defScope (inS (topS 16) 3), [], []⟩
abbrev d_Rule_kind : He5.DefA := ⟨fun K => pgA K (He.ga K "Rule") "kind", "kind", "Rule.kind", defArgs (inS (topS 16) 4), defBody (inS (topS 16) 4), defScope (inS (topS 16) 4), [], []⟩
abbrev d_Rule_number : He5.DefA := ⟨fun K => pgA K (He.ga K "Rule") "number", "number", "Rule.number", defArgs (inS (topS 16) 5), defBody (inS (topS 16) 5), defScope (inS (topS 16) 5), [], []⟩
abbrev d_Rule_rate : He5.DefA := ⟨fun K => pgA K (He.ga K "Rule") "rate", "rate", "Rule.rate", defArgs (inS (topS 16) 6), defBody (inS (topS 16) 6), defScope (inS (topS 16) 6), [], []⟩
abbrev d_l_cell : He5.DefA := ⟨fun K => He.ga K "_law_cell", "_law_cell", "_law_cell", defArgs (topS 18), defBody (topS 18), defScope (topS 18), [], []⟩
abbrev d_l_pool : He5.DefA := ⟨fun K => He.ga K "_law_pool", "_law_pool", "_law_pool", defArgs (topS 19), defBody (topS 19), defScope (topS 19), [], []⟩
abbrev d_l_draw : He5.DefA := ⟨fun K => He.ga K "_law_draw", "_law_draw", "_law_draw", defArgs (topS 20), defBody (topS 20), defScope (topS 20), [], []⟩
abbrev d_l_pick : He5.DefA := ⟨fun K => He.ga K "_law_pick", "_law_pick", "_law_pick", defArgs (topS 21), defBody (topS 21), defScope (topS 21), [], []⟩
abbrev d_l_odd : He5.DefA := ⟨fun K => He.ga K "_law_odd", "_law_odd", "_law_odd", defArgs (topS 22), defBody (topS 22), defScope (topS 22), [], []⟩
abbrev d_l_is_name : He5.DefA := ⟨fun K => He.ga K "_law_is_name", "_law_is_name", "_law_is_name", defArgs (topS 23), defBody (topS 23), defScope (topS 23), [], []⟩
abbrev d_l_string : He5.DefA := ⟨fun K => He.ga K "_law_string", "_law_string", "_law_string", defArgs (topS 24), defBody (topS 24), defScope (topS 24), [], []⟩
abbrev d_l_day_told : He5.DefA := ⟨fun K => He.ga K "_law_day_told", "_law_day_told", "_law_day_told", defArgs (topS 25), defBody (topS 25), defScope (topS 25), [], []⟩
abbrev d_l_rule_told : He5.DefA := ⟨fun K => He.ga K "_law_rule_told", "_law_rule_told", "_law_rule_told", defArgs (topS 26), defBody (topS 26), defScope (topS 26), [], []⟩
abbrev d_l_due : He5.DefA := ⟨fun K => He.ga K "_law_due", "_law_due", "_law_due", defArgs (topS 27), defBody (topS 27), defScope (topS 27), [], []⟩
abbrev d_l_right : He5.DefA := ⟨fun K => He.ga K "_law_right", "_law_right", "_law_right", defArgs (topS 28), defBody (topS 28), defScope (topS 28), [], []⟩
abbrev d_law : He5.DefA := ⟨fun K => He.ga K "law", "law", "law", defArgs (topS 29), defBody (topS 29), defScope (topS 29), [], []⟩
def fn : List He5.DefA := [d_InvalidMost_init, d_InvalidName_init, d_InvalidRate_init, d_InvalidNumber_init, d_InvalidKind_init, d_is_integer, d_is_count, d_is_name, d_Day_init, d_Day_name, d_Day_most, d_Rule_init, d_Rule_first, d_Rule_last, d_Rule_kind, d_Rule_number, d_Rule_rate, d_l_cell, d_l_pool, d_l_draw, d_l_pick, d_l_odd, d_l_is_name, d_l_string, d_l_day_told, d_l_rule_told, d_l_due, d_l_right, d_law]
def fa : List Fc := [
  fun K => (He.Fa.free "isinstance").ok K,
  fun K => (He.Fa.free "bool").ok K,
  fun K => (He.Fa.free "int").ok K,
  fun K => (He.Fa.glo "is_integer").ok K,
  fun K => (He.Fa.free "all").ok K,
  fun K => (He.Fa.str "DIGITS" "0123456789").ok K,
  fun K => (He.Fa.str "LETTERS" "abcdefghijklmnopqrstuvwxyz").ok K,
  fun K => (He.Fa.free "len").ok K,
  fun K => (He.Fa.free "str").ok K,
  bScls "Day",
  bSlot "Day" "shape" 0,
  fun K => (He.Fa.glo "is_count").ok K,
  fun K => (He.Fa.glo "InvalidMost").ok K,
  fun K => (He.Fa.glo "is_name").ok K,
  fun K => (He.Fa.glo "InvalidName").ok K,
  bScls "Rule",
  bSlot "Rule" "shape" 0,
  fun K => (He.Fa.glo "InvalidRate").ok K,
  fun K => (He.Fa.glo "InvalidNumber").ok K,
  fun K => (He.Fa.glo "KINDS").ok K,
  bTup "KINDS" [.str "beyond", .str "upto", .str "reach"],
  fun K => (He.Fa.glo "InvalidKind").ok K,
  fun K => (He.Fa.free "abs").ok K,
  fun K => (He.Fa.free "divmod").ok K,
  fun K => (He.Fa.glo "_law_draw").ok K,
  fun K => (He.Fa.glo "_law_pick").ok K,
  fun K => (He.Fa.free "range").ok K,
  bProp "Day" "name",
  fun K => (He.Fa.glo "Day").ok K,
  fun K => (He.Fa.mkr "Day").ok K,
  bExm "InvalidName" "InvalidName" true,
  bProp "Rule" "last",
  bProp "Rule" "first",
  fun K => (He.Fa.glo "Rule").ok K,
  fun K => (He.Fa.mkr "Rule").ok K,
  fun K => (He.Fa.glo "_law_is_name").ok K,
  bSys,
  fun K => (He.Fa.free "repr").ok K,
  fun K => (He.Fa.glo "_law_rule_told").ok K,
  fun K => (He.Fa.glo "_law_due").ok K,
  fun K => (He.Fa.glo "_law_day_told").ok K,
  fun K => (He.Fa.glo "_law_odd").ok K,
  fun K => (He.Fa.glo "_law_string").ok K,
  fun K => (He.Fa.free "max").ok K,
  fun K => (He.Fa.free "min").ok K,
  fun K => (He.Fa.glo "_law_right").ok K,
  fun K => (He.Fa.glo "_law_pool").ok K,
  fun K => (He.Fa.glo "_law_cell").ok K,
  fun K => (He.Fa.glo "law").ok K,
  bExc "InvalidMost" "given",
  bExc "InvalidName" "given",
  bExc "InvalidRate" "given",
  bExc "InvalidNumber" "given",
  bExc "InvalidKind" "given"]
section
variable {P : Program} {w : World} {K : PySem.W.Frag} {mg : Str → Option Value} {base : Heap}
theorem okx_InvalidMost (c : SaysF fa fn K) : OkX P w K mg base (He.ga K "InvalidMost") (He.ma K (He.ga K "InvalidMost") "__init__") "given" "given" := by
  obtain ⟨fd_, FD_⟩ := c.def_ 0 (d := d_InvalidMost_init)
  exact okX_of (bExc_ok (c.fact 49 (f := bExc "InvalidMost" "given"))) FD_ sc_InvalidMost_init rfl fun _ _ _ _ _ _ us hl => match us, hl with | [_, _], _ => rfl
theorem okx_InvalidName (c : SaysF fa fn K) : OkX P w K mg base (He.ga K "InvalidName") (He.ma K (He.ga K "InvalidName") "__init__") "given" "given" := by
  obtain ⟨fd_, FD_⟩ := c.def_ 1 (d := d_InvalidName_init)
  exact okX_of (bExc_ok (c.fact 50 (f := bExc "InvalidName" "given"))) FD_ sc_InvalidName_init rfl fun _ _ _ _ _ _ us hl => match us, hl with | [_, _], _ => rfl
theorem okx_InvalidRate (c : SaysF fa fn K) : OkX P w K mg base (He.ga K "InvalidRate") (He.ma K (He.ga K "InvalidRate") "__init__") "given" "given" := by
  obtain ⟨fd_, FD_⟩ := c.def_ 2 (d := d_InvalidRate_init)
  exact okX_of (bExc_ok (c.fact 51 (f := bExc "InvalidRate" "given"))) FD_ sc_InvalidRate_init rfl fun _ _ _ _ _ _ us hl => match us, hl with | [_, _], _ => rfl
theorem okx_InvalidNumber (c : SaysF fa fn K) : OkX P w K mg base (He.ga K "InvalidNumber") (He.ma K (He.ga K "InvalidNumber") "__init__") "given" "given" := by
  obtain ⟨fd_, FD_⟩ := c.def_ 3 (d := d_InvalidNumber_init)
  exact okX_of (bExc_ok (c.fact 52 (f := bExc "InvalidNumber" "given"))) FD_ sc_InvalidNumber_init rfl fun _ _ _ _ _ _ us hl => match us, hl with | [_, _], _ => rfl
theorem okx_InvalidKind (c : SaysF fa fn K) : OkX P w K mg base (He.ga K "InvalidKind") (He.ma K (He.ga K "InvalidKind") "__init__") "given" "given" := by
  obtain ⟨fd_, FD_⟩ := c.def_ 4 (d := d_InvalidKind_init)
  exact okX_of (bExc_ok (c.fact 53 (f := bExc "InvalidKind" "given"))) FD_ sc_InvalidKind_init rfl fun _ _ _ _ _ _ us hl => match us, hl with | [_, _], _ => rfl
theorem sc_is_integer : FnScope ["value"] ["value"] (defScope (topS 10)) := ⟨rfl, rfl, rfl, by decide +kernel, rfl, by decide +kernel, by decide +kernel⟩
def sp_is_integer (K : PySem.W.Frag) : DSp := sp1 (fun a M Q E => Plain a ∧ Q (.bl (isIntD a)) M)
theorem ok_is_integer (X : K.In base) (G : base.Ns mainGlobals mg) (c : SaysF fa fn K) : OkF P w K mg base 1 d_is_integer ["value"] (sp_is_integer K) := by
  obtain ⟨fd_, FD_⟩ := c.def_ 5 (d := d_is_integer)
  have g_isinstance := He.free_ok X G (c.fact 0 (f := fun K => (He.Fa.free "isinstance").ok K))
  have g_bool := He.free_ok X G (c.fact 1 (f := fun K => (He.Fa.free "bool").ok K))
  have g_int := He.free_ok X G (c.fact 2 (f := fun K => (He.Fa.free "int").ok K))
  refine ⟨fd_, FD_, fng_of FD_ sc_is_integer (fun ds M Q E h => sp1_len h) (fun cdv A outer s H Z ds M Q E E1 hr h => ?_), Bd.all FD_ rfl rfl fun _ _ _ _ _ _ us hl => match us, hl with | [_], _ => rfl⟩
  obtain ⟨a, rfl, h⟩ := h
  refine ⟨_, (dss_cons (ds_ret (de_and (de_callB c_isi rfl g_isinstance boot_isinstance (da_cons (dv 0) (da_cons (de_type rfl g_int boot_int) da_nil))) (de_one (de_not (de_callB c_isi rfl g_isinstance boot_isinstance (da_cons (dv 0) (da_cons (de_type rfl g_bool boot_bool) da_nil))))))) dss_nil), ?_⟩
  obtain ⟨ha, h⟩ := h
  simp only [dSeq, dNext, dDrop, dRet, dRetN, dIfS, dAsg, gdName, gdNil, gdCons, gdTup, gdSub, dCB, dCons, dNil, dC, dVar, dOp, dUn, dB, dAnd, dOr, dNot, dAndV, dOrV, dNotV, dIf, dTup, dLst, dChain, startD, List.map, List.replicate, List.length, List.append, List.getElem?_cons_zero, List.getElem?_cons_succ, List.set, Nat.sub, List.cons_append, List.nil_append, Nat.zero_add, Nat.reduceAdd, Nat.reduceSub, dP, fTup, fCons, fLst, fVar, fDic, fKv, aNeg_i, aI1_i, aI2_i, aStrI_i, aMul_ii, id, Option.some.injEq, exists_eq_left', exists_and_left, D.ref.injEq, D.int.injEq, D.bl.injEq, D.lst.injEq, Nat.reduceLeDiff, Nat.zero_le, lstW, seqOf, lstOf, aLen_s, aLen_t, aLen_l, aLen_r, aLt, aLe, aGt, aGe, aCmp_ii, aEq_ii, aNe_ii, aEqT_ss, aNeT_ss, dFor, iTup, iLst, forL, dRaise, dSetSlot, dTry, aAdd_ii, aAdd_ss, aAdd_tt, aAdd_ll, aSub, aInt_ii, aInt0_ii, aMod, aFdiv, aPow, aIsN, aNotN, isStrD, dCall, dBM, m2S, bty, sp0_iff, sp1_iff, sp2_iff, sp3_iff, sp4_iff, sp5_iff, sp6_iff, true_and, and_true, if_true, if_false, Bool.not_true, Bool.not_false, Bool.false_eq_true, reduceIte, isi_int ha, isi_bool ha]
  cases a <;> first | exact ha.elim | exact RetQ.here h
theorem sc_is_count : FnScope ["value"] ["value"] (defScope (topS 11)) := ⟨rfl, rfl, rfl, by decide +kernel, rfl, by decide +kernel, by decide +kernel⟩
def sp_is_count (K : PySem.W.Frag) : DSp := sp1 (fun a M Q E => Plain a ∧ Q (.bl (isCountD a)) M)
theorem ok_is_count (X : K.In base) (G : base.Ns mainGlobals mg) (c : SaysF fa fn K) : OkF P w K mg base 2 d_is_count ["value"] (sp_is_count K) := by
  obtain ⟨fd_, FD_⟩ := c.def_ 6 (d := d_is_count)
  obtain ⟨f_is_integer, FD_is_integer, F_is_integer, B_is_integer⟩ := ok_is_integer (P := P) (w := w) X G c
  have K_is_integer := FD_is_integer.kp
  have g_is_integer := He.glo_ok X G (c.fact 3 (f := fun K => (He.Fa.glo "is_integer").ok K))
  refine ⟨fd_, FD_, fng_of FD_ sc_is_count (fun ds M Q E h => sp1_len h) (fun cdv A outer s H Z ds M Q E E1 hr h => ?_), Bd.all FD_ rfl rfl fun _ _ _ _ _ _ us hl => match us, hl with | [_], _ => rfl⟩
  obtain ⟨a, rfl, h⟩ := h
  refine ⟨_, (dss_cons (ds_ret (de_and (de_call F_is_integer (hr.mono (by decide)) rfl g_is_integer K_is_integer B_is_integer (da_cons (dv 0) da_nil)) (de_one (de_cmp op_ge_ (dv 0) de_int (nomark _))))) dss_nil), ?_⟩
  obtain ⟨ha, h⟩ := h
  simp only [dSeq, dNext, dDrop, dRet, dRetN, dIfS, dAsg, gdName, gdNil, gdCons, gdTup, gdSub, dCB, dCons, dNil, dC, dVar, dOp, dUn, dB, dAnd, dOr, dNot, dAndV, dOrV, dNotV, dIf, dTup, dLst, dChain, startD, List.map, List.replicate, List.length, List.append, List.getElem?_cons_zero, List.getElem?_cons_succ, List.set, Nat.sub, List.cons_append, List.nil_append, Nat.zero_add, Nat.reduceAdd, Nat.reduceSub, dP, fTup, fCons, fLst, fVar, fDic, fKv, aNeg_i, aI1_i, aI2_i, aStrI_i, aMul_ii, id, Option.some.injEq, exists_eq_left', exists_and_left, D.ref.injEq, D.int.injEq, D.bl.injEq, D.lst.injEq, Nat.reduceLeDiff, Nat.zero_le, lstW, seqOf, lstOf, aLen_s, aLen_t, aLen_l, aLen_r, aLt, aLe, aGt, aGe, aCmp_ii, aEq_ii, aNe_ii, aEqT_ss, aNeT_ss, dFor, iTup, iLst, forL, dRaise, dSetSlot, dTry, aAdd_ii, aAdd_ss, aAdd_tt, aAdd_ll, aSub, aInt_ii, aInt0_ii, aMod, aFdiv, aPow, aIsN, aNotN, isStrD, dCall, dBM, m2S, bty, sp0_iff, sp1_iff, sp2_iff, sp3_iff, sp4_iff, sp5_iff, sp6_iff, true_and, and_true, if_true, if_false, Bool.not_true, Bool.not_false, Bool.false_eq_true, reduceIte, dCall, sp_is_integer]
  refine ⟨ha, ?_⟩
  cases a <;> first | exact ha.elim | exact RetQ.here h
theorem sc_is_name : FnScope ["value", "sign"] ["value"] (defScope (topS 12)) := ⟨rfl, rfl, rfl, by decide +kernel, rfl, by decide +kernel, by decide +kernel⟩
def sp_is_name (K : PySem.W.Frag) : DSp := sp1 (fun a M Q E => Plain a ∧ (∀ z, a = .str z → z.length ≤ sizeLine) ∧ Q (.bl (isNameD a)) M)
theorem ok_is_name (X : K.In base) (G : base.Ns mainGlobals mg) (c : SaysF fa fn K) : OkF P w K mg base 1 d_is_name ["value"] (sp_is_name K) := by
  obtain ⟨fd_, FD_⟩ := c.def_ 7 (d := d_is_name)
  have g_all := He.free_ok X G (c.fact 4 (f := fun K => (He.Fa.free "all").ok K))
  have i_DIGITS := He.str_ok X G (c.fact 5 (f := fun K => (He.Fa.str "DIGITS" "0123456789").ok K))
  have i_LETTERS := He.str_ok X G (c.fact 6 (f := fun K => (He.Fa.str "LETTERS" "abcdefghijklmnopqrstuvwxyz").ok K))
  have g_len := He.free_ok X G (c.fact 7 (f := fun K => (He.Fa.free "len").ok K))
  have g_isinstance := He.free_ok X G (c.fact 0 (f := fun K => (He.Fa.free "isinstance").ok K))
  have g_str := He.free_ok X G (c.fact 8 (f := fun K => (He.Fa.free "str").ok K))
  refine ⟨fd_, FD_, fng_of FD_ sc_is_name (fun ds M Q E h => sp1_len h) (fun cdv A outer s H Z ds M Q E E1 hr h => ?_), Bd.all FD_ rfl rfl fun _ _ _ _ _ _ us hl => match us, hl with | [_], _ => rfl⟩
  obtain ⟨a, rfl, h⟩ := h
  refine ⟨_, (dss_cons (ds_if (DW.dt (dw_or (dt_not (dt_val (de_callB c_isi rfl g_isinstance boot_isinstance (da_cons (dv 0) (da_cons (de_type rfl g_str boot_str) da_nil))))) (dw_or (dt_not (dt_chain op_le_ op_le_ de_int (de_callB c_len rfl g_len boot_len (da_cons (dv 0) da_nil)) de_int)) (dw_or1 (dt_cmp op_notIn_ (de_ix (dv 0) de_int (by intro _ _; rfl)) (de_globS rfl i_LETTERS.choose_spec) rfl))))) (dss_cons (ds_ret de_bl) dss_nil) dss_nil) (dss_cons (ds_ret (de_callB (c_all rfl) rfl g_all boot_all (da_cons (de_lc (p := (.one 1)) (own := [("sign", 1)]) rfl sc_is_name.nd  (di_str (dv 0)) (blkB_ok (by kernel_rfl)) (by decide) (fun _ _ _ _ _ => pg_name sc_is_name.nd rfl (.inl rfl)) (fun _ _ _ _ _ => dts_nil) (fun _ _ _ _ _ => (de_or (de_cmp op_in_ (dv 1) (de_globS rfl i_LETTERS.choose_spec) rfl) (de_one (de_cmp op_in_ (dv 1) (de_globS rfl i_DIGITS.choose_spec) rfl))))) da_nil))) dss_nil)), ?_⟩
  obtain ⟨ha, hz, h⟩ := h
  simp only [dSeq, dNext, dDrop, dRet, dRetN, dIfS, dAsg, gdName, gdNil, gdCons, gdTup, gdSub, dCB, dCons, dNil, dC, dVar, dOp, dUn, dB, dAnd, dOr, dNot, dAndV, dOrV, dNotV, dIf, dTup, dLst, dChain, startD, List.map, List.replicate, List.length, List.append, List.getElem?_cons_zero, List.getElem?_cons_succ, List.set, Nat.sub, List.cons_append, List.nil_append, Nat.zero_add, Nat.reduceAdd, Nat.reduceSub, dP, fTup, fCons, fLst, fVar, fDic, fKv, aNeg_i, aI1_i, aI2_i, aStrI_i, aMul_ii, id, Option.some.injEq, exists_eq_left', exists_and_left, D.ref.injEq, D.int.injEq, D.bl.injEq, D.lst.injEq, Nat.reduceLeDiff, Nat.zero_le, lstW, seqOf, lstOf, aLen_s, aLen_t, aLen_l, aLen_r, aLt, aLe, aGt, aGe, aCmp_ii, aEq_ii, aNe_ii, aEqT_ss, aNeT_ss, dFor, iTup, iLst, forL, dRaise, dSetSlot, dTry, aAdd_ii, aAdd_ss, aAdd_tt, aAdd_ll, aSub, aInt_ii, aInt0_ii, aMod, aFdiv, aPow, aIsN, aNotN, isStrD, dCall, dBM, m2S, bty, sp0_iff, sp1_iff, sp2_iff, sp3_iff, sp4_iff, sp5_iff, sp6_iff, true_and, and_true, if_true, if_false, Bool.not_true, Bool.not_false, Bool.false_eq_true, reduceIte, isi_str ha]
  cases a <;> first | exact ha.elim | exact RetQ.here h | skip
  rename_i z
  simp only [dSeq, dNext, dDrop, dRet, dRetN, dIfS, dAsg, gdName, gdNil, gdCons, gdTup, gdSub, dCB, dCons, dNil, dC, dVar, dOp, dUn, dB, dAnd, dOr, dNot, dAndV, dOrV, dNotV, dIf, dTup, dLst, dChain, startD, List.map, List.replicate, List.length, List.append, List.getElem?_cons_zero, List.getElem?_cons_succ, List.set, Nat.sub, List.cons_append, List.nil_append, Nat.zero_add, Nat.reduceAdd, Nat.reduceSub, dP, fTup, fCons, fLst, fVar, fDic, fKv, aNeg_i, aI1_i, aI2_i, aStrI_i, aMul_ii, id, Option.some.injEq, exists_eq_left', exists_and_left, D.ref.injEq, D.int.injEq, D.bl.injEq, D.lst.injEq, Nat.reduceLeDiff, Nat.zero_le, lstW, seqOf, lstOf, aLen_s, aLen_t, aLen_l, aLen_r, aLt, aLe, aGt, aGe, aCmp_ii, aEq_ii, aNe_ii, aEqT_ss, aNeT_ss, dFor, iTup, iLst, forL, dRaise, dSetSlot, dTry, aAdd_ii, aAdd_ss, aAdd_tt, aAdd_ll, aSub, aInt_ii, aInt0_ii, aMod, aFdiv, aPow, aIsN, aNotN, isStrD, dCall, dBM, m2S, bty, sp0_iff, sp1_iff, sp2_iff, sp3_iff, sp4_iff, sp5_iff, sp6_iff, true_and, and_true, if_true, if_false, Bool.not_true, Bool.not_false, Bool.false_eq_true, reduceIte]
  have el : z.length = z.cps.toList.length := by show z.cps.size = _; simp
  have hn : isNameD (.str z) = nameL z.cps.toList := rfl
  refine ⟨hz z rfl, ?_⟩
  by_cases h1 : (1 : Int) ≤ (z.length : Int)
  · simp only [decide_eq_true h1, if_true]
    by_cases h8 : (z.length : Int) ≤ 8
    · simp only [decide_eq_true h8, Bool.not_true, Bool.false_eq_true, if_false]
      obtain ⟨c0, l, hl⟩ : ∃ c0 l, z.cps.toList = c0 :: l := by
        cases e : z.cps.toList with
        | nil => rw [e] at el; simp at el; omega
        | cons c l => exact ⟨c, l, rfl⟩
      have hlen : decide (1 ≤ z.cps.toList.length ∧ z.cps.toList.length ≤ 8) = true := decide_eq_true (by omega)
      refine ⟨c0, hz z rfl, by rw [hl]; exact atI_zero _ _, c0, rfl, ?_⟩
      by_cases hc : c0 ∈ lettersL
      · have e1 : decide (c0 ∈ (Str.ofString "abcdefghijklmnopqrstuvwxyz").cps.toList) = true := decide_eq_true hc
        simp only [if_true, e1, Bool.not_true, Bool.false_eq_true, if_false]
        refine lcL_fm (fun x => some (.bl (match x with | .str y => (match isSign y with | some c => decide (c ∈ lettersL) || decide (c ∈ digitsL) | none => false) | _ => false))) (fun x hx K1 K0 k => ?_) ?_ ?_
        · obtain ⟨c, hc1, rfl⟩ := List.mem_map.mp hx
          show tpD _ _ _ _ _
          refine ⟨c, rfl, ?_⟩
          have k' : K1 (.bl (decide (c ∈ lettersL) || decide (c ∈ digitsL))) M := k
          by_cases h2 : c ∈ lettersL
          · have e2 : decide (c ∈ (Str.ofString "abcdefghijklmnopqrstuvwxyz").cps.toList) = true := decide_eq_true h2
            rw [decide_eq_true h2] at k'
            simp only [e2, Bool.false_eq_true, if_false, if_true]
            exact k'
          · have e2 : decide (c ∈ (Str.ofString "abcdefghijklmnopqrstuvwxyz").cps.toList) = false := decide_eq_false h2
            rw [decide_eq_false h2, Bool.false_or] at k'
            simp only [e2, Bool.false_eq_true, if_false, if_true]
            exact ⟨c, rfl, k'⟩
        · have hs := hz z rfl
          unfold signsOf
          simp only [List.length_map, List.length_nil, Nat.zero_add]
          omega
        · refine ⟨_, z.cps.toList.map (fun c => decide (c ∈ lettersL) || decide (c ∈ digitsL)), rfl, ?_, ?_⟩
          · unfold signsOf
            generalize z.cps.toList = m
            induction m with
            | nil => rfl
            | cons c m ih =>
              rw [List.nil_append] at ih ⊢
              rw [List.map_cons, List.filterMap_cons]
              show (blsD _).map _ = _
              rw [ih]
              rfl
          · refine RetQ.here ?_
            rw [hn] at h
            unfold nameL at h
            rw [hlen, hl] at h
            rw [hl, List.all_map]
            simp only [decide_eq_true hc, Bool.true_and] at h
            exact h
      · have e1 : decide (c0 ∈ (Str.ofString "abcdefghijklmnopqrstuvwxyz").cps.toList) = false := decide_eq_false hc
        simp only [if_true, e1, Bool.not_false]
        refine RetQ.here ?_
        rw [hn] at h
        unfold nameL at h
        rw [hlen, hl] at h
        simp only [decide_eq_false hc, Bool.false_and, Bool.and_false] at h
        exact h
    · simp only [decide_eq_false h8, Bool.not_false, if_true]
      refine RetQ.here ?_
      rw [hn] at h
      unfold nameL at h
      rw [decide_eq_false (by omega), Bool.false_and] at h
      exact h
  · simp only [decide_eq_false h1, Bool.false_eq_true, if_false]
    refine RetQ.here ?_
    rw [hn] at h
    unfold nameL at h
    rw [decide_eq_false (by omega), Bool.false_and] at h
    exact h
theorem sc_Day_init : FnScope ["self", "name", "most"] ["self", "name", "most"] (defScope (inS (topS 15) 1)) := ⟨rfl, rfl, rfl, by decide +kernel, rfl, by decide +kernel, by decide +kernel⟩
def sp_Day_init (K : PySem.W.Frag) : DSp := sp3 (fun a b c M Q E => ∃ x dx, a = .ref x ∧ M x = some (.slt (He.ga K "Day") dx []) ∧ Plain b ∧ (∀ z, b = .str z → z.length ≤ sizeLine) ∧ Plain c ∧
  (if isNameD b = false then E (.ref (He.ga K "InvalidName")) [("given", b)] M else if (isNon c || isCountD c) = false then E (.ref (He.ga K "InvalidMost")) [("given", c)] M else Q .non (mset M x (.slt (He.ga K "Day") dx [some (.tup [b, c])]))))
theorem ok_Day_init (X : K.In base) (G : base.Ns mainGlobals mg) (c : SaysF fa fn K) : OkF P w K mg base 3 d_Day_init ["self", "name", "most"] (sp_Day_init K) := by
  obtain ⟨fd_, FD_⟩ := c.def_ 8 (d := d_Day_init)
  obtain ⟨f_is_count, FD_is_count, F_is_count, B_is_count⟩ := ok_is_count (P := P) (w := w) X G c
  have K_is_count := FD_is_count.kp
  obtain ⟨f_is_name, FD_is_name, F_is_name, B_is_name⟩ := ok_is_name (P := P) (w := w) X G c
  have K_is_name := FD_is_name.kp
  obtain ⟨fx_InvalidMost, X_InvalidMost⟩ := okx_InvalidMost (P := P) (w := w) (base := base) (mg := mg) c
  obtain ⟨fx_InvalidName, X_InvalidName⟩ := okx_InvalidName (P := P) (w := w) (base := base) (mg := mg) c
  have s_Day := bScls_ok (c.fact 9 (f := bScls "Day"))
  have s_Day_shape := bSlot_ok (c.fact 10 (f := bSlot "Day" "shape" 0))
  have g_is_count := He.glo_ok X G (c.fact 11 (f := fun K => (He.Fa.glo "is_count").ok K))
  have g_InvalidMost := He.glo_ok X G (c.fact 12 (f := fun K => (He.Fa.glo "InvalidMost").ok K))
  have g_is_name := He.glo_ok X G (c.fact 13 (f := fun K => (He.Fa.glo "is_name").ok K))
  have g_InvalidName := He.glo_ok X G (c.fact 14 (f := fun K => (He.Fa.glo "InvalidName").ok K))
  refine ⟨fd_, FD_, fng_of FD_ sc_Day_init (fun ds M Q E h => sp3_len h) (fun cdv A outer s H Z ds M Q E E1 hr h => ?_), Bd.allD FD_ (by simp [He5.DefA.dvs]) rfl fun _ _ _ _ _ _ _ us hl => match us, hl with | [_, _, _], _ => ⟨_, rfl, fun its hi => match its, hi with | [_], _ => rfl⟩⟩
  obtain ⟨a, b, c, rfl, h⟩ := h
  refine ⟨_, (dss_cons (ds_if (dt_not (dt_val (de_call F_is_name (hr.mono (by decide)) rfl g_is_name K_is_name B_is_name (da_cons (dv 1) da_nil)))) (dss_cons (ds_raise rfl X_InvalidName.2.2.1 X_InvalidName.1 (hr.mono (by decide)) X_InvalidName.2.1 rfl g_InvalidName (da_cons (dv 1) da_nil)) dss_nil) dss_nil) (dss_cons (ds_if (DW.dt (dw_and (dt_cmp op_notN_ (dv 2) de_non (nomark _)) (dw_and1 (dt_not (dt_val (de_call F_is_count (hr.mono (by decide)) rfl g_is_count K_is_count B_is_count (da_cons (dv 2) da_nil))))))) (dss_cons (ds_raise rfl X_InvalidMost.2.2.1 X_InvalidMost.1 (hr.mono (by decide)) X_InvalidMost.2.1 rfl g_InvalidMost (da_cons (dv 2) da_nil)) dss_nil) dss_nil) (dss_cons (ds_slot s_Day s_Day_shape (dv 0) (dp_tup (dpa_cons (dp_var 1) (dpa_cons (dp_var 2) dpa_nil)))) dss_nil))), ?_⟩
  obtain ⟨x, dx, rfl, em, hb, hz, hc, h⟩ := h
  simp only [dSeq, dNext, dDrop, dRet, dRetN, dIfS, dAsg, gdName, gdNil, gdCons, gdTup, gdSub, dCB, dCons, dNil, dC, dVar, dOp, dUn, dB, dAnd, dOr, dNot, dAndV, dOrV, dNotV, dIf, dTup, dLst, dChain, startD, List.map, List.replicate, List.length, List.append, List.getElem?_cons_zero, List.getElem?_cons_succ, List.set, Nat.sub, List.cons_append, List.nil_append, Nat.zero_add, Nat.reduceAdd, Nat.reduceSub, dP, fTup, fCons, fLst, fVar, fDic, fKv, aNeg_i, aI1_i, aI2_i, aStrI_i, aMul_ii, id, Option.some.injEq, exists_eq_left', exists_and_left, D.ref.injEq, D.int.injEq, D.bl.injEq, D.lst.injEq, Nat.reduceLeDiff, Nat.zero_le, lstW, seqOf, lstOf, aLen_s, aLen_t, aLen_l, aLen_r, aLt, aLe, aGt, aGe, aCmp_ii, aEq_ii, aNe_ii, aEqT_ss, aNeT_ss, dFor, iTup, iLst, forL, dRaise, dSetSlot, dTry, aAdd_ii, aAdd_ss, aAdd_tt, aAdd_ll, aSub, aInt_ii, aInt0_ii, aMod, aFdiv, aPow, aIsN, aNotN, isStrD, dCall, dBM, m2S, bty, sp0_iff, sp1_iff, sp2_iff, sp3_iff, sp4_iff, sp5_iff, sp6_iff, true_and, and_true, if_true, if_false, Bool.not_true, Bool.not_false, Bool.false_eq_true, reduceIte, sp_is_name, sp_is_count]
  refine ⟨hb, hz, ?_⟩
  cases hn : isNameD b
  · simp only [hn, if_true] at h
    simp only [Bool.not_false, if_true]
    exact ⟨b, rfl, XLess.here h⟩
  · simp only [hn, Bool.true_eq_false, if_false] at h
    simp only [Bool.not_true, Bool.false_eq_true, if_false]
    have fin : (isNon c || isCountD c) = true → ∃ x_1 x_2, M x = some (MO.slt (He.ga K (Str.ofString "Day")) x_1 x_2) ∧ RetQ Q D.non (mset M x (MO.slt (He.ga K (Str.ofString "Day")) x_1 (putD 0 (D.tup [b, c]) x_2))) := fun e => by
      simp only [e, Bool.true_eq_false, if_false] at h
      exact ⟨_, _, em, RetQ.here h⟩
    cases hm : isNon c
    · simp only [Bool.not_false, if_true]
      refine ⟨hc, ?_⟩
      cases hk : isCountD c
      · simp only [hm, hk, Bool.or_self, if_true] at h
        simp only [Bool.not_false, if_true]
        exact ⟨c, rfl, XLess.here h⟩
      · simp only [Bool.not_true, Bool.false_eq_true, if_false]
        exact fin (by rw [hm, hk]; rfl)
    · simp only [Bool.not_true, Bool.false_eq_true, if_false]
      exact fin (by rw [hm]; rfl)
theorem sc_Day_name : FnScope ["self"] ["self"] (defScope (inS (topS 15) 2)) := ⟨rfl, rfl, rfl, by decide +kernel, rfl, by decide +kernel, by decide +kernel⟩
def sp_Day_name (K : PySem.W.Frag) : DSp := sp1 (fun a M Q E => ∃ x y, a = .ins (He.ga K "Day") [.tup [x, y]] ∧ Q x M)
theorem ok_Day_name (X : K.In base) (G : base.Ns mainGlobals mg) (c : SaysF fa fn K) : OkF P w K mg base 1 d_Day_name ["self"] (sp_Day_name K) := by
  obtain ⟨fd_, FD_⟩ := c.def_ 9 (d := d_Day_name)
  have s_Day := bScls_ok (c.fact 9 (f := bScls "Day"))
  have s_Day_shape := bSlot_ok (c.fact 10 (f := bSlot "Day" "shape" 0))
  refine ⟨fd_, FD_, fng_of FD_ sc_Day_name (fun ds M Q E h => sp1_len h) (fun cdv A outer s H Z ds M Q E E1 hr h => ?_), Bd.all FD_ rfl rfl fun _ _ _ _ _ _ us hl => match us, hl with | [_], _ => rfl⟩
  obtain ⟨a, rfl, h⟩ := h
  refine ⟨_, (dss_cons (ds_ret (de_ix (de_slot s_Day s_Day_shape (dv 0)) de_int (by intro _ _; rfl))) dss_nil), ?_⟩
  obtain ⟨x, y, rfl, h⟩ := h
  simp only [dSeq, dNext, dDrop, dRet, dRetN, dIfS, dAsg, gdName, gdNil, gdCons, gdTup, gdSub, dCB, dCons, dNil, dC, dVar, dOp, dUn, dB, dAnd, dOr, dNot, dAndV, dOrV, dNotV, dIf, dTup, dLst, dChain, startD, List.map, List.replicate, List.length, List.append, List.getElem?_cons_zero, List.getElem?_cons_succ, List.set, Nat.sub, List.cons_append, List.nil_append, Nat.zero_add, Nat.reduceAdd, Nat.reduceSub, dP, fTup, fCons, fLst, fVar, fDic, fKv, aNeg_i, aI1_i, aI2_i, aStrI_i, aMul_ii, id, Option.some.injEq, exists_eq_left', exists_and_left, D.ref.injEq, D.int.injEq, D.bl.injEq, D.lst.injEq, Nat.reduceLeDiff, Nat.zero_le, lstW, seqOf, lstOf, aLen_s, aLen_t, aLen_l, aLen_r, aLt, aLe, aGt, aGe, aCmp_ii, aEq_ii, aNe_ii, aEqT_ss, aNeT_ss, dFor, iTup, iLst, forL, dRaise, dSetSlot, dTry, aAdd_ii, aAdd_ss, aAdd_tt, aAdd_ll, aSub, aInt_ii, aInt0_ii, aMod, aFdiv, aPow, aIsN, aNotN, isStrD, dCall, dBM, m2S, bty, sp0_iff, sp1_iff, sp2_iff, sp3_iff, sp4_iff, sp5_iff, sp6_iff, true_and, and_true, if_true, if_false, Bool.not_true, Bool.not_false, Bool.false_eq_true, reduceIte, dSlot]
  exact ix_s (ds := [x, y]) rfl rfl (RetQ.here h)
theorem sc_Day_most : FnScope ["self"] ["self"] (defScope (inS (topS 15) 3)) := ⟨rfl, rfl, rfl, by decide +kernel, rfl, by decide +kernel, by decide +kernel⟩
def sp_Day_most (K : PySem.W.Frag) : DSp := sp1 (fun a M Q E => ∃ x y, a = .ins (He.ga K "Day") [.tup [x, y]] ∧ Q y M)
theorem ok_Day_most (X : K.In base) (G : base.Ns mainGlobals mg) (c : SaysF fa fn K) : OkF P w K mg base 1 d_Day_most ["self"] (sp_Day_most K) := by
  obtain ⟨fd_, FD_⟩ := c.def_ 10 (d := d_Day_most)
  have s_Day := bScls_ok (c.fact 9 (f := bScls "Day"))
  have s_Day_shape := bSlot_ok (c.fact 10 (f := bSlot "Day" "shape" 0))
  refine ⟨fd_, FD_, fng_of FD_ sc_Day_most (fun ds M Q E h => sp1_len h) (fun cdv A outer s H Z ds M Q E E1 hr h => ?_), Bd.all FD_ rfl rfl fun _ _ _ _ _ _ us hl => match us, hl with | [_], _ => rfl⟩
  obtain ⟨a, rfl, h⟩ := h
  refine ⟨_, (dss_cons (ds_ret (de_ix (de_slot s_Day s_Day_shape (dv 0)) de_int (by intro _ _; rfl))) dss_nil), ?_⟩
  obtain ⟨x, y, rfl, h⟩ := h
  simp only [dSeq, dNext, dDrop, dRet, dRetN, dIfS, dAsg, gdName, gdNil, gdCons, gdTup, gdSub, dCB, dCons, dNil, dC, dVar, dOp, dUn, dB, dAnd, dOr, dNot, dAndV, dOrV, dNotV, dIf, dTup, dLst, dChain, startD, List.map, List.replicate, List.length, List.append, List.getElem?_cons_zero, List.getElem?_cons_succ, List.set, Nat.sub, List.cons_append, List.nil_append, Nat.zero_add, Nat.reduceAdd, Nat.reduceSub, dP, fTup, fCons, fLst, fVar, fDic, fKv, aNeg_i, aI1_i, aI2_i, aStrI_i, aMul_ii, id, Option.some.injEq, exists_eq_left', exists_and_left, D.ref.injEq, D.int.injEq, D.bl.injEq, D.lst.injEq, Nat.reduceLeDiff, Nat.zero_le, lstW, seqOf, lstOf, aLen_s, aLen_t, aLen_l, aLen_r, aLt, aLe, aGt, aGe, aCmp_ii, aEq_ii, aNe_ii, aEqT_ss, aNeT_ss, dFor, iTup, iLst, forL, dRaise, dSetSlot, dTry, aAdd_ii, aAdd_ss, aAdd_tt, aAdd_ll, aSub, aInt_ii, aInt0_ii, aMod, aFdiv, aPow, aIsN, aNotN, isStrD, dCall, dBM, m2S, bty, sp0_iff, sp1_iff, sp2_iff, sp3_iff, sp4_iff, sp5_iff, sp6_iff, true_and, and_true, if_true, if_false, Bool.not_true, Bool.not_false, Bool.false_eq_true, reduceIte, dSlot]
  exact ix_s (ds := [x, y]) rfl rfl (RetQ.here h)
theorem sc_Rule_init : FnScope ["self", "first", "last", "kind", "number", "rate", "name"] ["self", "first", "last", "kind", "number", "rate"] (defScope (inS (topS 16) 1)) := ⟨rfl, rfl, rfl, by decide +kernel, rfl, by decide +kernel, by decide +kernel⟩
def sp_Rule_init (K : PySem.W.Frag) : DSp := sp6 (fun a b c d e f M Q E => ∃ x dx, a = .ref x ∧ M x = some (.slt (He.ga K "Rule") dx []) ∧ (Plain b ∧ ∀ z, b = .str z → z.length ≤ sizeLine) ∧ (Plain c ∧ ∀ z, c = .str z → z.length ≤ sizeLine) ∧ Plain d ∧ Plain e ∧ Plain f ∧
  (if isNameD b = false then E (.ref (He.ga K "InvalidName")) [("given", b)] M else if isNameD c = false then E (.ref (He.ga K "InvalidName")) [("given", c)] M else if kindD d = false then E (.ref (He.ga K "InvalidKind")) [("given", d)] M
    else if isCountD e = false then E (.ref (He.ga K "InvalidNumber")) [("given", e)] M else if isIntD f = false then E (.ref (He.ga K "InvalidRate")) [("given", f)] M
    else Q .non (mset M x (.slt (He.ga K "Rule") dx [some (.tup [b, c, d, e, f])]))))
theorem ok_Rule_init (X : K.In base) (G : base.Ns mainGlobals mg) (c : SaysF fa fn K) : OkF P w K mg base 3 d_Rule_init ["self", "first", "last", "kind", "number", "rate"] (sp_Rule_init K) := by
  obtain ⟨fd_, FD_⟩ := c.def_ 11 (d := d_Rule_init)
  obtain ⟨f_is_integer, FD_is_integer, F_is_integer, B_is_integer⟩ := ok_is_integer (P := P) (w := w) X G c
  have K_is_integer := FD_is_integer.kp
  obtain ⟨f_is_count, FD_is_count, F_is_count, B_is_count⟩ := ok_is_count (P := P) (w := w) X G c
  have K_is_count := FD_is_count.kp
  obtain ⟨f_is_name, FD_is_name, F_is_name, B_is_name⟩ := ok_is_name (P := P) (w := w) X G c
  have K_is_name := FD_is_name.kp
  obtain ⟨fx_InvalidRate, X_InvalidRate⟩ := okx_InvalidRate (P := P) (w := w) (base := base) (mg := mg) c
  obtain ⟨fx_InvalidNumber, X_InvalidNumber⟩ := okx_InvalidNumber (P := P) (w := w) (base := base) (mg := mg) c
  obtain ⟨fx_InvalidKind, X_InvalidKind⟩ := okx_InvalidKind (P := P) (w := w) (base := base) (mg := mg) c
  obtain ⟨fx_InvalidName, X_InvalidName⟩ := okx_InvalidName (P := P) (w := w) (base := base) (mg := mg) c
  have s_Rule := bScls_ok (c.fact 15 (f := bScls "Rule"))
  have s_Rule_shape := bSlot_ok (c.fact 16 (f := bSlot "Rule" "shape" 0))
  have g_is_integer := He.glo_ok X G (c.fact 3 (f := fun K => (He.Fa.glo "is_integer").ok K))
  have g_InvalidRate := He.glo_ok X G (c.fact 17 (f := fun K => (He.Fa.glo "InvalidRate").ok K))
  have g_is_count := He.glo_ok X G (c.fact 11 (f := fun K => (He.Fa.glo "is_count").ok K))
  have g_InvalidNumber := He.glo_ok X G (c.fact 18 (f := fun K => (He.Fa.glo "InvalidNumber").ok K))
  have g_KINDS := He.glo_ok X G (c.fact 19 (f := fun K => (He.Fa.glo "KINDS").ok K))
  have t_KINDS := fun H => He.tupB_ok (c.fact 20 (f := bTup "KINDS" [.str "beyond", .str "upto", .str "reach"])) H
  have g_isinstance := He.free_ok X G (c.fact 0 (f := fun K => (He.Fa.free "isinstance").ok K))
  have g_str := He.free_ok X G (c.fact 8 (f := fun K => (He.Fa.free "str").ok K))
  have g_InvalidKind := He.glo_ok X G (c.fact 21 (f := fun K => (He.Fa.glo "InvalidKind").ok K))
  have g_is_name := He.glo_ok X G (c.fact 13 (f := fun K => (He.Fa.glo "is_name").ok K))
  have g_InvalidName := He.glo_ok X G (c.fact 14 (f := fun K => (He.Fa.glo "InvalidName").ok K))
  refine ⟨fd_, FD_, fng_of FD_ sc_Rule_init (fun ds M Q E h => sp6_len h) (fun cdv A outer s H Z ds M Q E E1 hr h => ?_), Bd.all FD_ rfl rfl fun _ _ _ _ _ _ us hl => match us, hl with | [_, _, _, _, _, _], _ => rfl⟩
  obtain ⟨a, b, c, d, e, f, rfl, h⟩ := h
  refine ⟨_, (dss_cons (ds_for pass_body rfl (di_tup (dp_tup (dpa_cons (dp_var 1) (dpa_cons (dp_var 2) dpa_nil)))) (dg_name (i := 6) sc_Rule_init.nd rfl (by first | exact .inl rfl | exact .inr rfl)) (dss_cons (ds_if (dt_not (dt_val (de_call F_is_name (hr.mono (by decide)) rfl g_is_name K_is_name B_is_name (da_cons (dv 6) da_nil)))) (dss_cons (ds_raise rfl X_InvalidName.2.2.1 X_InvalidName.1 (hr.mono (by decide)) X_InvalidName.2.1 rfl g_InvalidName (da_cons (dv 6) da_nil)) dss_nil) dss_nil) dss_nil)) (dss_cons (ds_if (DW.dt (dw_or (dt_not (dt_val (de_callB c_isi rfl g_isinstance boot_isinstance (da_cons (dv 3) (da_cons (de_type rfl g_str boot_str) da_nil))))) (dw_or1 (dt_cmp op_notIn_ (dv 3) (de_globT rfl g_KINDS t_KINDS (fun _ => (.cons (.str "beyond") (.cons (.str "upto") (.cons (.str "reach") .nil))))) rfl)))) (dss_cons (ds_raise rfl X_InvalidKind.2.2.1 X_InvalidKind.1 (hr.mono (by decide)) X_InvalidKind.2.1 rfl g_InvalidKind (da_cons (dv 3) da_nil)) dss_nil) dss_nil) (dss_cons (ds_if (dt_not (dt_val (de_call F_is_count (hr.mono (by decide)) rfl g_is_count K_is_count B_is_count (da_cons (dv 4) da_nil)))) (dss_cons (ds_raise rfl X_InvalidNumber.2.2.1 X_InvalidNumber.1 (hr.mono (by decide)) X_InvalidNumber.2.1 rfl g_InvalidNumber (da_cons (dv 4) da_nil)) dss_nil) dss_nil) (dss_cons (ds_if (dt_not (dt_val (de_call F_is_integer (hr.mono (by decide)) rfl g_is_integer K_is_integer B_is_integer (da_cons (dv 5) da_nil)))) (dss_cons (ds_raise rfl X_InvalidRate.2.2.1 X_InvalidRate.1 (hr.mono (by decide)) X_InvalidRate.2.1 rfl g_InvalidRate (da_cons (dv 5) da_nil)) dss_nil) dss_nil) (dss_cons (ds_slot s_Rule s_Rule_shape (dv 0) (dp_tup (dpa_cons (dp_var 1) (dpa_cons (dp_var 2) (dpa_cons (dp_var 3) (dpa_cons (dp_var 4) (dpa_cons (dp_var 5) dpa_nil))))))) dss_nil))))), ?_⟩
  obtain ⟨x, dx, rfl, em, ⟨hb, hbz⟩, ⟨hc, hcz⟩, hd, he, hf, h⟩ := h
  simp only [dSeq, dNext, dDrop, dRet, dRetN, dIfS, dAsg, gdName, gdNil, gdCons, gdTup, gdSub, dCB, dCons, dNil, dC, dVar, dOp, dUn, dB, dAnd, dOr, dNot, dAndV, dOrV, dNotV, dIf, dTup, dLst, dChain, startD, List.map, List.replicate, List.length, List.append, List.getElem?_cons_zero, List.getElem?_cons_succ, List.set, Nat.sub, List.cons_append, List.nil_append, Nat.zero_add, Nat.reduceAdd, Nat.reduceSub, dP, fTup, fCons, fLst, fVar, fDic, fKv, aNeg_i, aI1_i, aI2_i, aStrI_i, aMul_ii, id, Option.some.injEq, exists_eq_left', exists_and_left, D.ref.injEq, D.int.injEq, D.bl.injEq, D.lst.injEq, Nat.reduceLeDiff, Nat.zero_le, lstW, seqOf, lstOf, aLen_s, aLen_t, aLen_l, aLen_r, aLt, aLe, aGt, aGe, aCmp_ii, aEq_ii, aNe_ii, aEqT_ss, aNeT_ss, dFor, iTup, iLst, forL, dRaise, dSetSlot, dTry, aAdd_ii, aAdd_ss, aAdd_tt, aAdd_ll, aSub, aInt_ii, aInt0_ii, aMod, aFdiv, aPow, aIsN, aNotN, isStrD, dCall, dBM, m2S, bty, sp0_iff, sp1_iff, sp2_iff, sp3_iff, sp4_iff, sp5_iff, sp6_iff, true_and, and_true, if_true, if_false, Bool.not_true, Bool.not_false, Bool.false_eq_true, reduceIte, sp_is_name, sp_is_count, sp_is_integer, isi_str hd]
  refine ⟨hb, hbz, ?_⟩
  cases h1 : isNameD b
  · simp only [h1, if_true] at h
    simp only [Bool.not_false, if_true]
    exact ⟨b, rfl, XLess.here h⟩
  simp only [h1, Bool.true_eq_false, if_false] at h
  simp only [Bool.not_true, Bool.false_eq_true, if_false]
  refine ⟨hc, hcz, ?_⟩
  cases h2 : isNameD c
  · simp only [h2, if_true] at h
    simp only [Bool.not_false, if_true]
    exact ⟨c, rfl, XLess.here h⟩
  simp only [h2, Bool.true_eq_false, if_false] at h
  simp only [Bool.not_true, Bool.false_eq_true, if_false]
  cases d <;> first | exact hd.elim | (simp only [kindD, if_true] at h; simp only [Bool.not_false, if_true]; exact ⟨_, rfl, XLess.here h⟩) | skip
  rename_i z
  simp only [Bool.not_true, Bool.false_eq_true, if_false]
  refine ⟨_, _, _, rfl, rfl, rfl, ?_⟩
  have ek : inV (V.str z) [V.str (Str.ofString "beyond"), V.str (Str.ofString "upto"), V.str (Str.ofString "reach")] = kindD (.str z) := rfl
  simp only [if_true, ek]
  cases h3 : kindD (.str z)
  · simp only [h3, if_true] at h
    simp only [Bool.not_false, if_true]
    exact ⟨_, rfl, XLess.here h⟩
  simp only [h3, Bool.true_eq_false, if_false] at h
  simp only [Bool.not_true, Bool.false_eq_true, if_false]
  refine ⟨he, ?_⟩
  cases h4 : isCountD e
  · simp only [h4, if_true] at h
    simp only [Bool.not_false, if_true]
    exact ⟨_, rfl, XLess.here h⟩
  simp only [h4, Bool.true_eq_false, if_false] at h
  simp only [Bool.not_true, Bool.false_eq_true, if_false]
  refine ⟨hf, ?_⟩
  cases h5 : isIntD f
  · simp only [h5, if_true] at h
    simp only [Bool.not_false, if_true]
    exact ⟨_, rfl, XLess.here h⟩
  simp only [h5, Bool.true_eq_false, if_false] at h
  simp only [Bool.not_true, Bool.false_eq_true, if_false]
  exact ⟨_, _, em, RetQ.here h⟩
theorem sc_Rule_first : FnScope ["self"] ["self"] (defScope (inS (topS 16) 2)) := ⟨rfl, rfl, rfl, by decide +kernel, rfl, by decide +kernel, by decide +kernel⟩
def sp_Rule_first (K : PySem.W.Frag) : DSp := sp1 (fun a M Q E => ∃ x0 x1 x2 x3 x4, a = .ins (He.ga K "Rule") [.tup [x0, x1, x2, x3, x4]] ∧ Q x0 M)
theorem ok_Rule_first (X : K.In base) (G : base.Ns mainGlobals mg) (c : SaysF fa fn K) : OkF P w K mg base 1 d_Rule_first ["self"] (sp_Rule_first K) := by
  obtain ⟨fd_, FD_⟩ := c.def_ 12 (d := d_Rule_first)
  have s_Rule := bScls_ok (c.fact 15 (f := bScls "Rule"))
  have s_Rule_shape := bSlot_ok (c.fact 16 (f := bSlot "Rule" "shape" 0))
  refine ⟨fd_, FD_, fng_of FD_ sc_Rule_first (fun ds M Q E h => sp1_len h) (fun cdv A outer s H Z ds M Q E E1 hr h => ?_), Bd.all FD_ rfl rfl fun _ _ _ _ _ _ us hl => match us, hl with | [_], _ => rfl⟩
  obtain ⟨a, rfl, h⟩ := h
  refine ⟨_, (dss_cons (ds_ret (de_ix (de_slot s_Rule s_Rule_shape (dv 0)) de_int (by intro _ _; rfl))) dss_nil), ?_⟩
  obtain ⟨x0, x1, x2, x3, x4, rfl, h⟩ := h
  simp only [dSeq, dNext, dDrop, dRet, dRetN, dIfS, dAsg, gdName, gdNil, gdCons, gdTup, gdSub, dCB, dCons, dNil, dC, dVar, dOp, dUn, dB, dAnd, dOr, dNot, dAndV, dOrV, dNotV, dIf, dTup, dLst, dChain, startD, List.map, List.replicate, List.length, List.append, List.getElem?_cons_zero, List.getElem?_cons_succ, List.set, Nat.sub, List.cons_append, List.nil_append, Nat.zero_add, Nat.reduceAdd, Nat.reduceSub, dP, fTup, fCons, fLst, fVar, fDic, fKv, aNeg_i, aI1_i, aI2_i, aStrI_i, aMul_ii, id, Option.some.injEq, exists_eq_left', exists_and_left, D.ref.injEq, D.int.injEq, D.bl.injEq, D.lst.injEq, Nat.reduceLeDiff, Nat.zero_le, lstW, seqOf, lstOf, aLen_s, aLen_t, aLen_l, aLen_r, aLt, aLe, aGt, aGe, aCmp_ii, aEq_ii, aNe_ii, aEqT_ss, aNeT_ss, dFor, iTup, iLst, forL, dRaise, dSetSlot, dTry, aAdd_ii, aAdd_ss, aAdd_tt, aAdd_ll, aSub, aInt_ii, aInt0_ii, aMod, aFdiv, aPow, aIsN, aNotN, isStrD, dCall, dBM, m2S, bty, sp0_iff, sp1_iff, sp2_iff, sp3_iff, sp4_iff, sp5_iff, sp6_iff, true_and, and_true, if_true, if_false, Bool.not_true, Bool.not_false, Bool.false_eq_true, reduceIte, dSlot]
  exact ix_s (ds := [x0, x1, x2, x3, x4]) rfl rfl (RetQ.here h)
theorem sc_Rule_last : FnScope ["self"] ["self"] (defScope (inS (topS 16) 3)) := ⟨rfl, rfl, rfl, by decide +kernel, rfl, by decide +kernel, by decide +kernel⟩
def sp_Rule_last (K : PySem.W.Frag) : DSp := sp1 (fun a M Q E => ∃ x0 x1 x2 x3 x4, a = .ins (He.ga K "Rule") [.tup [x0, x1, x2, x3, x4]] ∧ Q x1 M)
theorem ok_Rule_last (X : K.In base) (G : base.Ns mainGlobals mg) (c : SaysF fa fn K) : OkF P w K mg base 1 d_Rule_last ["self"] (sp_Rule_last K) := by
  obtain ⟨fd_, FD_⟩ := c.def_ 13 (d := d_Rule_last)
  have s_Rule := bScls_ok (c.fact 15 (f := bScls "Rule"))
  have s_Rule_shape := bSlot_ok (c.fact 16 (f := bSlot "Rule" "shape" 0))
  refine ⟨fd_, FD_, fng_of FD_ sc_Rule_last (fun ds M Q E h => sp1_len h) (fun cdv A outer s H Z ds M Q E E1 hr h => ?_), Bd.all FD_ rfl rfl fun _ _ _ _ _ _ us hl => match us, hl with | [_], _ => rfl⟩
  obtain ⟨a, rfl, h⟩ := h
  refine ⟨_, (dss_cons (ds_ret (de_ix (de_slot s_Rule s_Rule_shape (dv 0)) de_int (by intro _ _; rfl))) dss_nil), ?_⟩
  obtain ⟨x0, x1, x2, x3, x4, rfl, h⟩ := h
  simp only [dSeq, dNext, dDrop, dRet, dRetN, dIfS, dAsg, gdName, gdNil, gdCons, gdTup, gdSub, dCB, dCons, dNil, dC, dVar, dOp, dUn, dB, dAnd, dOr, dNot, dAndV, dOrV, dNotV, dIf, dTup, dLst, dChain, startD, List.map, List.replicate, List.length, List.append, List.getElem?_cons_zero, List.getElem?_cons_succ, List.set, Nat.sub, List.cons_append, List.nil_append, Nat.zero_add, Nat.reduceAdd, Nat.reduceSub, dP, fTup, fCons, fLst, fVar, fDic, fKv, aNeg_i, aI1_i, aI2_i, aStrI_i, aMul_ii, id, Option.some.injEq, exists_eq_left', exists_and_left, D.ref.injEq, D.int.injEq, D.bl.injEq, D.lst.injEq, Nat.reduceLeDiff, Nat.zero_le, lstW, seqOf, lstOf, aLen_s, aLen_t, aLen_l, aLen_r, aLt, aLe, aGt, aGe, aCmp_ii, aEq_ii, aNe_ii, aEqT_ss, aNeT_ss, dFor, iTup, iLst, forL, dRaise, dSetSlot, dTry, aAdd_ii, aAdd_ss, aAdd_tt, aAdd_ll, aSub, aInt_ii, aInt0_ii, aMod, aFdiv, aPow, aIsN, aNotN, isStrD, dCall, dBM, m2S, bty, sp0_iff, sp1_iff, sp2_iff, sp3_iff, sp4_iff, sp5_iff, sp6_iff, true_and, and_true, if_true, if_false, Bool.not_true, Bool.not_false, Bool.false_eq_true, reduceIte, dSlot]
  exact ix_s (ds := [x0, x1, x2, x3, x4]) rfl rfl (RetQ.here h)
theorem sc_Rule_kind : FnScope ["self"] ["self"] (defScope (inS (topS 16) 4)) := ⟨rfl, rfl, rfl, by decide +kernel, rfl, by decide +kernel, by decide +kernel⟩
def sp_Rule_kind (K : PySem.W.Frag) : DSp := sp1 (fun a M Q E => ∃ x0 x1 x2 x3 x4, a = .ins (He.ga K "Rule") [.tup [x0, x1, x2, x3, x4]] ∧ Q x2 M)
theorem ok_Rule_kind (X : K.In base) (G : base.Ns mainGlobals mg) (c : SaysF fa fn K) : OkF P w K mg base 1 d_Rule_kind ["self"] (sp_Rule_kind K) := by
  obtain ⟨fd_, FD_⟩ := c.def_ 14 (d := d_Rule_kind)
  have s_Rule := bScls_ok (c.fact 15 (f := bScls "Rule"))
  have s_Rule_shape := bSlot_ok (c.fact 16 (f := bSlot "Rule" "shape" 0))
  refine ⟨fd_, FD_, fng_of FD_ sc_Rule_kind (fun ds M Q E h => sp1_len h) (fun cdv A outer s H Z ds M Q E E1 hr h => ?_), Bd.all FD_ rfl rfl fun _ _ _ _ _ _ us hl => match us, hl with | [_], _ => rfl⟩
  obtain ⟨a, rfl, h⟩ := h
  refine ⟨_, (dss_cons (ds_ret (de_ix (de_slot s_Rule s_Rule_shape (dv 0)) de_int (by intro _ _; rfl))) dss_nil), ?_⟩
  obtain ⟨x0, x1, x2, x3, x4, rfl, h⟩ := h
  simp only [dSeq, dNext, dDrop, dRet, dRetN, dIfS, dAsg, gdName, gdNil, gdCons, gdTup, gdSub, dCB, dCons, dNil, dC, dVar, dOp, dUn, dB, dAnd, dOr, dNot, dAndV, dOrV, dNotV, dIf, dTup, dLst, dChain, startD, List.map, List.replicate, List.length, List.append, List.getElem?_cons_zero, List.getElem?_cons_succ, List.set, Nat.sub, List.cons_append, List.nil_append, Nat.zero_add, Nat.reduceAdd, Nat.reduceSub, dP, fTup, fCons, fLst, fVar, fDic, fKv, aNeg_i, aI1_i, aI2_i, aStrI_i, aMul_ii, id, Option.some.injEq, exists_eq_left', exists_and_left, D.ref.injEq, D.int.injEq, D.bl.injEq, D.lst.injEq, Nat.reduceLeDiff, Nat.zero_le, lstW, seqOf, lstOf, aLen_s, aLen_t, aLen_l, aLen_r, aLt, aLe, aGt, aGe, aCmp_ii, aEq_ii, aNe_ii, aEqT_ss, aNeT_ss, dFor, iTup, iLst, forL, dRaise, dSetSlot, dTry, aAdd_ii, aAdd_ss, aAdd_tt, aAdd_ll, aSub, aInt_ii, aInt0_ii, aMod, aFdiv, aPow, aIsN, aNotN, isStrD, dCall, dBM, m2S, bty, sp0_iff, sp1_iff, sp2_iff, sp3_iff, sp4_iff, sp5_iff, sp6_iff, true_and, and_true, if_true, if_false, Bool.not_true, Bool.not_false, Bool.false_eq_true, reduceIte, dSlot]
  exact ix_s (ds := [x0, x1, x2, x3, x4]) rfl rfl (RetQ.here h)
theorem sc_Rule_number : FnScope ["self"] ["self"] (defScope (inS (topS 16) 5)) := ⟨rfl, rfl, rfl, by decide +kernel, rfl, by decide +kernel, by decide +kernel⟩
def sp_Rule_number (K : PySem.W.Frag) : DSp := sp1 (fun a M Q E => ∃ x0 x1 x2 x3 x4, a = .ins (He.ga K "Rule") [.tup [x0, x1, x2, x3, x4]] ∧ Q x3 M)
theorem ok_Rule_number (X : K.In base) (G : base.Ns mainGlobals mg) (c : SaysF fa fn K) : OkF P w K mg base 1 d_Rule_number ["self"] (sp_Rule_number K) := by
  obtain ⟨fd_, FD_⟩ := c.def_ 15 (d := d_Rule_number)
  have s_Rule := bScls_ok (c.fact 15 (f := bScls "Rule"))
  have s_Rule_shape := bSlot_ok (c.fact 16 (f := bSlot "Rule" "shape" 0))
  refine ⟨fd_, FD_, fng_of FD_ sc_Rule_number (fun ds M Q E h => sp1_len h) (fun cdv A outer s H Z ds M Q E E1 hr h => ?_), Bd.all FD_ rfl rfl fun _ _ _ _ _ _ us hl => match us, hl with | [_], _ => rfl⟩
  obtain ⟨a, rfl, h⟩ := h
  refine ⟨_, (dss_cons (ds_ret (de_ix (de_slot s_Rule s_Rule_shape (dv 0)) de_int (by intro _ _; rfl))) dss_nil), ?_⟩
  obtain ⟨x0, x1, x2, x3, x4, rfl, h⟩ := h
  simp only [dSeq, dNext, dDrop, dRet, dRetN, dIfS, dAsg, gdName, gdNil, gdCons, gdTup, gdSub, dCB, dCons, dNil, dC, dVar, dOp, dUn, dB, dAnd, dOr, dNot, dAndV, dOrV, dNotV, dIf, dTup, dLst, dChain, startD, List.map, List.replicate, List.length, List.append, List.getElem?_cons_zero, List.getElem?_cons_succ, List.set, Nat.sub, List.cons_append, List.nil_append, Nat.zero_add, Nat.reduceAdd, Nat.reduceSub, dP, fTup, fCons, fLst, fVar, fDic, fKv, aNeg_i, aI1_i, aI2_i, aStrI_i, aMul_ii, id, Option.some.injEq, exists_eq_left', exists_and_left, D.ref.injEq, D.int.injEq, D.bl.injEq, D.lst.injEq, Nat.reduceLeDiff, Nat.zero_le, lstW, seqOf, lstOf, aLen_s, aLen_t, aLen_l, aLen_r, aLt, aLe, aGt, aGe, aCmp_ii, aEq_ii, aNe_ii, aEqT_ss, aNeT_ss, dFor, iTup, iLst, forL, dRaise, dSetSlot, dTry, aAdd_ii, aAdd_ss, aAdd_tt, aAdd_ll, aSub, aInt_ii, aInt0_ii, aMod, aFdiv, aPow, aIsN, aNotN, isStrD, dCall, dBM, m2S, bty, sp0_iff, sp1_iff, sp2_iff, sp3_iff, sp4_iff, sp5_iff, sp6_iff, true_and, and_true, if_true, if_false, Bool.not_true, Bool.not_false, Bool.false_eq_true, reduceIte, dSlot]
  exact ix_s (ds := [x0, x1, x2, x3, x4]) rfl rfl (RetQ.here h)
theorem sc_Rule_rate : FnScope ["self"] ["self"] (defScope (inS (topS 16) 6)) := ⟨rfl, rfl, rfl, by decide +kernel, rfl, by decide +kernel, by decide +kernel⟩
def sp_Rule_rate (K : PySem.W.Frag) : DSp := sp1 (fun a M Q E => ∃ x0 x1 x2 x3 x4, a = .ins (He.ga K "Rule") [.tup [x0, x1, x2, x3, x4]] ∧ Q x4 M)
theorem ok_Rule_rate (X : K.In base) (G : base.Ns mainGlobals mg) (c : SaysF fa fn K) : OkF P w K mg base 1 d_Rule_rate ["self"] (sp_Rule_rate K) := by
  obtain ⟨fd_, FD_⟩ := c.def_ 16 (d := d_Rule_rate)
  have s_Rule := bScls_ok (c.fact 15 (f := bScls "Rule"))
  have s_Rule_shape := bSlot_ok (c.fact 16 (f := bSlot "Rule" "shape" 0))
  refine ⟨fd_, FD_, fng_of FD_ sc_Rule_rate (fun ds M Q E h => sp1_len h) (fun cdv A outer s H Z ds M Q E E1 hr h => ?_), Bd.all FD_ rfl rfl fun _ _ _ _ _ _ us hl => match us, hl with | [_], _ => rfl⟩
  obtain ⟨a, rfl, h⟩ := h
  refine ⟨_, (dss_cons (ds_ret (de_ix (de_slot s_Rule s_Rule_shape (dv 0)) de_int (by intro _ _; rfl))) dss_nil), ?_⟩
  obtain ⟨x0, x1, x2, x3, x4, rfl, h⟩ := h
  simp only [dSeq, dNext, dDrop, dRet, dRetN, dIfS, dAsg, gdName, gdNil, gdCons, gdTup, gdSub, dCB, dCons, dNil, dC, dVar, dOp, dUn, dB, dAnd, dOr, dNot, dAndV, dOrV, dNotV, dIf, dTup, dLst, dChain, startD, List.map, List.replicate, List.length, List.append, List.getElem?_cons_zero, List.getElem?_cons_succ, List.set, Nat.sub, List.cons_append, List.nil_append, Nat.zero_add, Nat.reduceAdd, Nat.reduceSub, dP, fTup, fCons, fLst, fVar, fDic, fKv, aNeg_i, aI1_i, aI2_i, aStrI_i, aMul_ii, id, Option.some.injEq, exists_eq_left', exists_and_left, D.ref.injEq, D.int.injEq, D.bl.injEq, D.lst.injEq, Nat.reduceLeDiff, Nat.zero_le, lstW, seqOf, lstOf, aLen_s, aLen_t, aLen_l, aLen_r, aLt, aLe, aGt, aGe, aCmp_ii, aEq_ii, aNe_ii, aEqT_ss, aNeT_ss, dFor, iTup, iLst, forL, dRaise, dSetSlot, dTry, aAdd_ii, aAdd_ss, aAdd_tt, aAdd_ll, aSub, aInt_ii, aInt0_ii, aMod, aFdiv, aPow, aIsN, aNotN, isStrD, dCall, dBM, m2S, bty, sp0_iff, sp1_iff, sp2_iff, sp3_iff, sp4_iff, sp5_iff, sp6_iff, true_and, and_true, if_true, if_false, Bool.not_true, Bool.not_false, Bool.false_eq_true, reduceIte, dSlot]
  exact ix_s (ds := [x0, x1, x2, x3, x4]) rfl rfl (RetQ.here h)
theorem sc_l_cell : FnScope ["_law_script", "_law_spot", "_law_state", "_law_cell_here"] ["_law_script", "_law_spot"] (defScope (topS 18)) := ⟨rfl, rfl, rfl, by decide +kernel, rfl, by decide +kernel, by decide +kernel⟩
def sp_l_cell (K : PySem.W.Frag) : DSp := sp2 (fun a b M Q E => ∃ ns i, a = .scr ns ∧ b = .int i ∧ 0 ≤ i ∧ ∀ c, Q (.int c) M)
theorem ok_l_cell (X : K.In base) (G : base.Ns mainGlobals mg) (c : SaysF fa fn K) : OkF P w K mg base 1 d_l_cell ["_law_script", "_law_spot"] (sp_l_cell K) := by
  obtain ⟨fd_, FD_⟩ := c.def_ 17 (d := d_l_cell)
  have g_int := He.free_ok X G (c.fact 2 (f := fun K => (He.Fa.free "int").ok K))
  have g_len := He.free_ok X G (c.fact 7 (f := fun K => (He.Fa.free "len").ok K))
  refine ⟨fd_, FD_, fng_of FD_ sc_l_cell (fun ds M Q E h => sp2_len h) (fun cdv A outer s H Z ds M Q E E1 hr h => ?_), Bd.all FD_ rfl rfl fun _ _ _ _ _ _ us hl => match us, hl with | [_, _], _ => rfl⟩
  obtain ⟨a, b, rfl, h⟩ := h
  refine ⟨_, (dss_cons (ds_if (dt_cmp op_lt_ (dv 1) (de_callB c_len rfl g_len boot_len (da_cons (dv 0) da_nil)) (nomark _)) (dss_cons (ds_ret (de_ix (dv 0) (dv 1) (by intro _ _; rfl))) dss_nil) dss_nil) (dss_cons (ds_set (i := 2) sc_l_cell.nd rfl (by first | exact .inl rfl | exact .inr rfl) (de_op op_add_ (de_op op_mul_ de_int (de_op op_add_ (dv 1) de_int)) de_int)) (dss_cons (ds_for pass_body rfl (di_lst (de_slice (dv 0) do_none (do_some de_int))) (dg_name (i := 3) sc_l_cell.nd rfl (by first | exact .inl rfl | exact .inr rfl)) (dss_cons (ds_set (i := 2) sc_l_cell.nd rfl (by first | exact .inl rfl | exact .inr rfl) (de_op op_mod_ (de_callTy c_int rfl g_int boot_int (da_cons (de_op op_add_ (de_op op_mul_ (dv 2) de_int) (dv 3)) da_nil)) de_int)) dss_nil)) (dss_cons (ds_ret (dv 2)) dss_nil)))), ?_⟩
  obtain ⟨ns, i, rfl, rfl, hi, h⟩ := h
  simp only [dSeq, dNext, dDrop, dRet, dRetN, dIfS, dAsg, gdName, gdNil, gdCons, gdTup, gdSub, dCB, dCons, dNil, dC, dVar, dOp, dUn, dB, dAnd, dOr, dNot, dAndV, dOrV, dNotV, dIf, dTup, dLst, dChain, startD, List.map, List.replicate, List.length, List.append, List.getElem?_cons_zero, List.getElem?_cons_succ, List.set, Nat.sub, List.cons_append, List.nil_append, Nat.zero_add, Nat.reduceAdd, Nat.reduceSub, dP, fTup, fCons, fLst, fVar, fDic, fKv, aNeg_i, aI1_i, aI2_i, aStrI_i, aMul_ii, id, Option.some.injEq, exists_eq_left', exists_and_left, D.ref.injEq, D.int.injEq, D.bl.injEq, D.lst.injEq, Nat.reduceLeDiff, Nat.zero_le, lstW, seqOf, lstOf, aLen_s, aLen_t, aLen_l, aLen_r, aLt, aLe, aGt, aGe, aCmp_ii, aEq_ii, aNe_ii, aEqT_ss, aNeT_ss, dFor, iTup, iLst, forL, dRaise, dSetSlot, dTry, aAdd_ii, aAdd_ss, aAdd_tt, aAdd_ll, aSub, aInt_ii, aInt0_ii, aMod, aFdiv, aPow, aIsN, aNotN, isStrD, dCall, dBM, m2S, bty, sp0_iff, sp1_iff, sp2_iff, sp3_iff, sp4_iff, sp5_iff, sp6_iff, true_and, and_true, if_true, if_false, Bool.not_true, Bool.not_false, Bool.false_eq_true, reduceIte]
  by_cases hc : i < (ns.length : Int)
  · simp only [decide_eq_true hc, if_true]
    obtain ⟨d, e, hd⟩ := atI_mem (l := ns.map D.int) hi (by simpa using hc)
    obtain ⟨n, _, rfl⟩ := List.mem_map.mp hd
    exact ix_s (ds := ns.map D.int) rfl e (RetQ.here (h _))
  · simp only [decide_eq_false hc, Bool.false_eq_true, if_false]
    refine ⟨CMul.ok (.inl ⟨by decide, by decide⟩), ns.map D.int, rfl, ?_⟩
    refine forL_ind (fun items r M' => M' = M ∧ (∀ x ∈ items, ∃ n, x = D.int n) ∧ ∃ st o, r = [some (D.scr ns), some (D.int i), some (D.int st), o]) ?_ ?_ ⟨rfl, fun x hx => ?_, _, _, rfl⟩
    · rintro x xs r M' ⟨rfl, hx, st, o, rfl⟩ k
      obtain ⟨n, rfl⟩ := hx x (List.mem_cons_self ..)
      refine ⟨CMul.ok (.inr ⟨by decide, by decide⟩), ?_⟩
      refine ⟨(by decide : (0 : Int) < 2147483563), k _ _ ⟨rfl, fun y hy => hx y (List.mem_cons_of_mem _ hy), _, _, rfl⟩⟩
    · rintro r M' ⟨rfl, _, st, o, rfl⟩
      exact RetQ.here (h _)
    · unfold cutD at hx
      obtain ⟨n, _, rfl⟩ := List.mem_map.mp (List.mem_of_mem_drop (List.mem_of_mem_take hx))
      exact ⟨n, rfl⟩
theorem sc_l_pool : FnScope ["_law_cell_here"] ["_law_cell_here"] (defScope (topS 19)) := ⟨rfl, rfl, rfl, by decide +kernel, rfl, by decide +kernel, by decide +kernel⟩
def sp0_l_pool (K : PySem.W.Frag) : DSp := sp1 (fun a M Q E => ∃ c, a = .int c ∧ ∀ p i j k, M p = none → PoolOk i j k → Q (.ref p) (mset M p (.lst [.int i, .int j, .int k])))
theorem ok0_l_pool (X : K.In base) (G : base.Ns mainGlobals mg) (c : SaysF fa fn K) : OkF P w K mg base 1 d_l_pool ["_law_cell_here"] (sp0_l_pool K) := by
  obtain ⟨fd_, FD_⟩ := c.def_ 18 (d := d_l_pool)
  have g_abs := He.free_ok X G (c.fact 22 (f := fun K => (He.Fa.free "abs").ok K))
  have g_int := He.free_ok X G (c.fact 2 (f := fun K => (He.Fa.free "int").ok K))
  refine ⟨fd_, FD_, fng_of FD_ sc_l_pool (fun ds M Q E h => sp1_len h) (fun cdv A outer s H Z ds M Q E E1 hr h => ?_), Bd.all FD_ rfl rfl fun _ _ _ _ _ _ us hl => match us, hl with | [_], _ => rfl⟩
  obtain ⟨a, rfl, h⟩ := h
  refine ⟨_, (dss_cons (ds_ret (de_lstM (da_cons (de_op op_mod_ (de_callTy c_int rfl g_int boot_int (da_cons (dv 0) da_nil)) de_int) (da_cons (de_if (dt_cmp op_ge_ (de_callB c_abs rfl g_abs boot_abs (da_cons (dv 0) da_nil)) (de_op op_pow_ de_int de_int) (nomark _)) (de_callB c_abs rfl g_abs boot_abs (da_cons (dv 0) da_nil)) de_int) (da_cons de_int da_nil))))) dss_nil), ?_⟩
  obtain ⟨c, rfl, h⟩ := h
  simp only [dSeq, dNext, dDrop, dRet, dRetN, dIfS, dAsg, gdName, gdNil, gdCons, gdTup, gdSub, dCB, dCons, dNil, dC, dVar, dOp, dUn, dB, dAnd, dOr, dNot, dAndV, dOrV, dNotV, dIf, dTup, dLst, dChain, startD, List.map, List.replicate, List.length, List.append, List.getElem?_cons_zero, List.getElem?_cons_succ, List.set, Nat.sub, List.cons_append, List.nil_append, Nat.zero_add, Nat.reduceAdd, Nat.reduceSub, dP, fTup, fCons, fLst, fVar, fDic, fKv, aNeg_i, aI1_i, aI2_i, aStrI_i, aMul_ii, id, Option.some.injEq, exists_eq_left', exists_and_left, D.ref.injEq, D.int.injEq, D.bl.injEq, D.lst.injEq, Nat.reduceLeDiff, Nat.zero_le, lstW, seqOf, lstOf, aLen_s, aLen_t, aLen_l, aLen_r, aLt, aLe, aGt, aGe, aCmp_ii, aEq_ii, aNe_ii, aEqT_ss, aNeT_ss, dFor, iTup, iLst, forL, dRaise, dSetSlot, dTry, aAdd_ii, aAdd_ss, aAdd_tt, aAdd_ll, aSub, aInt_ii, aInt0_ii, aMod, aFdiv, aPow, aIsN, aNotN, isStrD, dCall, dBM, m2S, bty, sp0_iff, sp1_iff, sp2_iff, sp3_iff, sp4_iff, sp5_iff, sp6_iff, true_and, and_true, if_true, if_false, Bool.not_true, Bool.not_false, Bool.false_eq_true, reduceIte, dLstM]
  have habs : 0 ≤ absI c := by unfold absI; split <;> omega
  have hp : ∀ j, 0 ≤ j → PoolOk (c % 2147483563) j 0 := fun j hj => ⟨Int.emod_nonneg _ (by decide), Int.lt_trans (Int.emod_lt_of_pos _ (by decide)) (by decide), hj, Int.le_refl _⟩
  refine ⟨by decide, ⟨by decide, by decide, by decide⟩, ?_⟩
  by_cases hc : (10 : Int) ^ Int.toNat 18 ≤ absI c
  · simp only [decide_eq_true hc, if_true]
    exact ⟨by decide, fun p em => RetQ.here (h _ _ _ _ em (hp _ habs))⟩
  · simp only [decide_eq_false hc, Bool.false_eq_true, if_false]
    exact ⟨by decide, fun p em => RetQ.here (h _ _ _ _ em (hp _ (Int.le_refl _)))⟩
def sp_l_pool (K : PySem.W.Frag) : DSp := sp1 (fun a M Q E => ∃ c, a = .int c ∧ ∀ p, M p = none → Q (.ref p) (mset M p .pool))
theorem ok_l_pool (X : K.In base) (G : base.Ns mainGlobals mg) (c : SaysF fa fn K) : OkF P w K mg base 1 d_l_pool ["_law_cell_here"] (sp_l_pool K) := (ok0_l_pool X G c).newPool.imp fun ds M Q E h => by
  obtain ⟨a, rfl, c, rfl, h⟩ := h
  exact ⟨_, rfl, c, rfl, fun p i j k hp po => ⟨p, i, j, k, rfl, hp, po, rfl, h p hp⟩⟩
theorem sc_l_draw : FnScope ["_law_pool_here", "_law_many", "_law_digit", "_law_state"] ["_law_pool_here", "_law_many"] (defScope (topS 20)) := ⟨rfl, rfl, rfl, by decide +kernel, rfl, by decide +kernel, by decide +kernel⟩
def sp0_l_draw (K : PySem.W.Frag) : DSp := sp2 (fun a b M Q E => ∃ p n i j k, a = .ref p ∧ b = .int n ∧ M p = some (.lst [.int i, .int j, .int k]) ∧ PoolOk i j k ∧ 0 < n ∧ n.natAbs.log2 < 9000 ∧
  ∀ m i' j' k', 0 ≤ m → m < n → PoolOk i' j' k' → Q (.int m) (mset M p (.lst [.int i', .int j', .int k'])))
theorem ok0_l_draw (X : K.In base) (G : base.Ns mainGlobals mg) (c : SaysF fa fn K) : OkF P w K mg base 1 d_l_draw ["_law_pool_here", "_law_many"] (sp0_l_draw K) := by
  obtain ⟨fd_, FD_⟩ := c.def_ 19 (d := d_l_draw)
  have g_int := He.free_ok X G (c.fact 2 (f := fun K => (He.Fa.free "int").ok K))
  have g_divmod := He.free_ok X G (c.fact 23 (f := fun K => (He.Fa.free "divmod").ok K))
  refine ⟨fd_, FD_, fng_of FD_ sc_l_draw (fun ds M Q E h => sp2_len h) (fun cdv A outer s H Z ds M Q E E1 hr h => ?_), Bd.all FD_ rfl rfl fun _ _ _ _ _ _ us hl => match us, hl with | [_, _], _ => rfl⟩
  obtain ⟨a, b, rfl, h⟩ := h
  refine ⟨_, (dss_cons (ds_asg (de_op op_add_ (de_ix (dv 0) de_int (by intro _ _; rfl)) de_int) (dg_sub (dv 0) de_int set_l)) (dss_cons (ds_if (dt_cmp op_gt_ (de_ix (dv 0) de_int (by intro _ _; rfl)) de_int (nomark _)) (dss_cons (ds_asg (de_callB c_divmod rfl g_divmod boot_divmod (da_cons (de_ix (dv 0) de_int (by intro _ _; rfl)) (da_cons (dv 1) da_nil))) (dg_tup (n := 2) rfl (dgs_cons (dg_sub (dv 0) de_int set_l) (dgs_cons (dg_name (i := 2) sc_l_draw.nd rfl (by first | exact .inl rfl | exact .inr rfl)) dgs_nil)))) (dss_cons (ds_ret (dv 2)) dss_nil)) dss_nil) (dss_cons (ds_set (i := 3) sc_l_draw.nd rfl (by first | exact .inl rfl | exact .inr rfl) (de_callTy c_int rfl g_int boot_int (da_cons (de_ix (dv 0) de_int (by intro _ _; rfl)) da_nil))) (dss_cons (ds_set (i := 3) sc_l_draw.nd rfl (by first | exact .inl rfl | exact .inr rfl) (de_op op_mod_ (de_callTy c_int rfl g_int boot_int (da_cons (de_op op_add_ (de_op op_add_ (de_op op_mul_ (dv 3) (de_op op_add_ (de_op op_mod_ (de_callTy c_int rfl g_int boot_int (da_cons (dv 3) da_nil)) de_int) de_int)) (de_op op_mul_ de_int (de_ix (dv 0) de_int (by intro _ _; rfl)))) de_int) da_nil)) de_int)) (dss_cons (ds_asg (de_op op_mod_ (de_callTy c_int rfl g_int boot_int (da_cons (de_op op_add_ (de_op op_mul_ (dv 3) de_int) (de_op op_mul_ de_int (de_ix (dv 0) de_int (by intro _ _; rfl)))) da_nil)) de_int) (dg_sub (dv 0) de_int set_l)) (dss_cons (ds_ret (de_op op_mod_ (de_callTy c_int rfl g_int boot_int (da_cons (de_op op_fdiv_ (de_ix (dv 0) de_int (by intro _ _; rfl)) de_int) da_nil)) (dv 1))) dss_nil)))))), ?_⟩
  obtain ⟨p, n, i, j, k, rfl, rfl, em, ⟨i0, i1, j0, k0⟩, hn, hl, h⟩ := h
  have small : ∀ x y : Int, 0 ≤ x → x < 2147483648 → IntMulOk x y := fun x y h1 h2 => CMul.ok (.inl ⟨by omega, by omega⟩)
  have smallR : ∀ x y : Int, 0 ≤ y → y < 2147483648 → IntMulOk x y := fun x y h1 h2 => CMul.ok (.inr ⟨by omega, by omega⟩)
  simp only [dSeq, dNext, dDrop, dRet, dRetN, dIfS, dAsg, gdName, gdNil, gdCons, gdTup, gdSub, dCB, dCons, dNil, dC, dVar, dOp, dUn, dB, dAnd, dOr, dNot, dAndV, dOrV, dNotV, dIf, dTup, dLst, dChain, startD, List.map, List.replicate, List.length, List.append, List.getElem?_cons_zero, List.getElem?_cons_succ, List.set, Nat.sub, List.cons_append, List.nil_append, Nat.zero_add, Nat.reduceAdd, Nat.reduceSub, dP, fTup, fCons, fLst, fVar, fDic, fKv, aNeg_i, aI1_i, aI2_i, aStrI_i, aMul_ii, id, Option.some.injEq, exists_eq_left', exists_and_left, D.ref.injEq, D.int.injEq, D.bl.injEq, D.lst.injEq, Nat.reduceLeDiff, Nat.zero_le, lstW, seqOf, lstOf, aLen_s, aLen_t, aLen_l, aLen_r, aLt, aLe, aGt, aGe, aCmp_ii, aEq_ii, aNe_ii, aEqT_ss, aNeT_ss, dFor, iTup, iLst, forL, dRaise, dSetSlot, dTry, aAdd_ii, aAdd_ss, aAdd_tt, aAdd_ll, aSub, aInt_ii, aInt0_ii, aMod, aFdiv, aPow, aIsN, aNotN, isStrD, dCall, dBM, m2S, bty, sp0_iff, sp1_iff, sp2_iff, sp3_iff, sp4_iff, sp5_iff, sp6_iff, true_and, and_true, if_true, if_false, Bool.not_true, Bool.not_false, Bool.false_eq_true, reduceIte, aMul, aI1, aDivmod, aAdd, aCmp, aInt, aInt0]
  refine ix_m em rfl ?_
  refine set_m em (j := 2) rfl ?_
  have e1 : mset M p (.lst [.int i, .int j, .int (k + 1)]) p = some (.lst [.int i, .int j, .int (k + 1)]) := mset_same
  show aIx _ _ (mset M p (.lst [.int i, .int j, .int (k + 1)])) _
  refine ix_m e1 rfl ?_
  show (if decide (0 < j) = true then _ else _)
  by_cases hj : 0 < j
  · simp only [decide_eq_true hj, if_true]
    refine ix_m e1 rfl ?_
    refine ⟨⟨hn, hl⟩, ?_⟩
    refine set_m e1 (j := 1) rfl ?_
    show RetQ Q (.int (j % n)) (mset (mset M p _) p (.lst [.int i, .int (j / n), .int (k + 1)]))
    rw [mset_mset]
    exact RetQ.here (h _ _ _ _ (Int.emod_nonneg _ (by omega)) (Int.emod_lt_of_pos _ hn) ⟨i0, i1, Int.ediv_nonneg (by omega) (by omega), by omega⟩)
  · simp only [decide_eq_false hj, Bool.false_eq_true, if_false]
    refine ix_m e1 rfl ?_
    refine ⟨by decide, ?_⟩
    show IntMulOk i _ ∧ _
    refine ⟨small _ _ i0 i1, ?_⟩
    refine ix_m e1 rfl ?_
    refine ⟨small _ _ (by decide) (by decide), ?_⟩
    show (0 : Int) < 2147483563 ∧ _
    refine ⟨by decide, ?_⟩
    show IntMulOk _ _ ∧ _
    refine ⟨smallR _ _ (by decide) (by decide), ?_⟩
    refine ix_m e1 rfl ?_
    refine ⟨small _ _ (by decide) (by decide), ?_⟩
    show (0 : Int) < 2147483399 ∧ _
    refine ⟨by decide, ?_⟩
    refine set_m e1 (j := 0) rfl ?_
    rw [mset_mset]
    refine ix_m mset_same rfl ?_
    refine ⟨⟨by decide, by decide⟩, ?_⟩
    show 0 < n ∧ _
    refine ⟨hn, RetQ.here ?_⟩
    refine h _ _ _ _ (Int.emod_nonneg _ (by omega)) (Int.emod_lt_of_pos _ hn) ⟨Int.emod_nonneg _ (by decide), ?_, j0, by omega⟩
    exact Int.lt_trans (Int.emod_lt_of_pos _ (by decide)) (by decide)
def sp_l_draw (K : PySem.W.Frag) : DSp := sp2 (fun a b M Q E => ∃ p n, a = .ref p ∧ b = .int n ∧ M p = some .pool ∧ 0 < n ∧ n.natAbs.log2 < 9000 ∧ ∀ m, 0 ≤ m → m < n → Q (.int m) M)
theorem ok_l_draw (X : K.In base) (G : base.Ns mainGlobals mg) (c : SaysF fa fn K) : OkF P w K mg base 1 d_l_draw ["_law_pool_here", "_law_many"] (sp_l_draw K) := (ok0_l_draw X G c).pool.imp fun ds M Q E h => by
  obtain ⟨a, b, rfl, p, n, rfl, rfl, em, hn, hl, h⟩ := h
  exact ⟨p, _, rfl, em, fun i j k po => ⟨_, _, rfl, p, n, i, j, k, rfl, rfl, mset_same, po, hn, hl, fun m i' j' k' h1 h2 po' => ⟨i', j', k', po', by rw [mset_mset], h m h1 h2⟩⟩⟩
theorem sc_l_pick : FnScope ["_law_pool_here", "_law_things"] ["_law_pool_here", "_law_things"] (defScope (topS 21)) := ⟨rfl, rfl, rfl, by decide +kernel, rfl, by decide +kernel, by decide +kernel⟩
def sp_l_pick (K : PySem.W.Frag) : DSp := sp2 (fun a b M Q E => ∃ p ds, a = .ref p ∧ M p = some .pool ∧ seqOf M b = some ds ∧ 0 < ds.length ∧ ds.length < 2 ^ 30 ∧ ∀ d ∈ ds, Q d M)
theorem ok_l_pick (X : K.In base) (G : base.Ns mainGlobals mg) (c : SaysF fa fn K) : OkF P w K mg base 2 d_l_pick ["_law_pool_here", "_law_things"] (sp_l_pick K) := by
  obtain ⟨fd_, FD_⟩ := c.def_ 20 (d := d_l_pick)
  obtain ⟨f_l_draw, FD_l_draw, F_l_draw, B_l_draw⟩ := ok_l_draw (P := P) (w := w) X G c
  have K_l_draw := FD_l_draw.kp
  have g__law_draw := He.glo_ok X G (c.fact 24 (f := fun K => (He.Fa.glo "_law_draw").ok K))
  have g_len := He.free_ok X G (c.fact 7 (f := fun K => (He.Fa.free "len").ok K))
  refine ⟨fd_, FD_, fng_of FD_ sc_l_pick (fun ds M Q E h => sp2_len h) (fun cdv A outer s H Z ds M Q E E1 hr h => ?_), Bd.all FD_ rfl rfl fun _ _ _ _ _ _ us hl => match us, hl with | [_, _], _ => rfl⟩
  obtain ⟨a, b, rfl, h⟩ := h
  refine ⟨_, (dss_cons (ds_ret (de_ix (dv 1) (de_call F_l_draw (hr.mono (by decide)) rfl g__law_draw K_l_draw B_l_draw (da_cons (dv 0) (da_cons (de_callB c_len rfl g_len boot_len (da_cons (dv 1) da_nil)) da_nil))) (by intro _ _; rfl))) dss_nil), ?_⟩
  obtain ⟨p, ds, rfl, em, eb, h0, h30, h⟩ := h
  simp only [dSeq, dNext, dDrop, dRet, dRetN, dIfS, dAsg, gdName, gdNil, gdCons, gdTup, gdSub, dCB, dCons, dNil, dC, dVar, dOp, dUn, dB, dAnd, dOr, dNot, dAndV, dOrV, dNotV, dIf, dTup, dLst, dChain, startD, List.map, List.replicate, List.length, List.append, List.getElem?_cons_zero, List.getElem?_cons_succ, List.set, Nat.sub, List.cons_append, List.nil_append, Nat.zero_add, Nat.reduceAdd, Nat.reduceSub, dP, fTup, fCons, fLst, fVar, fDic, fKv, aNeg_i, aI1_i, aI2_i, aStrI_i, aMul_ii, id, Option.some.injEq, exists_eq_left', exists_and_left, D.ref.injEq, D.int.injEq, D.bl.injEq, D.lst.injEq, Nat.reduceLeDiff, Nat.zero_le, lstW, seqOf, lstOf, aLen_s, aLen_t, aLen_l, aLen_r, aLt, aLe, aGt, aGe, aCmp_ii, aEq_ii, aNe_ii, aEqT_ss, aNeT_ss, dFor, iTup, iLst, forL, dRaise, dSetSlot, dTry, aAdd_ii, aAdd_ss, aAdd_tt, aAdd_ll, aSub, aInt_ii, aInt0_ii, aMod, aFdiv, aPow, aIsN, aNotN, isStrD, dCall, dBM, m2S, bty, sp0_iff, sp1_iff, sp2_iff, sp3_iff, sp4_iff, sp5_iff, sp6_iff, true_and, and_true, if_true, if_false, Bool.not_true, Bool.not_false, Bool.false_eq_true, reduceIte, sp_l_draw]
  refine len_seq eb ?_
  refine ⟨_, rfl, em, by omega, ?_, fun m m0 m1 => ?_⟩
  · show (Int.natAbs (ds.length : Int)).log2 < 9000
    rw [Int.natAbs_natCast]
    exact Nat.lt_of_lt_of_le (log2_lt (k := 29) h30) (by decide)
  · obtain ⟨i, rfl⟩ := Int.eq_ofNat_of_zero_le m0
    have hi : i < ds.length := by omega
    refine ix_s eb (d := ds[i]) ?_ (RetQ.here (h _ (List.getElem_mem hi)))
    show atI ds (i : Int) = _
    rw [atI_nat _ _ hi, List.getElem?_eq_getElem hi]
theorem sc_l_odd : FnScope ["_law_pool_here", "_law_many", "_law_menu"] ["_law_pool_here"] (defScope (topS 22)) := ⟨rfl, rfl, rfl, by decide +kernel, rfl, by decide +kernel, by decide +kernel⟩
def sp_l_odd (K : PySem.W.Frag) : DSp := sp1 (fun a M Q E => ∃ p, a = .ref p ∧ M p = some .pool ∧ ∀ d, Thing d → Q d M)
theorem ok_l_odd (X : K.In base) (G : base.Ns mainGlobals mg) (c : SaysF fa fn K) : OkF P w K mg base 3 d_l_odd ["_law_pool_here"] (sp_l_odd K) := by
  obtain ⟨fd_, FD_⟩ := c.def_ 21 (d := d_l_odd)
  obtain ⟨f_l_pick, FD_l_pick, F_l_pick, B_l_pick⟩ := ok_l_pick (P := P) (w := w) X G c
  have K_l_pick := FD_l_pick.kp
  obtain ⟨f_l_draw, FD_l_draw, F_l_draw, B_l_draw⟩ := ok_l_draw (P := P) (w := w) X G c
  have K_l_draw := FD_l_draw.kp
  have g__law_pick := He.glo_ok X G (c.fact 25 (f := fun K => (He.Fa.glo "_law_pick").ok K))
  have g_str := He.free_ok X G (c.fact 8 (f := fun K => (He.Fa.free "str").ok K))
  have g__law_draw := He.glo_ok X G (c.fact 24 (f := fun K => (He.Fa.glo "_law_draw").ok K))
  refine ⟨fd_, FD_, fng_of FD_ sc_l_odd (fun ds M Q E h => sp1_len h) (fun cdv A outer s H Z ds M Q E E1 hr h => ?_), Bd.all FD_ rfl rfl fun _ _ _ _ _ _ us hl => match us, hl with | [_], _ => rfl⟩
  obtain ⟨a, rfl, h⟩ := h
  refine ⟨_, (dss_cons (ds_set (i := 1) sc_l_odd.nd rfl (by first | exact .inl rfl | exact .inr rfl) (de_op op_sub_ (de_call F_l_draw (hr.mono (by decide)) rfl g__law_draw K_l_draw B_l_draw (da_cons (dv 0) (da_cons (de_op op_pow_ de_int de_int) da_nil))) de_int)) (dss_cons (ds_set (i := 2) sc_l_odd.nd rfl (by first | exact .inl rfl | exact .inr rfl) (de_lst (da_cons de_non (da_cons de_int (da_cons de_int (da_cons de_bl (da_cons de_bl (da_cons de_str (da_cons de_str (da_cons de_str (da_cons (dp_tup dpa_nil) (da_cons (dp_tup (dpa_cons dp_str (dpa_cons dp_int dpa_nil))) (da_cons (dp_lst (dpa_cons dp_int dpa_nil)) (da_cons (dp_lst dpa_nil) (da_cons dp_disp0 (da_cons (dp_disp (.str (dp_tup (dpa_cons dp_int dpa_nil)) .nil)) (da_cons (de_un un_neg_ de_int) (da_cons (de_op op_pow_ de_int de_int) da_nil)))))))))))))))))) (dss_cons (ds_set (i := 2) sc_l_odd.nd rfl (by first | exact .inl rfl | exact .inr rfl) (de_op op_add_ (dv 2) (de_lst (da_cons (dp_tup (dpa_cons dp_str (dpa_cons dp_non (dpa_cons (dp_lst (dpa_cons dp_int dpa_nil)) dpa_nil)))) (da_cons (dv 1) (da_cons (de_callTy c_strI rfl g_str boot_str (da_cons (dv 1) da_nil)) (da_cons (dp_tup (dpa_cons (dp_var 1) dpa_nil)) (da_cons (dp_tup (dpa_cons (dp_tup (dpa_cons dp_str dpa_nil)) (dpa_cons (dp_tup dpa_nil) dpa_nil))) (da_cons (dp_lst (dpa_cons (dp_lst dpa_nil) (dpa_cons (dp_lst (dpa_cons dp_non dpa_nil)) dpa_nil))) (da_cons de_int (da_cons de_str (da_cons (dp_tup (dpa_cons (dp_tup dpa_nil) (dpa_cons (dp_lst dpa_nil) (dpa_cons dp_disp0 dpa_nil)))) da_nil)))))))))))) (dss_cons (ds_ret (de_call F_l_pick (hr.mono (by decide)) rfl g__law_pick K_l_pick B_l_pick (da_cons (dv 0) (da_cons (dv 2) da_nil)))) dss_nil)))), ?_⟩
  obtain ⟨p, rfl, em, h⟩ := h
  simp only [dSeq, dNext, dDrop, dRet, dRetN, dIfS, dAsg, gdName, gdNil, gdCons, gdTup, gdSub, dCB, dCons, dNil, dC, dVar, dOp, dUn, dB, dAnd, dOr, dNot, dAndV, dOrV, dNotV, dIf, dTup, dLst, dChain, startD, List.map, List.replicate, List.length, List.append, List.getElem?_cons_zero, List.getElem?_cons_succ, List.set, Nat.sub, List.cons_append, List.nil_append, Nat.zero_add, Nat.reduceAdd, Nat.reduceSub, dP, fTup, fCons, fLst, fVar, fDic, fKv, aNeg_i, aI1_i, aI2_i, aStrI_i, aMul_ii, id, Option.some.injEq, exists_eq_left', exists_and_left, D.ref.injEq, D.int.injEq, D.bl.injEq, D.lst.injEq, Nat.reduceLeDiff, Nat.zero_le, lstW, seqOf, lstOf, aLen_s, aLen_t, aLen_l, aLen_r, aLt, aLe, aGt, aGe, aCmp_ii, aEq_ii, aNe_ii, aEqT_ss, aNeT_ss, dFor, iTup, iLst, forL, dRaise, dSetSlot, dTry, aAdd_ii, aAdd_ss, aAdd_tt, aAdd_ll, aSub, aInt_ii, aInt0_ii, aMod, aFdiv, aPow, aIsN, aNotN, isStrD, dCall, dBM, m2S, bty, sp0_iff, sp1_iff, sp2_iff, sp3_iff, sp4_iff, sp5_iff, sp6_iff, true_and, and_true, if_true, if_false, Bool.not_true, Bool.not_false, Bool.false_eq_true, reduceIte, sp_l_draw, sp_l_pick]
  refine ⟨⟨by decide, by decide, by decide⟩, em, by decide, by decide, fun m m0 m1 => ?_⟩
  have e6 : (10 : Int) ^ Int.toNat 6 = 1000000 := by decide
  rw [e6] at m1
  have hlog : (m - 400000).natAbs.log2 < 20 := log2_lt (k := 19) (by omega)
  refine ⟨⟨by decide, by decide, by decide⟩, by decide, Nat.lt_of_lt_of_le hlog (by decide), by decide, by decide, em, by decide, by decide, fun d hd => RetQ.here (h d ?_)⟩
  have hT : ∀ k : Nat, (toString (m - 400000) : String).length ≤ 21 := fun _ => int_text_length_le (a := m - 400000) (k := 20) (by decide) hlog
  simp only [List.mem_cons, List.mem_nil_iff, or_false] at hd
  rcases hd with rfl | rfl | rfl | rfl | rfl | rfl | rfl | rfl | rfl | rfl | rfl | rfl | rfl | rfl | rfl | rfl | rfl | rfl | rfl | rfl | rfl | rfl | rfl | rfl | rfl
  all_goals first
    | exact ⟨_, rfl, good_of (by decide +kernel) (by decide +kernel) (by decide +kernel)⟩
    | skip
  · refine ⟨_, rfl, ?_, ?_, Nat.zero_le _⟩
    · simp only [okP, decide_eq_true_eq]; omega
    · simp only [szP]; omega
  · refine ⟨_, rfl, ?_, ?_, Nat.zero_le _⟩
    · simp only [okP]
      exact strOk_int _
    · have := hT 0
      simp only [szP]
      rw [PySem.ofString_length]
      omega
  · refine ⟨_, rfl, ?_, ?_, by simp [PyData.depth, PyData.depthAll]⟩
    · simp only [okP, okA, Bool.and_true, decide_eq_true_eq]; omega
    · simp only [szP, szA]; omega
theorem sc_l_is_name : FnScope ["_law_thing", "_law_letters", "_law_sign"] ["_law_thing"] (defScope (topS 23)) := ⟨rfl, rfl, rfl, by decide +kernel, rfl, by decide +kernel, by decide +kernel⟩
def sp_l_is_name (K : PySem.W.Frag) : DSp := sp1 (fun a M Q E => Plain a ∧ (∀ z, a = .str z → z.length ≤ 10000 ∧ PyData.strOk z = true) ∧ Q (.bl (isNameD a)) M)
theorem ok_l_is_name (X : K.In base) (G : base.Ns mainGlobals mg) (c : SaysF fa fn K) : OkF P w K mg base 1 d_l_is_name ["_law_thing"] (sp_l_is_name K) := by
  obtain ⟨fd_, FD_⟩ := c.def_ 22 (d := d_l_is_name)
  have g_len := He.free_ok X G (c.fact 7 (f := fun K => (He.Fa.free "len").ok K))
  have g_isinstance := He.free_ok X G (c.fact 0 (f := fun K => (He.Fa.free "isinstance").ok K))
  have g_str := He.free_ok X G (c.fact 8 (f := fun K => (He.Fa.free "str").ok K))
  refine ⟨fd_, FD_, fng_of FD_ sc_l_is_name (fun ds M Q E h => sp1_len h) (fun cdv A outer s H Z ds M Q E E1 hr h => ?_), Bd.all FD_ rfl rfl fun _ _ _ _ _ _ us hl => match us, hl with | [_], _ => rfl⟩
  obtain ⟨a, rfl, h⟩ := h
  refine ⟨_, (dss_cons (ds_if (DW.dt (dw_or (dt_not (dt_val (de_callB c_isi rfl g_isinstance boot_isinstance (da_cons (dv 0) (da_cons (de_type rfl g_str boot_str) da_nil))))) (dw_or (dt_cmp op_lt_ (de_callB c_len rfl g_len boot_len (da_cons (dv 0) da_nil)) de_int (nomark _)) (dw_or1 (dt_cmp op_gt_ (de_callB c_len rfl g_len boot_len (da_cons (dv 0) da_nil)) de_int (nomark _)))))) (dss_cons (ds_ret de_bl) dss_nil) dss_nil) (dss_cons (ds_set (i := 1) sc_l_is_name.nd rfl (by first | exact .inl rfl | exact .inr rfl) de_str) (dss_cons (ds_if (dt_cmp op_lt_ (de_bm PySem.F.plainAttrs_str PySem.F.slot_str_find PySem.F.type_str_find m_find (dv 1) (da_cons (de_ix (dv 0) de_int (by intro _ _; rfl)) da_nil)) de_int (nomark _)) (dss_cons (ds_ret de_bl) dss_nil) dss_nil) (dss_cons (ds_ret (de_cmp (op_eq_ (rm_u64 hr)) (de_lc (p := (.one 2)) (own := [("_law_sign", 2)]) rfl sc_l_is_name.nd  (di_str (dv 0)) (blkB_ok (by kernel_rfl)) (by decide) (fun _ _ _ _ _ => pg_name sc_l_is_name.nd rfl (.inl rfl)) (fun _ _ _ _ _ => (dts_one (dt_cmp op_lt_ (de_bm PySem.F.plainAttrs_str PySem.F.slot_str_find PySem.F.type_str_find m_find (de_op op_add_ (dv 1) de_str) (da_cons (dv 2) da_nil)) de_int (nomark _)))) (fun _ _ _ _ _ => (dv 2))) (dp_lst dpa_nil) (nomark _))) dss_nil)))), ?_⟩
  obtain ⟨ha, hz0, h⟩ := h
  have hz : ∀ z, a = .str z → z.length ≤ 10000 := fun z e => (hz0 z e).1
  simp only [dSeq, dNext, dDrop, dRet, dRetN, dIfS, dAsg, gdName, gdNil, gdCons, gdTup, gdSub, dCB, dCons, dNil, dC, dVar, dOp, dUn, dB, dAnd, dOr, dNot, dAndV, dOrV, dNotV, dIf, dTup, dLst, dChain, startD, List.map, List.replicate, List.length, List.append, List.getElem?_cons_zero, List.getElem?_cons_succ, List.set, Nat.sub, List.cons_append, List.nil_append, Nat.zero_add, Nat.reduceAdd, Nat.reduceSub, dP, fTup, fCons, fLst, fVar, fDic, fKv, aNeg_i, aI1_i, aI2_i, aStrI_i, aMul_ii, id, Option.some.injEq, exists_eq_left', exists_and_left, D.ref.injEq, D.int.injEq, D.bl.injEq, D.lst.injEq, Nat.reduceLeDiff, Nat.zero_le, lstW, seqOf, lstOf, aLen_s, aLen_t, aLen_l, aLen_r, aLt, aLe, aGt, aGe, aCmp_ii, aEq_ii, aNe_ii, aEqT_ss, aNeT_ss, dFor, iTup, iLst, forL, dRaise, dSetSlot, dTry, aAdd_ii, aAdd_ss, aAdd_tt, aAdd_ll, aSub, aInt_ii, aInt0_ii, aMod, aFdiv, aPow, aIsN, aNotN, isStrD, dCall, dBM, m2S, bty, sp0_iff, sp1_iff, sp2_iff, sp3_iff, sp4_iff, sp5_iff, sp6_iff, true_and, and_true, if_true, if_false, Bool.not_true, Bool.not_false, Bool.false_eq_true, reduceIte, isi_str ha]
  cases a <;> first | exact ha.elim | exact RetQ.here h | skip
  rename_i z
  simp only [dSeq, dNext, dDrop, dRet, dRetN, dIfS, dAsg, gdName, gdNil, gdCons, gdTup, gdSub, dCB, dCons, dNil, dC, dVar, dOp, dUn, dB, dAnd, dOr, dNot, dAndV, dOrV, dNotV, dIf, dTup, dLst, dChain, startD, List.map, List.replicate, List.length, List.append, List.getElem?_cons_zero, List.getElem?_cons_succ, List.set, Nat.sub, List.cons_append, List.nil_append, Nat.zero_add, Nat.reduceAdd, Nat.reduceSub, dP, fTup, fCons, fLst, fVar, fDic, fKv, aNeg_i, aI1_i, aI2_i, aStrI_i, aMul_ii, id, Option.some.injEq, exists_eq_left', exists_and_left, D.ref.injEq, D.int.injEq, D.bl.injEq, D.lst.injEq, Nat.reduceLeDiff, Nat.zero_le, lstW, seqOf, lstOf, aLen_s, aLen_t, aLen_l, aLen_r, aLt, aLe, aGt, aGe, aCmp_ii, aEq_ii, aNe_ii, aEqT_ss, aNeT_ss, dFor, iTup, iLst, forL, dRaise, dSetSlot, dTry, aAdd_ii, aAdd_ss, aAdd_tt, aAdd_ll, aSub, aInt_ii, aInt0_ii, aMod, aFdiv, aPow, aIsN, aNotN, isStrD, dCall, dBM, m2S, bty, sp0_iff, sp1_iff, sp2_iff, sp3_iff, sp4_iff, sp5_iff, sp6_iff, true_and, and_true, if_true, if_false, Bool.not_true, Bool.not_false, Bool.false_eq_true, reduceIte]
  have el : z.length = z.cps.toList.length := by show z.cps.size = _; simp
  have hn : isNameD (.str z) = nameL z.cps.toList := rfl
  have hs : z.length ≤ sizeLine := Nat.le_trans (hz z rfl) (by decide)
  refine ⟨hs, ?_⟩
  by_cases h1 : (z.length : Int) < 1
  · simp only [decide_eq_true h1, if_true]
    refine RetQ.here ?_
    rw [hn] at h
    unfold nameL at h
    rw [decide_eq_false (by omega), Bool.false_and] at h
    exact h
  · simp only [decide_eq_false h1, Bool.false_eq_true, if_false]
    refine ⟨hs, ?_⟩
    by_cases h8 : (8 : Int) < (z.length : Int)
    · simp only [decide_eq_true h8, if_true]
      refine RetQ.here ?_
      rw [hn] at h
      unfold nameL at h
      rw [decide_eq_false (by omega), Bool.false_and] at h
      exact h
    · simp only [decide_eq_false h8, Bool.false_eq_true, if_false]
      obtain ⟨c0, l, hl⟩ : ∃ c0 l, z.cps.toList = c0 :: l := by
        cases e : z.cps.toList with
        | nil => rw [e] at el; simp at el; omega
        | cons c l => exact ⟨c, l, rfl⟩
      have hlen : decide (1 ≤ z.cps.toList.length ∧ z.cps.toList.length ≤ 8) = true := decide_eq_true (by omega)
      refine ⟨c0, hs, by rw [hl]; exact atI_zero _ _, ?_⟩
      show (if decide (Txt.find lettersS ⟨#[c0]⟩ < 0) = true then _ else _)
      have hfind : decide (Txt.find lettersS ⟨#[c0]⟩ < 0) = !decide (c0 ∈ lettersL) := by
        by_cases hc : c0 ∈ lettersL
        · rw [decide_eq_true hc]; exact decide_eq_false fun z => (find_neg _ _).mp z hc
        · rw [decide_eq_false hc]; exact decide_eq_true ((find_neg _ _).mpr hc)
      simp only [hfind]
      by_cases hc : c0 ∈ lettersL
      · simp only [decide_eq_true hc, Bool.not_true, Bool.false_eq_true, if_false]
        refine lcL_fm (fun x => match x with | .str y => (match isSign y with | some c => if c ∈ lettersL ∨ c ∈ digitsL then none else some x | none => none) | _ => none) (fun x hx K1 K0 k => ?_) ?_ ?_
        · obtain ⟨c, hc1, rfl⟩ := List.mem_map.mp hx
          show tpD _ _ _ _ _
          refine ⟨by decide, rfl, ?_⟩
          show (if decide (Txt.find (lettersS ++ digitsS) ⟨#[c]⟩ < 0) = true then _ else _)
          have k' : (match (if c ∈ lettersL ∨ c ∈ digitsL then none else some (D.str ⟨#[c]⟩)) with | some y => K1 y M | none => K0 M) := k
          have hm : c ∈ (lettersS ++ digitsS).cps.toList ↔ c ∈ lettersL ∨ c ∈ digitsL := by
            show c ∈ (lettersS.cps ++ digitsS.cps).toList ↔ _
            rw [Array.toList_append, List.mem_append]
            exact Iff.rfl
          by_cases h2 : c ∈ lettersL ∨ c ∈ digitsL
          · rw [if_pos h2] at k'
            rw [decide_eq_false (fun z => (find_neg _ _).mp z (hm.mpr h2)), if_neg (by decide)]
            exact k'
          · rw [if_neg h2] at k'
            rw [decide_eq_true ((find_neg _ _).mpr fun z => h2 (hm.mp z)), if_pos rfl]
            exact k'
        · unfold signsOf
          simp only [List.length_map, List.length_nil, Nat.zero_add]
          omega
        · have hok := (hz0 z rfl).2
          have key : ∃ ss : List Str, ([] ++ List.filterMap (fun x => match x with | .str y => (match isSign y with | some c => if c ∈ lettersL ∨ c ∈ digitsL then none else some x | none => none) | _ => none) (signsOf z)) = ss.map D.str ∧ ss.length ≤ 8 ∧ (∀ s ∈ ss, PyData.strOk s = true) ∧ (ss = [] ↔ ∀ c ∈ z.cps.toList, c ∈ lettersL ∨ c ∈ digitsL) := by
            unfold signsOf
            have hlen8 : z.cps.toList.length ≤ 8 := by omega
            have hok2 : ∀ c ∈ z.cps.toList, c < 0x110000 := fun c hc => by
              have q : z.cps.all (· < 0x110000) = true := hok
              rw [← Array.all_toList] at q
              exact of_decide_eq_true (List.all_eq_true.mp q c hc)
            revert hlen8 hok2
            generalize 8 = n8
            generalize z.cps.toList = m
            induction m generalizing n8 with
            | nil => intro _ _; exact ⟨[], rfl, Nat.zero_le _, fun s hs => by simp at hs, by simp⟩
            | cons c m ih =>
              intro hle hok2
              obtain ⟨ss, e1, e2, e4, e3⟩ := ih (n8 - 1) (by simp at hle; omega) fun c hc => hok2 c (List.mem_cons_of_mem _ hc)
              rw [List.nil_append] at e1 ⊢
              rw [List.map_cons, List.filterMap_cons]
              by_cases h2 : c ∈ lettersL ∨ c ∈ digitsL
              · have e0 : isSign ⟨#[c]⟩ = some c := rfl
                simp only [e0, if_pos h2, e1]
                exact ⟨ss, rfl, by omega, e4, by rw [e3]; simp [h2]⟩
              · have e0 : isSign ⟨#[c]⟩ = some c := rfl
                simp only [e0, if_neg h2, e1]
                exact ⟨⟨#[c]⟩ :: ss, rfl, by simp at hle ⊢; omega, fun s hs => by
                  rcases List.mem_cons.mp hs with rfl | hs
                  · show (Array.all #[c] (· < 0x110000)) = true
                    simpa using hok2 c (List.mem_cons_self ..)
                  · exact e4 s hs, by simp [h2]⟩
          obtain ⟨ss, e1, e2, e4', e3⟩ := key
          rw [e1]
          refine ⟨.list (ss.map PyData.str), .list [], ?_, rfl, ?_, by decide, ?_⟩
          · show (pyL _).map _ = _
            rw [pyL_strs]
            rfl
          · exact shaped_strs ss e4'
          · refine RetQ.here ?_
            rw [hn] at h
            unfold nameL at h
            rw [hlen, hl] at h
            simp only [decide_eq_true hc, Bool.true_and] at h
            have ee : PyData.eqv (.list (ss.map PyData.str)) (.list []) = (c0 :: l).all fun c => decide (c ∈ lettersL) || decide (c ∈ digitsL) := by
              rw [hl] at e3
              cases ss with
              | nil =>
                have := e3.mp rfl
                have e4 : ((c0 :: l).all fun c => decide (c ∈ lettersL) || decide (c ∈ digitsL)) = true := List.all_eq_true.mpr fun c hc => by simpa using this c hc
                rw [e4]
                rfl
              | cons s ss =>
                have e4 : ((c0 :: l).all fun c => decide (c ∈ lettersL) || decide (c ∈ digitsL)) = false := by
                  cases e5 : (c0 :: l).all fun c => decide (c ∈ lettersL) || decide (c ∈ digitsL) with
                  | false => rfl
                  | true =>
                    have := e3.mpr fun c hc => by simpa using List.all_eq_true.mp e5 c hc
                    cases this
                rw [e4]
                rfl
            rw [ee]
            exact h
      · simp only [decide_eq_false hc, Bool.not_false, if_true]
        refine RetQ.here ?_
        rw [hn] at h
        unfold nameL at h
        rw [hlen, hl] at h
        simp only [decide_eq_false hc, Bool.false_and, Bool.and_false] at h
        exact h
theorem sc_l_string : FnScope ["_law_pool_here", "_law_signs", "_law_odd_signs", "_law_size", "_law_found", "_law_k"] ["_law_pool_here"] (defScope (topS 24)) := ⟨rfl, rfl, rfl, by decide +kernel, rfl, by decide +kernel, by decide +kernel⟩
def sp_l_string (K : PySem.W.Frag) : DSp := sp1 (fun a M Q E => ∃ p, a = .ref p ∧ M p = some .pool ∧ ∀ z, z.length ≤ 10 → PyData.strOk z = true → Q (.str z) M)
theorem ok_l_string (X : K.In base) (G : base.Ns mainGlobals mg) (c : SaysF fa fn K) : OkF P w K mg base 2 d_l_string ["_law_pool_here"] (sp_l_string K) := by
  obtain ⟨fd_, FD_⟩ := c.def_ 23 (d := d_l_string)
  obtain ⟨f_l_draw, FD_l_draw, F_l_draw, B_l_draw⟩ := ok_l_draw (P := P) (w := w) X G c
  have K_l_draw := FD_l_draw.kp
  have g__law_draw := He.glo_ok X G (c.fact 24 (f := fun K => (He.Fa.glo "_law_draw").ok K))
  have g_len := He.free_ok X G (c.fact 7 (f := fun K => (He.Fa.free "len").ok K))
  have g_range := He.free_ok X G (c.fact 26 (f := fun K => (He.Fa.free "range").ok K))
  refine ⟨fd_, FD_, fng_of FD_ sc_l_string (fun ds M Q E h => sp1_len h) (fun cdv A outer s H Z ds M Q E E1 hr h => ?_), Bd.all FD_ rfl rfl fun _ _ _ _ _ _ us hl => match us, hl with | [_], _ => rfl⟩
  obtain ⟨a, rfl, h⟩ := h
  refine ⟨_, (dss_cons (ds_set (i := 1) sc_l_string.nd rfl (by first | exact .inl rfl | exact .inr rfl) de_str) (dss_cons (ds_set (i := 2) sc_l_string.nd rfl (by first | exact .inl rfl | exact .inr rfl) de_str) (dss_cons (ds_set (i := 3) sc_l_string.nd rfl (by first | exact .inl rfl | exact .inr rfl) (de_ix (dp_lst (dpa_cons dp_int (dpa_cons dp_int (dpa_cons dp_int (dpa_cons dp_int (dpa_cons dp_int (dpa_cons dp_int (dpa_cons dp_int (dpa_cons dp_int dpa_nil))))))))) (de_call F_l_draw (hr.mono (by decide)) rfl g__law_draw K_l_draw B_l_draw (da_cons (dv 0) (da_cons de_int da_nil))) (by intro _ _; rfl))) (dss_cons (ds_setLcM (i := 4) (p := (.one 5)) (own := [("_law_k", 5)]) rfl sc_l_string.nd rfl rfl rfl (di_range1 rfl g_range (da_cons (dv 3) da_nil)) (blkB_ok (by kernel_rfl)) (by decide) (fun _ _ _ _ _ => pg_name sc_l_string.nd rfl (.inl rfl)) (fun _ _ _ _ _ => dts_nil) (fun _ _ _ _ _ => (de_ix (dv 1) (de_call F_l_draw (hr.mono (by decide)) rfl g__law_draw K_l_draw B_l_draw (da_cons (dv 0) (da_cons de_int da_nil))) (by intro _ _; rfl)))) (dss_cons (ds_if (DW.dt (dw_and (dt_cmp op_gt_ (dv 3) de_int (nomark _)) (dw_and1 (dt_cmp op_gt_ (de_call F_l_draw (hr.mono (by decide)) rfl g__law_draw K_l_draw B_l_draw (da_cons (dv 0) (da_cons de_int da_nil))) de_int (nomark _))))) (dss_cons (ds_asg (de_ix (dv 1) (de_call F_l_draw (hr.mono (by decide)) rfl g__law_draw K_l_draw B_l_draw (da_cons (dv 0) (da_cons de_int da_nil))) (by intro _ _; rfl)) (dg_sub (dv 4) de_int set_l)) dss_nil) dss_nil) (dss_cons (ds_if (DW.dt (dw_and (dt_cmp op_gt_ (dv 3) de_int (nomark _)) (dw_and1 (dt_cmp (op_eq_ (rm_u64 hr)) (de_call F_l_draw (hr.mono (by decide)) rfl g__law_draw K_l_draw B_l_draw (da_cons (dv 0) (da_cons de_int da_nil))) de_int (nomark _))))) (dss_cons (ds_asg (de_ix (dv 2) (de_call F_l_draw (hr.mono (by decide)) rfl g__law_draw K_l_draw B_l_draw (da_cons (dv 0) (da_cons (de_callB c_len rfl g_len boot_len (da_cons (dv 2) da_nil)) da_nil))) (by intro _ _; rfl)) (dg_sub (dv 4) (de_call F_l_draw (hr.mono (by decide)) rfl g__law_draw K_l_draw B_l_draw (da_cons (dv 0) (da_cons (dv 3) da_nil))) set_l)) dss_nil) dss_nil) (dss_cons (ds_ret (de_bm PySem.F.plainAttrs_str PySem.F.slot_str_join PySem.F.type_str_join m_join de_str (da_cons (dv 4) da_nil))) dss_nil))))))), ?_⟩
  obtain ⟨p, rfl, em, h⟩ := h
  simp only [dSeq, dNext, dDrop, dRet, dRetN, dIfS, dAsg, gdName, gdNil, gdCons, gdTup, gdSub, dCB, dCons, dNil, dC, dVar, dOp, dUn, dB, dAnd, dOr, dNot, dAndV, dOrV, dNotV, dIf, dTup, dLst, dChain, startD, List.map, List.replicate, List.length, List.append, List.getElem?_cons_zero, List.getElem?_cons_succ, List.set, Nat.sub, List.cons_append, List.nil_append, Nat.zero_add, Nat.reduceAdd, Nat.reduceSub, dP, fTup, fCons, fLst, fVar, fDic, fKv, aNeg_i, aI1_i, aI2_i, aStrI_i, aMul_ii, id, Option.some.injEq, exists_eq_left', exists_and_left, D.ref.injEq, D.int.injEq, D.bl.injEq, D.lst.injEq, Nat.reduceLeDiff, Nat.zero_le, lstW, seqOf, lstOf, aLen_s, aLen_t, aLen_l, aLen_r, aLt, aLe, aGt, aGe, aCmp_ii, aEq_ii, aNe_ii, aEqT_ss, aNeT_ss, dFor, iTup, iLst, forL, dRaise, dSetSlot, dTry, aAdd_ii, aAdd_ss, aAdd_tt, aAdd_ll, aSub, aInt_ii, aInt0_ii, aMod, aFdiv, aPow, aIsN, aNotN, isStrD, dCall, dBM, m2S, bty, sp0_iff, sp1_iff, sp2_iff, sp3_iff, sp4_iff, sp5_iff, sp6_iff, true_and, and_true, if_true, if_false, Bool.not_true, Bool.not_false, Bool.false_eq_true, reduceIte, sp_l_draw]
  refine ⟨em, by decide, by decide, fun m m0 m1 => ?_⟩
  obtain ⟨d, e, hd⟩ := atI_mem (l := [D.int 1, D.int 8, D.int 9, D.int 0, D.int 2, D.int 7, D.int 3, D.int 10]) m0 (by simpa using m1)
  refine ix_s (ds := [D.int 1, D.int 8, D.int 9, D.int 0, D.int 2, D.int 7, D.int 3, D.int 10]) rfl e ?_
  obtain ⟨n, rfl, n0, n10⟩ : ∃ n : Int, d = .int n ∧ 0 ≤ n ∧ n ≤ 10 := by
    simp only [List.mem_cons, List.mem_nil_iff, or_false] at hd
    rcases hd with rfl | rfl | rfl | rfl | rfl | rfl | rfl | rfl <;> exact ⟨_, rfl, by decide, by decide⟩
  refine ⟨by omega, by omega, ?_⟩
  refine lcL_rel (fun _ o => ∃ x : Str, o = some (D.str x) ∧ x.length ≤ 1 ∧ PyData.strOk x = true) (fun x hx K1 K0 k => ?_) (by rw [List.length_map, List.length_range]; have := sizeLine_eq; simp only [List.length_nil]; omega) fun os po => ?_
  · show tpD _ _ _ _ _
    refine ⟨rfl, rfl, _, _, rfl, p, rfl, 36, rfl, em, by decide, by decide, fun i i0 i1 => ?_⟩
    exact ix_sign i0 i1 (by decide) (by decide +kernel) fun x hx => k _ ⟨x, rfl, hx⟩
  · refine ⟨_, rfl, fun p' ep' => ?_⟩
    have hne : p ≠ p' := fun z => by rw [z, ep'] at em; cases em
    obtain ⟨acc, hacc⟩ : ∃ acc, acc = [] ++ os.filterMap id := ⟨_, rfl⟩
    rw [← hacc]
    have hS : Signs acc ∧ acc.length = n.toNat := by
      rw [hacc, List.nil_append]
      have hl := Paired.length po
      rw [List.length_map, List.length_range] at hl
      clear hacc ep' hne
      have key : ∀ {l : List D} {os : List (Option D)}, Paired (fun _ o => ∃ x : Str, o = some (D.str x) ∧ x.length ≤ 1 ∧ PyData.strOk x = true) l os → Signs (os.filterMap id) ∧ (os.filterMap id).length = l.length := by
        intro l os h
        induction h with
        | nil => exact ⟨⟨[], rfl, fun s hs => by simp at hs⟩, rfl⟩
        | cons h _ ih =>
          obtain ⟨x, rfl, hx⟩ := h
          obtain ⟨⟨ss, e, hs⟩, hl⟩ := ih
          refine ⟨⟨x :: ss, by simp [e], fun s hs' => ?_⟩, by simp [hl]⟩
          rcases List.mem_cons.mp hs' with rfl | hs'
          · exact hx
          · exact hs s hs'
      obtain ⟨k1, k2⟩ := key po
      exact ⟨k1, by rw [k2, List.length_map, List.length_range]⟩
    clear hacc
    have m1' : mset M p' (.lst acc) p = some .pool := by rw [mset_ne hne]; exact em
    have fin : ∀ acc', Signs acc' → acc'.length = n.toNat → mJoin (.str (Str.ofString "")) [.ref p'] (mset M p' (.lst acc')) (RetQ Q) := fun acc' h1 h2 =>
      join_m rfl mset_same h1 (by omega) fun z hz hok => RetQ.drop ep' (h z (by omega) hok)
    have pl : ∀ acc', mset M p' (.lst acc') p = some .pool := fun acc' => by rw [mset_ne hne]; exact em
    by_cases hn : 0 < n
    · simp only [aCmp_ii, decide_eq_true hn, if_true]
      refine ⟨m1', by decide, by decide, fun q q0 q4 => ?_⟩
      by_cases hq : 0 < q
      · simp only [decide_eq_true hq, if_true]
        refine ⟨m1', by decide, by decide, fun i i0 i1 => ?_⟩
        refine ix_sign i0 (Int.lt_trans i1 (by decide)) (by decide) (by decide +kernel) fun x hx => ?_
        obtain ⟨j, hj⟩ := ixN_pos (n := acc.length) (i := 0) (by decide) (by omega)
        refine set_m mset_same hj ?_
        rw [mset_mset]
        have hS' : Signs (acc.set j (.str x)) ∧ (acc.set j (.str x)).length = n.toNat := ⟨hS.1.set hx j, by rw [List.length_set]; exact hS.2⟩
        revert hS'
        generalize acc.set j (D.str x) = acc'
        intro hS'
        refine ⟨pl _, by decide, by decide, fun q q0 q3 => ?_⟩
        by_cases hq0 : (q == 0) = true
        · simp only [hq0, if_true]
          refine ⟨by decide, pl _, by decide, by decide +kernel, fun i i0 i1 => ix_sign i0 i1 (by decide) (by decide +kernel) fun x hx => ⟨n, rfl, pl _, hn, Nat.lt_of_lt_of_le (log2_lt (k := 9) (by omega)) (by decide), fun i i0 i1 => ?_⟩⟩
          obtain ⟨j, hj⟩ := ixN_pos (n := acc'.length) i0 (by omega)
          refine set_m mset_same hj ?_
          rw [mset_mset]
          exact fin _ (hS'.1.set hx j) (by rw [List.length_set]; exact hS'.2)
        · simp only [hq0, Bool.false_eq_true, if_false]
          exact fin _ hS'.1 hS'.2
      · simp only [decide_eq_false hq, Bool.false_eq_true, if_false]
        refine ⟨pl _, by decide, by decide, fun q q0 q3 => ?_⟩
        by_cases hq0 : (q == 0) = true
        · simp only [hq0, if_true]
          refine ⟨by decide, pl _, by decide, by decide +kernel, fun i i0 i1 => ix_sign i0 i1 (by decide) (by decide +kernel) fun x hx => ⟨n, rfl, pl _, hn, Nat.lt_of_lt_of_le (log2_lt (k := 9) (by omega)) (by decide), fun i i0 i1 => ?_⟩⟩
          obtain ⟨j, hj⟩ := ixN_pos (n := acc.length) i0 (by omega)
          refine set_m mset_same hj ?_
          rw [mset_mset]
          exact fin _ (hS.1.set hx j) (by rw [List.length_set]; exact hS.2)
        · simp only [hq0, Bool.false_eq_true, if_false]
          exact fin _ hS.1 hS.2
    · simp only [aCmp_ii, decide_eq_false hn, Bool.false_eq_true, if_false]
      exact fin _ hS.1 hS.2
theorem sc_l_day_told : FnScope ["_law_thing", "_law_by_position", "_law_made", "e"] ["_law_thing", "_law_by_position"] (defScope (topS 25)) := ⟨rfl, rfl, rfl, by decide +kernel, rfl, by decide +kernel, by decide +kernel⟩
def sp_l_day_told (K : PySem.W.Frag) : DSp := sp2 (fun a b M Q E => ∃ k, b = .bl k ∧ Thing a ∧ Q (.lst (if isNameD a then [.str "made", a] else [.str "refused", a])) M)
theorem ok_l_day_told (X : K.In base) (G : base.Ns mainGlobals mg) (c : SaysF fa fn K) : OkF P w K mg base 5 d_l_day_told ["_law_thing", "_law_by_position"] (sp_l_day_told K) := by
  obtain ⟨fd_, FD_⟩ := c.def_ 24 (d := d_l_day_told)
  obtain ⟨f_Day_name, FD_Day_name, F_Day_name, B_Day_name⟩ := ok_Day_name (P := P) (w := w) X G c
  have K_Day_name := FD_Day_name.kp
  obtain ⟨f_Day_init, FD_Day_init, F_Day_init, B_Day_init⟩ := ok_Day_init (P := P) (w := w) X G c
  have K_Day_init := FD_Day_init.kp
  obtain ⟨fx_InvalidName, X_InvalidName⟩ := okx_InvalidName (P := P) (w := w) (base := base) (mg := mg) c
  have x_exm_InvalidName_InvalidName := bExm_ok (c.fact 30 (f := bExm "InvalidName" "InvalidName" true))
  have p_Day_name := bProp_ok (c.fact 27 (f := bProp "Day" "name"))
  have g_InvalidName := He.glo_ok X G (c.fact 14 (f := fun K => (He.Fa.glo "InvalidName").ok K))
  have g_Day := He.glo_ok X G (c.fact 28 (f := fun K => (He.Fa.glo "Day").ok K))
  have mk_Day := He.mkr_ok (c.fact 29 (f := fun K => (He.Fa.mkr "Day").ok K))
  have Bk_Day_init_most_name := Bd.kwD (ps := ["self", "name", "most"]) (n := 1) (ks := ["most", "name"]) [.inl 0, .inr 1, .inr 0] FD_Day_init (by simp [He5.DefA.dvs]) fun _ _ _ _ _ _ _ us ws h1 h2 => match us, ws, h1, h2 with | [_], [_, _], _, _ => ⟨_, rfl, fun its hi => match its, hi with | [_], _ => rfl⟩
  refine ⟨fd_, FD_, fng_of FD_ sc_l_day_told (fun ds M Q E h => sp2_len h) (fun cdv A outer s H Z ds M Q E E1 hr h => ?_), Bd.all FD_ rfl rfl fun _ _ _ _ _ _ us hl => match us, hl with | [_, _], _ => rfl⟩
  obtain ⟨a, b, rfl, h⟩ := h
  refine ⟨_, (dss_cons (ds_try rfl rfl sc_l_day_told.nd (.name (i := 3) ⟨rfl, by decide, .inl g_InvalidName⟩ rfl rfl (fun a oe cls d pn hz hf => (dss_cons (ds_ret (de_lst (da_cons de_str (da_cons (de_xf X_InvalidName.2.2.2 X_InvalidName.2.2.1.no hz hf (dv 3)) da_nil)))) dss_nil)) .nil) (fun _ _ _ hp => (dss_cons (ds_set (i := 2) sc_l_day_told.nd rfl (by first | exact .inl rfl | exact .inr rfl) (de_if (dt_val (dv 1)) (de_make mk_Day F_Day_init (hr.mono (by decide)) rfl g_Day B_Day_init (.inl rfl) (da_cons (dv 0) (da_cons de_int da_nil))) (de_makeK0 mk_Day F_Day_init (hr.mono (by decide)) rfl g_Day Bk_Day_init_most_name (.inl rfl) (dk_cons de_int (dk_cons (dv 0) dk_nil))))) dss_nil))) (dss_cons (ds_ret (de_lst (da_cons de_str (da_cons (de_prop (dv 2) p_Day_name F_Day_name (hr.mono (by decide)) B_Day_name) da_nil)))) dss_nil)), ?_⟩
  obtain ⟨k, rfl, ht, h⟩ := h
  simp only [dSeq, dNext, dDrop, dRet, dRetN, dIfS, dAsg, gdName, gdNil, gdCons, gdTup, gdSub, dCB, dCons, dNil, dC, dVar, dOp, dUn, dB, dAnd, dOr, dNot, dAndV, dOrV, dNotV, dIf, dTup, dLst, dChain, startD, List.map, List.replicate, List.length, List.append, List.getElem?_cons_zero, List.getElem?_cons_succ, List.set, Nat.sub, List.cons_append, List.nil_append, Nat.zero_add, Nat.reduceAdd, Nat.reduceSub, dP, fTup, fCons, fLst, fVar, fDic, fKv, aNeg_i, aI1_i, aI2_i, aStrI_i, aMul_ii, id, Option.some.injEq, exists_eq_left', exists_and_left, D.ref.injEq, D.int.injEq, D.bl.injEq, D.lst.injEq, Nat.reduceLeDiff, Nat.zero_le, lstW, seqOf, lstOf, aLen_s, aLen_t, aLen_l, aLen_r, aLt, aLe, aGt, aGe, aCmp_ii, aEq_ii, aNe_ii, aEqT_ss, aNeT_ss, dFor, iTup, iLst, forL, dRaise, dSetSlot, dTry, aAdd_ii, aAdd_ss, aAdd_tt, aAdd_ll, aSub, aInt_ii, aInt0_ii, aMod, aFdiv, aPow, aIsN, aNotN, isStrD, dCall, dBM, m2S, bty, sp0_iff, sp1_iff, sp2_iff, sp3_iff, sp4_iff, sp5_iff, sp6_iff, true_and, and_true, if_true, if_false, Bool.not_true, Bool.not_false, Bool.false_eq_true, reduceIte, sp_Day_name, dMake, dProp, clsI, wTry]
  have hz : ∀ z, a = .str z → z.length ≤ sizeLine := fun z e => by subst e; exact Nat.le_trans ht.str.1 (by decide)
  cases k
  all_goals
    simp only [if_true, Bool.false_eq_true, if_false]
    intro x dx ex edx ne
    refine ⟨_, _, _, rfl, x, dx, rfl, mset_same, ht.plain, hz, True.intro, ?_⟩
    cases hn : isNameD a
    · simp only [hn, Bool.false_eq_true, if_false] at h
      simp only [if_true]
      refine ⟨M, less_mset ex, true, x_exm_InvalidName_InvalidName, fun _ e => ⟨by simp, fun dd => ?_⟩, fun z => nomatch z⟩
      exact ⟨rfl, dd, _, a, rfl, rfl, rfl, by decide, RetQ.here h⟩
    · simp only [hn, if_true] at h
      simp only [Bool.true_eq_false, if_false]
      refine ⟨rfl, .inl ⟨[.tup [a, .int 7]], mset_same, ?_⟩⟩
      rw [mset_mset, mdel_mset ex]
      exact ⟨rfl, a, .int 7, rfl, by decide, RetQ.here h⟩
theorem sc_l_rule_told : FnScope ["_law_begin", "_law_end", "_law_by_position", "_law_made", "e"] ["_law_begin", "_law_end", "_law_by_position"] (defScope (topS 26)) := ⟨rfl, rfl, rfl, by decide +kernel, rfl, by decide +kernel, by decide +kernel⟩
def sp_l_rule_told (K : PySem.W.Frag) : DSp := sp3 (fun a b c M Q E => ∃ k, c = .bl k ∧ Thing a ∧ Thing b ∧ Q (.lst (if isNameD a then (if isNameD b then [.str "made", a, b] else [.str "refused", b]) else [.str "refused", a])) M)
theorem ok_l_rule_told (X : K.In base) (G : base.Ns mainGlobals mg) (c : SaysF fa fn K) : OkF P w K mg base 5 d_l_rule_told ["_law_begin", "_law_end", "_law_by_position"] (sp_l_rule_told K) := by
  obtain ⟨fd_, FD_⟩ := c.def_ 25 (d := d_l_rule_told)
  obtain ⟨f_Rule_last, FD_Rule_last, F_Rule_last, B_Rule_last⟩ := ok_Rule_last (P := P) (w := w) X G c
  have K_Rule_last := FD_Rule_last.kp
  obtain ⟨f_Rule_first, FD_Rule_first, F_Rule_first, B_Rule_first⟩ := ok_Rule_first (P := P) (w := w) X G c
  have K_Rule_first := FD_Rule_first.kp
  obtain ⟨f_Rule_init, FD_Rule_init, F_Rule_init, B_Rule_init⟩ := ok_Rule_init (P := P) (w := w) X G c
  have K_Rule_init := FD_Rule_init.kp
  obtain ⟨fx_InvalidName, X_InvalidName⟩ := okx_InvalidName (P := P) (w := w) (base := base) (mg := mg) c
  have x_exm_InvalidName_InvalidName := bExm_ok (c.fact 30 (f := bExm "InvalidName" "InvalidName" true))
  have p_Rule_last := bProp_ok (c.fact 31 (f := bProp "Rule" "last"))
  have p_Rule_first := bProp_ok (c.fact 32 (f := bProp "Rule" "first"))
  have g_InvalidName := He.glo_ok X G (c.fact 14 (f := fun K => (He.Fa.glo "InvalidName").ok K))
  have g_Rule := He.glo_ok X G (c.fact 33 (f := fun K => (He.Fa.glo "Rule").ok K))
  have mk_Rule := He.mkr_ok (c.fact 34 (f := fun K => (He.Fa.mkr "Rule").ok K))
  have Bk_Rule_init_rate_number_kind_last_first := Bd.kw (ps := ["self", "first", "last", "kind", "number", "rate"]) (n := 1) (ks := ["rate", "number", "kind", "last", "first"]) [.inl 0, .inr 4, .inr 3, .inr 2, .inr 1, .inr 0] FD_Rule_init rfl fun _ _ _ _ _ _ us ws h1 h2 => match us, ws, h1, h2 with | [_], [_, _, _, _, _], _, _ => rfl
  refine ⟨fd_, FD_, fng_of FD_ sc_l_rule_told (fun ds M Q E h => sp3_len h) (fun cdv A outer s H Z ds M Q E E1 hr h => ?_), Bd.all FD_ rfl rfl fun _ _ _ _ _ _ us hl => match us, hl with | [_, _, _], _ => rfl⟩
  obtain ⟨a, b, c, rfl, h⟩ := h
  refine ⟨_, (dss_cons (ds_try rfl rfl sc_l_rule_told.nd (.name (i := 4) ⟨rfl, by decide, .inl g_InvalidName⟩ rfl rfl (fun a oe cls d pn hz hf => (dss_cons (ds_ret (de_lst (da_cons de_str (da_cons (de_xf X_InvalidName.2.2.2 X_InvalidName.2.2.1.no hz hf (dv 4)) da_nil)))) dss_nil)) .nil) (fun _ _ _ hp => (dss_cons (ds_if (dt_val (dv 2)) (dss_cons (ds_set (i := 3) sc_l_rule_told.nd rfl (by first | exact .inl rfl | exact .inr rfl) (de_make mk_Rule F_Rule_init (hr.mono (by decide)) rfl g_Rule B_Rule_init (.inl rfl) (da_cons (dv 0) (da_cons (dv 1) (da_cons de_str (da_cons de_int (da_cons de_int da_nil))))))) dss_nil) (dss_cons (ds_set (i := 3) sc_l_rule_told.nd rfl (by first | exact .inl rfl | exact .inr rfl) (de_makeK0 mk_Rule F_Rule_init (hr.mono (by decide)) rfl g_Rule Bk_Rule_init_rate_number_kind_last_first (.inl rfl) (dk_cons de_int (dk_cons de_int (dk_cons de_str (dk_cons (dv 1) (dk_cons (dv 0) dk_nil))))))) dss_nil)) dss_nil))) (dss_cons (ds_ret (de_lst (da_cons de_str (da_cons (de_prop (dv 3) p_Rule_first F_Rule_first (hr.mono (by decide)) B_Rule_first) (da_cons (de_prop (dv 3) p_Rule_last F_Rule_last (hr.mono (by decide)) B_Rule_last) da_nil))))) dss_nil)), ?_⟩
  obtain ⟨k, rfl, ha, hb, h⟩ := h
  simp only [dSeq, dNext, dDrop, dRet, dRetN, dIfS, dAsg, gdName, gdNil, gdCons, gdTup, gdSub, dCB, dCons, dNil, dC, dVar, dOp, dUn, dB, dAnd, dOr, dNot, dAndV, dOrV, dNotV, dIf, dTup, dLst, dChain, startD, List.map, List.replicate, List.length, List.append, List.getElem?_cons_zero, List.getElem?_cons_succ, List.set, Nat.sub, List.cons_append, List.nil_append, Nat.zero_add, Nat.reduceAdd, Nat.reduceSub, dP, fTup, fCons, fLst, fVar, fDic, fKv, aNeg_i, aI1_i, aI2_i, aStrI_i, aMul_ii, id, Option.some.injEq, exists_eq_left', exists_and_left, D.ref.injEq, D.int.injEq, D.bl.injEq, D.lst.injEq, Nat.reduceLeDiff, Nat.zero_le, lstW, seqOf, lstOf, aLen_s, aLen_t, aLen_l, aLen_r, aLt, aLe, aGt, aGe, aCmp_ii, aEq_ii, aNe_ii, aEqT_ss, aNeT_ss, dFor, iTup, iLst, forL, dRaise, dSetSlot, dTry, aAdd_ii, aAdd_ss, aAdd_tt, aAdd_ll, aSub, aInt_ii, aInt0_ii, aMod, aFdiv, aPow, aIsN, aNotN, isStrD, dCall, dBM, m2S, bty, sp0_iff, sp1_iff, sp2_iff, sp3_iff, sp4_iff, sp5_iff, sp6_iff, true_and, and_true, if_true, if_false, Bool.not_true, Bool.not_false, Bool.false_eq_true, reduceIte, sp_Rule_first, sp_Rule_last, dMake, dProp, clsI, wTry]
  have hz : ∀ a, Thing a → ∀ z, a = .str z → z.length ≤ sizeLine := fun a ht z e => by subst e; exact Nat.le_trans ht.str.1 (by decide)
  cases k
  all_goals
    simp only [if_true, Bool.false_eq_true, if_false]
    intro x dx ex edx ne
    refine ⟨_, _, _, _, _, _, rfl, x, dx, rfl, mset_same, ⟨ha.plain, hz a ha⟩, ⟨hb.plain, hz b hb⟩, True.intro, True.intro, True.intro, ?_⟩
    cases hn : isNameD a
    · simp only [hn, Bool.false_eq_true, if_false] at h
      simp only [if_true]
      refine ⟨M, less_mset ex, true, x_exm_InvalidName_InvalidName, fun _ e => ⟨by simp, fun dd => ?_⟩, fun z => nomatch z⟩
      exact ⟨rfl, dd, _, a, rfl, rfl, rfl, by decide, RetQ.here h⟩
    · simp only [hn, if_true] at h
      simp only [Bool.true_eq_false, if_false]
      cases hm : isNameD b
      · simp only [hm, Bool.false_eq_true, if_false] at h
        simp only [if_true]
        refine ⟨M, less_mset ex, true, x_exm_InvalidName_InvalidName, fun _ e => ⟨by simp, fun dd => ?_⟩, fun z => nomatch z⟩
        exact ⟨rfl, dd, _, b, rfl, rfl, rfl, by decide, RetQ.here h⟩
      · simp only [hm, if_true] at h
        simp only [Bool.true_eq_false, if_false]
        refine ⟨rfl, .inl ⟨[.tup [a, b, .str "upto", .int 3, .int 4]], mset_same, ?_⟩⟩
        rw [mset_mset, mdel_mset ex]
        exact ⟨rfl, _, _, _, _, _, rfl, rfl, _, _, _, _, _, rfl, by decide, RetQ.here h⟩
theorem sc_l_due : FnScope ["_law_things", "_law_thing"] ["_law_things"] (defScope (topS 27)) := ⟨rfl, rfl, rfl, by decide +kernel, rfl, by decide +kernel, by decide +kernel⟩
def sp_l_due (K : PySem.W.Frag) : DSp := sp1 (fun a M Q E => ∃ ds, a = .lst ds ∧ ds.length ≤ 10 ∧ (∀ d ∈ ds, Thing d) ∧ Q (.lst (dueL ds ds)) M)
theorem ok_l_due (X : K.In base) (G : base.Ns mainGlobals mg) (c : SaysF fa fn K) : OkF P w K mg base 2 d_l_due ["_law_things"] (sp_l_due K) := by
  obtain ⟨fd_, FD_⟩ := c.def_ 26 (d := d_l_due)
  obtain ⟨f_l_is_name, FD_l_is_name, F_l_is_name, B_l_is_name⟩ := ok_l_is_name (P := P) (w := w) X G c
  have K_l_is_name := FD_l_is_name.kp
  have g__law_is_name := He.glo_ok X G (c.fact 35 (f := fun K => (He.Fa.glo "_law_is_name").ok K))
  refine ⟨fd_, FD_, fng_of FD_ sc_l_due (fun ds M Q E h => sp1_len h) (fun cdv A outer s H Z ds M Q E E1 hr h => ?_), Bd.all FD_ rfl rfl fun _ _ _ _ _ _ us hl => match us, hl with | [_], _ => rfl⟩
  obtain ⟨a, rfl, h⟩ := h
  refine ⟨_, (dss_cons (ds_for pass_body rfl (di_lst (dv 0)) (dg_name (i := 1) sc_l_due.nd rfl (by first | exact .inl rfl | exact .inr rfl)) (dss_cons (ds_if (dt_not (dt_val (de_call F_l_is_name (hr.mono (by decide)) rfl g__law_is_name K_l_is_name B_l_is_name (da_cons (dv 1) da_nil)))) (dss_cons (ds_ret (dp_lst (dpa_cons dp_str (dpa_cons (dp_var 1) dpa_nil)))) dss_nil) dss_nil) dss_nil)) (dss_cons (ds_ret (de_op op_add_ (dp_lst (dpa_cons dp_str dpa_nil)) (dv 0))) dss_nil)), ?_⟩
  obtain ⟨ds, rfl, hl, ht, h⟩ := h
  simp only [dSeq, dNext, dDrop, dRet, dRetN, dIfS, dAsg, gdName, gdNil, gdCons, gdTup, gdSub, dCB, dCons, dNil, dC, dVar, dOp, dUn, dB, dAnd, dOr, dNot, dAndV, dOrV, dNotV, dIf, dTup, dLst, dChain, startD, List.map, List.replicate, List.length, List.append, List.getElem?_cons_zero, List.getElem?_cons_succ, List.set, Nat.sub, List.cons_append, List.nil_append, Nat.zero_add, Nat.reduceAdd, Nat.reduceSub, dP, fTup, fCons, fLst, fVar, fDic, fKv, aNeg_i, aI1_i, aI2_i, aStrI_i, aMul_ii, id, Option.some.injEq, exists_eq_left', exists_and_left, D.ref.injEq, D.int.injEq, D.bl.injEq, D.lst.injEq, Nat.reduceLeDiff, Nat.zero_le, lstW, seqOf, lstOf, aLen_s, aLen_t, aLen_l, aLen_r, aLt, aLe, aGt, aGe, aCmp_ii, aEq_ii, aNe_ii, aEqT_ss, aNeT_ss, dFor, iTup, iLst, dRaise, dSetSlot, dTry, aAdd_ii, aAdd_ss, aAdd_tt, aAdd_ll, aSub, aInt_ii, aInt0_ii, aMod, aFdiv, aPow, aIsN, aNotN, isStrD, dCall, dBM, m2S, bty, sp0_iff, sp1_iff, sp2_iff, sp3_iff, sp4_iff, sp5_iff, sp6_iff, true_and, and_true, if_true, if_false, Bool.not_true, Bool.not_false, Bool.false_eq_true, reduceIte, sp_l_is_name]
  refine forL_ind (fun items r M' => M' = M ∧ (∃ o, r = [some (D.lst ds), o]) ∧ (∀ x ∈ items, Thing x) ∧ Q (.lst (dueL items ds)) M) ?_ ?_ ⟨rfl, ⟨_, rfl⟩, ht, h⟩
  · rintro x xs r M' ⟨rfl, ⟨o, rfl⟩, hx, h⟩ k
    have hT := hx x (List.mem_cons_self ..)
    refine ⟨rfl, rfl, x, rfl, hT.plain, fun z e => by subst e; exact hT.str, ?_⟩
    show (if (!isNameD x) = true then _ else _)
    have h' : Q (.lst (if isNameD x then dueL xs ds else [.str "refused", x])) M' := h
    cases hn : isNameD x
    · simp only [hn, Bool.false_eq_true, if_false] at h'
      simp only [Bool.not_false, if_true]
      exact ⟨_, rfl, RetQ.here h'⟩
    · simp only [hn, if_true] at h'
      simp only [Bool.not_true, Bool.false_eq_true, if_false]
      exact k _ _ ⟨rfl, ⟨_, rfl⟩, fun y hy => hx y (List.mem_cons_of_mem _ hy), h'⟩
  · rintro r M' ⟨rfl, ⟨o, rfl⟩, _, h⟩
    refine ⟨_, rfl, ?_⟩
    exact ⟨by have := sizeLine_eq; simp only [List.length_cons, List.length_nil]; omega, RetQ.here h⟩
theorem sc_l_right : FnScope ["_law_pool_here", "_law_thing", "_law_mate", "_law_by_position", "_law_pair"] ["_law_pool_here"] (defScope (topS 28)) := ⟨rfl, rfl, rfl, by decide +kernel, rfl, by decide +kernel, by decide +kernel⟩
def sp_l_right (K : PySem.W.Frag) : DSp := sp1 (fun a M Q E => ∃ p, a = .ref p ∧ M p = some .pool ∧ Q (.bl true) M)
theorem ok_l_right (X : K.In base) (G : base.Ns mainGlobals mg) (c : SaysF fa fn K) : OkF P w K mg base 6 d_l_right ["_law_pool_here"] (sp_l_right K) := by
  obtain ⟨fd_, FD_⟩ := c.def_ 27 (d := d_l_right)
  obtain ⟨f_l_rule_told, FD_l_rule_told, F_l_rule_told, B_l_rule_told⟩ := ok_l_rule_told (P := P) (w := w) X G c
  have K_l_rule_told := FD_l_rule_told.kp
  obtain ⟨f_l_due, FD_l_due, F_l_due, B_l_due⟩ := ok_l_due (P := P) (w := w) X G c
  have K_l_due := FD_l_due.kp
  obtain ⟨f_l_day_told, FD_l_day_told, F_l_day_told, B_l_day_told⟩ := ok_l_day_told (P := P) (w := w) X G c
  have K_l_day_told := FD_l_day_told.kp
  obtain ⟨f_l_draw, FD_l_draw, F_l_draw, B_l_draw⟩ := ok_l_draw (P := P) (w := w) X G c
  have K_l_draw := FD_l_draw.kp
  obtain ⟨f_l_odd, FD_l_odd, F_l_odd, B_l_odd⟩ := ok_l_odd (P := P) (w := w) X G c
  have K_l_odd := FD_l_odd.kp
  obtain ⟨f_l_string, FD_l_string, F_l_string, B_l_string⟩ := ok_l_string (P := P) (w := w) X G c
  have K_l_string := FD_l_string.kp
  have sys_ := c.fact 36 (f := bSys)
  have g_repr := He.free_ok X G (c.fact 37 (f := fun K => (He.Fa.free "repr").ok K))
  have g__law_rule_told := He.glo_ok X G (c.fact 38 (f := fun K => (He.Fa.glo "_law_rule_told").ok K))
  have g__law_due := He.glo_ok X G (c.fact 39 (f := fun K => (He.Fa.glo "_law_due").ok K))
  have g__law_day_told := He.glo_ok X G (c.fact 40 (f := fun K => (He.Fa.glo "_law_day_told").ok K))
  have g__law_draw := He.glo_ok X G (c.fact 24 (f := fun K => (He.Fa.glo "_law_draw").ok K))
  have g__law_odd := He.glo_ok X G (c.fact 41 (f := fun K => (He.Fa.glo "_law_odd").ok K))
  have g__law_string := He.glo_ok X G (c.fact 42 (f := fun K => (He.Fa.glo "_law_string").ok K))
  refine ⟨fd_, FD_, fng_of FD_ sc_l_right (fun ds M Q E h => sp1_len h) (fun cdv A outer s H Z ds M Q E E1 hr h => ?_), Bd.all FD_ rfl rfl fun _ _ _ _ _ _ us hl => match us, hl with | [_], _ => rfl⟩
  obtain ⟨a, rfl, h⟩ := h
  refine ⟨_, (dss_cons (ds_set (i := 1) sc_l_right.nd rfl (by first | exact .inl rfl | exact .inr rfl) (de_if (dt_cmp (op_eq_ (rm_u64 hr)) (de_call F_l_draw (hr.mono (by decide)) rfl g__law_draw K_l_draw B_l_draw (da_cons (dv 0) (da_cons de_int da_nil))) de_int (nomark _)) (de_call F_l_odd (hr.mono (by decide)) rfl g__law_odd K_l_odd B_l_odd (da_cons (dv 0) da_nil)) (de_call F_l_string (hr.mono (by decide)) rfl g__law_string K_l_string B_l_string (da_cons (dv 0) da_nil)))) (dss_cons (ds_set (i := 2) sc_l_right.nd rfl (by first | exact .inl rfl | exact .inr rfl) (de_if (dt_cmp (op_eq_ (rm_u64 hr)) (de_call F_l_draw (hr.mono (by decide)) rfl g__law_draw K_l_draw B_l_draw (da_cons (dv 0) (da_cons de_int da_nil))) de_int (nomark _)) (de_call F_l_odd (hr.mono (by decide)) rfl g__law_odd K_l_odd B_l_odd (da_cons (dv 0) da_nil)) (de_call F_l_string (hr.mono (by decide)) rfl g__law_string K_l_string B_l_string (da_cons (dv 0) da_nil)))) (dss_cons (ds_for pass_body rfl (di_lst (dp_lst (dpa_cons dp_bl (dpa_cons dp_bl dpa_nil)))) (dg_name (i := 3) sc_l_right.nd rfl (by first | exact .inl rfl | exact .inr rfl)) (dss_cons (ds_if (dt_cmp op_neT (de_callB (c_repr (hr.mono (Nat.zero_le _)) sys_) rfl g_repr boot_repr (da_cons (de_call F_l_day_told (hr.mono (by decide)) rfl g__law_day_told K_l_day_told B_l_day_told (da_cons (dv 1) (da_cons (dv 3) da_nil))) da_nil)) (de_callB (c_repr (hr.mono (Nat.zero_le _)) sys_) rfl g_repr boot_repr (da_cons (de_call F_l_due (hr.mono (by decide)) rfl g__law_due K_l_due B_l_due (da_cons (dp_lst (dpa_cons (dp_var 1) dpa_nil)) da_nil)) da_nil)) (nomark _)) (dss_cons (ds_ret de_bl) dss_nil) dss_nil) (dss_cons (ds_for pass_body rfl (di_lst (dp_lst (dpa_cons (dp_lst (dpa_cons (dp_var 1) (dpa_cons (dp_var 2) dpa_nil))) (dpa_cons (dp_lst (dpa_cons (dp_var 2) (dpa_cons (dp_var 1) dpa_nil))) (dpa_cons (dp_lst (dpa_cons (dp_var 1) (dpa_cons dp_str dpa_nil))) (dpa_cons (dp_lst (dpa_cons dp_str (dpa_cons (dp_var 1) dpa_nil))) (dpa_cons (dp_lst (dpa_cons (dp_var 1) (dpa_cons (dp_var 1) dpa_nil))) dpa_nil))))))) (dg_name (i := 4) sc_l_right.nd rfl (by first | exact .inl rfl | exact .inr rfl)) (dss_cons (ds_if (dt_cmp op_neT (de_callB (c_repr (hr.mono (Nat.zero_le _)) sys_) rfl g_repr boot_repr (da_cons (de_call F_l_rule_told (hr.mono (by decide)) rfl g__law_rule_told K_l_rule_told B_l_rule_told (da_cons (de_ix (dv 4) de_int (by intro _ _; rfl)) (da_cons (de_ix (dv 4) de_int (by intro _ _; rfl)) (da_cons (dv 3) da_nil)))) da_nil)) (de_callB (c_repr (hr.mono (Nat.zero_le _)) sys_) rfl g_repr boot_repr (da_cons (de_call F_l_due (hr.mono (by decide)) rfl g__law_due K_l_due B_l_due (da_cons (dv 4) da_nil)) da_nil)) (nomark _)) (dss_cons (ds_ret de_bl) dss_nil) dss_nil) dss_nil)) dss_nil))) (dss_cons (ds_ret de_bl) dss_nil)))), ?_⟩
  obtain ⟨p, rfl, em, h⟩ := h
  refine ⟨rfl, rfl, _, _, rfl, p, 6, rfl, rfl, em, by decide, by decide, fun m m0 m1 => ?_⟩
  simp only [dC, aEq_ii]
  have st : ∀ z : Str, z.length ≤ 10 → PyData.strOk z = true → Thing (.str z) := fun z h1 h2 => thing_str (by omega) h2
  show (if (m == 0) = true then _ else _)
  by_cases hm : (m == 0) = true
  · rw [if_pos hm]
    refine ⟨rfl, rfl, _, rfl, p, rfl, em, fun d1 hd1 => ?_⟩
    refine ⟨rfl, rfl, _, _, rfl, p, 6, rfl, rfl, em, by decide, by decide, fun m' m0' m1' => ?_⟩
    simp only [dC, aEq_ii]
    show (if (m' == 0) = true then _ else _)
    by_cases hm' : (m' == 0) = true
    · rw [if_pos hm']
      refine ⟨rfl, rfl, _, rfl, p, rfl, em, fun d2 hd2 => ?_⟩
      refine ⟨_, rfl, ?_⟩
      refine forL_ind (fun items r M' => M' = M ∧ (∀ x ∈ items, ∃ k, x = D.bl k) ∧ ∃ o3 o4, r = [some (D.ref p), some d1, some d2, o3, o4]) ?_ ?_ ⟨rfl, fun x hx => ?_, _, _, rfl⟩
      · rintro x xs r M' ⟨rfl, hx, o3, o4, rfl⟩ k
        obtain ⟨b, rfl⟩ := hx x (List.mem_cons_self ..)
        have hs1 : ∀ d ∈ [d1], Thing d := fun d hd => by simp at hd; rw [hd]; exact hd1
        obtain ⟨t1, t2⟩ := dueL_things hs1 hs1
        obtain ⟨z, hz⟩ := things_repr t1 (Nat.le_trans t2 (Nat.le_of_ble_eq_true rfl))
        have hz' : ∀ (M : Mh) (Q : QD), Q (.str z) M → aRepr [.lst (if isNameD d1 then [.str "made", d1] else [.str "refused", d1])] M Q := by rw [due_day]; exact hz
        simp only [dSeq, dNext, dDrop, dRet, dRetN, dIfS, dAsg, gdName, gdNil, gdCons, gdTup, gdSub, dCB, dCons, dNil, dC, dVar, dOp, dUn, dB, dAnd, dOr, dNot, dAndV, dOrV, dNotV, dIf, dTup, dLst, dChain, startD, List.map, List.replicate, List.length, List.append, List.getElem?_cons_zero, List.getElem?_cons_succ, List.set, Nat.sub, List.cons_append, List.nil_append, Nat.zero_add, Nat.reduceAdd, Nat.reduceSub, dP, fTup, fCons, fLst, fVar, fDic, fKv, aNeg_i, aI1_i, aI2_i, aStrI_i, aMul_ii, id, Option.some.injEq, exists_eq_left', exists_and_left, D.ref.injEq, D.int.injEq, D.bl.injEq, D.lst.injEq, Nat.reduceLeDiff, Nat.zero_le, lstW, seqOf, lstOf, aLen_s, aLen_t, aLen_l, aLen_r, aLt, aLe, aGt, aGe, aCmp_ii, aEq_ii, aNe_ii, aEqT_ss, aNeT_ss, dFor, iTup, iLst, dRaise, dSetSlot, dTry, aAdd_ii, aAdd_ss, aAdd_tt, aAdd_ll, aSub, aInt_ii, aInt0_ii, aMod, aFdiv, aPow, aIsN, aNotN, isStrD, dCall, dBM, m2S, bty, sp0_iff, sp1_iff, sp2_iff, sp3_iff, sp4_iff, sp5_iff, sp6_iff, true_and, and_true, if_true, if_false, Bool.not_true, Bool.not_false, Bool.false_eq_true, reduceIte, sp_l_day_told, sp_l_rule_told, sp_l_due]
        refine ⟨hd1, hz' _ _ ?_⟩
        refine ⟨hs1, hz _ _ ?_⟩
        simp only [aNeT_ss, decide_true, Bool.not_true, Bool.false_eq_true, if_false]
        refine forL_ind (fun items r M'' => M'' = M' ∧ (∀ x ∈ items, ∃ u v, x = D.lst [u, v] ∧ Thing u ∧ Thing v) ∧ ∃ o, r = [some (D.ref p), some d1, some d2, some (D.bl b), o]) ?_ ?_ ⟨rfl, fun x hx => ?_, _, rfl⟩
        · rintro x xs2 r M'' ⟨rfl, hx2, o, rfl⟩ k2
          obtain ⟨u, v, rfl, hu, hv⟩ := hx2 x (List.mem_cons_self ..)
          have both : ∀ d ∈ [u, v], Thing d := fun d hd => by
            simp only [List.mem_cons, List.mem_nil_iff, or_false] at hd
            rcases hd with rfl | rfl
            · exact hu
            · exact hv
          obtain ⟨t1, t2⟩ := dueL_things both both
          obtain ⟨z2, hz2⟩ := things_repr t1 (Nat.le_trans t2 (Nat.le_of_ble_eq_true rfl))
          have hz2' : ∀ (M : Mh) (Q : QD), Q (.str z2) M → aRepr [.lst (if isNameD u then (if isNameD v then [.str "made", u, v] else [.str "refused", v]) else [.str "refused", u])] M Q := by rw [due_rule]; exact hz2
          simp only [dSeq, dNext, dDrop, dRet, dRetN, dIfS, dAsg, gdName, gdNil, gdCons, gdTup, gdSub, dCB, dCons, dNil, dC, dVar, dOp, dUn, dB, dAnd, dOr, dNot, dAndV, dOrV, dNotV, dIf, dTup, dLst, dChain, startD, List.map, List.replicate, List.length, List.append, List.getElem?_cons_zero, List.getElem?_cons_succ, List.set, Nat.sub, List.cons_append, List.nil_append, Nat.zero_add, Nat.reduceAdd, Nat.reduceSub, dP, fTup, fCons, fLst, fVar, fDic, fKv, aNeg_i, aI1_i, aI2_i, aStrI_i, aMul_ii, id, Option.some.injEq, exists_eq_left', exists_and_left, D.ref.injEq, D.int.injEq, D.bl.injEq, D.lst.injEq, Nat.reduceLeDiff, Nat.zero_le, lstW, seqOf, lstOf, aLen_s, aLen_t, aLen_l, aLen_r, aLt, aLe, aGt, aGe, aCmp_ii, aEq_ii, aNe_ii, aEqT_ss, aNeT_ss, dFor, iTup, iLst, dRaise, dSetSlot, dTry, aAdd_ii, aAdd_ss, aAdd_tt, aAdd_ll, aSub, aInt_ii, aInt0_ii, aMod, aFdiv, aPow, aIsN, aNotN, isStrD, dCall, dBM, m2S, bty, sp0_iff, sp1_iff, sp2_iff, sp3_iff, sp4_iff, sp5_iff, sp6_iff, true_and, and_true, if_true, if_false, Bool.not_true, Bool.not_false, Bool.false_eq_true, reduceIte, sp_l_day_told, sp_l_rule_told, sp_l_due]
          refine ix_s (ds := [u, v]) rfl rfl ?_
          refine ix_s (ds := [u, v]) rfl rfl ?_
          refine ⟨hu, hv, hz2' _ _ ?_⟩
          refine ⟨both, hz2 _ _ ?_⟩
          simp only [aNeT_ss, decide_true, Bool.not_true, Bool.false_eq_true, if_false]
          exact k2 _ _ ⟨rfl, fun y hy => hx2 y (List.mem_cons_of_mem _ hy), _, rfl⟩
        · rintro r M'' ⟨rfl, _, o, rfl⟩
          exact k _ _ ⟨rfl, fun y hy => hx y (List.mem_cons_of_mem _ hy), _, _, rfl⟩
        · simp only [List.mem_cons, List.mem_nil_iff, or_false] at hx
          rcases hx with rfl | rfl | rfl | rfl | rfl
          · exact ⟨_, _, rfl, hd1, hd2⟩
          · exact ⟨_, _, rfl, hd2, hd1⟩
          · exact ⟨_, _, rfl, hd1, thing_str (by decide) (by decide +kernel)⟩
          · exact ⟨_, _, rfl, thing_str (by decide) (by decide +kernel), hd1⟩
          · exact ⟨_, _, rfl, hd1, hd1⟩
      · rintro r M' ⟨rfl, _, o3, o4, rfl⟩
        exact RetQ.here h
      · simp only [List.mem_cons, List.mem_nil_iff, or_false] at hx
        rcases hx with rfl | rfl <;> exact ⟨_, rfl⟩
    · rw [if_neg hm']
      refine ⟨rfl, rfl, _, rfl, p, rfl, em, fun z hz hok => ?_⟩
      have hd2 := st z hz hok
      revert hd2
      generalize D.str z = d2
      intro hd2
      refine ⟨_, rfl, ?_⟩
      refine forL_ind (fun items r M' => M' = M ∧ (∀ x ∈ items, ∃ k, x = D.bl k) ∧ ∃ o3 o4, r = [some (D.ref p), some d1, some d2, o3, o4]) ?_ ?_ ⟨rfl, fun x hx => ?_, _, _, rfl⟩
      · rintro x xs r M' ⟨rfl, hx, o3, o4, rfl⟩ k
        obtain ⟨b, rfl⟩ := hx x (List.mem_cons_self ..)
        have hs1 : ∀ d ∈ [d1], Thing d := fun d hd => by simp at hd; rw [hd]; exact hd1
        obtain ⟨t1, t2⟩ := dueL_things hs1 hs1
        obtain ⟨z, hz⟩ := things_repr t1 (Nat.le_trans t2 (Nat.le_of_ble_eq_true rfl))
        have hz' : ∀ (M : Mh) (Q : QD), Q (.str z) M → aRepr [.lst (if isNameD d1 then [.str "made", d1] else [.str "refused", d1])] M Q := by rw [due_day]; exact hz
        simp only [dSeq, dNext, dDrop, dRet, dRetN, dIfS, dAsg, gdName, gdNil, gdCons, gdTup, gdSub, dCB, dCons, dNil, dC, dVar, dOp, dUn, dB, dAnd, dOr, dNot, dAndV, dOrV, dNotV, dIf, dTup, dLst, dChain, startD, List.map, List.replicate, List.length, List.append, List.getElem?_cons_zero, List.getElem?_cons_succ, List.set, Nat.sub, List.cons_append, List.nil_append, Nat.zero_add, Nat.reduceAdd, Nat.reduceSub, dP, fTup, fCons, fLst, fVar, fDic, fKv, aNeg_i, aI1_i, aI2_i, aStrI_i, aMul_ii, id, Option.some.injEq, exists_eq_left', exists_and_left, D.ref.injEq, D.int.injEq, D.bl.injEq, D.lst.injEq, Nat.reduceLeDiff, Nat.zero_le, lstW, seqOf, lstOf, aLen_s, aLen_t, aLen_l, aLen_r, aLt, aLe, aGt, aGe, aCmp_ii, aEq_ii, aNe_ii, aEqT_ss, aNeT_ss, dFor, iTup, iLst, dRaise, dSetSlot, dTry, aAdd_ii, aAdd_ss, aAdd_tt, aAdd_ll, aSub, aInt_ii, aInt0_ii, aMod, aFdiv, aPow, aIsN, aNotN, isStrD, dCall, dBM, m2S, bty, sp0_iff, sp1_iff, sp2_iff, sp3_iff, sp4_iff, sp5_iff, sp6_iff, true_and, and_true, if_true, if_false, Bool.not_true, Bool.not_false, Bool.false_eq_true, reduceIte, sp_l_day_told, sp_l_rule_told, sp_l_due]
        refine ⟨hd1, hz' _ _ ?_⟩
        refine ⟨hs1, hz _ _ ?_⟩
        simp only [aNeT_ss, decide_true, Bool.not_true, Bool.false_eq_true, if_false]
        refine forL_ind (fun items r M'' => M'' = M' ∧ (∀ x ∈ items, ∃ u v, x = D.lst [u, v] ∧ Thing u ∧ Thing v) ∧ ∃ o, r = [some (D.ref p), some d1, some d2, some (D.bl b), o]) ?_ ?_ ⟨rfl, fun x hx => ?_, _, rfl⟩
        · rintro x xs2 r M'' ⟨rfl, hx2, o, rfl⟩ k2
          obtain ⟨u, v, rfl, hu, hv⟩ := hx2 x (List.mem_cons_self ..)
          have both : ∀ d ∈ [u, v], Thing d := fun d hd => by
            simp only [List.mem_cons, List.mem_nil_iff, or_false] at hd
            rcases hd with rfl | rfl
            · exact hu
            · exact hv
          obtain ⟨t1, t2⟩ := dueL_things both both
          obtain ⟨z2, hz2⟩ := things_repr t1 (Nat.le_trans t2 (Nat.le_of_ble_eq_true rfl))
          have hz2' : ∀ (M : Mh) (Q : QD), Q (.str z2) M → aRepr [.lst (if isNameD u then (if isNameD v then [.str "made", u, v] else [.str "refused", v]) else [.str "refused", u])] M Q := by rw [due_rule]; exact hz2
          simp only [dSeq, dNext, dDrop, dRet, dRetN, dIfS, dAsg, gdName, gdNil, gdCons, gdTup, gdSub, dCB, dCons, dNil, dC, dVar, dOp, dUn, dB, dAnd, dOr, dNot, dAndV, dOrV, dNotV, dIf, dTup, dLst, dChain, startD, List.map, List.replicate, List.length, List.append, List.getElem?_cons_zero, List.getElem?_cons_succ, List.set, Nat.sub, List.cons_append, List.nil_append, Nat.zero_add, Nat.reduceAdd, Nat.reduceSub, dP, fTup, fCons, fLst, fVar, fDic, fKv, aNeg_i, aI1_i, aI2_i, aStrI_i, aMul_ii, id, Option.some.injEq, exists_eq_left', exists_and_left, D.ref.injEq, D.int.injEq, D.bl.injEq, D.lst.injEq, Nat.reduceLeDiff, Nat.zero_le, lstW, seqOf, lstOf, aLen_s, aLen_t, aLen_l, aLen_r, aLt, aLe, aGt, aGe, aCmp_ii, aEq_ii, aNe_ii, aEqT_ss, aNeT_ss, dFor, iTup, iLst, dRaise, dSetSlot, dTry, aAdd_ii, aAdd_ss, aAdd_tt, aAdd_ll, aSub, aInt_ii, aInt0_ii, aMod, aFdiv, aPow, aIsN, aNotN, isStrD, dCall, dBM, m2S, bty, sp0_iff, sp1_iff, sp2_iff, sp3_iff, sp4_iff, sp5_iff, sp6_iff, true_and, and_true, if_true, if_false, Bool.not_true, Bool.not_false, Bool.false_eq_true, reduceIte, sp_l_day_told, sp_l_rule_told, sp_l_due]
          refine ix_s (ds := [u, v]) rfl rfl ?_
          refine ix_s (ds := [u, v]) rfl rfl ?_
          refine ⟨hu, hv, hz2' _ _ ?_⟩
          refine ⟨both, hz2 _ _ ?_⟩
          simp only [aNeT_ss, decide_true, Bool.not_true, Bool.false_eq_true, if_false]
          exact k2 _ _ ⟨rfl, fun y hy => hx2 y (List.mem_cons_of_mem _ hy), _, rfl⟩
        · rintro r M'' ⟨rfl, _, o, rfl⟩
          exact k _ _ ⟨rfl, fun y hy => hx y (List.mem_cons_of_mem _ hy), _, _, rfl⟩
        · simp only [List.mem_cons, List.mem_nil_iff, or_false] at hx
          rcases hx with rfl | rfl | rfl | rfl | rfl
          · exact ⟨_, _, rfl, hd1, hd2⟩
          · exact ⟨_, _, rfl, hd2, hd1⟩
          · exact ⟨_, _, rfl, hd1, thing_str (by decide) (by decide +kernel)⟩
          · exact ⟨_, _, rfl, thing_str (by decide) (by decide +kernel), hd1⟩
          · exact ⟨_, _, rfl, hd1, hd1⟩
      · rintro r M' ⟨rfl, _, o3, o4, rfl⟩
        exact RetQ.here h
      · simp only [List.mem_cons, List.mem_nil_iff, or_false] at hx
        rcases hx with rfl | rfl <;> exact ⟨_, rfl⟩
  · rw [if_neg hm]
    refine ⟨rfl, rfl, _, rfl, p, rfl, em, fun z hz hok => ?_⟩
    have hd1 := st z hz hok
    revert hd1
    generalize D.str z = d1
    intro hd1
    refine ⟨rfl, rfl, _, _, rfl, p, 6, rfl, rfl, em, by decide, by decide, fun m' m0' m1' => ?_⟩
    simp only [dC, aEq_ii]
    show (if (m' == 0) = true then _ else _)
    by_cases hm' : (m' == 0) = true
    · rw [if_pos hm']
      refine ⟨rfl, rfl, _, rfl, p, rfl, em, fun d2 hd2 => ?_⟩
      refine ⟨_, rfl, ?_⟩
      refine forL_ind (fun items r M' => M' = M ∧ (∀ x ∈ items, ∃ k, x = D.bl k) ∧ ∃ o3 o4, r = [some (D.ref p), some d1, some d2, o3, o4]) ?_ ?_ ⟨rfl, fun x hx => ?_, _, _, rfl⟩
      · rintro x xs r M' ⟨rfl, hx, o3, o4, rfl⟩ k
        obtain ⟨b, rfl⟩ := hx x (List.mem_cons_self ..)
        have hs1 : ∀ d ∈ [d1], Thing d := fun d hd => by simp at hd; rw [hd]; exact hd1
        obtain ⟨t1, t2⟩ := dueL_things hs1 hs1
        obtain ⟨z, hz⟩ := things_repr t1 (Nat.le_trans t2 (Nat.le_of_ble_eq_true rfl))
        have hz' : ∀ (M : Mh) (Q : QD), Q (.str z) M → aRepr [.lst (if isNameD d1 then [.str "made", d1] else [.str "refused", d1])] M Q := by rw [due_day]; exact hz
        simp only [dSeq, dNext, dDrop, dRet, dRetN, dIfS, dAsg, gdName, gdNil, gdCons, gdTup, gdSub, dCB, dCons, dNil, dC, dVar, dOp, dUn, dB, dAnd, dOr, dNot, dAndV, dOrV, dNotV, dIf, dTup, dLst, dChain, startD, List.map, List.replicate, List.length, List.append, List.getElem?_cons_zero, List.getElem?_cons_succ, List.set, Nat.sub, List.cons_append, List.nil_append, Nat.zero_add, Nat.reduceAdd, Nat.reduceSub, dP, fTup, fCons, fLst, fVar, fDic, fKv, aNeg_i, aI1_i, aI2_i, aStrI_i, aMul_ii, id, Option.some.injEq, exists_eq_left', exists_and_left, D.ref.injEq, D.int.injEq, D.bl.injEq, D.lst.injEq, Nat.reduceLeDiff, Nat.zero_le, lstW, seqOf, lstOf, aLen_s, aLen_t, aLen_l, aLen_r, aLt, aLe, aGt, aGe, aCmp_ii, aEq_ii, aNe_ii, aEqT_ss, aNeT_ss, dFor, iTup, iLst, dRaise, dSetSlot, dTry, aAdd_ii, aAdd_ss, aAdd_tt, aAdd_ll, aSub, aInt_ii, aInt0_ii, aMod, aFdiv, aPow, aIsN, aNotN, isStrD, dCall, dBM, m2S, bty, sp0_iff, sp1_iff, sp2_iff, sp3_iff, sp4_iff, sp5_iff, sp6_iff, true_and, and_true, if_true, if_false, Bool.not_true, Bool.not_false, Bool.false_eq_true, reduceIte, sp_l_day_told, sp_l_rule_told, sp_l_due]
        refine ⟨hd1, hz' _ _ ?_⟩
        refine ⟨hs1, hz _ _ ?_⟩
        simp only [aNeT_ss, decide_true, Bool.not_true, Bool.false_eq_true, if_false]
        refine forL_ind (fun items r M'' => M'' = M' ∧ (∀ x ∈ items, ∃ u v, x = D.lst [u, v] ∧ Thing u ∧ Thing v) ∧ ∃ o, r = [some (D.ref p), some d1, some d2, some (D.bl b), o]) ?_ ?_ ⟨rfl, fun x hx => ?_, _, rfl⟩
        · rintro x xs2 r M'' ⟨rfl, hx2, o, rfl⟩ k2
          obtain ⟨u, v, rfl, hu, hv⟩ := hx2 x (List.mem_cons_self ..)
          have both : ∀ d ∈ [u, v], Thing d := fun d hd => by
            simp only [List.mem_cons, List.mem_nil_iff, or_false] at hd
            rcases hd with rfl | rfl
            · exact hu
            · exact hv
          obtain ⟨t1, t2⟩ := dueL_things both both
          obtain ⟨z2, hz2⟩ := things_repr t1 (Nat.le_trans t2 (Nat.le_of_ble_eq_true rfl))
          have hz2' : ∀ (M : Mh) (Q : QD), Q (.str z2) M → aRepr [.lst (if isNameD u then (if isNameD v then [.str "made", u, v] else [.str "refused", v]) else [.str "refused", u])] M Q := by rw [due_rule]; exact hz2
          simp only [dSeq, dNext, dDrop, dRet, dRetN, dIfS, dAsg, gdName, gdNil, gdCons, gdTup, gdSub, dCB, dCons, dNil, dC, dVar, dOp, dUn, dB, dAnd, dOr, dNot, dAndV, dOrV, dNotV, dIf, dTup, dLst, dChain, startD, List.map, List.replicate, List.length, List.append, List.getElem?_cons_zero, List.getElem?_cons_succ, List.set, Nat.sub, List.cons_append, List.nil_append, Nat.zero_add, Nat.reduceAdd, Nat.reduceSub, dP, fTup, fCons, fLst, fVar, fDic, fKv, aNeg_i, aI1_i, aI2_i, aStrI_i, aMul_ii, id, Option.some.injEq, exists_eq_left', exists_and_left, D.ref.injEq, D.int.injEq, D.bl.injEq, D.lst.injEq, Nat.reduceLeDiff, Nat.zero_le, lstW, seqOf, lstOf, aLen_s, aLen_t, aLen_l, aLen_r, aLt, aLe, aGt, aGe, aCmp_ii, aEq_ii, aNe_ii, aEqT_ss, aNeT_ss, dFor, iTup, iLst, dRaise, dSetSlot, dTry, aAdd_ii, aAdd_ss, aAdd_tt, aAdd_ll, aSub, aInt_ii, aInt0_ii, aMod, aFdiv, aPow, aIsN, aNotN, isStrD, dCall, dBM, m2S, bty, sp0_iff, sp1_iff, sp2_iff, sp3_iff, sp4_iff, sp5_iff, sp6_iff, true_and, and_true, if_true, if_false, Bool.not_true, Bool.not_false, Bool.false_eq_true, reduceIte, sp_l_day_told, sp_l_rule_told, sp_l_due]
          refine ix_s (ds := [u, v]) rfl rfl ?_
          refine ix_s (ds := [u, v]) rfl rfl ?_
          refine ⟨hu, hv, hz2' _ _ ?_⟩
          refine ⟨both, hz2 _ _ ?_⟩
          simp only [aNeT_ss, decide_true, Bool.not_true, Bool.false_eq_true, if_false]
          exact k2 _ _ ⟨rfl, fun y hy => hx2 y (List.mem_cons_of_mem _ hy), _, rfl⟩
        · rintro r M'' ⟨rfl, _, o, rfl⟩
          exact k _ _ ⟨rfl, fun y hy => hx y (List.mem_cons_of_mem _ hy), _, _, rfl⟩
        · simp only [List.mem_cons, List.mem_nil_iff, or_false] at hx
          rcases hx with rfl | rfl | rfl | rfl | rfl
          · exact ⟨_, _, rfl, hd1, hd2⟩
          · exact ⟨_, _, rfl, hd2, hd1⟩
          · exact ⟨_, _, rfl, hd1, thing_str (by decide) (by decide +kernel)⟩
          · exact ⟨_, _, rfl, thing_str (by decide) (by decide +kernel), hd1⟩
          · exact ⟨_, _, rfl, hd1, hd1⟩
      · rintro r M' ⟨rfl, _, o3, o4, rfl⟩
        exact RetQ.here h
      · simp only [List.mem_cons, List.mem_nil_iff, or_false] at hx
        rcases hx with rfl | rfl <;> exact ⟨_, rfl⟩
    · rw [if_neg hm']
      refine ⟨rfl, rfl, _, rfl, p, rfl, em, fun z hz hok => ?_⟩
      have hd2 := st z hz hok
      revert hd2
      generalize D.str z = d2
      intro hd2
      refine ⟨_, rfl, ?_⟩
      refine forL_ind (fun items r M' => M' = M ∧ (∀ x ∈ items, ∃ k, x = D.bl k) ∧ ∃ o3 o4, r = [some (D.ref p), some d1, some d2, o3, o4]) ?_ ?_ ⟨rfl, fun x hx => ?_, _, _, rfl⟩
      · rintro x xs r M' ⟨rfl, hx, o3, o4, rfl⟩ k
        obtain ⟨b, rfl⟩ := hx x (List.mem_cons_self ..)
        have hs1 : ∀ d ∈ [d1], Thing d := fun d hd => by simp at hd; rw [hd]; exact hd1
        obtain ⟨t1, t2⟩ := dueL_things hs1 hs1
        obtain ⟨z, hz⟩ := things_repr t1 (Nat.le_trans t2 (Nat.le_of_ble_eq_true rfl))
        have hz' : ∀ (M : Mh) (Q : QD), Q (.str z) M → aRepr [.lst (if isNameD d1 then [.str "made", d1] else [.str "refused", d1])] M Q := by rw [due_day]; exact hz
        simp only [dSeq, dNext, dDrop, dRet, dRetN, dIfS, dAsg, gdName, gdNil, gdCons, gdTup, gdSub, dCB, dCons, dNil, dC, dVar, dOp, dUn, dB, dAnd, dOr, dNot, dAndV, dOrV, dNotV, dIf, dTup, dLst, dChain, startD, List.map, List.replicate, List.length, List.append, List.getElem?_cons_zero, List.getElem?_cons_succ, List.set, Nat.sub, List.cons_append, List.nil_append, Nat.zero_add, Nat.reduceAdd, Nat.reduceSub, dP, fTup, fCons, fLst, fVar, fDic, fKv, aNeg_i, aI1_i, aI2_i, aStrI_i, aMul_ii, id, Option.some.injEq, exists_eq_left', exists_and_left, D.ref.injEq, D.int.injEq, D.bl.injEq, D.lst.injEq, Nat.reduceLeDiff, Nat.zero_le, lstW, seqOf, lstOf, aLen_s, aLen_t, aLen_l, aLen_r, aLt, aLe, aGt, aGe, aCmp_ii, aEq_ii, aNe_ii, aEqT_ss, aNeT_ss, dFor, iTup, iLst, dRaise, dSetSlot, dTry, aAdd_ii, aAdd_ss, aAdd_tt, aAdd_ll, aSub, aInt_ii, aInt0_ii, aMod, aFdiv, aPow, aIsN, aNotN, isStrD, dCall, dBM, m2S, bty, sp0_iff, sp1_iff, sp2_iff, sp3_iff, sp4_iff, sp5_iff, sp6_iff, true_and, and_true, if_true, if_false, Bool.not_true, Bool.not_false, Bool.false_eq_true, reduceIte, sp_l_day_told, sp_l_rule_told, sp_l_due]
        refine ⟨hd1, hz' _ _ ?_⟩
        refine ⟨hs1, hz _ _ ?_⟩
        simp only [aNeT_ss, decide_true, Bool.not_true, Bool.false_eq_true, if_false]
        refine forL_ind (fun items r M'' => M'' = M' ∧ (∀ x ∈ items, ∃ u v, x = D.lst [u, v] ∧ Thing u ∧ Thing v) ∧ ∃ o, r = [some (D.ref p), some d1, some d2, some (D.bl b), o]) ?_ ?_ ⟨rfl, fun x hx => ?_, _, rfl⟩
        · rintro x xs2 r M'' ⟨rfl, hx2, o, rfl⟩ k2
          obtain ⟨u, v, rfl, hu, hv⟩ := hx2 x (List.mem_cons_self ..)
          have both : ∀ d ∈ [u, v], Thing d := fun d hd => by
            simp only [List.mem_cons, List.mem_nil_iff, or_false] at hd
            rcases hd with rfl | rfl
            · exact hu
            · exact hv
          obtain ⟨t1, t2⟩ := dueL_things both both
          obtain ⟨z2, hz2⟩ := things_repr t1 (Nat.le_trans t2 (Nat.le_of_ble_eq_true rfl))
          have hz2' : ∀ (M : Mh) (Q : QD), Q (.str z2) M → aRepr [.lst (if isNameD u then (if isNameD v then [.str "made", u, v] else [.str "refused", v]) else [.str "refused", u])] M Q := by rw [due_rule]; exact hz2
          simp only [dSeq, dNext, dDrop, dRet, dRetN, dIfS, dAsg, gdName, gdNil, gdCons, gdTup, gdSub, dCB, dCons, dNil, dC, dVar, dOp, dUn, dB, dAnd, dOr, dNot, dAndV, dOrV, dNotV, dIf, dTup, dLst, dChain, startD, List.map, List.replicate, List.length, List.append, List.getElem?_cons_zero, List.getElem?_cons_succ, List.set, Nat.sub, List.cons_append, List.nil_append, Nat.zero_add, Nat.reduceAdd, Nat.reduceSub, dP, fTup, fCons, fLst, fVar, fDic, fKv, aNeg_i, aI1_i, aI2_i, aStrI_i, aMul_ii, id, Option.some.injEq, exists_eq_left', exists_and_left, D.ref.injEq, D.int.injEq, D.bl.injEq, D.lst.injEq, Nat.reduceLeDiff, Nat.zero_le, lstW, seqOf, lstOf, aLen_s, aLen_t, aLen_l, aLen_r, aLt, aLe, aGt, aGe, aCmp_ii, aEq_ii, aNe_ii, aEqT_ss, aNeT_ss, dFor, iTup, iLst, dRaise, dSetSlot, dTry, aAdd_ii, aAdd_ss, aAdd_tt, aAdd_ll, aSub, aInt_ii, aInt0_ii, aMod, aFdiv, aPow, aIsN, aNotN, isStrD, dCall, dBM, m2S, bty, sp0_iff, sp1_iff, sp2_iff, sp3_iff, sp4_iff, sp5_iff, sp6_iff, true_and, and_true, if_true, if_false, Bool.not_true, Bool.not_false, Bool.false_eq_true, reduceIte, sp_l_day_told, sp_l_rule_told, sp_l_due]
          refine ix_s (ds := [u, v]) rfl rfl ?_
          refine ix_s (ds := [u, v]) rfl rfl ?_
          refine ⟨hu, hv, hz2' _ _ ?_⟩
          refine ⟨both, hz2 _ _ ?_⟩
          simp only [aNeT_ss, decide_true, Bool.not_true, Bool.false_eq_true, if_false]
          exact k2 _ _ ⟨rfl, fun y hy => hx2 y (List.mem_cons_of_mem _ hy), _, rfl⟩
        · rintro r M'' ⟨rfl, _, o, rfl⟩
          exact k _ _ ⟨rfl, fun y hy => hx y (List.mem_cons_of_mem _ hy), _, _, rfl⟩
        · simp only [List.mem_cons, List.mem_nil_iff, or_false] at hx
          rcases hx with rfl | rfl | rfl | rfl | rfl
          · exact ⟨_, _, rfl, hd1, hd2⟩
          · exact ⟨_, _, rfl, hd2, hd1⟩
          · exact ⟨_, _, rfl, hd1, thing_str (by decide) (by decide +kernel)⟩
          · exact ⟨_, _, rfl, thing_str (by decide) (by decide +kernel), hd1⟩
          · exact ⟨_, _, rfl, hd1, hd1⟩
      · rintro r M' ⟨rfl, _, o3, o4, rfl⟩
        exact RetQ.here h
      · simp only [List.mem_cons, List.mem_nil_iff, or_false] at hx
        rcases hx with rfl | rfl <;> exact ⟨_, rfl⟩
theorem sc_law : FnScope ["_law_script", "_law_spot"] ["_law_script"] (defScope (topS 29)) := ⟨rfl, rfl, rfl, by decide +kernel, rfl, by decide +kernel, by decide +kernel⟩
def sp_law (K : PySem.W.Frag) : DSp := sp1 (fun a M Q E => ∃ ns : List Int, a = .scr ns ∧ ns.length ≤ 63 ∧ (∀ i ∈ ns, Builtin.Int.intBits i ≤ 1048576) ∧ (∀ p, M p = none) ∧ ∀ M', Q (.bl true) M')
theorem ok_law (X : K.In base) (G : base.Ns mainGlobals mg) (c : SaysF fa fn K) : OkF P w K mg base 7 d_law ["_law_script"] (sp_law K) := by
  obtain ⟨fd_, FD_⟩ := c.def_ 28 (d := d_law)
  obtain ⟨f_l_right, FD_l_right, F_l_right, B_l_right⟩ := ok_l_right (P := P) (w := w) X G c
  have K_l_right := FD_l_right.kp
  obtain ⟨f_l_pool, FD_l_pool, F_l_pool, B_l_pool⟩ := ok_l_pool (P := P) (w := w) X G c
  have K_l_pool := FD_l_pool.kp
  obtain ⟨f_l_cell, FD_l_cell, F_l_cell, B_l_cell⟩ := ok_l_cell (P := P) (w := w) X G c
  have K_l_cell := FD_l_cell.kp
  have g_all := He.free_ok X G (c.fact 4 (f := fun K => (He.Fa.free "all").ok K))
  have g_range := He.free_ok X G (c.fact 26 (f := fun K => (He.Fa.free "range").ok K))
  have g_max := He.free_ok X G (c.fact 43 (f := fun K => (He.Fa.free "max").ok K))
  have g_min := He.free_ok X G (c.fact 44 (f := fun K => (He.Fa.free "min").ok K))
  have g_len := He.free_ok X G (c.fact 7 (f := fun K => (He.Fa.free "len").ok K))
  have g__law_right := He.glo_ok X G (c.fact 45 (f := fun K => (He.Fa.glo "_law_right").ok K))
  have g__law_pool := He.glo_ok X G (c.fact 46 (f := fun K => (He.Fa.glo "_law_pool").ok K))
  have g__law_cell := He.glo_ok X G (c.fact 47 (f := fun K => (He.Fa.glo "_law_cell").ok K))
  refine ⟨fd_, FD_, fng_of FD_ sc_law (fun ds M Q E h => sp1_len h) (fun cdv A outer s H Z ds M Q E E1 hr h => ?_), Bd.all FD_ rfl rfl fun _ _ _ _ _ _ us hl => match us, hl with | [_], _ => rfl⟩
  obtain ⟨a, rfl, h⟩ := h
  refine ⟨_, (dss_cons (ds_ret (de_callB (c_all rfl) rfl g_all boot_all (da_cons (de_lc (p := (.one 1)) (own := [("_law_spot", 1)]) rfl sc_law.nd  (di_range1 rfl g_range (da_cons (de_callB (c_max2 rfl) rfl g_max boot_max (da_cons de_int (da_cons (de_callB (c_min2 rfl) rfl g_min boot_min (da_cons (de_callB c_len rfl g_len boot_len (da_cons (dv 0) da_nil)) (da_cons de_int da_nil))) da_nil))) da_nil)) (blkB_ok (by kernel_rfl)) (by decide) (fun _ _ _ _ _ => pg_name sc_law.nd rfl (.inl rfl)) (fun _ _ _ _ _ => dts_nil) (fun _ _ _ _ _ => (de_call F_l_right (hr.mono (by decide)) rfl g__law_right K_l_right B_l_right (da_cons (de_call F_l_pool (hr.mono (by decide)) rfl g__law_pool K_l_pool B_l_pool (da_cons (de_call F_l_cell (hr.mono (by decide)) rfl g__law_cell K_l_cell B_l_cell (da_cons (dv 0) (da_cons (dv 1) da_nil))) da_nil)) da_nil)))) da_nil))) dss_nil), ?_⟩
  obtain ⟨ns, rfl, hl, hb, hM, h⟩ := h
  simp only [dSeq, dNext, dDrop, dRet, dRetN, dIfS, dAsg, gdName, gdNil, gdCons, gdTup, gdSub, dCB, dCons, dNil, dC, dVar, dOp, dUn, dB, dAnd, dOr, dNot, dAndV, dOrV, dNotV, dIf, dTup, dLst, dChain, startD, List.map, List.replicate, List.length, List.append, List.getElem?_cons_zero, List.getElem?_cons_succ, List.set, Nat.sub, List.cons_append, List.nil_append, Nat.zero_add, Nat.reduceAdd, Nat.reduceSub, dP, fTup, fCons, fLst, fVar, fDic, fKv, aNeg_i, aI1_i, aI2_i, aStrI_i, aMul_ii, id, Option.some.injEq, exists_eq_left', exists_and_left, D.ref.injEq, D.int.injEq, D.bl.injEq, D.lst.injEq, Nat.reduceLeDiff, Nat.zero_le, lstW, seqOf, lstOf, aLen_s, aLen_t, aLen_l, aLen_r, aLt, aLe, aGt, aGe, aCmp_ii, aEq_ii, aNe_ii, aEqT_ss, aNeT_ss, dFor, iTup, iLst, forL, dRaise, dSetSlot, dTry, aAdd_ii, aAdd_ss, aAdd_tt, aAdd_ll, aSub, aInt_ii, aInt0_ii, aMod, aFdiv, aPow, aIsN, aNotN, isStrD, dCall, dBM, m2S, bty, sp0_iff, sp1_iff, sp2_iff, sp3_iff, sp4_iff, sp5_iff, sp6_iff, true_and, and_true, if_true, if_false, Bool.not_true, Bool.not_false, Bool.false_eq_true, reduceIte, sp_l_right, sp_l_pool, sp_l_cell, dLc, iRng1']
  obtain ⟨m, em, h12⟩ : ∃ m : Nat, maxI 4 (minI (ns.length : Int) 12) = (m : Int) ∧ m ≤ 12 := by
    refine ⟨(maxI 4 (minI (ns.length : Int) 12)).toNat, ?_⟩
    unfold maxI minI
    split <;> split at * <;> omega
  have hz := sizeLine_eq
  rw [em]
  refine ⟨by omega, by omega, lcL_inv (fun _ => True) (fun _ o => o = some (.bl true)) (fun x hx M1 _ K1 K0 k => ?_) (by rw [List.length_map, List.length_range]; simp only [List.length_nil]; omega) True.intro fun M1 os _ po => ?_⟩
  · obtain ⟨i, _, rfl⟩ := List.mem_map.mp hx
    simp only [dSeq, dNext, dDrop, dRet, dRetN, dIfS, dAsg, gdName, gdNil, gdCons, gdTup, gdSub, dCB, dCons, dNil, dC, dVar, dOp, dUn, dB, dAnd, dOr, dNot, dAndV, dOrV, dNotV, dIf, dTup, dLst, dChain, startD, List.map, List.replicate, List.length, List.append, List.getElem?_cons_zero, List.getElem?_cons_succ, List.set, Nat.sub, List.cons_append, List.nil_append, Nat.zero_add, Nat.reduceAdd, Nat.reduceSub, dP, fTup, fCons, fLst, fVar, fDic, fKv, aNeg_i, aI1_i, aI2_i, aStrI_i, aMul_ii, id, Option.some.injEq, exists_eq_left', exists_and_left, D.ref.injEq, D.int.injEq, D.bl.injEq, D.lst.injEq, Nat.reduceLeDiff, Nat.zero_le, lstW, seqOf, lstOf, aLen_s, aLen_t, aLen_l, aLen_r, aLt, aLe, aGt, aGe, aCmp_ii, aEq_ii, aNe_ii, aEqT_ss, aNeT_ss, dFor, iTup, iLst, forL, dRaise, dSetSlot, dTry, aAdd_ii, aAdd_ss, aAdd_tt, aAdd_ll, aSub, aInt_ii, aInt0_ii, aMod, aFdiv, aPow, aIsN, aNotN, isStrD, dCall, dBM, m2S, bty, sp0_iff, sp1_iff, sp2_iff, sp3_iff, sp4_iff, sp5_iff, sp6_iff, true_and, and_true, if_true, if_false, Bool.not_true, Bool.not_false, Bool.false_eq_true, reduceIte, tpD, dYes, wipeR]
    refine ⟨_, rfl, by omega, fun c p ep => ⟨mset_same, ?_⟩⟩
    exact k _ _ rfl True.intro
  · rw [paired_all po, List.length_map, List.length_range]
    show aAll [D.lst (List.replicate m (.bl true))] M1 (RetQ Q)
    refine ⟨_, List.replicate m true, rfl, blsD_rep1 m, ?_⟩
    rw [all_rep1]
    exact RetQ.here (h _)
end
def names0 : List PySem.Str := [PySem.Str.ofString "WrongValue", PySem.Str.ofString "InvalidName", PySem.Str.ofString "InvalidMost", PySem.Str.ofString "InvalidKind", PySem.Str.ofString "InvalidNumber", PySem.Str.ofString "InvalidRate", PySem.Str.ofString "DIGITS", PySem.Str.ofString "LETTERS", PySem.Str.ofString "is_integer", PySem.Str.ofString "is_count", PySem.Str.ofString "is_name", PySem.Str.ofString "KINDS", PySem.Str.ofString "Day", PySem.Str.ofString "Rule", PySem.Str.ofString "_law_cell", PySem.Str.ofString "_law_pool", PySem.Str.ofString "_law_draw", PySem.Str.ofString "_law_pick", PySem.Str.ofString "_law_odd", PySem.Str.ofString "_law_is_name", PySem.Str.ofString "_law_string", PySem.Str.ofString "_law_day_told", PySem.Str.ofString "_law_rule_told", PySem.Str.ofString "_law_due", PySem.Str.ofString "_law_right"]
def names : List PySem.Str := names0
/-! ### the head -/
abbrev RO : PySem.W.OpenRow := PySem.W.OpenLaw.row PySem.Challenge.rw_overhours_k02_names
abbrev hk : PySem.W.Hook := hookF 6 fa fn
def ob (s : PySem.W.SharedT) : He.AlD := obsFG 6 fa fn (HandSHeadRun.getT s)
theorem ob_eq (s : PySem.W.SharedT) : ob s = hk.obs s.abs := obsFG_eq (HandSHeadRun.getT_eq s)
theorem run (w : World) : HandSHeadRun.RunEq RO (PySem.W.view RO.prog [29]) hk ob 6000 names w := by
  intro os
  kernel_rfl
theorem funD_uniq {K : PySem.W.Frag} {x qual : Str} {params : Arguments} {body : List Stmt} {scope : Scope} {dvs : List V} {kws : List (Str × V)} {f : Addr} {fd fd' : FuncData} (h : FunD K x qual params body scope dvs kws f fd) (h' : FunD K x qual params body scope dvs kws f fd') : fd = fd' := by
  obtain ⟨oc, od, dV, kV, doc, pm, an, cdv, ct, osl, _, lk, _, _, _⟩ := h.ex
  obtain ⟨oc', od', dV', kV', doc', pm', an', cdv', ct', osl', _, lk', _, _, _⟩ := h'.ex
  rw [lk] at lk'
  injection Option.some.inj lk' with _ _ e _
  injection e
theorem facts {w : World} {K : PySem.W.Frag} {h : Heap} {mg : Str → Option Value} {f : Addr} (X : K.In h) (G : h.Ns mainGlobals mg) (hfa : mg ("law" : Str) = some (.ref f)) (c : SaysF fa fn K) :
    ∃ fd : FuncData, (∀ (s : Shared) (v : Value), BindsTo s fd ⟨[v], []⟩ [("_law_script", v)]) ∧ ∀ base : Heap, K.In base → base.Ns mainGlobals mg → FnG (PySem.Challenge.rw_overhours_k02_names).prog w K mg base 7 f fd ["_law_script"] (LawSp 63) := by
  have e := hfa.symm.trans (He.glo_ok X G (c.fact 48 (f := fun K => (He.Fa.glo "law").ok K)))
  cases e
  obtain ⟨fd, FD, F, B⟩ := ok_law (P := (PySem.Challenge.rw_overhours_k02_names).prog) (w := w) X G c
  have b := FunD.bindsA (ps := ["_law_script"]) FD fun _ _ _ _ _ _ us hl => match us, hl with | [_], _ => rfl
  refine ⟨fd, fun s v => b s [v] rfl, fun base X' G' => ?_⟩
  obtain ⟨fd', FD', F', _⟩ := ok_law (P := (PySem.Challenge.rw_overhours_k02_names).prog) (w := w) X' G' c
  rw [funD_uniq FD FD']
  exact F'.imp fun ds M Q E h => by
    obtain ⟨ns, rfl, h1, h2, h3, h4⟩ := h
    exact ⟨_, rfl, ns, rfl, h1, h2, h3, h4⟩
end DL
open PySem PySem.W PySem.Calls PyProof.Rows
theorem PySem.Challenge.cw_overhours_k02_names_holds : PySem.Challenge.rw_overhours_k02_names.Holds := by
  w_on; o_law
  refine HandSHeadRun.head_any (r := OpenLaw.row PySem.Challenge.rw_overhours_k02_names) (q := view (OpenLaw.row PySem.Challenge.rw_overhours_k02_names).prog [29]) (H := DL.hk) (ob := DL.ob) (M := 6000) (loose := DL.names) (d := HandSHeadRun.topDef (OpenLaw.row PySem.Challenge.rw_overhours_k02_names).prog 29) (kwd := []) DL.ob_eq
    (by kernel_rfl) (fun s => by kernel_rfl) DL.run (by kernel_rfl) (by kernel_rfl) (by kernel_rfl) (by rfl) (by first | assumption | decide +kernel) (by decide +kernel) ⟨rfl, rfl, rfl, rfl, rfl, by decide +kernel⟩ ?hw ?hc
  case hw => w_witness2
  case hc =>
    refine DL.walk_g (l := PySem.Challenge.rw_overhours_k02_names) (n := 63) (k := 7) (x := "_law_script") rfl (by decide) (by kernel_rfl) ⟨rfl, by decide, by decide⟩ ?F
    intro w mg fa h Y G hmg0
    obtain ⟨K, KX, c⟩ := Y
    have hmg : mg ("law" : PySem.Str) = some (.ref fa) := by
      have e : (HandSHeadRun.topDef (OpenLaw.row PySem.Challenge.rw_overhours_k02_names).prog 29).name = ("law" : PySem.Str) := by kernel_rfl
      rw [← e]
      exact hmg0
    obtain ⟨fd, hb, hF⟩ := DL.facts (w := w) KX G hmg c
    exact ⟨K, fd, KX, hb, hF⟩
namespace DL
end DL
