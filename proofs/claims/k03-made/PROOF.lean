import PyProof.Rows.All
import Wide.All
import OpenK.AllK
import Wide.FinOn
import HandS.ForMost
import HandS.Exc
import HandS.Slots
import HandS.SlotsOwn
import HandS.Lambda
import HandS.Wide
import HandS.IsInst
import HandS.TupAny
import HandS.Text
import HandS.WordsExc
import HandS.Defaults
import HandS.HeadEnd
import HandS.WideBits
import PyProof.ReprRoads
import HandS.StrMore
import HandS.Replace
import HandS.SetFor
import HandS.Deep
import HandS.ExcField
import HandS.ExcInit
import HandS.Iter
import HandS.Zip
import HandS.EndBits
import HandS.HeadNt
import HandS.Head2
import HandS.Star
import HandS.Style
import HandS.FStr
import HandS.ClsMeth
import KE.RegKCallOwn
import KE.KFmtOwn
import PyProof.Draws
import PyProof.EnumMake
import HandS.Zip0
import KE.KTupSum
import HandS.TupMul
import HandS.More
import HandS.Small
import HandS.DictComp
import HandS.Conv
import KE.KStar
import HandS.OwnEq
import PyProof.EqKinds
import PySem.Challenge.RW_overhours_k03_days_and_rules_made
set_option Elab.async false
set_option linter.all false
set_option maxRecDepth 100000
set_option maxHeartbeats 2000000
/-! DL1: values as trees over the hand layer, the part of the heap that may change, judgements. -/
namespace DL
open PySem PySem.Spec PyProof.Rows L2

abbrev Sg := L2.St
inductive D where
  | non | bl (b : Bool) | int (i : Int) | str (x : Str)
  | tup (ds : List D) | lst (ds : List D) | dic (kvs : List (Key × D))
  | ins (C : Addr) (ds : List D)
  | obj (C : Addr) (fs : List (Str × D))
  | ref (a : Addr) | ty (n : String)
  | scr (ns : List Int)
  | exc (a dd : Addr) (fs : List (Str × D))
  /-- a function that a def made, with what it had caught -/
  | fn (a c : Addr) (q : Str) (env : List (V × D))

inductive MO where
  | lst (ds : List D) | dic (kvs : List (Key × D))
  | ins (C dx : Addr) (fs : List (Str × D))
  | slt (C dx : Addr) (ds : List (Option D))
  | pool
abbrev Mh := Addr → Option MO
def mset (M : Mh) (a : Addr) (o : MO) : Mh := fun b => if b = a then some o else M b
theorem mset_same {M : Mh} {a : Addr} {o : MO} : mset M a o a = some o := if_pos rfl
theorem mset_ne {M : Mh} {a b : Addr} {o : MO} (h : b ≠ a) : mset M a o b = M b := if_neg h
theorem mset_mset {M : Mh} {a : Addr} {o u : MO} : mset (mset M a o) a u = mset M a u := by
  funext b
  unfold mset
  split <;> rfl
theorem mset_id {M : Mh} {a : Addr} {o : MO} (h : M a = some o) : mset M a o = M := by
  funext b
  unfold mset
  split
  · subst b; exact h.symm
  · rfl
def out (Z : Hp) (M : Mh) (H : Hp) : Hp := fun a => match Z a with
  | some _ => none
  | none => match M a with
    | none => H a
    | some _ => none
theorem out_none {Z : Hp} {M : Mh} {H : Hp} {a : Addr} (z : Z a = none) (h : M a = none) : out Z M H a = H a := by unfold out; rw [z, h]
theorem out_some {Z : Hp} {M : Mh} {H : Hp} {a : Addr} {o : MO} (h : M a = some o) : out Z M H a = none := by
  unfold out
  split
  · rfl
  · rw [h]
def SlF (F : Hp) (a C dx : Addr) (vs : List (Option V)) : Prop := F a = some (SlX.SlO a C dx vs) ∧ F dx = some (.xd [])
mutual
inductive Rep (K : PySem.W.Frag) (F : Hp) : V → D → Prop
  | non : Rep K F .non .non
  | bl (b : Bool) : Rep K F (.bl b) (.bl b)
  | int (i : Int) : Rep K F (.int i) (.int i)
  | str (x : Str) : Rep K F (.str x) (.str x)
  | ref (a : Addr) : Rep K F (.ref a) (.ref a)
  | ty (n : String) : Rep K F (.ty n) (.ty n)
  | tup {a : Addr} {xs : List V} {ds : List D} : SqT K F a xs → RepL K F xs ds → Rep K F (.ref a) (.tup ds)
  | lst {a : Addr} {xs : List V} {ds : List D} : F a = some (.lst xs) → RepL K F xs ds → Rep K F (.ref a) (.lst ds)
  | exc {a dd : Addr} {fv : List (Str × V)} {fs : List (Str × D)} : F dd = some (.xd fv) → RepF K F fv fs → Rep K F (.ref a) (.exc a dd fs)
  | scr {a : Addr} {ns : List Int} : SqL K F a (ns.map V.int) → Rep K F (.ref a) (.scr ns)
  | dic {a : Addr} {od : Obj} {xs : List (Key × V)} {ds : List (Key × D)} : F a = some (.frz od (.dK xs)) → RepK K F xs ds → Rep K F (.ref a) (.dic ds)
  | ins {a C dx : Addr} {xs : List V} {ds : List D} : SlF F a C dx (xs.map some) → RepL K F xs ds → Rep K F (.ref a) (.ins C ds)
  | obj {a C dx : Addr} {xs : List (Str × V)} {ds : List (Str × D)} : F a = some (.ins C dx xs) → RepF K F xs ds → Rep K F (.ref a) (.obj C ds)
  | fn {a c : Addr} {q : Str} {env : List (V × D)} : F c = some (LamX.CodeO c q) → RepE K F env → Rep K F (.ref a) (.fn a c q env)
inductive RepL (K : PySem.W.Frag) (F : Hp) : List V → List D → Prop
  | nil : RepL K F [] []
  | cons {v : V} {vs : List V} {d : D} {ds : List D} : Rep K F v d → RepL K F vs ds → RepL K F (v :: vs) (d :: ds)
inductive RepK (K : PySem.W.Frag) (F : Hp) : List (Key × V) → List (Key × D) → Prop
  | nil : RepK K F [] []
  | cons {k : Key} {v : V} {vs : List (Key × V)} {d : D} {ds : List (Key × D)} : Rep K F v d → RepK K F vs ds → RepK K F ((k, v) :: vs) ((k, d) :: ds)
inductive RepF (K : PySem.W.Frag) (F : Hp) : List (Str × V) → List (Str × D) → Prop
  | nil : RepF K F [] []
  | cons {k : Str} {v : V} {vs : List (Str × V)} {d : D} {ds : List (Str × D)} : Rep K F v d → RepF K F vs ds → RepF K F ((k, v) :: vs) ((k, d) :: ds)
inductive RepE (K : PySem.W.Frag) (F : Hp) : List (V × D) → Prop
  | nil : RepE K F []
  | cons {v : V} {d : D} {r : List (V × D)} : Rep K F v d → RepE K F r → RepE K F ((v, d) :: r)
end

section
variable {K : PySem.W.Frag} {F F' : Hp}
theorem Rd.mono {a : Addr} {u : HO} (s : Same F F') (h : Rd F a u) : Rd F' a u := by
  rcases h with h | ⟨o, h⟩
  · exact .inl (s _ _ h)
  · exact .inr ⟨o, s _ _ h⟩
theorem sqL_mono {a : Addr} {xs : List V} (s : Same F F') (h : SqL K F a xs) : SqL K F' a xs := s.seq h
theorem sqT_mono {a : Addr} {xs : List V} (s : Same F F') (h : SqT K F a xs) : SqT K F' a xs := by
  rcases h with h | h
  · exact .inl (Rd.mono s h)
  · exact .inr h
theorem slF_mono {a C dx : Addr} {vs : List (Option V)} (s : Same F F') (h : SlF F a C dx vs) : SlF F' a C dx vs := ⟨s _ _ h.1, s _ _ h.2⟩
mutual
theorem Rep.mono (s : Same F F') : ∀ {v : V} {d : D}, Rep K F v d → Rep K F' v d
  | _, _, .non => .non
  | _, _, .bl b => .bl b
  | _, _, .int b => .int b
  | _, _, .str b => .str b
  | _, _, .ref b => .ref b
  | _, _, .ty b => .ty b
  | _, _, .tup h r => .tup (sqT_mono s h) (RepL.mono s r)
  | _, _, .lst h r => .lst (s _ _ h) (RepL.mono s r)
  | _, _, .scr h => .scr (sqL_mono s h)
  | _, _, .exc h r => .exc (s _ _ h) (RepF.mono s r)
  | _, _, .dic h r => .dic (s _ _ h) (RepK.mono s r)
  | _, _, .ins h r => .ins (slF_mono s h) (RepL.mono s r)
  | _, _, .obj h r => .obj (s _ _ h) (RepF.mono s r)
  | _, _, .fn h r => .fn (s _ _ h) (RepE.mono s r)
theorem RepL.mono (s : Same F F') : ∀ {v : List V} {d : List D}, RepL K F v d → RepL K F' v d
  | _, _, .nil => .nil
  | _, _, .cons h r => .cons (Rep.mono s h) (RepL.mono s r)
theorem RepK.mono (s : Same F F') : ∀ {v : List (Key × V)} {d : List (Key × D)}, RepK K F v d → RepK K F' v d
  | _, _, .nil => .nil
  | _, _, .cons h r => .cons (Rep.mono s h) (RepK.mono s r)
theorem RepF.mono (s : Same F F') : ∀ {v : List (Str × V)} {d : List (Str × D)}, RepF K F v d → RepF K F' v d
  | _, _, .nil => .nil
  | _, _, .cons h r => .cons (Rep.mono s h) (RepF.mono s r)
theorem RepE.mono (s : Same F F') : ∀ {e : List (V × D)}, RepE K F e → RepE K F' e
  | _, .nil => .nil
  | _, .cons h r => .cons (Rep.mono s h) (RepE.mono s r)
end
theorem RepL.length : ∀ {v : List V} {d : List D}, RepL K F v d → v.length = d.length
  | _, _, .nil => rfl
  | _, _, .cons _ r => by rw [List.length_cons, List.length_cons, RepL.length r]
theorem RepL.get : ∀ {v : List V} {d : List D} {i : Nat} {x : D}, RepL K F v d → d[i]? = some x → ∃ y, v[i]? = some y ∧ Rep K F y x
  | _, _, _, _, .nil, e => by simp at e
  | _, _, 0, _, .cons h r, e => by simp at e; subst e; exact ⟨_, rfl, h⟩
  | _, _, i + 1, _, .cons h r, e => by
    obtain ⟨y, e1, e2⟩ := RepL.get (i := i) r (by simpa using e)
    exact ⟨y, by simpa using e1, e2⟩
end

def MoR (K : PySem.W.Frag) (F H : Hp) (a : Addr) : MO → Prop
  | .lst ds => ∃ xs, H a = some (.lst xs) ∧ RepL K F xs ds
  | .dic ds => ∃ xs, H a = some (.dK xs) ∧ RepK K F xs ds
  | .ins C dx ds => ∃ xs, H a = some (.ins C dx xs) ∧ RepF K F xs ds
  | .slt C dx ds => ∃ xs, H a = some (SlX.SlO a C dx xs) ∧ F dx = some (.xd []) ∧ xs.length = ds.length ∧ ∀ (i : Nat) d, ds[i]? = some (some d) → ∃ v, xs[i]? = some (some v) ∧ Rep K F v d
  | .pool => ∃ i j k : Int, H a = some (.lst [.int i, .int j, .int k]) ∧ 0 ≤ i ∧ i < 2147483648 ∧ 0 ≤ j ∧ 0 ≤ k
def tblO (q : Str) : HO := .tbl #[.str q default]
def tblQ (ps : Array Value) : Str := match ps.toList with
  | [.str q _] => q
  | _ => Str.empty
def tabK (K : PySem.W.Frag) : List (Addr × Addr × Str) := K.filterMap fun p => match p.2.data with
  | .fields vs => match vs.toList with
    | [.ref P, .str q _, .bool true] => some (p.1, P, q)
    | _ => none
  | _ => none
def HidAt (F H : Hp) (a : Addr) : HO → Prop
  | .tbl p0 => ∃ ps, H a = some (.tbl ps) ∧ TriplesOk ps.toList ∧ ∀ (pos : Pos) (cv : Value), codeAmong pos ps.toList = some cv → ∃ c, cv = .ref c ∧ F c = some (LamX.CodeO c (tblQ p0))
  | o => H a = some o
structure TbOk (K : PySem.W.Frag) (Z H : Hp) : Prop where
  tin : ∀ a ps, H a = some (.tbl ps) → ∃ x ∈ tabK K, x.2.1 = a
  tab : ∀ x ∈ tabK K, Z x.2.1 = some (tblO x.2.2)
  zx : ∀ a φ, Z a ≠ some (.ext φ)
structure HR (K : PySem.W.Frag) (Z : Hp) (M : Mh) (H : Hp) : Prop where
  mem : ∀ a o, M a = some o → MoR K (out Z M H) H a o
  hid : ∀ a o, Z a = some o → HidAt (out Z M H) H a o ∧ M a = none ∧ ∀ x, o ≠ .own x
  tb : TbOk K Z H
structure Kt where
  K : PySem.W.Frag
  T : Hp → Hp → Prop
  mono : ∀ Z F F', Same F F' → T Z F → T Z F'
structure SR (k : Kt) (Z : Hp) (r : List (Option D)) (M : Mh) (st : Sg) (H : Hp) : Prop where
  len : r.length = st.length
  sl : ∀ (i : Nat) d, r[i]? = some (some d) → ∃ v, st[i]? = some (some v) ∧ Rep k.K (out Z M H) v d
  hr : HR k.K Z M H
  tk : k.T Z (out Z M H)

section
variable {K : PySem.W.Frag} {k : Kt} {F F' Z : Hp} {M M' : Mh} {H H' : Hp} {r : List (Option D)} {st : Sg} {p : Addr} {o : HO} {mo : MO}
theorem MoR.some {a : Addr} (h : MoR K F H a mo) : ∃ o, H a = some o := by
  cases mo with
  | lst ds => obtain ⟨_, e, _⟩ := h; exact ⟨_, e⟩
  | dic ds => obtain ⟨_, e, _⟩ := h; exact ⟨_, e⟩
  | ins C dx ds => obtain ⟨_, e, _⟩ := h; exact ⟨_, e⟩
  | slt C dx ds =>
    obtain ⟨_, e, _⟩ := h
    exact ⟨_, e⟩
  | pool => obtain ⟨_, _, _, e, _⟩ := h; exact ⟨_, e⟩
theorem MoR.mono {a : Addr} (s : Same F F') (k : ∀ b u, H b = Option.some u → (b = a ∨ u = .own a) → H' b = Option.some u) (h : MoR K F H a mo) : MoR K F' H' a mo := by
  cases mo with
  | lst ds => obtain ⟨xs, e, q⟩ := h; exact ⟨xs, k _ _ e (.inl rfl), q.mono s⟩
  | dic ds => obtain ⟨xs, e, q⟩ := h; exact ⟨xs, k _ _ e (.inl rfl), q.mono s⟩
  | ins C dx ds => obtain ⟨xs, e, q⟩ := h; exact ⟨xs, k _ _ e (.inl rfl), q.mono s⟩
  | slt C dx ds =>
    obtain ⟨xs, e, e2, l, q⟩ := h
    refine ⟨xs, k _ _ e (.inl rfl), s _ _ e2, l, fun i d z => ?_⟩
    obtain ⟨v, h1, h2⟩ := q i d z
    exact ⟨v, h1, h2.mono s⟩
  | pool => obtain ⟨i, j, l, e, q⟩ := h; exact ⟨i, j, l, k _ _ e (.inl rfl), q⟩
theorem MoR.kind {a : Addr} (h : MoR K F H a mo) : ∀ x, H a ≠ Option.some (.own x) := fun x e => by
  cases mo with
  | lst ds => obtain ⟨_, z, _⟩ := h; rw [e] at z; cases z
  | dic ds => obtain ⟨_, z, _⟩ := h; rw [e] at z; cases z
  | ins C dx ds => obtain ⟨_, z, _⟩ := h; rw [e] at z; cases z
  | slt C dx ds =>
    obtain ⟨_, z, _⟩ := h
    rw [e] at z
    have z' : HO.own x = HO.ext _ := Option.some.inj z
    cases z'
  | pool => obtain ⟨_, _, _, z, _⟩ := h; rw [e] at z; cases z
theorem MoR.notbl {a : Addr} (h : MoR K F H a mo) : ∀ x, H a ≠ Option.some (.tbl x) := fun x e => by
  cases mo with
  | lst ds => obtain ⟨_, z, _⟩ := h; rw [e] at z; cases z
  | dic ds => obtain ⟨_, z, _⟩ := h; rw [e] at z; cases z
  | ins C dx ds => obtain ⟨_, z, _⟩ := h; rw [e] at z; cases z
  | slt C dx ds =>
    obtain ⟨_, z, _⟩ := h
    rw [e] at z
    have z' : HO.tbl x = HO.ext _ := Option.some.inj z
    cases z'
  | pool => obtain ⟨_, _, _, z, _⟩ := h; rw [e] at z; cases z
theorem HidAt.some {a : Addr} (h : HidAt F H a o) : ∃ u, H a = Option.some u := by
  cases o with
  | tbl p0 => obtain ⟨ps, e, _⟩ := h; exact ⟨_, e⟩
  | _ => exact ⟨_, h⟩
theorem HidAt.at_ {a : Addr} (h : HidAt F H a o) (nt : ∀ ps, o ≠ .tbl ps) : H a = Option.some o := by
  cases o with
  | tbl p0 => exact absurd rfl (nt p0)
  | _ => exact h
theorem HidAt.of {a : Addr} (h : H a = Option.some o) (nt : ∀ ps, o ≠ .tbl ps) : HidAt F H a o := by
  cases o with
  | tbl p0 => exact absurd rfl (nt p0)
  | _ => exact h
theorem HidAt.mono {a : Addr} (h : HidAt F H a o) (s : Same F F') (k : ∀ u, H a = Option.some u → H' a = Option.some u) : HidAt F' H' a o := by
  cases o with
  | tbl p0 =>
    obtain ⟨ps, e, t, q⟩ := h
    refine ⟨ps, k _ e, t, fun pos cv hc => ?_⟩
    obtain ⟨c, e1, e2⟩ := q pos cv hc
    exact ⟨c, e1, s _ _ e2⟩
  | _ => exact k _ h
theorem HidAt.notown {a : Addr} (h : HidAt F H a o) (no : ∀ x, o ≠ .own x) : ∀ x, H a ≠ Option.some (.own x) := fun x e => by
  cases o with
  | tbl p0 => obtain ⟨ps, z, _⟩ := h; rw [e] at z; cases z
  | own y => exact absurd rfl (no y)
  | _ => have z := h.symm.trans e; cases z
theorem TbOk.there (t : TbOk K Z H) (m : ∀ a o, Z a = Option.some o → HidAt F H a o) {x : Addr × Addr × Str} (hx : x ∈ tabK K) : ∃ ps, H x.2.1 = Option.some (.tbl ps) := by
  obtain ⟨ps, e, _⟩ := m _ _ (t.tab x hx)
  exact ⟨ps, e⟩
theorem TbOk.upd (t : TbOk K Z H) (h : ∀ b, b ≠ p → H' b = H b) (n : ∀ ps, H' p ≠ Option.some (.tbl ps)) : TbOk K Z H' := ⟨fun a ps e => by
  by_cases ha : a = p
  · subst ha; exact absurd e (n ps)
  · rw [h a ha] at e; exact t.tin a ps e, t.tab, t.zx⟩
theorem HR.own (m : HR K Z M H) {dx a : Addr} (e : H dx = Option.some (.own a)) : M dx = none ∧ Z dx = none := by
  refine ⟨?_, ?_⟩
  · cases q : M dx with
    | none => rfl
    | some u => exact absurd e ((m.mem dx u q).kind a)
  · cases q : Z dx with
    | none => rfl
    | some u =>
      obtain ⟨z1, _, z3⟩ := m.hid dx u q
      exact absurd e (z1.notown z3 a)
theorem HR.fresh (m : HR K Z M H) (h : H p = none) : M p = none ∧ Z p = none := by
  refine ⟨?_, ?_⟩
  · cases e : M p with
    | none => rfl
    | some o =>
      obtain ⟨u, q⟩ := (m.mem p o e).some
      rw [h] at q; cases q
  · cases e : Z p with
    | none => rfl
    | some o =>
      obtain ⟨u, q⟩ := (m.hid p o e).1.some
      rw [h] at q; cases q
theorem out_new (m : HR K Z M H) (h : H p = none) : out Z M (upd H p o) = upd (out Z M H) p o := by
  funext b
  by_cases hb : b = p
  · subst hb
    rw [out_none (m.fresh h).2 (m.fresh h).1, upd_same, upd_same]
  · rw [upd_ne hb]
    unfold out
    rw [upd_ne hb]
theorem same_upd (h : F p = none) : Same F (upd F p o) := fun b u e => by rw [upd_ne (ne_of_none e h)]; exact e
theorem out_free (h : H p = none) : out Z M H p = none := by
  unfold out
  split
  · rfl
  · split
    · exact h
    · rfl
theorem same_new (m : HR K Z M H) (h : H p = none) : Same (out Z M H) (out Z M (upd H p o)) := by
  rw [out_new m h]
  exact same_upd (out_free h)
theorem HR.new (m : HR K Z M H) (h : H p = none) (nt : ∀ ps, o ≠ .tbl ps := by first | nofun | exact fun _ e => nomatch (show HO.ext _ = HO.tbl _ from e) | assumption) : HR K Z M (upd H p o) where
  mem := fun a u e => (m.mem a u e).mono (same_new m h) fun b w z _ => by rw [upd_ne (ne_of_none z h)]; exact z
  hid := fun a u e => by
    obtain ⟨z1, z2, z3⟩ := m.hid a u e
    exact ⟨z1.mono (same_new m h) fun w z => by rw [upd_ne (ne_of_none z h)]; exact z, z2, z3⟩
  tb := m.tb.upd (p := p) (fun b hb => upd_ne hb) fun ps e => by rw [upd_same] at e; exact nt ps (Option.some.inj e)
theorem SR.step (q : SR k Z r M st H) (m : HR k.K Z M' H') (s : Same (out Z M H) (out Z M' H')) : SR k Z r M' st H' :=
  ⟨q.len, fun i d e => let ⟨v, h1, h2⟩ := q.sl i d e; ⟨v, h1, h2.mono s⟩, m, k.mono _ _ _ s q.tk⟩
theorem SR.new (q : SR k Z r M st H) (h : H p = none) (nt : ∀ ps, o ≠ .tbl ps := by first | nofun | exact fun _ e => nomatch (show HO.ext _ = HO.tbl _ from e) | assumption) : SR k Z r M st (upd H p o) := q.step (q.hr.new h nt) (same_new q.hr h)
theorem out_mset (m : HR K Z M H) (h : ∀ b, b ≠ p → H' b = H b) (e : H p = none ∨ M p ≠ none) : out Z (mset M p mo) H' = out Z M H := by
  funext b
  by_cases hb : b = p
  · subst hb
    rw [out_some (mset_same)]
    rcases e with e | e
    · exact (out_free e).symm
    · cases z : M b with
      | none => exact absurd z e
      | some u => exact (out_some z).symm
  · unfold out
    rw [mset_ne hb, h b hb]
theorem HR.mset (m : HR K Z M H) (h : ∀ b, b ≠ p → H' b = H b) (e : H p = none ∨ M p ≠ none) (q : MoR K (out Z M H) H' p mo) : HR K Z (mset M p mo) H' where
  mem := fun a u z => by
    by_cases ha : a = p
    · subst ha
      rw [mset_same] at z
      cases z
      rw [out_mset m h e]
      exact q
    · rw [mset_ne ha] at z
      rw [out_mset m h e]
      have y := m.mem a u z
      refine y.mono (Same.refl _) (fun b w k hb => ?_)
      rcases hb with rfl | rfl
      · rw [h _ ha]; exact k
      · have : b ≠ p := by
          rintro rfl
          rcases e with e | e
          · rw [e] at k; cases k
          · exact e (m.own k).1
        rw [h b this]; exact k
  hid := fun a u z => by
    obtain ⟨z1, z2, z3⟩ := m.hid a u z
    have ha : a ≠ p := by
      rintro rfl
      rcases e with e | e
      · obtain ⟨u, z1⟩ := z1.some
        rw [e] at z1; cases z1
      · exact e z2
    exact ⟨z1.mono (by rw [out_mset m h e]; exact Same.refl _) (fun w z => by rw [h a ha]; exact z), by rw [mset_ne ha]; exact z2, z3⟩
  tb := m.tb.upd h q.notbl
theorem SR.mset (s : SR k Z r M st H) (h : ∀ b, b ≠ p → H' b = H b) (e : H p = none ∨ M p ≠ none) (q : MoR k.K (out Z M H) H' p mo) : SR k Z r (mset M p mo) st H' :=
  s.step (s.hr.mset h e q) (by rw [out_mset s.hr h e]; exact Same.refl _)
def Less (M' M : Mh) : Prop := ∀ a, M' a = M a ∨ M' a = none
theorem Less.refl : Less M M := fun _ => .inl rfl
end

abbrev DXK := Value → List (Str × D) → Mh → Prop
abbrev DWX := Value → List (Str × D) → List (Option D) → Mh → Prop
def ExF (K : PySem.W.Frag) (F : Hp) (dx : Option Addr) (fs : List (Str × D)) : Prop := (dx = none ∧ fs = []) ∨ ∃ d fv, dx = some d ∧ F d = some (.xd fv) ∧ RepF K F fv fs
def XW (K : PySem.W.Frag) (Z F : Hp) (W : DWX) : WX := fun cls dx st H' => ∃ fs r M', ExF K (out Z M' H') dx fs ∧ r.length = st.length ∧ (∀ (i : Nat) d, r[i]? = some (some d) → ∃ v, st[i]? = some (some v) ∧ Rep K (out Z M' H') v d) ∧ HR K Z M' H' ∧ Same F (out Z M' H') ∧ W cls fs r M'
theorem XW.mono {K : PySem.W.Frag} {Z F F' : Hp} {W : DWX} (s : Same F F') {cls : Value} {dx : Option Addr} {st : Sg} {H' : Hp} (h : XW K Z F' W cls dx st H') : XW K Z F W cls dx st H' := by
  obtain ⟨fs, r, M', a, b, c, d, e, f⟩ := h
  exact ⟨fs, r, M', a, b, c, d, s.trans e, f⟩
@[reducible] def kx (X : Cx) (W : DWX) : Kt := ⟨X.K, fun Z F => Takes X (XW X.K Z F W), fun Z F F' s h => h.imp fun c d st H z => z.mono s⟩
abbrev Rho := List (Option D)
abbrev QD := D → Mh → Prop
abbrev DTE := Rho → Mh → QD → Prop
abbrev DTT := Rho → Mh → (Bool → Mh → Prop) → Prop
abbrev DTA := Rho → Mh → (List D → Mh → Prop) → Prop
structure DEnds where
  nx : Rho → Mh → Prop
  rt : QD
  bk : Rho → Mh → Prop := fun _ _ => False
  ct : Rho → Mh → Prop := fun _ _ => False
abbrev DTS := DEnds → Rho → Mh → Prop

def EQ (k : Kt) (Z : Hp) (st : Sg) (r : Rho) (F : Hp) (Q : QD) : VK := fun v H' => ∃ d M', SR k Z r M' st H' ∧ Rep k.K (out Z M' H') v d ∧ Same F (out Z M' H') ∧ Q d M'
def TQ (k : Kt) (Z : Hp) (st : Sg) (r : Rho) (F : Hp) (Q : Bool → Mh → Prop) : Bool → Hp → Prop := fun b H' => ∃ M', SR k Z r M' st H' ∧ Same F (out Z M' H') ∧ Q b M'
def AQ (k : Kt) (Z : Hp) (st : Sg) (r : Rho) (F : Hp) (Q : List D → Mh → Prop) : List V → Hp → Prop := fun vs H' => ∃ ds M', SR k Z r M' st H' ∧ RepL k.K (out Z M' H') vs ds ∧ Same F (out Z M' H') ∧ Q ds M'
def NQ (k : Kt) (Z : Hp) (F : Hp) (Q : Rho → Mh → Prop) : Sg → Hp → Prop := fun st H' => ∃ r M', SR k Z r M' st H' ∧ Same F (out Z M' H') ∧ Q r M'
def RQ (K : PySem.W.Frag) (Z : Hp) (F : Hp) (Q : QD) : VK := fun v H' => ∃ d M', HR K Z M' H' ∧ Rep K (out Z M' H') v d ∧ Same F (out Z M' H') ∧ Q d M'
def SQ (k : Kt) (Z : Hp) (F : Hp) (D : DEnds) : Ends := ⟨NQ k Z F D.nx, RQ k.K Z F D.rt, NQ k Z F D.bk, NQ k Z F D.ct⟩

structure DE (X : Cx) (W : DWX) (e : Expr) (t : DTE) : Prop where
  run : ∀ (pins : List (Addr × Obj)) (s : Shared) (st : Sg) (H Z : Hp) (r : Rho) (M : Mh) (Q : QD), Inv X pins st H s → SR (kx X W) Z r M st H → t r M Q → wpAny (model X.prog X.w) X.A (eval e X.env) (EP X pins st (EQ (kx X W) Z st r (out Z M H) Q)) X.xe s
structure DT (X : Cx) (W : DWX) (e : Expr) (t : DTT) : Prop where
  run : ∀ (pins : List (Addr × Obj)) (s : Shared) (st : Sg) (H Z : Hp) (r : Rho) (M : Mh) (Q : Bool → Mh → Prop), Inv X pins st H s → SR (kx X W) Z r M st H → t r M Q → wpAny (model X.prog X.w) X.A (isTrue e X.env (eval e X.env)) (TP X pins st (TQ (kx X W) Z st r (out Z M H) Q)) X.xe s
structure DW (X : Cx) (W : DWX) (e : Expr) (t : DTT) : Prop where
  run : ∀ (whole : Sem Value) (pins : List (Addr × Obj)) (s : Shared) (st : Sg) (H Z : Hp) (r : Rho) (M : Mh) (Q : Bool → Mh → Prop), Inv X pins st H s → SR (kx X W) Z r M st H → t r M Q → wpAny (model X.prog X.w) X.A (isTrue e X.env whole) (TP X pins st (TQ (kx X W) Z st r (out Z M H) Q)) X.xe s
structure DA (X : Cx) (W : DWX) (es : List Expr) (t : DTA) : Prop where
  run : ∀ (pos : Pos) (pins : List (Addr × Obj)) (s : Shared) (st : Sg) (H Z : Hp) (r : Rho) (M : Mh) (Q : List D → Mh → Prop), Inv X pins st H s → SR (kx X W) Z r M st H → t r M Q → wpAny (model X.prog X.w) X.A (spliced (backTo pos (starEach es X.env))) (AP X pins st (AQ (kx X W) Z st r (out Z M H) Q)) X.xe s
structure DS (X : Cx) (W : DWX) (c : Stmt) (t : DTS) : Prop where
  run : ∀ (pins : List (Addr × Obj)) (s : Shared) (st : Sg) (H Z : Hp) (r : Rho) (M : Mh) (D : DEnds), Inv X pins st H s → SR (kx X W) Z r M st H → t D r M → wpAny (model X.prog X.w) X.A (exec c X.env) (SP X pins (SQ (kx X W) Z (out Z M H) D)) X.xe s
structure DSs (X : Cx) (W : DWX) (c : List Stmt) (t : DTS) : Prop where
  run : ∀ (pins : List (Addr × Obj)) (s : Shared) (st : Sg) (H Z : Hp) (r : Rho) (M : Mh) (D : DEnds), Inv X pins st H s → SR (kx X W) Z r M st H → t D r M → wpAny (model X.prog X.w) X.A (execs c X.env) (SP X pins (SQ (kx X W) Z (out Z M H) D)) X.xe s

def liftS (k : Kt) (t : DTS) : TS := fun E st H => ∃ Z r M D, SR k Z r M st H ∧ t D r M ∧ (∀ a b, NQ k Z (out Z M H) D.nx a b → E.nx a b) ∧ (∀ a b, RQ k.K Z (out Z M H) D.rt a b → E.rt a b) ∧ (∀ a b, NQ k Z (out Z M H) D.bk a b → E.bk a b) ∧ (∀ a b, NQ k Z (out Z M H) D.ct a b → E.ct a b)
section
variable {X : Cx} {W : DWX} {e : Expr} {es : List Expr} {c : Stmt} {cs : List Stmt}
theorem sp_imp {pins : List (Addr × Obj)} {E E' : Ends} (h1 : ∀ a b, E.nx a b → E'.nx a b) (h2 : ∀ a b, E.rt a b → E'.rt a b) (h3 : ∀ a b, E.bk a b → E'.bk a b) (h4 : ∀ a b, E.ct a b → E'.ct a b) {f : Flow} {s : Shared} (h : SP X pins E f s) : SP X pins E' f s := by
  cases f with
  | next => obtain ⟨a, b, I, q⟩ := h; exact ⟨a, b, I, h1 _ _ q⟩
  | brk => obtain ⟨a, b, I, q⟩ := h; exact ⟨a, b, I, h3 _ _ q⟩
  | cont => obtain ⟨a, b, I, q⟩ := h; exact ⟨a, b, I, h4 _ _ q⟩
  | ret u => obtain ⟨v, a, b, I, rv, q⟩ := h; exact ⟨v, a, b, I, rv, h2 _ _ q⟩
theorem DS.ps {t : DTS} (h : DS X W c t) : PS X c (liftS (kx X W) t) := ⟨fun pins s st H E I ⟨Z, r, M, D, q, ht, k1, k2, k3, k4⟩ =>
  thn (h.run pins s st H Z r M D I q ht) fun _ _ z => sp_imp k1 k2 k3 k4 z⟩
theorem DE.of {t : DTE} {t0 : TE} (h : PE X e t0) (k : ∀ (st : Sg) (H Z : Hp) (r : Rho) (M : Mh) (Q : QD), SR (kx X W) Z r M st H → t r M Q → t0 st H (EQ (kx X W) Z st r (out Z M H) Q)) : DE X W e t :=
  ⟨fun pins s st H Z r M Q I q ht => h.run pins s st H _ I (k st H Z r M Q q ht)⟩
theorem DT.of {t : DTT} {t0 : TT} (h : PT X e t0) (k : ∀ (st : Sg) (H Z : Hp) (r : Rho) (M : Mh) (Q : Bool → Mh → Prop), SR (kx X W) Z r M st H → t r M Q → t0 st H (TQ (kx X W) Z st r (out Z M H) Q)) : DT X W e t :=
  ⟨fun pins s st H Z r M Q I q ht => h.run pins s st H _ I (k st H Z r M Q q ht)⟩
theorem DW.of {t : DTT} {t0 : TT} (h : PW X e t0) (k : ∀ (st : Sg) (H Z : Hp) (r : Rho) (M : Mh) (Q : Bool → Mh → Prop), SR (kx X W) Z r M st H → t r M Q → t0 st H (TQ (kx X W) Z st r (out Z M H) Q)) : DW X W e t :=
  ⟨fun wh pins s st H Z r M Q I q ht => h.run wh pins s st H _ I (k st H Z r M Q q ht)⟩
theorem DA.of {t : DTA} {t0 : TA} (h : PA X es t0) (k : ∀ (st : Sg) (H Z : Hp) (r : Rho) (M : Mh) (Q : List D → Mh → Prop), SR (kx X W) Z r M st H → t r M Q → t0 st H (AQ (kx X W) Z st r (out Z M H) Q)) : DA X W es t :=
  ⟨fun pos pins s st H Z r M Q I q ht => h.run pos pins s st H _ I (k st H Z r M Q q ht)⟩
theorem DS.of {t : DTS} {t0 : TS} (h : PS X c t0) (k : ∀ (st : Sg) (H Z : Hp) (r : Rho) (M : Mh) (D : DEnds), SR (kx X W) Z r M st H → t D r M → t0 (SQ (kx X W) Z (out Z M H) D) st H) : DS X W c t :=
  ⟨fun pins s st H Z r M D I q ht => h.run pins s st H _ I (k st H Z r M D q ht)⟩
theorem DSs.of {t : DTS} {t0 : TS} (h : PSs X cs t0) (k : ∀ (st : Sg) (H Z : Hp) (r : Rho) (M : Mh) (D : DEnds), SR (kx X W) Z r M st H → t D r M → t0 (SQ (kx X W) Z (out Z M H) D) st H) : DSs X W cs t :=
  ⟨fun pins s st H Z r M D I q ht => h.run pins s st H _ I (k st H Z r M D q ht)⟩
end
end DL

set_option maxHeartbeats 2000000
namespace DL
open PySem PySem.Spec PyProof.Rows L2

section
variable {K : PySem.W.Frag} {k : Kt} {F F' Z : Hp} {M M' : Mh} {H H' : Hp} {r : Rho} {st : Sg} {Q : QD} {v : V} {d : D} {p : Addr}
theorem EQ.val (q : SR k Z r M st H) (h : Rep k.K (out Z M H) v d) (z : Q d M) : EQ k Z st r (out Z M H) Q v H := ⟨d, M, q, h, Same.refl _, z⟩
theorem EQ.mono (s : Same F F') (h : EQ k Z st r F' Q v H) : EQ k Z st r F Q v H := by
  obtain ⟨d, M', q, h, s', z⟩ := h
  exact ⟨d, M', q, h, s.trans s', z⟩
theorem TQ.mono {Q : Bool → Mh → Prop} {b : Bool} (s : Same F F') (h : TQ k Z st r F' Q b H) : TQ k Z st r F Q b H := by
  obtain ⟨M', q, s', z⟩ := h
  exact ⟨M', q, s.trans s', z⟩
theorem AQ.mono {Q : List D → Mh → Prop} {vs : List V} (s : Same F F') (h : AQ k Z st r F' Q vs H) : AQ k Z st r F Q vs H := by
  obtain ⟨ds, M', q, h, s', z⟩ := h
  exact ⟨ds, M', q, h, s.trans s', z⟩
theorem NQ.mono {Q : Rho → Mh → Prop} (s : Same F F') (h : NQ k Z F' Q st H) : NQ k Z F Q st H := by
  obtain ⟨r, M', q, s', z⟩ := h
  exact ⟨r, M', q, s.trans s', z⟩
theorem RQ.mono (s : Same F F') (h : RQ K Z F' Q v H) : RQ K Z F Q v H := by
  obtain ⟨d, M', q, h, s', z⟩ := h
  exact ⟨d, M', q, h, s.trans s', z⟩
theorem EQ.new {o : HO} (q : SR k Z r M st H) (hp : H p = none) (h : Rep k.K (upd (out Z M H) p o) (.ref p) d) (z : Q d M) (nt : ∀ ps, o ≠ .tbl ps := by first | nofun | exact fun _ e => nomatch (show HO.ext _ = HO.tbl _ from e) | assumption) : EQ k Z st r (out Z M H) Q (.ref p) (upd H p o) :=
  ⟨d, M, q.new hp nt, by rw [out_new q.hr hp]; exact h, same_new q.hr hp, z⟩
end

abbrev DR2 := D → D → Mh → QD → Prop
abbrev DR1 := D → Mh → QD → Prop
abbrev DRL := List D → Mh → QD → Prop
def DOp (X : Cx) (W : DWX) (f : Value → Value → Sem Value) (o : DR2) : Prop :=
  ∀ (pins : List (Addr × Obj)) (s : Shared) (st : Sg) (H Z : Hp) (r : Rho) (M : Mh) (x y : V) (v u : Value) (a b : D) (Q : QD), Inv X pins st H s → SR (kx X W) Z r M st H → RelV x v → RelV y u → Rep X.K (out Z M H) x a → Rep X.K (out Z M H) y b → o a b M Q →
    wpAny (model X.prog X.w) X.A (f v u) (EP X pins st (EQ (kx X W) Z st r (out Z M H) Q)) X.xe s
def DUn (X : Cx) (W : DWX) (f : Value → Sem Value) (o : DR1) : Prop :=
  ∀ (pins : List (Addr × Obj)) (s : Shared) (st : Sg) (H Z : Hp) (r : Rho) (M : Mh) (x : V) (v : Value) (a : D) (Q : QD), Inv X pins st H s → SR (kx X W) Z r M st H → RelV x v → Rep X.K (out Z M H) x a → o a M Q →
    wpAny (model X.prog X.w) X.A (f v) (EP X pins st (EQ (kx X W) Z st r (out Z M H) Q)) X.xe s
def DCall (X : Cx) (W : DWX) (f : Value) (o : DRL) : Prop :=
  ∀ (pins : List (Addr × Obj)) (s : Shared) (st : Sg) (H Z : Hp) (r : Rho) (M : Mh) (xs : List V) (vs : List Value) (ds : List D) (Q : QD), Inv X pins st H s → SR (kx X W) Z r M st H → Vals xs vs → RepL X.K (out Z M H) xs ds → o ds M Q →
    wpAny (model X.prog X.w) X.A (call f vs) (EP X pins st (EQ (kx X W) Z st r (out Z M H) Q)) X.xe s
section
variable {X : Cx} {W : DWX} {pos : Pos} {a b c : Expr} {ta tb tc : DTE}
theorem DOp.of {f : Value → Value → Sem Value} {r0 : R2} {o : DR2} (h : OpR X f r0)
    (k : ∀ (st : Sg) (H Z : Hp) (r : Rho) (M : Mh) (x y : V) (da db : D) (Q : QD), SR (kx X W) Z r M st H → Rep X.K (out Z M H) x da → Rep X.K (out Z M H) y db → o da db M Q → r0 x y H (EQ (kx X W) Z st r (out Z M H) Q)) : DOp X W f o :=
  fun pins s st H Z r M x y v u da db Q I q rx ry ra rb ho => h pins s st H x y v u _ I rx ry (k st H Z r M x y da db Q q ra rb ho)
theorem DUn.of {f : Value → Sem Value} {r0 : V → Hp → VK → Prop} {o : DR1} (h : UnR X f r0)
    (k : ∀ (st : Sg) (H Z : Hp) (r : Rho) (M : Mh) (x : V) (da : D) (Q : QD), SR (kx X W) Z r M st H → Rep X.K (out Z M H) x da → o da M Q → r0 x H (EQ (kx X W) Z st r (out Z M H) Q)) : DUn X W f o :=
  fun pins s st H Z r M x v da Q I q rx ra ho => h pins s st H x v _ I rx (k st H Z r M x da Q q ra ho)
theorem DCall.of {f : Value} {r0 : List V → Hp → VK → Prop} {o : DRL} (h : CallR X f r0)
    (k : ∀ (st : Sg) (H Z : Hp) (r : Rho) (M : Mh) (xs : List V) (ds : List D) (Q : QD), SR (kx X W) Z r M st H → RepL X.K (out Z M H) xs ds → o ds M Q → r0 xs H (EQ (kx X W) Z st r (out Z M H) Q)) : DCall X W f o :=
  fun pins s st H Z r M xs vs ds Q I q rx ra ho => h pins s st H xs vs _ I rx (k st H Z r M xs ds Q q ra ho)
theorem DCall.or {f : Value} {o o' : DRL} (h : DCall X W f o) (h' : DCall X W f o') : DCall X W f (fun ds M Q => o ds M Q ∨ o' ds M Q) :=
  fun pins s st H Z r M xs vs ds Q I q rx ra ho => ho.elim (h pins s st H Z r M xs vs ds Q I q rx ra) (h' pins s st H Z r M xs vs ds Q I q rx ra)

end

section
variable {X : Cx} {W : DWX} {pos : Pos} {a b c : Expr} {rest : List Expr} {ta tb : DTE} {tA tB : DTT}
theorem TQ.imp {κ : Kt} {Z F : Hp} {st : Sg} {r : Rho} {Q Q' : Bool → Mh → Prop} {k : Bool} {H : Hp} (h : TQ κ Z st r F Q k H) (hq : ∀ M, Q k M → Q' k M) : TQ κ Z st r F Q' k H := by
  obtain ⟨M', q, sm, h⟩ := h
  exact ⟨M', q, sm, hq _ h⟩
end

end DL

set_option maxHeartbeats 2000000
namespace DL
open PySem PySem.Spec PyProof.Rows L2

def aInt (f : Int → Int → Int) (C : Int → Int → Prop) : DR2 := fun x y M Q => match x, y with
  | .int i, .int j => C i j ∧ Q (.int (f i j)) M
  | _, _ => False
section
variable {X : Cx} {W : DWX}
theorem DOp.or {f : Value → Value → Sem Value} {o o' : DR2} (h : DOp X W f o) (h' : DOp X W f o') : DOp X W f (fun a b M Q => o a b M Q ∨ o' a b M Q) :=
  fun pins s st H Z r M x y v u da db Q I q rx ry ra rb ho => ho.elim (h pins s st H Z r M x y v u da db Q I q rx ry ra rb) (h' pins s st H Z r M x y v u da db Q I q rx ry ra rb)
theorem DOp.imp {f : Value → Value → Sem Value} {o o' : DR2} (h : DOp X W f o) (k : ∀ a b M Q, o' a b M Q → o a b M Q) : DOp X W f o' :=
  fun pins s st H Z r M x y v u da db Q I q rx ry ra rb ho => h pins s st H Z r M x y v u da db Q I q rx ry ra rb (k _ _ _ _ ho)
theorem DOp.int {f : Value → Value → Sem Value} {g : Int → Int → Int} {C : Int → Int → Prop} (h : OpR X f (rI C fun i j => .int (g i j))) : DOp X W f (aInt g C) :=
  .of h fun st H Z r M x y da db Q q ra rb h => by
    unfold aInt at h
    split at h
    · cases ra; cases rb
      exact ⟨_, _, rfl, rfl, h.1, EQ.val q (.int _) h.2⟩
    · exact h.elim
end

/- data without dicts, as == takes it -/
theorem Dp.mono {K : PySem.W.Frag} {F F' : Hp} (s : Same F F') : ∀ {v : V} {p : PyData}, Dp K F v p → Dp K F' v p := by
  intro v p h
  refine Dp.rec (K := K) (H := F) (motive_1 := fun v p _ => Dp K F' v p) (motive_2 := fun vs ps _ => DpAll K F' vs ps) .non (fun b => .bl b) (fun b => .int b) (fun b => .str b) (fun h _ r => .lst (sqL_mono s h) r) (fun h _ r => .tup (sqT_mono s h) r) .nil (fun _ _ h r => .cons h r) h

abbrev DTO := Rho → Mh → (Option Int → Mh → Prop) → Prop
structure DO (X : Cx) (W : DWX) (e : Option Expr) (t : DTO) : Prop where
  run : ∀ (pins : List (Addr × Obj)) (s : Shared) (st : Sg) (H Z : Hp) (r : Rho) (M : Mh) (Q : Option Int → Mh → Prop), Inv X pins st H s → SR (kx X W) Z r M st H → t r M Q →
    wpAny (model X.prog X.w) X.A (evalPart e X.env) (fun u s' => ∃ o H', Inv X pins st H' s' ∧ IsPart u o ∧ ∃ M', SR (kx X W) Z r M' st H' ∧ Same (out Z M H) (out Z M' H') ∧ Q o M') X.xe s
def liftO (k : Kt) (t : DTO) : TO := fun st H Q => ∃ Z r M DQ, SR k Z r M st H ∧ t r M DQ ∧ ∀ o H', (∃ M', SR k Z r M' st H' ∧ Same (out Z M H) (out Z M' H') ∧ DQ o M') → Q o H'
theorem DO.po {X : Cx} {W : DWX} {e : Option Expr} {t : DTO} (h : DO X W e t) : PO X e (liftO (kx X W) t) := ⟨fun pins s st H Q I ⟨Z, r, M, DQ, q, ht, k⟩ =>
  thn (h.run pins s st H Z r M DQ I q ht) fun _ _ ⟨v, H', I', rv, z⟩ => ⟨v, H', I', rv, k v H' z⟩⟩
end DL

set_option maxHeartbeats 2000000
namespace DL
open PySem PySem.Spec PyProof.Rows L2

abbrev DTG := D → Rho → Mh → (Rho → Mh → Prop) → Prop
structure DG (X : Cx) (W : DWX) (target : Expr) (t : DTG) : Prop where
  run : ∀ (pins : List (Addr × Obj)) (s : Shared) (st : Sg) (H Z : Hp) (r : Rho) (M : Mh) (v : V) (u : Value) (d : D) (Q : Rho → Mh → Prop), Inv X pins st H s → SR (kx X W) Z r M st H → RelV v u → Rep X.K (out Z M H) v d → t d r M Q →
    wpAny (model X.prog X.w) X.A (assign target X.env u) (fun _ s' => ∃ st' H', Inv X pins st' H' s' ∧ NQ (kx X W) Z (out Z M H) Q st' H') X.xe s
def liftG (k : Kt) (t : DTG) : TG := fun v st H Q => ∃ Z r M d DQ, SR k Z r M st H ∧ Rep k.K (out Z M H) v d ∧ t d r M DQ ∧ ∀ st' H', NQ k Z (out Z M H) DQ st' H' → Q st' H'
theorem DG.pg {X : Cx} {W : DWX} {tg : Expr} {t : DTG} (h : DG X W tg t) : PG X tg (liftG (kx X W) t) := ⟨fun pins s st H v u Q I rv ⟨Z, r, M, d, DQ, q, rp, ht, k⟩ =>
  thn (h.run pins s st H Z r M v u d DQ I q rv rp ht) fun _ _ ⟨st', H', I', e⟩ => ⟨st', H', I', k _ _ e⟩⟩

structure ItR (K : PySem.W.Frag) (F : Hp) (J : It) (items : List D) : Prop where
  go : ∀ (i : Nat) (Z : Hp) (M : Mh) (H : Hp), HR K Z M H → Same F (out Z M H) → i < items.length → J.go i H
  stop : ∀ (Z : Hp) (M : Mh) (H : Hp), HR K Z M H → Same F (out Z M H) → J.stop items.length H
  yld : ∀ (i : Nat) (Z : Hp) (M : Mh) (H H' : Hp) (x : V), HR K Z M H → Same F (out Z M H) → i < items.length → J.yld i H x H' → ∃ d, items[i]? = some d ∧ HR K Z M H' ∧ Same (out Z M H) (out Z M H') ∧ Rep K (out Z M H') x d
section
variable {X : Cx} {W : DWX} {K : PySem.W.Frag} {F Z : Hp} {tg e : Expr} {te : DTE}
theorem ItR.mono {F' : Hp} {J : It} {items : List D} (h : ItR K F J items) (s : Same F F') : ItR K F' J items :=
  ⟨fun i Z M H q sm => h.go i Z M H q (s.trans sm), fun Z M H q sm => h.stop Z M H q (s.trans sm), fun i Z M H H' x q sm => h.yld i Z M H H' x q (s.trans sm)⟩
end

end DL

set_option maxHeartbeats 2000000

set_option maxHeartbeats 2000000
namespace DL
open PySem PySem.Spec PyProof.Rows L2

abbrev DSp := List D → Mh → QD → DXK → Prop
def XQ (K : PySem.W.Frag) (Z F : Hp) (E : DXK) : XK := fun cls dx H' => ∃ fs M', ExF K (out Z M' H') dx fs ∧ HR K Z M' H' ∧ Same F (out Z M' H') ∧ E cls fs M'
structure Rm (k : Nat) (A : Around) : Prop where
  room : Room k A
  gd : A.guards = some []
theorem Rm.mono {j k : Nat} {A : Around} (r : Rm k A) (h : j ≤ k) : Rm j A := ⟨r.room.mono h, r.gd⟩
structure FnG (P : Program) (w : World) (K : PySem.W.Frag) (mg : Str → Option Value) (base : Heap) (k : Nat) (f : Addr) (fd : FuncData) (ps : List Str) (sp : DSp) : Prop where
  len : ∀ ds M Q E, sp ds M Q E → ds.length = ps.length
  run : ∀ (A : Around) (outer : List Env) (s : Shared) (H Z : Hp) (M : Mh) (args : Args) (us : List Value) (vs : List V) (ds : List D) (Q : QD) (E : DXK), Rm k A → Env0 P w K mg base A outer s H → BindsTo s fd args (ps.zip us) → Vals vs us →
    HR K Z M H → RepL K (out Z M H) vs ds → sp ds M Q E → codeAny (model P w) A (.call (.ref f) args) (CR (L2.CX P w) outer P w H s (RQ K Z (out Z M H) Q) (XQ K Z (out Z M H) E)) s
theorem FnG.mono {P : Program} {w : World} {K : PySem.W.Frag} {mg : Str → Option Value} {base : Heap} {j k : Nat} {f : Addr} {fd : FuncData} {ps : List Str} {sp : DSp} (F : FnG P w K mg base j f fd ps sp) (h : j ≤ k) : FnG P w K mg base k f fd ps sp :=
  ⟨F.len, fun A outer s H Z M args us vs ds Q E hr => F.run A outer s H Z M args us vs ds Q E (hr.mono h)⟩
theorem FnG.imp {P : Program} {w : World} {K : PySem.W.Frag} {mg : Str → Option Value} {base : Heap} {k : Nat} {f : Addr} {fd : FuncData} {ps : List Str} {sp sp' : DSp} (F : FnG P w K mg base k f fd ps sp) (h : ∀ ds M Q E, sp' ds M Q E → sp ds M Q E) : FnG P w K mg base k f fd ps sp' :=
  ⟨fun ds M Q E q => F.len ds M Q E (h _ _ _ _ q), fun A outer s H Z M args us vs ds Q E hr he hb hv hh rp hs => F.run A outer s H Z M args us vs ds Q E hr he hb hv hh rp (h _ _ _ _ hs)⟩

structure Bd (K : PySem.W.Frag) (fd : FuncData) (ps : List Str) (n : Nat) (ks : List Str) (gD : List D → List D → List D) : Prop where
  to : ∀ (s : Shared) (us ws : List Value) (vs zs : List V) (ds es : List D) (F : Hp), K.In s.heap → us.length = n → ws.length = ks.length → Vals vs us → Vals zs ws → RepL K F vs ds → RepL K F zs es →
    ∃ full fullV, BindsTo s fd ⟨us, ks.zip ws⟩ (ps.zip full) ∧ Vals fullV full ∧ RepL K F fullV (gD ds es)

def RetQ (Q : QD) : QD := fun d M => ∃ M', Less M' M ∧ (Q d M' ∨ ∃ p ds, d = .ref p ∧ M p = some (.lst ds) ∧ M' p = none ∧ Q (.lst ds) M')
def XLess (E : DXK) : DXK := fun cls fs M => ∃ M', Less M' M ∧ E cls fs M'
theorem XLess.here {E : DXK} {cls : Value} {fs : List (Str × D)} {M : Mh} (h : E cls fs M) : XLess E cls fs M := ⟨M, Less.refl, h⟩
theorem ExF.mono {K : PySem.W.Frag} {F F' : Hp} {dx : Option Addr} {fs : List (Str × D)} (s : Same F F') (h : ExF K F dx fs) : ExF K F' dx fs := h.imp id fun ⟨d, fv, a, b, c⟩ => ⟨d, fv, a, s _ _ b, c.mono s⟩
theorem less_mset {M : Mh} {p : Addr} {o : MO} (h : M p = none) : Less M (mset M p o) := fun a => by
  by_cases e : a = p
  · subst e; exact .inr h
  · rw [mset_ne e]; exact .inl rfl
theorem RetQ.here {Q : QD} {d : D} {M : Mh} (h : Q d M) : RetQ Q d M := ⟨M, Less.refl, .inl h⟩
theorem RetQ.lst {Q : QD} {p : Addr} {ds : List D} {M : Mh} (hp : M p = none) (h : Q (.lst ds) M) : RetQ Q (.ref p) (mset M p (.lst ds)) := ⟨M, less_mset hp, .inr ⟨p, ds, rfl, mset_same, hp, h⟩⟩
theorem Bd.all {K : PySem.W.Frag} {x qual : Str} {params : Arguments} {body : List Stmt} {scope : Scope} {f : Addr} {fd : FuncData} {ps : List Str} {dvs : List V} {kws : List (Str × V)} {n : Nat} (F : FunD K x qual params body scope dvs kws f fd) (hd : dvs = []) (hn : n = ps.length)
    (h : ∀ (kV doc pm : Value) (an : Option Addr) (cdv ct : Value) (us : List Value), us.length = ps.length → bindArgs (PySem.W.fnOf x qual params body scope .none kV doc pm an cdv ct) ⟨us, []⟩ = pure (ps.zip us)) : Bd K fd ps n [] (fun ds _ => ds) := by
  obtain ⟨oc, od, dV, kV, doc, pm, an, cdv, ct, osl, rfl, lk, hcd, hD, hK⟩ := F.ex
  rcases hD with ⟨_, rfl⟩ | ⟨e, _⟩
  · refine ⟨fun s us ws vs zs ds es Fr X l1 l2 rv rz rp rpz => ⟨us, vs, ?_, rv, rp⟩⟩
    cases rz with
    | nil => exact .of_eq (h kV doc pm an cdv ct us (l1.trans hn))
    | cons _ _ => simp at l2
  · exact absurd hd e
end DL

set_option maxHeartbeats 2000000
namespace DL
open PySem PySem.Spec PyProof.Rows L2

section
variable {X : Cx} {W : DWX}
theorem DCall.imp {f : Value} {o o' : DRL} (h : DCall X W f o) (k : ∀ ds M Q, o' ds M Q → o ds M Q) : DCall X W f o' :=
  fun pins s st H Z r M xs vs ds Q I q rx ra ho => h pins s st H Z r M xs vs ds Q I q rx ra (k _ _ _ ho)
end

end DL

set_option maxHeartbeats 2000000
namespace DL
open PySem PySem.Spec PyProof.Rows L2

abbrev DRM := D → List D → Mh → QD → Prop
def DMt (X : Cx) (W : DWX) (id : String) (o : DRM) : Prop :=
  ∀ (pins : List (Addr × Obj)) (s : Shared) (st : Sg) (H Z : Hp) (r : Rho) (M : Mh) (x : V) (xs : List V) (v : Value) (vs : List Value) (d : D) (ds : List D) (Q : QD), Inv X pins st H s → SR (kx X W) Z r M st H → RelV x v → Vals xs vs → Rep X.K (out Z M H) x d → RepL X.K (out Z M H) xs ds → o d ds M Q →
    wpAny (model X.prog X.w) X.A (call (.builtin id) (v :: vs)) (EP X pins st (EQ (kx X W) Z st r (out Z M H) Q)) X.xe s
section
variable {X : Cx} {W : DWX}
theorem DMt.of {id : String} {r0 : V → List V → Hp → VK → Prop} {o : DRM} (h : MtR X id r0)
    (k : ∀ (st : Sg) (H Z : Hp) (r : Rho) (M : Mh) (x : V) (xs : List V) (d : D) (ds : List D) (Q : QD), SR (kx X W) Z r M st H → Rep X.K (out Z M H) x d → RepL X.K (out Z M H) xs ds → o d ds M Q → r0 x xs H (EQ (kx X W) Z st r (out Z M H) Q)) : DMt X W id o :=
  fun pins s st H Z r M x xs v vs d ds Q I q rx rxs ra rb ho => h pins s st H x xs v vs _ I rx rxs (k st H Z r M x xs d ds Q q ra rb ho)
theorem DMt.or {id : String} {o o' : DRM} (h : DMt X W id o) (h' : DMt X W id o') : DMt X W id (fun d ds M Q => o d ds M Q ∨ o' d ds M Q) :=
  fun pins s st H Z r M x xs v vs d ds Q I q rx rxs ra rb ho => ho.elim (h pins s st H Z r M x xs v vs d ds Q I q rx rxs ra rb) (h' pins s st H Z r M x xs v vs d ds Q I q rx rxs ra rb)
end
end DL

set_option maxHeartbeats 2000000
namespace DL
open PySem PySem.Spec PyProof.Rows L2

structure ICls (K : PySem.W.Frag) (C : Addr) : Prop where
  pg : PySem.W.plainGet K C Str.empty = true
  ic : PySem.W.isClsIn K C = true
theorem ICls.get {K : PySem.W.Frag} {C : Addr} (c : ICls K C) (f : Str) : PySem.W.plainGet K C f = true := c.pg

end DL

set_option maxHeartbeats 2000000

set_option maxHeartbeats 2000000
namespace DL
open PySem PySem.Spec PyProof.Rows L2

section
variable {K : PySem.W.Frag} {F : Hp}
theorem RepK.any {k : Key} : ∀ {v : List (Key × V)} {d : List (Key × D)}, RepK K F v d → (v.any fun kv => decide (kv.1 = k)) = (d.any fun kv => decide (kv.1 = k))
  | _, _, .nil => rfl
  | _, _, .cons h r => by rw [List.any_cons, List.any_cons, RepK.any r]
theorem RepK.length : ∀ {v : List (Key × V)} {d : List (Key × D)}, RepK K F v d → v.length = d.length
  | _, _, .nil => rfl
  | _, _, .cons _ r => congrArg (· + 1) (RepK.length r)
end
end DL

set_option maxHeartbeats 2000000
namespace DL
open PySem PySem.Spec PyProof.Rows L2

def PoolOk (i j k : Int) : Prop := 0 ≤ i ∧ i < 2147483648 ∧ 0 ≤ j ∧ 0 ≤ k
theorem hr_swap {K : PySem.W.Frag} {Z : Hp} {M : Mh} {H : Hp} {p : Addr} {o u : MO} (m : HR K Z M H) (e : M p = some o) (h : MoR K (out Z M H) H p u) : HR K Z (mset M p u) H ∧ out Z (mset M p u) H = out Z M H := by
  have eo : out Z (mset M p u) H = out Z M H := out_mset m (fun _ _ => rfl) (.inr (by rw [e]; exact fun z => nomatch z))
  exact ⟨m.mset (fun _ _ => rfl) (.inr (by rw [e]; exact fun z => nomatch z)) h, eo⟩
theorem pool_open {K : PySem.W.Frag} {Z : Hp} {M : Mh} {H : Hp} {p : Addr} (m : HR K Z M H) (e : M p = some .pool) :
    ∃ i j k, PoolOk i j k ∧ HR K Z (mset M p (.lst [.int i, .int j, .int k])) H ∧ out Z (mset M p (.lst [.int i, .int j, .int k])) H = out Z M H := by
  obtain ⟨i, j, k, e1, h1, h2, h3, h4⟩ := m.mem _ _ e
  exact ⟨i, j, k, ⟨h1, h2, h3, h4⟩, hr_swap m e ⟨_, e1, .cons (.int i) (.cons (.int j) (.cons (.int k) .nil))⟩⟩
theorem pool_shut {K : PySem.W.Frag} {Z : Hp} {M : Mh} {H : Hp} {p : Addr} {i j k : Int} (m : HR K Z (mset M p (.lst [.int i, .int j, .int k])) H) (h : PoolOk i j k) :
    HR K Z (mset M p .pool) H ∧ out Z (mset M p .pool) H = out Z (mset M p (.lst [.int i, .int j, .int k])) H := by
  obtain ⟨xs, e1, e2⟩ := m.mem p _ mset_same
  have ex : xs = [.int i, .int j, .int k] := by
    cases e2 with
    | cons a b => cases a; cases b with
      | cons a b => cases a; cases b with
        | cons a b => cases a; cases b; rfl
  subst ex
  have q := hr_swap m mset_same (u := .pool) ⟨i, j, k, e1, h⟩
  rw [mset_mset] at q
  exact q
def OpenP (sp : DSp) : DSp := fun ds M Q E => ∃ p ds', ds = .ref p :: ds' ∧ M p = some .pool ∧ ∀ i j k, PoolOk i j k →
  sp ds (mset M p (.lst [.int i, .int j, .int k])) (fun d M' => ∃ i' j' k', PoolOk i' j' k' ∧ M' = mset M p (.lst [.int i', .int j', .int k']) ∧ Q d M) (fun _ _ _ => False)
theorem rq_imp {K : PySem.W.Frag} {Z F : Hp} {Q Q' : QD} {v : V} {H : Hp} (k : ∀ d M, HR K Z M H → Rep K (out Z M H) v d → Q d M → ∃ d' M', HR K Z M' H ∧ Rep K (out Z M' H) v d' ∧ Same (out Z M H) (out Z M' H) ∧ Q' d' M') (h : RQ K Z F Q v H) : RQ K Z F Q' v H := by
  obtain ⟨d, M, m, rp, sm, h⟩ := h
  obtain ⟨d', M', m', rp', sm', h'⟩ := k d M m rp h
  exact ⟨d', M', m', rp', sm.trans sm', h'⟩
theorem cr_imp {P : Program} {w : World} {outer : List Env} {H : Hp} {s : Shared} {Q Q' : VK} {E E' : XK} {z : Result} {s' : Shared} (k : ∀ v H', Q v H' → Q' v H') (ke : ∀ c d H', E c d H' → E' c d H') (h : CR (L2.CX P w) outer P w H s Q E z s') : CR (L2.CX P w) outer P w H s Q' E' z s' := by
  cases z with
  | error e =>
    obtain ⟨a, B, H', c, d, x1, x2, x3, x4, x5, x6, x7, x8⟩ := h
    exact ⟨a, B, H', c, d, x1, x2, x3, x4, x5, x6, x7, ke _ _ _ x8⟩
  | ok fl =>
    cases fl with
    | ret u =>
      obtain ⟨v, H', a, b, c, d, e, q⟩ := h
      exact ⟨v, H', a, b, c, d, e, k _ _ q⟩
    | next => exact h
    | brk => exact h
    | cont => exact h
theorem fng_pool {P : Program} {w : World} {K : PySem.W.Frag} {mg : Str → Option Value} {base : Heap} {k : Nat} {f : Addr} {fd : FuncData} {ps : List Str} {sp : DSp} (F : FnG P w K mg base k f fd ps sp) : FnG P w K mg base k f fd ps (OpenP sp) where
  len := fun ds M Q E ⟨p, ds', e, em, h⟩ => F.len _ _ _ _ (h 0 0 0 ⟨Int.le_refl _, by decide, Int.le_refl _, Int.le_refl _⟩)
  run := fun A outer s H Z M args us vs ds Q E hr e0 hb rv hh rp ⟨p, ds', ed, em, h⟩ => by
    obtain ⟨i, j, k, po, m1, eo⟩ := pool_open hh em
    have r := F.run A outer s H Z _ args us vs ds _ _ hr e0 hb rv m1 (by rw [eo]; exact rp) (h i j k po)
    refine codeAny_mono r fun z s' q => cr_imp (fun v H' q => ?_) (fun c d H' q => ?_) q
    · rw [eo] at q
      refine rq_imp (fun d M' m' rp' hq => ?_) q
      obtain ⟨i', j', k', po', eM, hQ⟩ := hq
      subst eM
      obtain ⟨m2, eo2⟩ := pool_shut m' po'
      rw [mset_id em] at m2 eo2
      exact ⟨d, M, m2, by rw [eo2]; exact rp', by rw [eo2]; exact Same.refl _, hQ⟩
    · obtain ⟨_, _, _, _, _, z⟩ := q
      exact z.elim
structure TabsOk (K : PySem.W.Frag) (h : Heap) : Prop where
  at_ : ∀ x ∈ tabK K, h.get? x.2.1 = some { cls := .none, data := .fields #[] }
  no : ∀ x ∈ tabK K, K.lookup x.2.1 = none
  code : ∀ x ∈ tabK K, PySem.W.CodeHd h x.1 x.2.1
  uq : ∀ x ∈ tabK K, ∀ y ∈ tabK K, x.2.1 = y.2.1 → x.2.2 = y.2.2
theorem TabsOk.none {K : PySem.W.Frag} {h : Heap} (e : tabK K = []) : TabsOk K h := by
  refine ⟨?_, ?_, ?_, ?_⟩ <;> rw [e] <;> intro x hx <;> cases hx
end DL

set_option maxHeartbeats 2000000
namespace DL
open PySem PySem.Spec PyProof.Rows L2 He

abbrev Fc := PySem.W.Frag → Bool
def obsF (fa : List Fc) (fn : List He5.DefA) (K : PySem.W.Frag) : AlD := ((fa.all fun f => f K) && fn.all fun d => d.ok K, fn.map fun d => He5.fnA K (d.at_ K))
def valF (fn : List He5.DefA) : AlD := (true, fn.map He5.DefA.val)
def SaysF (fa : List Fc) (fn : List He5.DefA) (K : PySem.W.Frag) : Prop := obsF fa fn K = valF fn
def seenB (m a : Nat) : Bool := Nat.testBit m a
def addB : Nat → List Addr → List Addr → Nat × List Addr
  | m, [], acc => (m, acc)
  | m, a :: as, acc => match seenB m a with
    | true => addB m as acc
    | false => addB (m ||| (1 <<< a)) as (a :: acc)
def growB (g : Addr → Option Obj) : Nat → Nat → List Addr → List Addr → List Addr
  | 0, _, _, acc => acc
  | n + 1, m, fr, acc => match addB m (fr.flatMap fun a => match g a with
      | some o => refsD o
      | none => []) [] with
    | (m', new) => growB g n m' new (acc ++ new)
def asB (g : Addr → Option Obj) (n : Nat) : List Addr := growB g n (1 <<< mainGlobals) [mainGlobals] [mainGlobals]
def asF (g : Addr → Option Obj) (n : Nat) : List Addr := asB g n ++ [cStatics, sysModules]
def obsFG (n : Nat) (fa : List Fc) (fn : List He5.DefA) (g : Addr → Option Obj) : AlD := obsF fa fn (frG g (asF g n))
def hookF (n : Nat) (fa : List Fc) (fn : List He5.DefA) : PySem.W.Hook where
  α := AlD
  obs := fun s => obsFG n fa fn s.heap.get?
  val := fun _ => valF fn
  says := fun _ h => ∃ K : PySem.W.Frag, K.In h ∧ SaysF fa fn K
  of := fun _ _ e => ⟨_, frG_in, e⟩
  keeps := fun _ _ _ ⟨K, hK, c⟩ k => ⟨K, hK.keeps k, c⟩
def isT {α : Type} [DecidableEq α] (a b : α) : Bool := decide (a = b)
section
variable {K : PySem.W.Frag} {x f m : Str} {i : Nat}
def bIcls (x : Str) : Fc := fun K => PySem.W.plainGet K (ga K x) Str.empty && PySem.W.isClsIn K (ga K x)
def pgA (K : PySem.W.Frag) (C : Addr) (f : Str) : Addr := match PySem.W.recIn K (ma K C f) "property" with
  | some (.ref g :: _) => g
  | _ => 0
def bProp (x f : Str) : Fc := fun K => bIcls x K && (isT (PySem.W.findIn K (.ref (ga K x)) f) (some (some (.ref (ma K (ga K x) f)))) && (isT (PySem.W.specialIn K (.ref (ma K (ga K x) f)) "__get__") (some (some (.builtin "property.__get__"))) &&
  (isT (PySem.W.takesIn K (.ref (ma K (ga K x) f))) (some true) && (match PySem.W.recIn K (ma K (ga K x) f) "property" with
    | some (.ref _ :: _) => true
    | _ => false))))
def bScls (x : Str) : Fc := fun K => PySem.W.plainGet K (ga K x) Str.empty && (PySem.W.isClsIn K (ga K x) && (PySem.W.plainOver K (ga K x) && isT (PySem.W.findIn K (.ref (ga K x)) "__setattr__") (some (some (.builtin "object.__setattr__")))))
def bSlot (x f : Str) (i : Nat) : Fc := fun K => isT (PySem.W.findIn K (.ref (ga K x)) f) (some (some (.ref (ma K (ga K x) f)))) && (isT (PySem.W.specialIn K (.ref (ma K (ga K x) f)) "__get__") (some (some (.builtin "member_descriptor.__get__"))) &&
  (isT (PySem.W.takesIn K (.ref (ma K (ga K x) f))) (some true) && (isT (PySem.W.typeIn K (.ref (ma K (ga K x) f))) (some (.type "member_descriptor")) && (isT (PySem.W.slotIn K (ma K (ga K x) f) (ga K x)) (some i) && decide (i < 1000)))))
def bIsi (x : Str) : Fc := fun K => PySem.W.isClsIn K (ga K x) && (PySem.W.plainGet K (ga K x) "__class__" && (isT (PySem.W.findIn K (.ref (ga K x)) "__class__") (some (some (.builtin "object.__class__"))) && isT (PySem.W.mroIn K (ga K x) (.type "object")) (some true)))
def bKitT (T : String) (x : Str) (b : Bool) : Fc := fun K => isT (PySem.W.kitOne K (.type T) (.ref (ga K x))) (some b)
def bKitC (x y : Str) (b : Bool) : Fc := fun K => isT (PySem.W.kitOne K (.ref (ga K x)) (.ref (ga K y))) (some b)
def bKitX (x : Str) (T : String) (b : Bool) : Fc := fun K => isT (PySem.W.kitOne K (.ref (ga K x)) (.type T)) (some b)
def oexB (K : PySem.W.Frag) (C : Addr) : Bool := match K.lookup C with
  | some ⟨.type "type", _, .cls cd, sl⟩ => (match cd.mro, sl.toList with
    | .ref C' :: bm, [_, _, _, _, some (.builtin n), _] => decide (C' = C) && (decide (n = "ValueError.__new__") && (!cd.hasDel && (cd.hasDict && PySem.HandSPX.refsVE bm)))
    | _, _ => false)
  | _ => false
def bExc (x f : Str) : Fc := fun K => oexB K (ga K x) && (isT (PySem.W.findIn K (.ref (ga K x)) "__setattr__") (some (some (.builtin "object.__setattr__"))) && (isT (PySem.W.subIn K (.ref (ga K x)) (.type "BaseException")) (some true) &&
  (isT (PySem.W.typeIn K (.ref (ga K x))) (some (.type "type")) && (PySem.W.keepIn K (.ref (ga K x)) && (isT (PySem.W.findIn K (.ref (ga K x)) "__init__") (some (some (.ref (ma K (ga K x) "__init__")))) && (isT (PySem.W.typeIn K (.ref (ma K (ga K x) "__init__"))) (some (.type "function")) &&
  (isT (PySem.W.findIn K (.ref (ga K x)) f) (some none) && xfB K (ga K x))))))))
def bTup (x : Str) (vs : List Dv) : Fc := fun K => He.tupB K x vs
def bNoT : Fc := fun K => (tabK K).isEmpty
def bSys : Fc := fun K => (K.lookup sysModules).isSome
end
end DL

set_option maxHeartbeats 2000000
namespace DL
open PySem PySem.Spec PyProof.Rows L2

def OkF (P : Program) (w : World) (K : PySem.W.Frag) (mg : Str → Option Value) (base : Heap) (k : Nat) (d : He5.DefA) (ps : List Str) (sp : DSp) : Prop :=
  ∃ fd, FunD K d.name d.qual d.params d.body d.scope (d.dvs K) (d.kws K) (d.at_ K) fd ∧ FnG P w K mg base k (d.at_ K) fd ps sp ∧ Bd K fd ps ps.length [] (fun ds _ => ds)
theorem OkF.imp {P : Program} {w : World} {K : PySem.W.Frag} {mg : Str → Option Value} {base : Heap} {k : Nat} {d : He5.DefA} {ps : List Str} {sp sp' : DSp} (F : OkF P w K mg base k d ps sp) (h : ∀ ds M Q E, sp' ds M Q E → sp ds M Q E) : OkF P w K mg base k d ps sp' := by
  obtain ⟨fd, a, b, c⟩ := F
  exact ⟨fd, a, b.imp h, c⟩
theorem OkF.pool {P : Program} {w : World} {K : PySem.W.Frag} {mg : Str → Option Value} {base : Heap} {k : Nat} {d : He5.DefA} {ps : List Str} {sp : DSp} (F : OkF P w K mg base k d ps sp) : OkF P w K mg base k d ps (OpenP sp) := by
  obtain ⟨fd, a, b, c⟩ := F
  exact ⟨fd, a, fng_pool b, c⟩
def inS (s : Stmt) (j : Nat) : Stmt := match s with
  | .ClassDef _ _ _ b _ _ _ _ _ _ _ => b.getD j (.Pass ⟨0, 0, 0, 0⟩)
  | _ => .Pass ⟨0, 0, 0, 0⟩
end DL

namespace DL
open PySem PySem.Spec PyProof.Rows L2 He
def bOwn (x m : Str) : Fc := fun K => isT (PySem.W.findIn K (.ref (ga K x)) m) (some (some (.ref (ma K (ga K x) m)))) && PySem.W.isFn K (.ref (ma K (ga K x) m))
def bEqS (x : Str) : Fc := fun K => bOwn x "__eq__" K && (isT (PySem.W.findIn K (.ref (ga K x)) "__ne__") (some (some (.builtin "object.__ne__"))) && isT (PySem.W.mroIn K (ga K x) (.type "object")) (some true))
def bNf (x y : Str) : Fc := fun K => PySem.W.notFirst K (ga K x) (.ref (ga K y))
def bTru (x : Str) : Fc := fun K => isT (PySem.W.findIn K (.ref (ga K x)) "__bool__") (some none) && isT (PySem.W.findIn K (.ref (ga K x)) "__len__") (some none)
def bNoK (x : Str) : Fc := fun K => ["NoneType", "bool", "int", "str", "tuple", "list", "dict"].all fun T => isT (PySem.W.subIn K (.ref (ga K x)) (.type T)) (some false)
end DL
--FRONT
set_option maxHeartbeats 4000000
namespace DL.FR
open DL PySem PySem.Spec PyProof.Rows L2
def topS (i : Nat) : Stmt := PySem.Challenge.pw_overhours_k03_days_and_rules_made.main.body.getD i (.Pass ⟨0, 0, 0, 0⟩)
abbrev d_InvalidName_init : He5.DefA := ⟨fun K => He.ma K (He.ga K "InvalidName") "__init__", "__init__", "InvalidName.__init__", defArgs (inS (topS 2) 0), defBody (inS (topS 2) 0), defScope (inS (topS 2) 0), [], []⟩
abbrev d_InvalidMost_init : He5.DefA := ⟨fun K => He.ma K (He.ga K "InvalidMost") "__init__", "__init__", "InvalidMost.__init__", defArgs (inS (topS 3) 0), defBody (inS (topS 3) 0), defScope (inS (topS 3) 0), [], []⟩
abbrev d_InvalidKind_init : He5.DefA := ⟨fun K => He.ma K (He.ga K "InvalidKind") "__init__", "__init__", "InvalidKind.__init__", defArgs (inS (topS 4) 0), defBody (inS (topS 4) 0), defScope (inS (topS 4) 0), [], []⟩
abbrev d_InvalidNumber_init : He5.DefA := ⟨fun K => He.ma K (He.ga K "InvalidNumber") "__init__", "__init__", "InvalidNumber.__init__", defArgs (inS (topS 5) 0), defBody (inS (topS 5) 0), defScope (inS (topS 5) 0), [], []⟩
abbrev d_InvalidRate_init : He5.DefA := ⟨fun K => He.ma K (He.ga K "InvalidRate") "__init__", "__init__", "InvalidRate.__init__", defArgs (inS (topS 6) 0), defBody (inS (topS 6) 0), defScope (inS (topS 6) 0), [], []⟩
abbrev d_is_integer : He5.DefA := ⟨fun K => He.ga K "is_integer", "is_integer", "is_integer", defArgs (topS 10), defBody (topS 10), defScope (topS 10), [], []⟩
abbrev d_is_count : He5.DefA := ⟨fun K => He.ga K "is_count", "is_count", "is_count", defArgs (topS 11), defBody (topS 11), defScope (topS 11), [], []⟩
abbrev d_is_name : He5.DefA := ⟨fun K => He.ga K "is_name", "is_name", "is_name", defArgs (topS 12), defBody (topS 12), defScope (topS 12), [], []⟩
abbrev d_Day_init : He5.DefA := ⟨fun K => He.ma K (He.ga K "Day") "__init__", "__init__", "Day.__init__", defArgs (inS (topS 15) 1), defBody (inS (topS 15) 1), defScope (inS (topS 15) 1), [.non], []⟩
abbrev d_Day_name : He5.DefA := ⟨fun K => pgA K (He.ga K "Day") "name", "name", "Day.name", defArgs (inS (topS 15) 2), defBody (inS (topS 15) 2), defScope (inS (topS 15) 2), [], []⟩
abbrev d_Day_most : He5.DefA := ⟨fun K => pgA K (He.ga K "Day") "most", "most", "Day.most", defArgs (inS (topS 15) 3), defBody (inS (topS 15) 3), defScope (inS (topS 15) 3), [], []⟩
abbrev d_Day_eq : He5.DefA := ⟨fun K => He.ma K (He.ga K "Day") "__eq__", "__eq__", "Day.__eq__", defArgs (inS (topS 15) 4), defBody (inS (topS 15) 4), defScope (inS (topS 15) 4), [], []⟩
abbrev d_Rule_init : He5.DefA := ⟨fun K => He.ma K (He.ga K "Rule") "__init__", "__init__", "Rule.__init__", defArgs (inS (topS 16) 1), defBody (inS (topS 16) 1), defScope (inS (topS 16) 1), [], []⟩
abbrev d_Rule_first : He5.DefA := ⟨fun K => pgA K (He.ga K "Rule") "first", "first", "Rule.first", defArgs (inS (topS 16) 2), defBody (inS (topS 16) 2), defScope (inS (topS 16) 2), [], []⟩
abbrev d_Rule_last : He5.DefA := ⟨fun K => pgA K (He.ga K "Rule") "last", "last", "Rule.last", defArgs (inS (topS 16) 3), defBody (inS (topS 16) 3), defScope (inS (topS 16) 3), [], []⟩
abbrev d_Rule_kind : He5.DefA := ⟨fun K => pgA K (He.ga K "Rule") "kind", "kind", "Rule.kind", defArgs (inS (topS 16) 4), defBody (inS (topS 16) 4), defScope (inS (topS 16) 4), [], []⟩
abbrev d_Rule_number : He5.DefA := ⟨fun K => pgA K (He.ga K "Rule") "number", "number", "Rule.number", defArgs (inS (topS 16) 5), defBody (inS (topS 16) 5), defScope (inS (topS 16) 5), [], []⟩
abbrev d_Rule_rate : He5.DefA := ⟨fun K => pgA K (He.ga K "Rule") "rate", "rate", "Rule.rate", defArgs (inS (topS 16) 6), defBody (inS (topS 16) 6), defScope (inS (topS 16) 6), [], []⟩
abbrev d_Rule_eq : He5.DefA := ⟨fun K => He.ma K (He.ga K "Rule") "__eq__", "__eq__", "Rule.__eq__", defArgs (inS (topS 16) 7), defBody (inS (topS 16) 7), defScope (inS (topS 16) 7), [], []⟩
abbrev d_l_cell : He5.DefA := ⟨fun K => He.ga K "_law_cell", "_law_cell", "_law_cell", defArgs (topS 18), defBody (topS 18), defScope (topS 18), [], []⟩
abbrev d_l_pool : He5.DefA := ⟨fun K => He.ga K "_law_pool", "_law_pool", "_law_pool", defArgs (topS 19), defBody (topS 19), defScope (topS 19), [], []⟩
abbrev d_l_draw : He5.DefA := ⟨fun K => He.ga K "_law_draw", "_law_draw", "_law_draw", defArgs (topS 20), defBody (topS 20), defScope (topS 20), [], []⟩
abbrev d_l_pick : He5.DefA := ⟨fun K => He.ga K "_law_pick", "_law_pick", "_law_pick", defArgs (topS 21), defBody (topS 21), defScope (topS 21), [], []⟩
abbrev d_l_tag : He5.DefA := ⟨fun K => He.ga K "_law_tag", "_law_tag", "_law_tag", defArgs (topS 22), defBody (topS 22), defScope (topS 22), [], []⟩
abbrev d_l_tags : He5.DefA := ⟨fun K => He.ga K "_law_tags", "_law_tags", "_law_tags", defArgs (topS 23), defBody (topS 23), defScope (topS 23), [], []⟩
abbrev d_l_styles : He5.DefA := ⟨fun K => He.ga K "_law_styles", "_law_styles", "_law_styles", defArgs (topS 24), defBody (topS 24), defScope (topS 24), [], []⟩
abbrev d_l_bar : He5.DefA := ⟨fun K => He.ga K "_law_bar", "_law_bar", "_law_bar", defArgs (topS 25), defBody (topS 25), defScope (topS 25), [], []⟩
abbrev d_l_fee : He5.DefA := ⟨fun K => He.ga K "_law_fee", "_law_fee", "_law_fee", defArgs (topS 26), defBody (topS 26), defScope (topS 26), [], []⟩
abbrev d_l_top : He5.DefA := ⟨fun K => He.ga K "_law_top", "_law_top", "_law_top", defArgs (topS 27), defBody (topS 27), defScope (topS 27), [], []⟩
abbrev d_l_row : He5.DefA := ⟨fun K => He.ga K "_law_row", "_law_row", "_law_row", defArgs (topS 28), defBody (topS 28), defScope (topS 28), [], []⟩
abbrev d_l_made_rule : He5.DefA := ⟨fun K => He.ga K "_law_made_rule", "_law_made_rule", "_law_made_rule", defArgs (topS 29), defBody (topS 29), defScope (topS 29), [], []⟩
abbrev d_l_made_day : He5.DefA := ⟨fun K => He.ga K "_law_made_day", "_law_made_day", "_law_made_day", defArgs (topS 30), defBody (topS 30), defScope (topS 30), [], []⟩
abbrev d_l_shown : He5.DefA := ⟨fun K => He.ga K "_law_shown", "_law_shown", "_law_shown", defArgs (topS 31), defBody (topS 31), defScope (topS 31), [], []⟩
abbrev d_l_mixed_row : He5.DefA := ⟨fun K => He.ga K "_law_mixed_row", "_law_mixed_row", "_law_mixed_row", defArgs (topS 32), defBody (topS 32), defScope (topS 32), [], []⟩
abbrev d_l_rules_right : He5.DefA := ⟨fun K => He.ga K "_law_rules_right", "_law_rules_right", "_law_rules_right", defArgs (topS 33), defBody (topS 33), defScope (topS 33), [], []⟩
abbrev d_l_days_right : He5.DefA := ⟨fun K => He.ga K "_law_days_right", "_law_days_right", "_law_days_right", defArgs (topS 34), defBody (topS 34), defScope (topS 34), [], []⟩
abbrev d_l_right : He5.DefA := ⟨fun K => He.ga K "_law_right", "_law_right", "_law_right", defArgs (topS 35), defBody (topS 35), defScope (topS 35), [], []⟩
abbrev d_law : He5.DefA := ⟨fun K => He.ga K "law", "law", "law", defArgs (topS 36), defBody (topS 36), defScope (topS 36), [], []⟩
def fn : List He5.DefA := [d_InvalidName_init, d_InvalidMost_init, d_InvalidKind_init, d_InvalidNumber_init, d_InvalidRate_init, d_is_integer, d_is_count, d_is_name, d_Day_init, d_Day_name, d_Day_most, d_Day_eq, d_Rule_init, d_Rule_first, d_Rule_last, d_Rule_kind, d_Rule_number, d_Rule_rate, d_Rule_eq, d_l_cell, d_l_pool, d_l_draw, d_l_pick, d_l_tag, d_l_tags, d_l_styles, d_l_bar, d_l_fee, d_l_top, d_l_row, d_l_made_rule, d_l_made_day, d_l_shown, d_l_mixed_row, d_l_rules_right, d_l_days_right, d_l_right, d_law]
def fa : List Fc := [
  fun K => (He.Fa.free "bool").ok K,
  fun K => (He.Fa.free "isinstance").ok K,
  fun K => (He.Fa.free "int").ok K,
  fun K => (He.Fa.glo "is_integer").ok K,
  fun K => (He.Fa.str "LETTERS" "abcdefghijklmnopqrstuvwxyz").ok K,
  fun K => (He.Fa.free "len").ok K,
  fun K => (He.Fa.free "str").ok K,
  fun K => (He.Fa.str "DIGITS" "0123456789").ok K,
  fun K => (He.Fa.free "all").ok K,
  fun K => (He.Fa.glo "is_name").ok K,
  fun K => (He.Fa.glo "InvalidName").ok K,
  fun K => (He.Fa.glo "is_count").ok K,
  fun K => (He.Fa.glo "InvalidMost").ok K,
  bScls "Day",
  bSlot "Day" "shape" 0,
  fun K => (He.Fa.glo "Day").ok K,
  fun K => (He.Fa.glo "KINDS").ok K,
  bTup "KINDS" [.str "beyond", .str "upto", .str "reach"],
  fun K => (He.Fa.glo "InvalidKind").ok K,
  fun K => (He.Fa.glo "InvalidNumber").ok K,
  fun K => (He.Fa.glo "InvalidRate").ok K,
  bScls "Rule",
  bSlot "Rule" "shape" 0,
  fun K => (He.Fa.glo "Rule").ok K,
  fun K => (He.Fa.free "abs").ok K,
  fun K => (He.Fa.free "divmod").ok K,
  fun K => (He.Fa.glo "_law_draw").ok K,
  fun K => (He.Fa.glo "_law_pick").ok K,
  fun K => (He.Fa.free "range").ok K,
  fun K => (He.Fa.glo "_law_tag").ok K,
  fun K => (He.Fa.glo "_law_styles").ok K,
  fun K => (He.Fa.glo "_law_fee").ok K,
  fun K => (He.Fa.glo "_law_bar").ok K,
  fun K => (He.Fa.mkr "Rule").ok K,
  fun K => (He.Fa.mkr "Day").ok K,
  bProp "Rule" "rate",
  bProp "Rule" "number",
  bProp "Rule" "kind",
  bProp "Rule" "last",
  bProp "Rule" "first",
  fun K => (He.Fa.glo "_law_row").ok K,
  fun K => (He.Fa.glo "_law_tags").ok K,
  fun K => (He.Fa.glo "_law_mixed_row").ok K,
  fun K => (He.Fa.glo "_law_made_rule").ok K,
  bSys,
  fun K => (He.Fa.glo "_law_shown").ok K,
  fun K => (He.Fa.free "repr").ok K,
  bEqS "Rule",
  fun K => (He.Fa.free "list").ok K,
  bTru "Rule",
  bEqS "Day",
  bNoK "Rule",
  fun K => (He.Fa.glo "_law_top").ok K,
  fun K => (He.Fa.glo "_law_made_day").ok K,
  bProp "Day" "most",
  bProp "Day" "name",
  bTru "Day",
  bNoK "Day",
  fun K => (He.Fa.glo "_law_rules_right").ok K,
  fun K => (He.Fa.glo "_law_days_right").ok K,
  bIsi "Day",
  bIsi "Rule",
  bKitT "NoneType" "Day" false,
  bKitT "bool" "Day" false,
  bKitT "int" "Day" false,
  bKitT "str" "Day" false,
  bKitT "tuple" "Day" false,
  bKitT "list" "Day" false,
  bKitT "dict" "Day" false,
  bKitC "Day" "Day" true,
  bKitC "Rule" "Day" false,
  bKitT "NoneType" "Rule" false,
  bKitT "bool" "Rule" false,
  bKitT "int" "Rule" false,
  bKitT "str" "Rule" false,
  bKitT "tuple" "Rule" false,
  bKitT "list" "Rule" false,
  bKitT "dict" "Rule" false,
  bKitC "Day" "Rule" false,
  bKitC "Rule" "Rule" true,
  bKitX "Day" "int" false,
  bKitX "Day" "bool" false,
  bKitX "Day" "str" false,
  bKitX "Day" "tuple" false,
  bKitX "Rule" "int" false,
  bKitX "Rule" "bool" false,
  bKitX "Rule" "str" false,
  bKitX "Rule" "tuple" false,
  bNf "Rule" "Day",
  bNf "Rule" "Rule",
  bNf "Day" "Day",
  bNf "Day" "Rule",
  fun K => (He.Fa.glo "law").ok K,
  bNoT,
  bExc "InvalidName" "given",
  bExc "InvalidMost" "given",
  bExc "InvalidKind" "given",
  bExc "InvalidNumber" "given",
  bExc "InvalidRate" "given",
  fun K => (He.Fa.free "max").ok K,
  fun K => (He.Fa.free "min").ok K,
  fun K => (He.Fa.glo "_law_right").ok K,
  fun K => (He.Fa.glo "_law_pool").ok K,
  fun K => (He.Fa.glo "_law_cell").ok K]
def names0 : List PySem.Str := [PySem.Str.ofString "WrongValue", PySem.Str.ofString "InvalidName", PySem.Str.ofString "InvalidMost", PySem.Str.ofString "InvalidKind", PySem.Str.ofString "InvalidNumber", PySem.Str.ofString "InvalidRate", PySem.Str.ofString "DIGITS", PySem.Str.ofString "LETTERS", PySem.Str.ofString "is_integer", PySem.Str.ofString "is_count", PySem.Str.ofString "is_name", PySem.Str.ofString "KINDS", PySem.Str.ofString "Day", PySem.Str.ofString "Rule", PySem.Str.ofString "_law_cell", PySem.Str.ofString "_law_pool", PySem.Str.ofString "_law_draw", PySem.Str.ofString "_law_pick", PySem.Str.ofString "_law_tag", PySem.Str.ofString "_law_tags", PySem.Str.ofString "_law_styles", PySem.Str.ofString "_law_bar", PySem.Str.ofString "_law_fee", PySem.Str.ofString "_law_top", PySem.Str.ofString "_law_row", PySem.Str.ofString "_law_made_rule", PySem.Str.ofString "_law_made_day", PySem.Str.ofString "_law_shown", PySem.Str.ofString "_law_mixed_row", PySem.Str.ofString "_law_rules_right", PySem.Str.ofString "_law_days_right", PySem.Str.ofString "_law_right"]
def names : List PySem.Str := names0
abbrev RO : PySem.W.OpenRow := PySem.W.OpenLaw.row PySem.Challenge.rw_overhours_k03_days_and_rules_made
abbrev hk : PySem.W.Hook := hookF 6 fa fn
def ob (s : PySem.W.SharedT) : He.AlD := obsFG 6 fa fn (HandSHeadRun.getT s)
theorem run (w : World) : HandSHeadRun.RunEq RO (PySem.W.view RO.prog [36]) hk ob 20000 names w := by
  intro os
  kernel_rfl

end DL.FR
namespace DL
open PySem PySem.Spec PyProof.Rows L2

def mdel (M : Mh) (a : Addr) : Mh := fun b => if b = a then none else M b
theorem mdel_same {M : Mh} {a : Addr} : mdel M a a = none := if_pos rfl
theorem mdel_ne {M : Mh} {a b : Addr} (h : b ≠ a) : mdel M a b = M b := if_neg h
theorem mdel_mset {M : Mh} {a : Addr} {o : MO} (h : M a = none) : mdel (mset M a o) a = M := by
  funext b
  unfold mdel mset
  split
  · subst b; exact h.symm
  · rfl
theorem out_hid {Z : Hp} {M : Mh} {H : Hp} {a : Addr} {o : HO} (h : Z a = some o) : out Z M H a = none := by unfold out; rw [h]
theorem out_at {Z : Hp} {M : Mh} {H : Hp} {a : Addr} {o : HO} (h : out Z M H a = some o) : Z a = none ∧ M a = none ∧ H a = some o := by
  cases z : Z a with
  | some u => rw [out_hid z] at h; cases h
  | none =>
    cases e : M a with
    | none => rw [out_none z e] at h; exact ⟨rfl, rfl, h⟩
    | some u => rw [out_some e] at h; cases h
theorem out_sub (Z : Hp) (M : Mh) (H : Hp) : Same (out Z M H) H := fun a o h => (out_at h).2.2

section
variable {K : PySem.W.Frag} {F F' : Hp}
theorem RepL.append : ∀ {v w : List V} {d e : List D}, RepL K F v d → RepL K F w e → RepL K F (v ++ w) (d ++ e)
  | _, _, _, _, .nil, s => s
  | _, _, _, _, .cons h r, s => .cons h (RepL.append r s)
theorem RepL.getV : ∀ {v : List V} {d : List D} {i : Nat} {y : V}, RepL K F v d → v[i]? = some y → ∃ x, d[i]? = some x ∧ Rep K F y x
  | _, _, _, _, .nil, e => by simp at e
  | _, _, 0, _, .cons h r, e => by simp at e; subst e; exact ⟨_, rfl, h⟩
  | _, _, i + 1, _, .cons h r, e => by
    obtain ⟨y, e1, e2⟩ := RepL.getV (i := i) r (by simpa using e)
    exact ⟨y, by simpa using e1, e2⟩
theorem RepL.set {x : D} {y : V} (h : Rep K F y x) : ∀ {v : List V} {d : List D} (i : Nat), RepL K F v d → RepL K F (v.set i y) (d.set i x)
  | _, _, _, .nil => .nil
  | _, _, 0, .cons _ r => .cons h r
  | _, _, i + 1, .cons q r => .cons q (RepL.set h i r)
theorem RepL.take : ∀ {v : List V} {d : List D} (n : Nat), RepL K F v d → RepL K F (v.take n) (d.take n)
  | _, _, 0, _ => .nil
  | _, _, _ + 1, .nil => .nil
  | _, _, n + 1, .cons h r => .cons h (RepL.take n r)
theorem RepL.drop : ∀ {v : List V} {d : List D} (n : Nat), RepL K F v d → RepL K F (v.drop n) (d.drop n)
  | _, _, 0, h => h
  | _, _, _ + 1, .nil => .nil
  | _, _, n + 1, .cons h r => RepL.drop n r
end

section
variable {K : PySem.W.Frag} {k : Kt} {F F' Z : Hp} {M M' : Mh} {H H' : Hp} {r : List (Option D)} {st : Sg} {p : Addr} {o : HO} {mo : MO}
theorem HR.hidL (m : HR K Z M H) (e : Z p = Option.some o) (nt : ∀ ps, o ≠ .tbl ps := by nofun) : H p = Option.some o := (m.hid p o e).1.at_ nt
theorem TbOk.hide (t : TbOk K Z H) (m : ∀ a o, Z a = Option.some o → HidAt F H a o) (h : ∀ b, b ≠ p → H' b = H b) (n : ∀ ps, H p ≠ Option.some (.tbl ps)) (nt : ∀ ps, H' p ≠ Option.some (.tbl ps)) (no : ∀ φ, o ≠ .ext φ) : TbOk K (L2.upd Z p o) H' := ⟨(t.upd h nt).tin, fun x hx => by
  obtain ⟨ps, e⟩ := t.there m hx
  have ne : x.2.1 ≠ p := fun z => n ps (by rw [← z]; exact e)
  rw [upd_ne ne]
  exact t.tab x hx, fun a φ e => by
  by_cases ha : a = p
  · subst ha; rw [upd_same] at e; exact no φ (Option.some.inj e)
  · rw [upd_ne ha] at e; exact t.zx a φ e⟩
theorem TbOk.show_ (t : TbOk K (L2.upd Z p o) H) (hz : Z p = none) (nt : ∀ ps, o ≠ .tbl ps) : TbOk K Z H := ⟨t.tin, fun x hx => by
  have e := t.tab x hx
  have ne : x.2.1 ≠ p := fun z => by
    rw [z, upd_same] at e
    exact nt _ (Option.some.inj e)
  rw [upd_ne ne] at e
  exact e, fun a φ e => by
  have ne : a ≠ p := fun z => by rw [z, hz] at e; cases e
  exact t.zx a φ (by rw [upd_ne ne]; exact e)⟩
theorem Less.same (l : Less M' M) : Same (out Z M H) (out Z M' H) := fun a o e => by
  obtain ⟨z1, z2, z3⟩ := out_at e
  rw [out_none z1]
  · exact z3
  · rcases l a with z | z
    · exact z.trans z2
    · exact z
theorem HR.less (m : HR K Z M H) (l : Less M' M) : HR K Z M' H where
  mem := fun a u e => by
    have e' : M a = some u := by
      rcases l a with z | z
      · rw [← z]; exact e
      · rw [z] at e; cases e
    exact (m.mem a u e').mono l.same (fun _ _ k _ => k)
  hid := fun a u e => by
    obtain ⟨z1, z2, z3⟩ := m.hid a u e
    refine ⟨z1.mono l.same fun _ z => z, ?_, z3⟩
    rcases l a with z | z
    · exact z.trans z2
    · exact z
  tb := m.tb
theorem SR.less (s : SR k Z r M st H) (l : Less M' M) : SR k Z r M' st H := s.step (s.hr.less l) l.same
theorem less_del : Less (mdel M p) M := fun a => by
  unfold mdel
  split
  · exact .inr rfl
  · exact .inl rfl
theorem SR.set (s : SR k Z r M st H) {v : V} {d : D} (h : Rep k.K (out Z M H) v d) (i : Nat) : SR k Z (r.set i (some d)) M (st.set i (some v)) H where
  len := by rw [List.length_set, List.length_set, s.len]
  hr := s.hr
  tk := s.tk
  sl := fun j e z => by
    by_cases hj : i = j
    · subst hj
      rw [List.getElem?_set] at z
      split at z
      · split at z
        · cases z
          refine ⟨v, ?_, h⟩
          rw [List.getElem?_set]
          rename_i _ hl
          rw [if_pos rfl, if_pos (by rw [← s.len]; exact hl)]
        · cases z
      · rename_i n; exact absurd rfl n
    · rw [List.getElem?_set_ne hj] at z
      obtain ⟨y, h1, h2⟩ := s.sl j e z
      exact ⟨y, by rw [List.getElem?_set_ne hj]; exact h1, h2⟩
theorem HR.hide (m : HR K Z M H) (h : H p = none) (ho : ∀ x, o ≠ .own x) (hw : ∀ φ, o ≠ .ext φ := by nofun) (nt : ∀ ps, o ≠ .tbl ps := by nofun) : HR K (upd Z p o) M (upd H p o) ∧ out (upd Z p o) M (upd H p o) = out Z M H := by
  have eo : out (upd Z p o) M (upd H p o) = out Z M H := by
    funext b
    by_cases hb : b = p
    · subst hb
      rw [out_hid upd_same, out_free h]
    · unfold out
      rw [upd_ne hb, upd_ne hb]
  refine ⟨⟨fun a u e => ?_, fun a u e => ?_, m.tb.hide (fun a o z => (m.hid a o z).1) (fun b hb => upd_ne hb) (fun ps z => by rw [h] at z; cases z) (fun ps z => by rw [upd_same] at z; exact nt ps (Option.some.inj z)) hw⟩, eo⟩
  · rw [eo]
    exact (m.mem a u e).mono (Same.refl _) fun b w z _ => by rw [upd_ne (ne_of_none z h)]; exact z
  · by_cases ha : a = p
    · subst ha
      rw [upd_same] at e
      cases e
      exact ⟨.of upd_same nt, (m.fresh h).1, ho⟩
    · rw [upd_ne ha] at e
      obtain ⟨z1, z2, z3⟩ := m.hid a u e
      exact ⟨z1.mono (by rw [eo]; exact Same.refl _) fun w z => by rw [upd_ne ha]; exact z, z2, z3⟩
theorem HR.rehide {o' : HO} (m : HR K (upd Z p o) M H) (ho : ∀ x, o' ≠ .own x) (hw : ∀ φ, o' ≠ .ext φ := by nofun) (nt : ∀ ps, o' ≠ .tbl ps := by nofun) (nt0 : ∀ ps, o ≠ .tbl ps := by nofun) : HR K (upd Z p o') M (upd H p o') ∧ out (upd Z p o') M (upd H p o') = out (upd Z p o) M H := by
  have eo : out (upd Z p o') M (upd H p o') = out (upd Z p o) M H := by
    funext b
    by_cases hb : b = p
    · subst hb
      rw [out_hid upd_same, out_hid upd_same]
    · unfold out
      rw [upd_ne hb, upd_ne hb, upd_ne hb]
  have hp := m.hid p o upd_same
  have hpa := hp.1.at_ nt0
  refine ⟨⟨fun a u e => ?_, fun a u e => ?_, ?_⟩, eo⟩
  · rw [eo]
    refine (m.mem a u e).mono (Same.refl _) fun b w z hb => ?_
    have nb : b ≠ p := by
      rintro rfl
      rcases hb with rfl | rfl
      · rw [hp.2.1] at e; cases e
      · rw [hpa] at z; exact hp.2.2 _ (Option.some.inj z)
    rw [upd_ne nb]; exact z
  · by_cases ha : a = p
    · subst ha
      rw [upd_same] at e
      cases e
      exact ⟨.of upd_same nt, hp.2.1, ho⟩
    · rw [upd_ne ha] at e
      obtain ⟨z1, z2, z3⟩ := m.hid a u (by rw [upd_ne ha]; exact e)
      exact ⟨z1.mono (by rw [eo]; exact Same.refl _) fun w z => by rw [upd_ne ha]; exact z, z2, z3⟩
  · have q := m.tb.hide (p := p) (o := o') (H' := L2.upd H p o') (fun a o z => (m.hid a o z).1) (fun b hb => upd_ne hb) (fun ps z => by rw [hpa] at z; exact nt0 ps (Option.some.inj z)) (fun ps z => by rw [upd_same] at z; exact nt ps (Option.some.inj z)) hw
    rw [upd_upd] at q
    exact q
theorem HR.show_ (m : HR K (upd Z p o) M H) (hz : Z p = none) (nt : ∀ ps, o ≠ .tbl ps := by nofun) : HR K Z M H ∧ Same (out (upd Z p o) M H) (out Z M H) ∧ out Z M H p = Option.some o := by
  have hp := m.hid p o upd_same
  have sm : Same (out (upd Z p o) M H) (out Z M H) := fun a u e => by
    obtain ⟨z1, z2, z3⟩ := out_at e
    have ha : a ≠ p := by
      rintro rfl
      rw [upd_same] at z1; cases z1
    rw [upd_ne ha] at z1
    rw [out_none z1 z2]; exact z3
  refine ⟨⟨fun a u e => (m.mem a u e).mono sm fun _ _ z _ => z, fun a u e => ?_, m.tb.show_ hz nt⟩, sm, by rw [out_none hz hp.2.1]; exact hp.1.at_ nt⟩
  have ha : a ≠ p := by
    rintro rfl
    rw [hz] at e; cases e
  obtain ⟨z1, z2, z3⟩ := m.hid a u (by rw [upd_ne ha]; exact e)
  exact ⟨z1.mono sm fun _ z => z, z2, z3⟩
end

abbrev WN : DWX := fun _ _ _ _ => False
def liftE (k : Kt) (t : DTE) : TE := fun st H Q => ∃ Z r M DQ, SR k Z r M st H ∧ t r M DQ ∧ ∀ v H', EQ k Z st r (out Z M H) DQ v H' → Q v H'
def liftT (k : Kt) (t : DTT) : TT := fun st H Q => ∃ Z r M DQ, SR k Z r M st H ∧ t r M DQ ∧ ∀ v H', TQ k Z st r (out Z M H) DQ v H' → Q v H'
def liftA (k : Kt) (t : DTA) : TA := fun st H Q => ∃ Z r M DQ, SR k Z r M st H ∧ t r M DQ ∧ ∀ v H', AQ k Z st r (out Z M H) DQ v H' → Q v H'
section
variable {X : Cx} {W : DWX} {e : Expr} {es : List Expr} {c : Stmt} {cs : List Stmt}
theorem DE.pe {t : DTE} (h : DE X W e t) : PE X e (liftE (kx X W) t) := ⟨fun pins s st H Q I ⟨Z, r, M, DQ, q, ht, k⟩ =>
  thn (h.run pins s st H Z r M DQ I q ht) fun _ _ ⟨v, H', I', rv, z⟩ => ⟨v, H', I', rv, k v H' z⟩⟩
theorem DT.pt {t : DTT} (h : DT X W e t) : PT X e (liftT (kx X W) t) := ⟨fun pins s st H Q I ⟨Z, r, M, DQ, q, ht, k⟩ =>
  thn (h.run pins s st H Z r M DQ I q ht) fun _ _ ⟨H', I', z⟩ => ⟨H', I', k _ H' z⟩⟩
theorem DW.pw {t : DTT} (h : DW X W e t) : PW X e (liftT (kx X W) t) := ⟨fun wh pins s st H Q I ⟨Z, r, M, DQ, q, ht, k⟩ =>
  thn (h.run wh pins s st H Z r M DQ I q ht) fun _ _ ⟨H', I', z⟩ => ⟨H', I', k _ H' z⟩⟩
theorem DW.dt {t : DTT} (h : DW X W e t) : DT X W e t := ⟨h.run _⟩
theorem DA.pa {t : DTA} (h : DA X W es t) : PA X es (liftA (kx X W) t) := ⟨fun pos pins s st H Q I ⟨Z, r, M, DQ, q, ht, k⟩ =>
  thn (h.run pos pins s st H Z r M DQ I q ht) fun _ _ ⟨v, H', I', rv, z⟩ => ⟨v, H', I', rv, k v H' z⟩⟩
theorem DSs.pss {t : DTS} (h : DSs X W cs t) : PSs X cs (liftS (kx X W) t) := ⟨fun pins s st H E I ⟨Z, r, M, D, q, ht, k1, k2, k3, k4⟩ =>
  thn (h.run pins s st H Z r M D I q ht) fun _ _ z => sp_imp k1 k2 k3 k4 z⟩
end
end DL

set_option maxHeartbeats 2000000
namespace DL
open PySem PySem.Spec PyProof.Rows L2

section
variable {K : PySem.W.Frag} {k : Kt} {F F' Z : Hp} {M M' : Mh} {H H' : Hp} {r : Rho} {st : Sg} {Q : QD} {v : V} {d : D} {p : Addr}
theorem repL_new {o : HO} {xs : List V} {ds : List D} (hp : H p = none) (h : RepL K (out Z M H) xs ds) : RepL K (upd (out Z M H) p o) xs ds := h.mono (same_upd (out_free hp))
theorem EQ.newLst {xs : List V} {ds : List D} (q : SR k Z r M st H) (hp : H p = none) (h : RepL k.K (out Z M H) xs ds) (z : Q (.lst ds) M) : EQ k Z st r (out Z M H) Q (.ref p) (upd H p (.lst xs)) :=
  EQ.new q hp (.lst upd_same (repL_new hp h)) z
theorem EQ.newTup {xs : List V} {ds : List D} (q : SR k Z r M st H) (hp : H p = none) (h : RepL k.K (out Z M H) xs ds) (z : Q (.tup ds) M) : EQ k Z st r (out Z M H) Q (.ref p) (upd H p (.tup xs)) :=
  EQ.new q hp (.tup (.inl (.inl upd_same)) (repL_new hp h)) z
end

theorem hr_lockK {K : PySem.W.Frag} {Z : Hp} {M : Mh} {H : Hp} {p : Addr} {od : Obj} {xs : List (Key × V)} {kvs : List (Key × D)} (m : HR K Z M H) (e : M p = some (.dic kvs)) (h : H p = some (.dK xs)) (rk : RepK K (out Z M H) xs kvs) :
    HR K Z (mdel M p) (upd H p (.frz od (.dK xs))) ∧ Same (out Z M H) (out Z (mdel M p) (upd H p (.frz od (.dK xs)))) ∧ Rep K (out Z (mdel M p) (upd H p (.frz od (.dK xs)))) (.ref p) (.dic kvs) := by
  have z : Z p = none := by
    cases q : Z p with
    | none => rfl
    | some u => have := (m.hid p u q).2.1; rw [e] at this; cases this
  have sm : Same (out Z M H) (out Z (mdel M p) (upd H p (.frz od (.dK xs)))) := fun b o q => by
    obtain ⟨z1, z2, z3⟩ := out_at q
    have hb : b ≠ p := fun w => by rw [w, e] at z2; cases z2
    rw [out_none z1 (by rw [mdel_ne hb]; exact z2), upd_ne hb]
    exact z3
  refine ⟨⟨fun a u q => ?_, fun a u q => ?_, m.tb.upd (p := p) (fun b hb => upd_ne hb) fun ps z => by rw [upd_same] at z; cases z⟩, sm, .dic (od := od) (xs := xs) (by rw [out_none z mdel_same, upd_same]) (rk.mono sm)⟩
  · have ha : a ≠ p := fun w => by rw [w, mdel_same] at q; cases q
    rw [mdel_ne ha] at q
    refine (m.mem a u q).mono sm fun b w hb hc => ?_
    have hbp : b ≠ p := by
      rcases hc with rfl | rfl
      · exact ha
      · rintro rfl
        rw [h] at hb; cases hb
    rw [upd_ne hbp]
    exact hb
  · obtain ⟨z1, z2, z3⟩ := m.hid a u q
    have ha : a ≠ p := fun w => by rw [w, z] at q; cases q
    exact ⟨z1.mono sm fun w y => by rw [upd_ne ha]; exact y, by rw [mdel_ne ha]; exact z2, z3⟩
def dVar (i : Nat) : DTE := fun r M Q => match r[i]? with
  | some (some d) => Q d M
  | _ => False
def dC (d : D) : DTE := fun _ M Q => Q d M
section
variable {X : Cx} {W : DWX} {pos : Pos}
theorem de_var {i : Nat} {x : Str} (hN : X.N[i]? = some x) (hv : Vis X.env.scope x) (hd : (x == ("__debug__" : Str)) = false := by decide) (hcd : (x == ("__classdict__" : Str)) = false := by decide) : DE X W (.Name x pos) (dVar i) :=
  DE.of (pe_var hN hv hd hcd) fun st H Z r M Q q h => by
    unfold dVar at h
    split at h
    · rename_i d e
      obtain ⟨v, e1, rv⟩ := q.sl i d e
      exact ⟨v, e1, EQ.val q rv h⟩
    · exact h.elim
theorem dv (i : Nat) {x : Str} (hN : X.N[i]? = some x := by rfl) (hv : Vis X.env.scope x := by first | exact Or.inl rfl | exact Or.inr (Or.inl rfl) | exact Or.inr (Or.inr rfl)) (hd : (x == ("__debug__" : Str)) = false := by decide)
    (hcd : (x == ("__classdict__" : Str)) = false := by decide) : DE X W (.Name x pos) (dVar i) := de_var hN hv hd hcd
theorem de_int {i j} : DE X W (.Constant (.int i) j pos) (dC (.int i)) := DE.of pe_int fun st H Z r M Q q h => EQ.val q (.int i) h
theorem de_bl {b j} : DE X W (.Constant (.bool b) j pos) (dC (.bl b)) := DE.of pe_bl fun st H Z r M Q q h => EQ.val q (.bl b) h
theorem de_non {j} : DE X W (.Constant .none j pos) (dC .non) := DE.of pe_non fun st H Z r M Q q h => EQ.val q .non h
theorem de_str {x j} : DE X W (.Constant (.str x) j pos) (dC (.str x)) := DE.of pe_str fun st H Z r M Q q h => EQ.val q (.str x) h
theorem de_glob {x : Str} {a : Addr} (hg : Gl X x) (hm : X.mg x = some (.ref a)) (hd : (x == ("__debug__" : Str)) = false := by decide) : DE X W (.Name x pos) (dC (.ref a)) :=
  DE.of (pe_glob (v := .ref a) hg hm rfl hd) fun st H Z r M Q q h => EQ.val q (.ref a) h
theorem de_globS {x z : Str} {t : Tok} (hg : Gl X x) (hm : X.mg x = some (.str z t)) (hd : (x == ("__debug__" : Str)) = false := by decide) : DE X W (.Name x pos) (dC (.str z)) :=
  DE.of (pe_glob (v := .str z) hg hm ⟨t, rfl⟩ hd) fun st H Z r M Q q h => EQ.val q (.str z) h
theorem de_globT {x : Str} {a : Addr} {vs : List V} {ds : List D} (hg : Gl X x) (hm : X.mg x = some (.ref a)) (ht : ∀ H, SqT X.K H a vs) (hr : ∀ F, RepL X.K F vs ds) (hd : (x == ("__debug__" : Str)) = false := by decide) : DE X W (.Name x pos) (dC (.tup ds)) :=
  DE.of (pe_glob (v := .ref a) hg hm rfl hd) fun st H Z r M Q q h => EQ.val q (.tup (ht _) (hr _)) h
theorem de_type {x : Str} {n : String} (hg : Gl X x) (hm : X.mg x = none) (hv : bootBuiltins x = some (.type n)) (hn : x ≠ "__name__" := by decide) (hd : (x == ("__debug__" : Str)) = false := by decide) : DE X W (.Name x pos) (dC (.ty n)) :=
  DE.of (pe_bltn (v := .ty n) hg hm hv rfl hn hd) fun st H Z r M Q q h => EQ.val q (.ty n) h
end

section
variable {X : Cx} {W : DWX} {pos : Pos} {a b c : Expr} {ta tb tc : DTE}
def dOp (o : DR2) (ta tb : DTE) : DTE := fun r M Q => ta r M fun x M1 => tb r M1 fun y M2 => o x y M2 Q
def dUn (o : DR1) (ta : DTE) : DTE := fun r M Q => ta r M fun x M1 => o x M1 Q
theorem two (ha : DE X W a ta) (hb : DE X W b tb) {f : Value → Value → Sem Value} {o : DR2} (ho : DOp X W f o) {pins : List (Addr × Obj)} {s : Shared} {st : Sg} {H Z : Hp} {r : Rho} {M : Mh} {Q : QD} (I : Inv X pins st H s) (q : SR (kx X W) Z r M st H) (h : dOp o ta tb r M Q) :
    wpAny (model X.prog X.w) X.A (eval a X.env) (fun v s1 => wpAny (model X.prog X.w) X.A (eval b X.env) (fun u s2 => wpAny (model X.prog X.w) X.A (f v u) (EP X pins st (EQ (kx X W) Z st r (out Z M H) Q)) X.xe s2) X.xe s1) X.xe s := by
  refine thn (ha.run pins s st H Z r M _ I q h) fun v s1 ⟨x, H1, I1, rx, dx, M1, q1, rpx, sm1, h1⟩ => ?_
  refine thn (hb.run pins s1 st H1 Z r M1 _ I1 q1 h1) fun u s2 ⟨y, H2, I2, ry, dy, M2, q2, rpy, sm2, h2⟩ => ?_
  refine thn (ho pins s2 st H2 Z r M2 x y v u dx dy Q I2 q2 rx ry (rpx.mono sm2) rpy h2) fun w s3 ⟨z, H3, I3, rz, e⟩ => ⟨z, H3, I3, rz, e.mono (sm1.trans sm2)⟩
theorem de_op {op : Operator} {o : DR2} (ho : DOp X W (binaryOp op) o) (ha : DE X W a ta) (hb : DE X W b tb) : DE X W (.BinOp a op b pos) (dOp o ta tb) :=
  ⟨fun pins s st H Z r M Q I q h => wpAny_BinOp (two ha hb ho I q h)⟩
theorem de_un {op : UnaryOp} {o : DR1} (ho : DUn X W (unaryOp op) o) (ha : DE X W a ta) : DE X W (.UnaryOp op a pos) (dUn o ta) :=
  ⟨fun pins s st H Z r M Q I q h => UnaryOp_ (thn (ha.run pins s st H Z r M _ I q h) fun v s1 ⟨x, H1, I1, rx, dx, M1, q1, rpx, sm1, h1⟩ =>
    thn (ho pins s1 st H1 Z r M1 x v dx Q I1 q1 rx rpx h1) fun w s2 ⟨z, H2, I2, rz, e⟩ => ⟨z, H2, I2, rz, e.mono sm1⟩)⟩
theorem de_cmp {op : CmpOp} {o : DR2} (ho : DOp X W (compareOp op) o) (ha : DE X W a ta) (hb : DE X W b tb) (hm : behindInMarks op b = false) : DE X W (.Compare a [op] [b] pos) (dOp o ta tb) :=
  ⟨fun pins s st H Z r M Q I q h => wpAny_Compare1 (two ha hb ho I q h) hm⟩
def dB (t : DTE) : DTT := fun r M Q => t r M fun x M1 => match x with
  | .bl k => Q k M1
  | _ => False
theorem dB_liftQ {k : Kt} {Z F : Hp} {st : Sg} {r : Rho} {Q : Bool → Mh → Prop} {v : V} {H : Hp} (h : EQ k Z st r F (fun x M1 => match x with | .bl k => Q k M1 | _ => False) v H) : ∃ b, v = .bl b ∧ TQ k Z st r F Q b H := by
  obtain ⟨d, M', q, rp, sm, h⟩ := h
  cases rp with
  | bl k => exact ⟨k, rfl, M', q, sm, h⟩
  | _ => exact h.elim
theorem dt_val {e : Expr} {t : DTE} (h : DE X W e t) (he : ∀ whole, isTrue e X.env whole = (do let v ← whole; standAt e.pos; holding [v] (truthy v)) := by intro _; rfl) : DT X W e (dB t) :=
  DT.of (pt_val h.pe he) fun st H Z r M Q q ht => ⟨Z, r, M, _, q, ht, fun v H' e => dB_liftQ e⟩
theorem dt_cmp {op : CmpOp} {o : DR2} (ho : DOp X W (compareOp op) o) (ha : DE X W a ta) (hb : DE X W b tb) (hm : behindInMarks op b = false) : DT X W (.Compare a [op] [b] pos) (dB (dOp o ta tb)) :=
  ⟨fun pins s st H Z r M Q I q h => wpAny_isTrue_Compare1 (thn (two ha hb ho I q h) fun v s1 h1 => thn h1 fun u s2 h2 => thn h2 fun w s3 ⟨z, H3, I3, rz, e⟩ => by
    obtain ⟨k, rfl, e2⟩ := dB_liftQ e
    cases rz
    exact wpAny_truthy_bool ⟨H3, I3, e2⟩) hm⟩
end

def dAnd (t u : DTT) : DTT := fun r M Q => t r M fun c M1 => if c = true then u r M1 Q else Q false M1
def dOr (t u : DTT) : DTT := fun r M Q => t r M fun c M1 => if c = true then Q true M1 else u r M1 Q
def dNot (t : DTT) : DTT := fun r M Q => t r M fun c M1 => Q (!c) M1
def dAndV (ta tb : DTE) : DTE := fun r M Q => ta r M fun x M1 => match x with
  | .bl c => if c = true then tb r M1 Q else Q (.bl false) M1
  | _ => False
def dOrV (ta tb : DTE) : DTE := fun r M Q => ta r M fun x M1 => match x with
  | .bl c => if c = true then Q (.bl true) M1 else tb r M1 Q
  | _ => False
def dNotV (ta : DTE) : DTE := fun r M Q => ta r M fun x M1 => match x with
  | .bl c => Q (.bl (!c)) M1
  | _ => False
def dIf (t : DTT) (ta tb : DTE) : DTE := fun r M Q => t r M fun c M1 => if c = true then ta r M1 Q else tb r M1 Q
section
variable {X : Cx} {W : DWX} {pos : Pos} {a b c : Expr} {rest : List Expr} {ta tb : DTE} {tA tB : DTT}
theorem dw_and1 (ha : DT X W a tA) : DW X W (.BoolOp .And [a] pos) tA := DW.of (pw_and1 ha.pt) fun st H Z r M Q q h => ⟨Z, r, M, Q, q, h, fun _ _ e => e⟩
theorem dw_or1 (ha : DT X W a tA) : DW X W (.BoolOp .Or [a] pos) tA := DW.of (pw_or1 ha.pt) fun st H Z r M Q q h => ⟨Z, r, M, Q, q, h, fun _ _ e => e⟩
theorem dw_and (ha : DT X W a tA) (hb : DW X W (.BoolOp .And (b :: rest) pos) tB) : DW X W (.BoolOp .And (a :: b :: rest) pos) (dAnd tA tB) :=
  DW.of (pw_and ha.pt hb.pw) fun st H Z r M Q q h => ⟨Z, r, M, _, q, h, fun k H1 ⟨M1, q1, sm, e⟩ => by
    cases k with
    | true => exact ⟨Z, r, M1, Q, q1, e, fun k H2 z => z.mono sm⟩
    | false => exact ⟨M1, q1, sm, e⟩⟩
theorem dw_or (ha : DT X W a tA) (hb : DW X W (.BoolOp .Or (b :: rest) pos) tB) : DW X W (.BoolOp .Or (a :: b :: rest) pos) (dOr tA tB) :=
  DW.of (pw_or ha.pt hb.pw) fun st H Z r M Q q h => ⟨Z, r, M, _, q, h, fun k H1 ⟨M1, q1, sm, e⟩ => by
    cases k with
    | false => exact ⟨Z, r, M1, Q, q1, e, fun k H2 z => z.mono sm⟩
    | true => exact ⟨M1, q1, sm, e⟩⟩
theorem dt_not (ha : DT X W a tA) : DT X W (.UnaryOp .Not a pos) (dNot tA) :=
  DT.of (pt_not ha.pt) fun st H Z r M Q q h => ⟨Z, r, M, _, q, h, fun k H1 ⟨M1, q1, sm, e⟩ => ⟨M1, q1, sm, e⟩⟩
theorem de_one {op} {t : DTE} (h : DE X W a t) : DE X W (.BoolOp op [a] pos) t := DE.of (pe_one h.pe) fun st H Z r M Q q h => ⟨Z, r, M, Q, q, h, fun _ _ e => e⟩
theorem de_and (ha : DE X W a ta) (hb : DE X W (.BoolOp .And (b :: rest) pos) tb) : DE X W (.BoolOp .And (a :: b :: rest) pos) (dAndV ta tb) :=
  DE.of (pe_and ha.pe hb.pe) fun st H Z r M Q q h => ⟨Z, r, M, _, q, h, fun v H1 ⟨d, M1, q1, rp, sm, e⟩ => by
    cases rp with
    | bl c =>
      refine ⟨c, rfl, ?_⟩
      cases c with
      | true => exact ⟨Z, r, M1, Q, q1, e, fun k H2 z => z.mono sm⟩
      | false => exact ⟨_, M1, q1, .bl _, sm, e⟩
    | _ => exact e.elim⟩
theorem de_or (ha : DE X W a ta) (hb : DE X W (.BoolOp .Or (b :: rest) pos) tb) : DE X W (.BoolOp .Or (a :: b :: rest) pos) (dOrV ta tb) :=
  DE.of (pe_or ha.pe hb.pe) fun st H Z r M Q q h => ⟨Z, r, M, _, q, h, fun v H1 ⟨d, M1, q1, rp, sm, e⟩ => by
    cases rp with
    | bl c =>
      refine ⟨c, rfl, ?_⟩
      cases c with
      | false => exact ⟨Z, r, M1, Q, q1, e, fun k H2 z => z.mono sm⟩
      | true => exact ⟨_, M1, q1, .bl _, sm, e⟩
    | _ => exact e.elim⟩
theorem de_not (ha : DE X W a ta) : DE X W (.UnaryOp .Not a pos) (dNotV ta) :=
  DE.of (pe_not ha.pe) fun st H Z r M Q q h => ⟨Z, r, M, _, q, h, fun v H1 ⟨d, M1, q1, rp, sm, e⟩ => by
    cases rp with
    | bl c => exact ⟨c, rfl, _, M1, q1, .bl _, sm, e⟩
    | _ => exact e.elim⟩
theorem de_if (hc : DT X W c tA) (ha : DE X W a ta) (hb : DE X W b tb) : DE X W (.IfExp c a b pos) (dIf tA ta tb) :=
  DE.of (pe_ifExp hc.pt ha.pe hb.pe) fun st H Z r M Q q h => ⟨Z, r, M, _, q, h, fun k H1 ⟨M1, q1, sm, e⟩ => by
    cases k with
    | true => exact ⟨Z, r, M1, Q, q1, e, fun k H2 z => z.mono sm⟩
    | false => exact ⟨Z, r, M1, Q, q1, e, fun k H2 z => z.mono sm⟩⟩
end

def dNil : DTA := fun _ M Q => Q [] M
def dCons (ta : DTE) (tr : DTA) : DTA := fun r M Q => ta r M fun x M1 => tr r M1 fun xs M2 => Q (x :: xs) M2
def dTup (t : DTA) : DTE := fun r M Q => t r M fun xs M1 => xs.length ≤ sizeLine ∧ Q (.tup xs) M1
def dLst (t : DTA) : DTE := fun r M Q => t r M fun xs M1 => xs.length ≤ sizeLine ∧ Q (.lst xs) M1
def dLstM (t : DTA) : DTE := fun r M Q => t r M fun xs M1 => xs.length ≤ sizeLine ∧ ∀ p, M1 p = none → Q (.ref p) (mset M1 p (.lst xs))
section
variable {X : Cx} {W : DWX} {pos : Pos} {e : Expr} {es : List Expr} {te : DTE} {t : DTA}
theorem da_nil : DA X W [] dNil := DA.of pa_nil fun st H Z r M Q q h => ⟨[], M, q, .nil, Same.refl _, h⟩
theorem da_cons (ha : DE X W e te) (hr : DA X W es t) (hs : starEach (e :: es) X.env = (false, eval e X.env) :: starEach es X.env := by rfl) : DA X W (e :: es) (dCons te t) :=
  DA.of (pa_cons ha.pe hr.pa hs) fun st H Z r M Q q h => ⟨Z, r, M, _, q, h, fun v H1 ⟨d, M1, q1, rp, sm, e⟩ => ⟨Z, r, M1, _, q1, e, fun vs H2 ⟨ds, M2, q2, rps, sm2, e2⟩ => ⟨d :: ds, M2, q2, .cons (rp.mono sm2) rps, sm.trans sm2, e2⟩⟩⟩
theorem de_tup {x1} (h : DA X W es t) : DE X W (.Tuple es x1 pos) (dTup t) :=
  DE.of (pe_tup h.pa) fun st H Z r M Q q ht => ⟨Z, r, M, _, q, ht, fun vs H1 ⟨ds, M1, q1, rps, sm, hl, e⟩ => ⟨by rw [rps.length]; exact hl, fun p hp => (EQ.newTup q1 hp rps e).mono sm⟩⟩
theorem de_lst (h : DA X W es t) : DE X W (.List es pos) (dLst t) :=
  DE.of (pe_lst h.pa) fun st H Z r M Q q ht => ⟨Z, r, M, _, q, ht, fun vs H1 ⟨ds, M1, q1, rps, sm, hl, e⟩ => ⟨by rw [rps.length]; exact hl, fun p hp => (EQ.newLst q1 hp rps e).mono sm⟩⟩
theorem de_lstM (h : DA X W es t) : DE X W (.List es pos) (dLstM t) :=
  DE.of (pe_lst h.pa) fun st H Z r M Q q ht => ⟨Z, r, M, _, q, ht, fun vs H1 ⟨ds, M1, q1, rps, sm, hl, e⟩ => ⟨by rw [rps.length]; exact hl, fun p hp => by
    have he : ∀ b, b ≠ p → upd H1 p (.lst vs) b = H1 b := fun b hb => upd_ne hb
    have q2 := q1.mset (mo := .lst ds) he (.inl hp) ⟨vs, upd_same, rps⟩
    exact ⟨.ref p, _, q2, .ref p, by rw [out_mset q1.hr he (.inl hp)]; exact sm, e p (q1.hr.fresh hp).1⟩⟩⟩
end
end DL

set_option maxHeartbeats 2000000
namespace DL
open PySem PySem.Spec PyProof.Rows L2

def lstOf (M : Mh) : D → Option (List D)
  | .lst ds => some ds
  | .scr ns => some (ns.map .int)
  | .ref a => match M a with
    | some (.lst ds) => some ds
    | _ => none
  | _ => none
def seqOf (M : Mh) : D → Option (List D)
  | .tup ds => some ds
  | d => lstOf M d
def lstW (M : Mh) : D → Option (List D)
  | .lst ds => some ds
  | .ref a => match M a with
    | some (.lst ds) => some ds
    | _ => none
  | _ => none
section
variable {K : PySem.W.Frag} {F Z : Hp} {M : Mh} {H : Hp} {v : V} {d : D} {ds : List D} {p : Addr}
theorem repL_ints : ∀ ns : List Int, RepL K F (ns.map V.int) (ns.map D.int)
  | [] => .nil
  | n :: ns => .cons (.int n) (repL_ints ns)
theorem lstW_rep (m : HR K Z M H) (h : lstW M d = some ds) (rp : Rep K (out Z M H) v d) : ∃ a xs, v = .ref a ∧ H a = some (.lst xs) ∧ RepL K (out Z M H) xs ds := by
  cases rp with
  | lst e r =>
    have h' := Option.some.inj h
    subst h'
    exact ⟨_, _, rfl, out_sub _ _ _ _ _ e, r⟩
  | ref a =>
    have h2 : (match M a with | some (.lst ds) => some ds | _ => none) = some ds := h
    split at h2
    · rename_i ds' hm
      cases h2
      obtain ⟨xs, h1, h2⟩ := m.mem a _ hm
      exact ⟨a, xs, rfl, h1, h2⟩
    · cases h2
  | _ => cases h
theorem lstOf_rep (m : HR K Z M H) (h : lstOf M d = some ds) (rp : Rep K (out Z M H) v d) : ∃ a xs, v = .ref a ∧ SqL K H a xs ∧ RepL K (out Z M H) xs ds := by
  cases rp with
  | scr e =>
    have h' := Option.some.inj h
    subst h'
    exact ⟨_, _, rfl, sqL_mono (out_sub _ _ _) e, repL_ints _⟩
  | lst e r =>
    have h' := Option.some.inj h
    subst h'
    exact ⟨_, _, rfl, .inl (.inl (out_sub _ _ _ _ _ e)), r⟩
  | ref a =>
    have h2 : lstW M (.ref a) = some ds := h
    obtain ⟨a', xs, e1, e2, e3⟩ := lstW_rep m h2 (.ref a)
    cases e1
    exact ⟨a, xs, rfl, .inl (.inl e2), e3⟩
  | _ => cases h
theorem seqOf_rep (m : HR K Z M H) (h : seqOf M d = some ds) (rp : Rep K (out Z M H) v d) : ∃ a xs, v = .ref a ∧ (SqL K H a xs ∨ SqT K H a xs) ∧ RepL K (out Z M H) xs ds := by
  cases rp with
  | tup e r =>
    have h' := Option.some.inj h
    subst h'
    exact ⟨_, _, rfl, .inr (sqT_mono (out_sub _ _ _) e), r⟩
  | @scr a ns e =>
    obtain ⟨a, xs, e1, e2, e3⟩ := lstOf_rep m (d := .scr ns) h (.scr e)
    exact ⟨a, xs, e1, .inl e2, e3⟩
  | @lst a xs ds' e r =>
    obtain ⟨a, xs, e1, e2, e3⟩ := lstOf_rep m (d := .lst ds') h (.lst e r)
    exact ⟨a, xs, e1, .inl e2, e3⟩
  | ref a =>
    obtain ⟨a, xs, e1, e2, e3⟩ := lstOf_rep m (d := .ref a) h (.ref a)
    exact ⟨a, xs, e1, .inl e2, e3⟩
  | _ => cases h
end

def aAdd : DR2 := fun x y M Q => match x, y with
  | .int i, .int j => Q (.int (i + j)) M
  | .str a, .str b => a.length + b.length ≤ sizeLine ∧ Q (.str (a ++ b)) M
  | .tup a, .tup b => a.length + b.length ≤ sizeLine ∧ Q (.tup (a ++ b)) M
  | x, y => match lstW M x, lstW M y with
    | some a, some b => a.length + b.length ≤ sizeLine ∧ Q (.lst (a ++ b)) M
    | _, _ => False
def aInt0 (f : Int → Int → Int) : DR2 := fun x y M Q => match x, y with
  | .int i, .int j => Q (.int (f i j)) M
  | _, _ => False
abbrev aSub : DR2 := aInt0 fun i j => i - j
abbrev aFdiv : DR2 := aInt (fun i j => i / j) CDivW
abbrev aMod : DR2 := aInt (fun i j => i % j) fun _ j => 0 < j
abbrev aPow : DR2 := aInt (fun i j => i ^ j.toNat) CPow
def aMul : DR2 := fun x y M Q => match x, y with
  | .int i, .int j => IntMulOk i j ∧ Q (.int (i * j)) M
  | x, .int k => match lstW M x with
    | some ds => -(2 ^ 63) ≤ k ∧ k < 2 ^ 63 ∧ ds.length * k.toNat ≤ sizeLine ∧ Q (.lst (List.replicate k.toNat ds).flatten) M
    | none => False
  | _, _ => False
section
variable {X : Cx} {W : DWX}
theorem op_mulX : OpR X (binaryOp .Mult) (rI IntMulOk fun i j => .int (i * j)) := opI fun _ _ _ _ _ _ _ hc q => mul_int q hc
theorem repL_flat {K : PySem.W.Frag} {F : Hp} {xs : List V} {ds : List D} (h : RepL K F xs ds) : ∀ k : Nat, RepL K F (List.replicate k xs).flatten (List.replicate k ds).flatten
  | 0 => .nil
  | k + 1 => by
    rw [List.replicate_succ, List.replicate_succ, List.flatten_cons, List.flatten_cons]
    exact h.append (repL_flat h k)
theorem DOp.int0 {f : Value → Value → Sem Value} {g : Int → Int → Int} (h : OpR X f (rI0 fun i j => .int (g i j))) : DOp X W f (aInt0 g) :=
  .of h fun st H Z r M x y da db Q q ra rb h => by
    unfold aInt0 at h
    split at h
    · cases ra; cases rb
      exact ⟨_, _, rfl, rfl, EQ.val q (.int _) h⟩
    · exact h.elim
theorem op_add_ : DOp X W (binaryOp .Add) aAdd := by
  intro pins s st H Z r M x y v u da db Q I q rx ry ra rb h
  unfold aAdd at h
  split at h
  · cases ra; cases rb
    exact op_add pins s st H _ _ v u _ I rx ry ⟨_, _, rfl, rfl, EQ.val q (.int _) h⟩
  · cases ra; cases rb
    exact op_add_str pins s st H _ _ v u _ I rx ry ⟨_, _, rfl, rfl, h.1, EQ.val q (.str _) h.2⟩
  · cases ra with
    | @tup a xs ds ha ra =>
      cases rb with
      | @tup b ys es hb rb =>
        have ha' := sqT_mono (out_sub _ _ _) ha
        have hb' := sqT_mono (out_sub _ _ _) hb
        refine op_catA pins s st H _ _ v u _ I rx ry ⟨a, b, xs, ys, rfl, rfl, ha', hb', by rw [ra.length, rb.length]; exact h.1, fun e => ?_, fun _ e => ?_, fun _ _ p hp => EQ.newTup q hp (ra.append rb) h.2⟩
        · subst e
          cases ra
          exact EQ.val q (.tup hb rb) h.2
        · subst e
          cases rb
          refine EQ.val q (.tup ha ra) ?_
          have := h.2
          rw [List.append_nil] at this
          exact this
  · split at h
    · rename_i a b ea eb
      obtain ⟨l, xs, rfl, hl, rl⟩ := lstW_rep q.hr ea ra
      obtain ⟨l2, ys, rfl, hl2, rl2⟩ := lstW_rep q.hr eb rb
      exact op_cat pins s st H _ _ v u _ I rx ry ⟨l, l2, xs, ys, rfl, rfl, hl, hl2, by rw [rl.length, rl2.length]; exact h.1, fun p hp => EQ.newLst q hp (rl.append rl2) h.2⟩
    · exact h.elim
theorem op_sub_ : DOp X W (binaryOp .Sub) aSub := .int0 op_sub
theorem op_fdiv_ : DOp X W (binaryOp .FloorDiv) aFdiv := .int op_fdivW
theorem op_mod_ : DOp X W (binaryOp .Mod) aMod := .int op_mod
theorem op_pow_ : DOp X W (binaryOp .Pow) aPow := .int op_pow
theorem op_mul_ : DOp X W (binaryOp .Mult) aMul := by
  intro pins s st H Z r M x y v u da db Q I q rx ry ra rb h
  unfold aMul at h
  split at h
  · cases ra; cases rb
    exact op_mulX pins s st H _ _ v u _ I rx ry ⟨_, _, rfl, rfl, h.1, EQ.val q (.int _) h.2⟩
  · split at h
    · rename_i ds e
      cases rb
      obtain ⟨l, xs, rfl, hl, rl⟩ := lstW_rep q.hr e ra
      exact op_rep pins s st H _ _ v u _ I rx ry ⟨l, _, xs, rfl, rfl, hl, h.1, h.2.1, by rw [rl.length]; exact h.2.2.1, fun p hp => EQ.newLst q hp (repL_flat rl _) h.2.2.2⟩
    · exact h.elim
  · exact h.elim
def aNeg : DR1 := fun x M Q => match x with
  | .int i => Q (.int (-i)) M
  | _ => False
theorem un_neg_ : DUn X W (unaryOp .USub) aNeg := .of un_neg fun st H Z r M x da Q q ra h => by
  unfold aNeg at h
  split at h
  · cases ra
    exact ⟨_, rfl, EQ.val q (.int _) h⟩
  · exact h.elim
end

def aCmp (p : Int → Int → Bool) : DR2 := fun x y M Q => match x, y with
  | .int i, .int j => Q (.bl (p i j)) M
  | _, _ => False
abbrev aLt : DR2 := aCmp fun i j => decide (i < j)
abbrev aLe : DR2 := aCmp fun i j => decide (i ≤ j)
abbrev aGt : DR2 := aCmp fun i j => decide (j < i)
abbrev aGe : DR2 := aCmp fun i j => decide (j ≤ i)
section
variable {X : Cx} {W : DWX}
theorem DOp.cmp {f : Value → Value → Sem Value} {g : Int → Int → Bool} (h : OpR X f (rI0 fun i j => .bl (g i j))) : DOp X W f (aCmp g) :=
  .of h fun st H Z r M x y da db Q q ra rb h => by
    unfold aCmp at h
    split at h
    · cases ra; cases rb
      exact ⟨_, _, rfl, rfl, EQ.val q (.bl _) h⟩
    · exact h.elim
theorem op_lt_ : DOp X W (compareOp .Lt) aLt := .cmp op_lt
theorem op_le_ : DOp X W (compareOp .LtE) aLe := .cmp op_le
theorem op_gt_ : DOp X W (compareOp .Gt) aGt := .cmp op_gt
theorem op_ge_ : DOp X W (compareOp .GtE) aGe := .cmp op_ge
end

def isNon : D → Bool
  | .non => true
  | _ => false
def aIsN : DR2 := fun x y M Q => match y with
  | .non => Q (.bl (isNon x)) M
  | _ => False
def aNotN : DR2 := fun x y M Q => match y with
  | .non => Q (.bl (!isNon x)) M
  | _ => False
section
variable {X : Cx} {W : DWX} {K : PySem.W.Frag} {F : Hp} {v : V} {d : D}
theorem isNon_rep (h : Rep K F v d) : decide (v = .non) = isNon d := by cases h <;> rfl
theorem op_isN_ : DOp X W (compareOp .Is) aIsN := .of op_isN fun st H Z r M x y da db Q q ra rb h => by
  unfold aIsN at h
  split at h
  · cases rb
    exact ⟨rfl, EQ.val q (.bl _) (by rw [isNon_rep ra]; exact h)⟩
  · exact h.elim
theorem op_notN_ : DOp X W (compareOp .IsNot) aNotN := .of op_notN fun st H Z r M x y da db Q q ra rb h => by
  unfold aNotN at h
  split at h
  · cases rb
    exact ⟨rfl, EQ.val q (.bl _) (by rw [isNon_rep ra]; exact h)⟩
  · exact h.elim
end

def keyPy : Key → PyData
  | .inl i => .int i
  | .inr x => .str x
mutual
def py : D → Option PyData
  | .non => some .none
  | .bl b => some (.bool b)
  | .int i => some (.int i)
  | .str x => some (.str x)
  | .tup ds => (pyL ds).map .tuple
  | .lst ds => (pyL ds).map .list
  | .dic kvs => (pyK kvs).map .dict
  | .ins _ _ => none
  | .obj _ _ => none
  | .ref _ => none
  | .ty _ => none
  | .scr _ => none
  | .exc _ _ _ => none
  | .fn _ _ _ _ => none
def pyL : List D → Option (List PyData)
  | [] => some []
  | d :: ds => match py d, pyL ds with
    | some p, some ps => some (p :: ps)
    | _, _ => none
def pyK : List (Key × D) → Option (List (PyData × PyData))
  | [] => some []
  | (k, d) :: ds => match py d, pyK ds with
    | some p, some ps => some ((keyPy k, p) :: ps)
    | _, _ => none
end
/- data without dicts, as == takes it -/
mutual
theorem py_dp {K : PySem.W.Frag} {F : Hp} : ∀ {v : V} {d : D} {p : PyData}, Rep K F v d → py d = some p → p.hasDict = false → Dp K F v p
  | _, _, _, .non, e, _ => by cases e; exact .non
  | _, _, _, .bl b, e, _ => by cases e; exact .bl b
  | _, _, _, .int b, e, _ => by cases e; exact .int b
  | _, _, _, .str b, e, _ => by cases e; exact .str b
  | _, _, _, .ref b, e, _ => by cases e
  | _, _, _, .ty b, e, _ => by cases e
  | _, _, _, .scr h, e, _ => by cases e
  | _, _, _, .exc h r, e, _ => by cases e
  | _, _, _, .fn h r, e, _ => by cases e
  | _, _, _, .ins h r, e, _ => by cases e
  | _, _, _, .obj h r, e, _ => by cases e
  | _, _, _, .tup (ds := ds) h r, e, hd => by
    have e2 : (pyL ds).map PyData.tuple = some _ := e
    obtain ⟨ps, e3, rfl⟩ := Option.map_eq_some_iff.mp e2
    exact .tup h (pyL_dp r e3 (by simpa [PyData.hasDict] using hd))
  | _, _, _, .lst (ds := ds) h r, e, hd => by
    have e2 : (pyL ds).map PyData.list = some _ := e
    obtain ⟨ps, e3, rfl⟩ := Option.map_eq_some_iff.mp e2
    exact .lst (.inl (.inl h)) (pyL_dp r e3 (by simpa [PyData.hasDict] using hd))
  | _, _, _, .dic (ds := ds) h r, e, hd => by
    have e2 : (pyK ds).map PyData.dict = some _ := e
    obtain ⟨ps, e3, rfl⟩ := Option.map_eq_some_iff.mp e2
    simp [PyData.hasDict] at hd
theorem pyL_dp {K : PySem.W.Frag} {F : Hp} : ∀ {vs : List V} {ds : List D} {ps : List PyData}, RepL K F vs ds → pyL ds = some ps → PyData.hasDictAll ps = false → DpAll K F vs ps
  | _, _, _, .nil, e, _ => by cases e; exact .nil
  | _, _, _, .cons (d := d) (ds := ds) h r, e, hd => by
    have e2 : (match py d, pyL ds with | some p, some ps => some (p :: ps) | _, _ => none) = some _ := e
    split at e2
    · rename_i p ps e3 e4
      cases e2
      have hd' : p.hasDict = false ∧ PyData.hasDictAll ps = false := by simpa [PyData.hasDictAll, Bool.or_eq_false_iff] using hd
      exact .cons (py_dp h e3 hd'.1) (pyL_dp r e4 hd'.2)
    · cases e2
end
mutual
theorem shaped_noDict : ∀ p : PyData, p.canLay0 = true → p.hasDict = false
  | .none, _ => rfl
  | .bool _, _ => rfl
  | .int _, _ => rfl
  | .str _, _ => rfl
  | .list xs, h => by simpa [PyData.hasDict] using shaped_noDictAll xs (by simpa [PyData.canLay0] using h)
  | .tuple xs, h => by simpa [PyData.hasDict] using shaped_noDictAll xs (by simpa [PyData.canLay0] using h)
  | .dict xs, h => by simp [PyData.canLay0] at h
theorem shaped_noDictAll : ∀ ps : List PyData, PyData.canLayAll0 ps = true → PyData.hasDictAll ps = false
  | [], _ => rfl
  | p :: ps, h => by
    have h' : p.canLay0 = true ∧ PyData.canLayAll0 ps = true := by simpa [PyData.canLayAll0] using h
    simp [PyData.hasDictAll, shaped_noDict p h'.1, shaped_noDictAll ps h'.2]
end
def aEq : DR2 := fun x y M Q => ∃ p q, py x = some p ∧ py y = some q ∧ SeqAt.shaped p = true ∧ SeqAt.shaped q = true ∧ Q (.bl (PyData.eqv p q)) M
def aNe : DR2 := fun x y M Q => ∃ p q, py x = some p ∧ py y = some q ∧ SeqAt.shaped p = true ∧ SeqAt.shaped q = true ∧ Q (.bl (!PyData.eqv p q)) M
section
variable {X : Cx} {W : DWX}
theorem op_eq_ (hu : X.A.units + 64 < cLine) : DOp X W (compareOp .Eq) aEq := .of (op_eqD hu) fun st H Z r M x y da db Q q ra rb h => by
  obtain ⟨p, p', e1, e2, s1, s2, h⟩ := h
  exact ⟨p, p', Dp.mono (out_sub _ _ _) (py_dp ra e1 (shaped_noDict p (SeqAt.canLay_of_shaped s1))), Dp.mono (out_sub _ _ _) (py_dp rb e2 (shaped_noDict p' (SeqAt.canLay_of_shaped s2))), s1, s2, EQ.val q (.bl _) h⟩
theorem op_ne_ (hu : X.A.units + 64 < cLine) : DOp X W (compareOp .NotEq) aNe := .of (op_neD hu) fun st H Z r M x y da db Q q ra rb h => by
  obtain ⟨p, p', e1, e2, s1, s2, h⟩ := h
  exact ⟨p, p', Dp.mono (out_sub _ _ _) (py_dp ra e1 (shaped_noDict p (SeqAt.canLay_of_shaped s1))), Dp.mono (out_sub _ _ _) (py_dp rb e2 (shaped_noDict p' (SeqAt.canLay_of_shaped s2))), s1, s2, EQ.val q (.bl _) h⟩
end

def scalD : D → Option V
  | .non => some .non
  | .bl b => some (.bl b)
  | .int i => some (.int i)
  | .str x => some (.str x)
  | _ => none
def scalL : List D → Option (List V)
  | [] => some []
  | d :: ds => match scalD d, scalL ds with
    | some v, some vs => some (v :: vs)
    | _, _ => none
section
variable {K : PySem.W.Frag} {F : Hp}
theorem scalD_rep {v w : V} {d : D} (h : Rep K F v d) (e : scalD d = some w) : v = w ∧ flatV v = true := by
  cases h <;> cases e <;> exact ⟨rfl, rfl⟩
theorem scalL_rep : ∀ {vs ws : List V} {ds : List D}, RepL K F vs ds → scalL ds = some ws → vs = ws ∧ vs.all flatV = true
  | _, _, _, .nil, e => by cases e; exact ⟨rfl, rfl⟩
  | _, _, _, .cons (d := d) (ds := ds) h r, e => by
    have e2 : (match scalD d, scalL ds with | some v, some vs => some (v :: vs) | _, _ => none) = some _ := e
    split at e2
    · rename_i p ps e3 e4
      cases e2
      obtain ⟨a1, a2⟩ := scalD_rep h e3
      obtain ⟨b1, b2⟩ := scalL_rep r e4
      exact ⟨by rw [a1, b1], by rw [List.all_cons, a2, b2]; rfl⟩
    · cases e2
end
def isSign (x : Str) : Option Nat := match x.cps.toList with
  | [c] => some c
  | _ => none
def aIn (neg : Bool) : DR2 := fun x y M Q => match x, y with
  | .str a, .str b => ∃ c, isSign a = some c ∧ Q (.bl (if neg then !decide (c ∈ b.cps.toList) else decide (c ∈ b.cps.toList))) M
  | x, y => ∃ ds vs w, seqOf M y = some ds ∧ scalD x = some w ∧ scalL ds = some vs ∧ Q (.bl (if neg then !inV w vs else inV w vs)) M
section
variable {X : Cx} {W : DWX}
theorem isSign_eq {a : Str} {c : Nat} (h : isSign a = some c) : a = ⟨#[c]⟩ := by
  unfold isSign at h
  split at h
  · rename_i c' e
    cases h
    exact PySem.Str.ext' (Array.toList_inj.mp e)
  · cases h
theorem op_in_ : DOp X W (compareOp .In) (aIn false) := by
  intro pins s st H Z r M x y v u da db Q I q rx ry ra rb h
  unfold aIn at h
  split at h
  · cases ra; cases rb
    obtain ⟨c, e, h⟩ := h
    rw [isSign_eq e] at rx
    exact op_in_sign pins s st H _ _ v u _ I rx ry ⟨c, _, rfl, rfl, EQ.val q (.bl _) h⟩
  · obtain ⟨ds, vs, w, e1, e2, e3, h⟩ := h
    obtain ⟨a, xs, rfl, hs, rl⟩ := seqOf_rep q.hr e1 rb
    obtain ⟨z1, z2⟩ := scalD_rep ra e2
    obtain ⟨z3, z4⟩ := scalL_rep rl e3
    exact op_in_seq pins s st H _ _ v u _ I rx ry ⟨a, xs, rfl, hs, z2, z4, EQ.val q (.bl _) (by rw [z1, z3]; exact h)⟩
theorem op_notIn_ : DOp X W (compareOp .NotIn) (aIn true) := by
  intro pins s st H Z r M x y v u da db Q I q rx ry ra rb h
  unfold aIn at h
  split at h
  · cases ra; cases rb
    obtain ⟨c, e, h⟩ := h
    rw [isSign_eq e] at rx
    exact op_notIn_sign pins s st H _ _ v u _ I rx ry ⟨c, _, rfl, rfl, EQ.val q (.bl _) h⟩
  · obtain ⟨ds, vs, w, e1, e2, e3, h⟩ := h
    obtain ⟨a, xs, rfl, hs, rl⟩ := seqOf_rep q.hr e1 rb
    obtain ⟨z1, z2⟩ := scalD_rep ra e2
    obtain ⟨z3, z4⟩ := scalL_rep rl e3
    exact op_notIn_seq pins s st H _ _ v u _ I rx ry ⟨a, xs, rfl, hs, z2, z4, EQ.val q (.bl _) (by rw [z1, z3]; exact h)⟩
end

def aIx : DR2 := fun x y M Q => match x, y with
  | .str z, .int i => ∃ c, z.length ≤ sizeLine ∧ atI z.cps.toList i = some c ∧ Q (.str ⟨#[c]⟩) M
  | x, .int i => ∃ ds d, seqOf M x = some ds ∧ atI ds i = some d ∧ Q d M
  | _, _ => False
theorem RepL.atI {K : PySem.W.Frag} {F : Hp} {vs : List V} {ds : List D} {i : Int} {d : D} (h : RepL K F vs ds) (e : atI ds i = some d) : ∃ v, L2.atI vs i = some v ∧ Rep K F v d := by
  unfold L2.atI at e ⊢
  rw [h.length]
  cases q : ixN ds.length i with
  | none => rw [q] at e; cases e
  | some j =>
    rw [q] at e
    obtain ⟨v, e1, e2⟩ := h.get (i := j) e
    exact ⟨v, e1, e2⟩
section
variable {X : Cx} {W : DWX} {a b : Expr} {ta tb : DTE} {pos : Pos}
theorem de_ix (ha : DE X W a ta) (hb : DE X W b tb) (hs : PlainIx b) : DE X W (.Subscript a b pos) (dOp aIx ta tb) := by
  refine DE.of (pe_ix ix_seq ha.pe hb.pe hs) fun st H Z r M Q q h => ?_
  refine ⟨Z, r, M, _, q, h, fun x H1 ⟨dx, M1, q1, rpx, sm1, h1⟩ => ⟨Z, r, M1, _, q1, h1, fun y H2 ⟨dy, M2, q2, rpy, sm2, h2⟩ => ?_⟩⟩
  have rpx := rpx.mono sm2
  have sm := sm1.trans sm2
  unfold aIx at h2
  dsimp only at h2
  split at h2
  · cases rpx; cases rpy
    obtain ⟨c, hz, hc, h2⟩ := h2
    exact .inr (.inr ⟨_, _, c, rfl, rfl, hz, hc, (EQ.val q2 (.str _) h2).mono sm⟩)
  · cases rpy
    obtain ⟨ds, d, e1, e2, h2⟩ := h2
    obtain ⟨p, xs, rfl, hs, rl⟩ := seqOf_rep q2.hr e1 rpx
    obtain ⟨v, e3, rv⟩ := rl.atI e2
    rcases hs with hs | hs
    · exact .inl ⟨p, xs, _, v, rfl, rfl, hs, e3, (EQ.val q2 rv h2).mono sm⟩
    · exact .inr (.inl ⟨p, xs, _, v, rfl, rfl, hs, e3, (EQ.val q2 rv h2).mono sm⟩)
  · exact h2.elim
end
def cutD {α : Type} (xs : List α) (lo hi : Option Int) : List α := (xs.drop (HT.sIx xs.length 0 lo)).take (HT.sIx xs.length xs.length hi - HT.sIx xs.length 0 lo)
theorem RepL.cut {K : PySem.W.Frag} {F : Hp} {vs : List V} {ds : List D} (h : RepL K F vs ds) (lo hi : Option Int) : RepL K F (cutV vs lo hi) (cutD ds lo hi) := by
  unfold cutV cutD
  rw [h.length]
  exact (h.drop _).take _
def dNoPart : DTO := fun _ M Q => Q none M
def dPart (t : DTE) : DTO := fun r M Q => t r M fun x M1 => match x with
  | .int i => Q (some i) M1
  | _ => False
def aSl (x : D) (lo hi : Option Int) (M : Mh) (Q : QD) : Prop := match x with
  | .str z => z.length ≤ sizeLine ∧ Q (.str (cutS z lo hi)) M
  | .tup ds => Q (.tup (cutD ds lo hi)) M
  | x => ∃ ds, lstOf M x = some ds ∧ Q (.lst (cutD ds lo hi)) M
def dSl (te : DTE) (tl th : DTO) : DTE := fun r M Q => te r M fun x M1 => tl r M1 fun l M2 => th r M2 fun u M3 => aSl x l u M3 Q
theorem cut_all {α : Type} {xs : List α} {lo hi : Option Int} (h : HT.sIx xs.length 0 lo = 0 ∧ HT.sIx xs.length xs.length hi = xs.length) : cutD xs lo hi = xs := by
  unfold cutD
  rw [h.1, h.2]
  simp
section
variable {X : Cx} {W : DWX} {e : Expr} {lo hi : Option Expr} {te : DTE} {tl th : DTO} {pos p2 : Pos}
theorem do_none : DO X W none dNoPart := ⟨fun pins s st H Z r M Q I q h => (po_none (X := X)).run pins s st H _ I ⟨M, q, Same.refl _, h⟩⟩
theorem do_some (h : DE X W e te) : DO X W (some e) (dPart te) := ⟨fun pins s st H Z r M Q I q ht => (po_some h.pe).run pins s st H _ I ⟨Z, r, M, _, q, ht, fun x H1 ⟨d, M1, q1, rp, sm, e⟩ => by
  cases rp with
  | int i => exact ⟨i, rfl, M1, q1, sm, e⟩
  | _ => exact e.elim⟩⟩
theorem de_slice (he : DE X W e te) (hl : DO X W lo tl) (hu : DO X W hi th) : DE X W (.Subscript e (.Slice lo hi none p2) pos) (dSl te tl th) := by
  refine DE.of (pe_slice (sl_list.or (sl_tupA.or sl_str)) he.pe hl.po hu.po) fun st H Z r M Q q h => ?_
  refine ⟨Z, r, M, _, q, h, fun x H1 ⟨dx, M1, q1, rpx, sm1, h1⟩ => ⟨Z, r, M1, _, q1, h1, fun l H2 ⟨M2, q2, sm2, h2⟩ => ⟨Z, r, M2, _, q2, h2, fun u H3 ⟨M3, q3, sm3, h3⟩ => ?_⟩⟩⟩
  have rpx := rpx.mono (sm2.trans sm3)
  have sm := sm1.trans (sm2.trans sm3)
  unfold aSl at h3
  split at h3
  · cases rpx
    exact .inr (.inr ⟨_, rfl, h3.1, (EQ.val q3 (.str _) h3.2).mono sm⟩)
  · cases rpx with
    | @tup a xs ds ht rl =>
      refine .inr (.inl ⟨a, xs, rfl, sqT_mono (out_sub _ _ _) ht, fun e => ?_, fun e p hp => (EQ.newTup q3 hp (rl.cut l u) h3).mono sm⟩)
      rw [rl.length] at e
      rw [cut_all e] at h3
      exact (EQ.val q3 (.tup ht rl) h3).mono sm
  · obtain ⟨ds, e, h3⟩ := h3
    obtain ⟨a, xs, rfl, hs, rl⟩ := lstOf_rep q3.hr e rpx
    exact .inl ⟨a, xs, rfl, hs, fun p hp => (EQ.newLst q3 hp (rl.cut l u) h3).mono sm⟩
end
end DL

set_option maxHeartbeats 2000000
namespace DL
open PySem PySem.Spec PyProof.Rows L2

def dNext : DTS := fun D r M => D.nx r M
def dSeq (t u : DTS) : DTS := fun D r M => t { D with nx := u D } r M
def dDrop (te : DTE) : DTS := fun D r M => te r M fun _ M1 => D.nx r M1
def dRet (te : DTE) : DTS := fun D r M => te r M D.rt
def dRetN : DTS := fun D _ M => D.rt .non M
def dIfS (c : DTT) (t u : DTS) : DTS := fun D r M => c r M fun b M1 => if b = true then t D r M1 else u D r M1
section
variable {X : Cx} {W : DWX} {c : Stmt} {rest : List Stmt} {t u : DTS} {e : Expr} {te : DTE} {pos : Pos} {k : Kt} {Z F F' : Hp} {H : Hp} {st : Sg} {r : Rho} {M : Mh} {D : DEnds}
theorem nq_here {Q : Rho → Mh → Prop} (q : SR k Z r M st H) (h : Q r M) : NQ k Z (out Z M H) Q st H := ⟨r, M, q, Same.refl _, h⟩
theorem sq_lift {t : DTS} {F : Hp} (q : SR k Z r M st H) (sm : Same F (out Z M H)) (h : t D r M) : liftS k t (SQ k Z F D) st H :=
  ⟨Z, r, M, D, q, h, fun _ _ e => e.mono sm, fun _ _ e => e.mono sm, fun _ _ e => e.mono sm, fun _ _ e => e.mono sm⟩
theorem dss_nil : DSs X W [] dNext := DSs.of pss_nil fun st H Z r M D q h => nq_here q h
theorem dss_cons (h1 : DS X W c t) (h2 : DSs X W rest u) : DSs X W (c :: rest) (dSeq t u) :=
  DSs.of (pss_cons h1.ps h2.pss) fun st H Z r M D q h => ⟨Z, r, M, { D with nx := u D }, q, h, fun a b ⟨r1, M1, q1, sm, e⟩ => sq_lift q1 sm e, fun _ _ e => e, fun _ _ e => e, fun _ _ e => e⟩
theorem ds_expr (he : DE X W e te) (hs : swapsWith e none pos.line X.env = pure false := by rfl) : DS X W (.Expr e pos) (dDrop te) :=
  DS.of (ps_expr he.pe hs) fun st H Z r M D q h => ⟨Z, r, M, _, q, h, fun v H' ⟨d, M1, q1, rp, sm, e⟩ => ⟨r, M1, q1, sm, e⟩⟩
theorem ds_ret (he : DE X W e te) : DS X W (.Return (some e) pos) (dRet te) :=
  DS.of (ps_ret he.pe) fun st H Z r M D q h => ⟨Z, r, M, _, q, h, fun v H' ⟨d, M1, q1, rp, sm, e⟩ => ⟨d, M1, q1.hr, rp, sm, e⟩⟩
theorem ds_if {cnd : Expr} {a b : List Stmt} {tc : DTT} (hc : DT X W cnd tc) (ha : DSs X W a t) (hb : DSs X W b u) : DS X W (.If cnd a b pos) (dIfS tc t u) :=
  DS.of (ps_if hc.pt ha.pss hb.pss) fun st H Z r M D q h => ⟨Z, r, M, _, q, h, fun k H' ⟨M1, q1, sm, e⟩ => by
    cases k with
    | true => exact sq_lift q1 sm e
    | false => exact sq_lift q1 sm e⟩
end

abbrev DTGs := List D → Rho → Mh → (Rho → Mh → Prop) → Prop
structure DGs (X : Cx) (W : DWX) (ts : List Expr) (t : DTGs) : Prop where
  run : ∀ (pins : List (Addr × Obj)) (s : Shared) (st : Sg) (H Z : Hp) (r : Rho) (M : Mh) (vs : List V) (us : List Value) (ds : List D) (Q : Rho → Mh → Prop), Inv X pins st H s → SR (kx X W) Z r M st H → Vals vs us → RepL X.K (out Z M H) vs ds → t ds r M Q →
    wpAny (model X.prog X.w) X.A (assignInOrder ((assignEach ts X.env).map (·.2)) us) (fun _ s' => ∃ st' H', Inv X pins st' H' s' ∧ NQ (kx X W) Z (out Z M H) Q st' H') X.xe s
def liftGs (k : Kt) (t : DTGs) : TGs := fun vs st H Q => ∃ Z r M ds DQ, SR k Z r M st H ∧ RepL k.K (out Z M H) vs ds ∧ t ds r M DQ ∧ ∀ st' H', NQ k Z (out Z M H) DQ st' H' → Q st' H'
theorem DGs.pgs {X : Cx} {W : DWX} {tg : List Expr} {t : DTGs} (h : DGs X W tg t) : PGs X tg (liftGs (kx X W) t) := ⟨fun pins s st H v u Q I rv ⟨Z, r, M, d, DQ, q, rp, ht, k⟩ =>
  thn (h.run pins s st H Z r M v u d DQ I q rv rp ht) fun _ _ ⟨st', H', I', e⟩ => ⟨st', H', I', k _ _ e⟩⟩
def gdName (i : Nat) : DTG := fun d r M Q => Q (r.set i (some d)) M
def gdNil : DTGs := fun ds r M Q => match ds with
  | [] => Q r M
  | _ => False
def gdCons (t : DTG) (u : DTGs) : DTGs := fun ds r M Q => match ds with
  | d :: ds => t d r M fun r1 M1 => u ds r1 M1 Q
  | [] => False
def gdTup (n : Nat) (t : DTGs) : DTG := fun d r M Q => match d with
  | .tup ds => ds.length = n ∧ t ds r M Q
  | _ => False
abbrev DTSet := D → D → D → Mh → (Mh → Prop) → Prop
def DSet (X : Cx) (W : DWX) (t : DTSet) : Prop :=
  ∀ (pins : List (Addr × Obj)) (s : Shared) (st : Sg) (H Z : Hp) (r : Rho) (M : Mh) (o i v : V) (ov iv u : Value) (dx di dv : D) (Q : Mh → Prop), Inv X pins st H s → SR (kx X W) Z r M st H → RelV o ov → RelV i iv → RelV v u →
    Rep X.K (out Z M H) o dx → Rep X.K (out Z M H) i di → Rep X.K (out Z M H) v dv → t dx di dv M Q →
    wpAny (model X.prog X.w) X.A (setItem ov iv u) (fun _ s' => ∃ H', Inv X pins st H' s' ∧ ∃ M', SR (kx X W) Z r M' st H' ∧ Same (out Z M H) (out Z M' H') ∧ Q M') X.xe s
def gdSub (to ti : DTE) (t : DTSet) : DTG := fun d r M Q => to r M fun o M1 => ti r M1 fun i M2 => t o i d M2 fun M3 => Q r M3
def aSetL : DTSet := fun o i v M Q => ∃ p ds k j, o = .ref p ∧ i = .int k ∧ M p = some (.lst ds) ∧ ixN ds.length k = some j ∧ Q (mset M p (.lst (ds.set j v)))
section
variable {X : Cx} {W : DWX} {pos : Pos} {tg e : Expr}
theorem dg_name {i : Nat} {x : Str} (hN : X.N.Nodup) (hi : X.N[i]? = some x) (hx : Loc X.env.scope x) (hf : X.fn x = true ∨ X.env.scope.names.lookup x = some .local := by first | exact .inl rfl | exact .inr rfl | assumption) : DG X W (.Name x pos) (gdName i) :=
  ⟨fun pins s st H Z r M v u d Q I q rv rp h => (pg_name hN hi hx hf).run pins s st H v u _ I rv ⟨_, M, q.set rp i, Same.refl _, h⟩⟩
theorem dgs_nil : DGs X W [] gdNil := ⟨fun pins s st H Z r M vs us ds Q I q rv rp h => by
  unfold gdNil at h
  split at h
  · cases rp
    exact pgs_nil.run pins s st H _ us _ I rv ⟨rfl, r, M, q, Same.refl _, h⟩
  · exact h.elim⟩
theorem dgs_cons {es : List Expr} {t : DTG} {u : DTGs} (h1 : DG X W e t) (h2 : DGs X W es u) (hs : (assignEach (e :: es) X.env).map (·.2) = assign e X.env :: (assignEach es X.env).map (·.2) := by rfl) : DGs X W (e :: es) (gdCons t u) :=
  ⟨fun pins s st H Z r M vs us ds Q I q rv rp h => by
    unfold gdCons at h
    split at h
    · cases rp with
      | cons r1 r2 =>
        exact (pgs_cons h1.pg h2.pgs hs).run pins s st H _ us _ I rv ⟨_, _, rfl, Z, r, M, _, _, q, r1, h, fun st1 H1 ⟨r', M1, q1, sm, e⟩ => ⟨Z, r', M1, _, _, q1, r2.mono sm, e, fun st2 H2 z => z.mono sm⟩⟩
    · exact h.elim⟩
theorem dg_tup {es : List Expr} {k : Nat} {t : DTGs} {n : Nat} (hc : X.calm = true) (h : DGs X W es t) (hn : (assignEach es X.env).length = n := by rfl) (hst : (assignEach es X.env).findIdx? (·.1) = none := by rfl) : DG X W (.Tuple es k pos) (gdTup n t) :=
  ⟨fun pins s st H Z r M v u d Q I q rv rp hw => by
    unfold gdTup at hw
    split at hw
    · cases rp with
      | tup ht rl => exact (pg_tup hc h.pgs hn hst).run pins s st H _ u _ I rv ⟨_, _, rfl, sqT_mono (out_sub _ _ _) ht, by rw [rl.length]; exact hw.1, Z, r, M, _, _, q, rl, hw.2, fun _ _ e => e⟩
    · exact hw.elim⟩
theorem dg_sub {o i : Expr} {to ti : DTE} {t : DTSet} (ho : DE X W o to) (hi : DE X W i ti) (hs : DSet X W t)
    (ha : ∀ v, assign (.Subscript o i pos) X.env v = (do
      let ov ← holding [v] (eval o X.env)
      let iv ← holding [v, ov] (eval i X.env)
      standAt pos
      holding [v, ov, iv] (setItem ov iv v)
      release [v, ov, iv] []) := by intro _; rfl) : DG X W (.Subscript o i pos) (gdSub to ti t) := by
  refine ⟨fun pins s st H Z r M v u d Q I q rv rp h => ?_⟩
  rw [ha]
  refine wpAny_bind (wpAny_holding (thn (ho.run pins s st H Z r M _ I q h) fun ov s1 ⟨x, H1, I1, r1, dx, M1, q1, rp1, sm1, h1⟩ => ?_))
  refine wpAny_bind (wpAny_holding (thn (hi.run pins s1 st H1 Z r M1 _ I1 q1 h1) fun iv s2 ⟨y, H2, I2, r2, di, M2, q2, rp2, sm2, h2⟩ => ?_))
  refine wpAny_bind (wpAny_standAt (wpAny_bind (wpAny_holding (thn (hs pins s2 st H2 Z r M2 x y v ov iv u dx di d _ I2 q2 r1 r2 rv (rp1.mono sm2) rp2 (rp.mono (sm1.trans sm2)) h2) fun _ s3 ⟨H3, I3, M3, q3, sm3, h3⟩ => ?_))))
  exact wpAny_release ⟨st, H3, I3, r, M3, q3, sm1.trans (sm2.trans sm3), h3⟩
theorem set_l : DSet X W aSetL := by
  intro pins s st H Z r M o i v ov iv u dx di dv Q I q ro ri rv po pi pv h
  obtain ⟨p, ds, k, j, rfl, rfl, hp, hj, h⟩ := h
  cases po
  cases pi
  obtain ⟨xs, e, rl⟩ := q.hr.mem p _ hp
  refine thn (set_list pins s st H _ _ v ov iv u (fun H' => ∃ M', SR (kx X W) Z r M' st H' ∧ Same (out Z M H) (out Z M' H') ∧ Q M') I ro ri rv ⟨p, xs, k, j, rfl, rfl, e, by rw [rl.length]; exact hj, ?_⟩) fun _ _ z => z
  have he : ∀ b, b ≠ p → upd H p (.lst (xs.set j v)) b = H b := fun b hb => upd_ne hb
  refine ⟨_, q.mset (mo := .lst (ds.set j dv)) he (.inr (by rw [hp]; exact fun z => nomatch z)) ⟨_, upd_same, rl.set pv j⟩, ?_, h⟩
  rw [out_mset q.hr he (.inr (by rw [hp]; exact fun z => nomatch z))]
  exact Same.refl _
end

def dAsg (te : DTE) (g : DTG) : DTS := fun D r M => te r M fun x M1 => g x r M1 D.nx
section
variable {X : Cx} {W : DWX} {pos : Pos} {tg e : Expr} {te : DTE} {g : DTG}
theorem ds_asg (he : DE X W e te) (hg : DG X W tg g) (hs : swapsWithSole [tg] e pos.line X.env = pure false := by rfl) (hw : swappedStores [tg] e X.env = pure none := by rfl)
    (h1 : (assignEach [tg] X.env).map (·.2) = [assign tg X.env] := by rfl) : DS X W (.Assign [tg] e pos) (dAsg te g) :=
  DS.of (ps_asg he.pe hg.pg hs hw h1) fun st H Z r M D q h => ⟨Z, r, M, _, q, h, fun v H' ⟨d, M1, q1, rp, sm, e⟩ => ⟨Z, r, M1, d, _, q1, rp, e, fun _ _ z => z.mono sm⟩⟩
theorem ds_set {i : Nat} {x : Str} {pos' : Pos} (hN : X.N.Nodup) (hi : X.N[i]? = some x) (hx : Loc X.env.scope x) (he : DE X W e te) (hs : swapsWith e (some (.Name x pos')) pos.line X.env = pure false := by rfl) (hf : X.fn x = true ∨ X.env.scope.names.lookup x = some .local := by first | exact .inl rfl | exact .inr rfl | assumption) :
    DS X W (.Assign [.Name x pos'] e pos) (dAsg te (gdName i)) :=
  DS.of (ps_set hN hi hx he.pe hs hf) fun st H Z r M D q h => ⟨Z, r, M, _, q, h, fun v H' ⟨d, M1, q1, rp, sm, e⟩ => ⟨_, M1, q1.set rp i, sm, e⟩⟩
def dPar (i j : Nat) (ta : DTA) : DTS := fun D r M => ta r M fun ds M1 => match ds with
  | [v, w] => D.nx ((r.set i (some v)).set j (some w)) M1
  | _ => False
theorem ds_par {i j : Nat} {x y : Str} {a b : Expr} {ta : DTA} {px py pt : Pos} {kt k2 pt2} (hc : X.calm = true) (hN : X.N.Nodup) (hi : X.N[i]? = some x) (hj : X.N[j]? = some y) (hij : i ≠ j)
    (hx : X.env.scope.names.lookup x = some .local) (hy : X.env.scope.names.lookup y = some .local) (ha : DA X W [a, b] ta)
    (hw : swappedStores [.Tuple [.Name x px, .Name y py] kt pt] (.Tuple [a, b] k2 pt2) X.env = pure (some [x, y]))
    (hs : swapsWithSole [.Tuple [.Name x px, .Name y py] kt pt] (.Tuple [a, b] k2 pt2) pos.line X.env = pure false := by rfl) :
    DS X W (.Assign [.Tuple [.Name x px, .Name y py] kt pt] (.Tuple [a, b] k2 pt2) pos) (dPar i j ta) :=
  DS.of (ps_par hc hN hi hj hij hx hy ha.pa hw hs) fun st H Z r M D q h => ⟨Z, r, M, _, q, h, fun vs H' ⟨ds, M1, q1, rps, sm, e⟩ => by
    dsimp only at e
    split at e
    · cases rps with
      | cons r1 rr =>
        cases rr with
        | cons r2 rr =>
          cases rr
          exact ⟨_, _, rfl, _, M1, (q1.set r1 i).set r2 j, sm, e⟩
    · exact e.elim⟩
end

abbrev DTI := Rho → Mh → (List D → Mh → Prop) → Prop
structure DI (X : Cx) (W : DWX) (tg iter : Expr) (t : DTI) : Prop where
  pi : ∃ wi, PI X tg iter wi ∧ ∀ (st : Sg) (H Z : Hp) (r : Rho) (M : Mh) (Q : List D → Mh → Prop) (R : It → Hp → Prop), SR (kx X W) Z r M st H → t r M Q →
    (∀ J H' items M', SR (kx X W) Z r M' st H' → Same (out Z M H) (out Z M' H') → ItR X.K (out Z M' H') J items → Q items M' → R J H') → wi st H R
section
variable {X : Cx} {W : DWX} {K : PySem.W.Frag} {F Z : Hp} {tg e : Expr} {te : DTE}
theorem itr_lst {a : Addr} {xs : List V} {items : List D} (h : SqL K F a xs) (r : RepL K F xs items) : ItR K F (Itl K a) items where
  go := fun i Z M H q sm hi => by
    have hi' : i < xs.length := by rw [r.length]; exact hi
    exact ⟨xs, xs[i], sqL_mono (sm.trans (out_sub _ _ _)) h, by simp [hi']⟩
  stop := fun Z M H q sm => ⟨xs, sqL_mono (sm.trans (out_sub _ _ _)) h, by rw [r.length]; exact Nat.le_refl _⟩
  yld := fun i Z M H H' x q sm hi y => by
    obtain ⟨e1, y⟩ := y
    subst e1
    have hx := y xs (sqL_mono (sm.trans (out_sub _ _ _)) h)
    obtain ⟨d, e2, rp⟩ := r.getV hx
    exact ⟨d, e2, q, Same.refl _, rp.mono sm⟩
theorem itr_tup {a : Addr} {xs : List V} {items : List D} (h : SqT K F a xs) (r : RepL K F xs items) : ItR K F (Itt K a) items where
  go := fun i Z M H q sm hi => by
    have hi' : i < xs.length := by rw [r.length]; exact hi
    exact ⟨xs, xs[i], sqT_mono (sm.trans (out_sub _ _ _)) h, by simp [hi']⟩
  stop := fun Z M H q sm => ⟨xs, sqT_mono (sm.trans (out_sub _ _ _)) h, by rw [r.length]; exact Nat.le_refl _⟩
  yld := fun i Z M H H' x q sm hi y => by
    obtain ⟨e1, y⟩ := y
    subst e1
    have hx := y xs (sqT_mono (sm.trans (out_sub _ _ _)) h)
    obtain ⟨d, e2, rp⟩ := r.getV hx
    exact ⟨d, e2, q, Same.refl _, rp.mono sm⟩
theorem itr_range (lo : Int) (n : Nat) : ItR K F (Itr lo n) ((List.range n).map fun i : Nat => D.int (lo + (i : Int))) where
  go := fun i Z M H q sm hi => by
    show i < n
    rw [List.length_map, List.length_range] at hi
    exact hi
  stop := fun Z M H q sm => by
    rw [List.length_map, List.length_range]
    exact Nat.le_refl n
  yld := fun i Z M H H' x q sm hi y => by
    obtain ⟨e1, e2⟩ := y
    subst e1 e2
    have hi' : i < n := by simpa using hi
    exact ⟨.int (lo + i), by rw [List.getElem?_map, List.getElem?_range hi']; rfl, q, Same.refl _, .int _⟩
def iLst (te : DTE) : DTI := fun r M Q => te r M fun x M1 => match x with
  | .lst ds => Q ds M1
  | .scr ns => Q (ns.map .int) M1
  | _ => False
def iTup (te : DTE) : DTI := fun r M Q => te r M fun x M1 => match x with
  | .tup ds => Q ds M1
  | _ => False
theorem di_lst (h : DE X W e te) : DI X W tg e (iLst te) := ⟨_, pi_list h.pe, fun st H Z r M Q R q ht kR => ⟨Z, r, M, _, q, ht, fun v H1 ⟨d, M1, q1, rp, sm, z⟩ => by
  dsimp only at z
  split at z
  · cases rp with
    | @lst a xs ds h rl =>
      have h' : SqL X.K (out Z M1 H1) a xs := .inl (.inl h)
      exact ⟨a, rfl, ⟨xs, sqL_mono (out_sub _ _ _) h'⟩, kR _ _ _ M1 q1 sm (itr_lst h' rl) z⟩
  · cases rp with
    | @scr a ns h => exact ⟨a, rfl, ⟨_, sqL_mono (out_sub _ _ _) h⟩, kR _ _ _ M1 q1 sm (itr_lst h (repL_ints _)) z⟩
  · exact z.elim⟩⟩
theorem di_tup (h : DE X W e te) : DI X W tg e (iTup te) := ⟨_, pi_tup h.pe, fun st H Z r M Q R q ht kR => ⟨Z, r, M, _, q, ht, fun v H1 ⟨d, M1, q1, rp, sm, z⟩ => by
  dsimp only at z
  split at z
  · cases rp with
    | @tup a xs ds h rl => exact ⟨a, rfl, ⟨xs, sqT_mono (out_sub _ _ _) h⟩, kR _ _ _ M1 q1 sm (itr_tup h rl) z⟩
  · exact z.elim⟩⟩
def iRng1' (ta : DTA) : DTI := fun r M Q => ta r M fun ds M1 => match ds with
  | [.int j] => -(2 ^ 62) ≤ j ∧ j < 2 ^ 62 ∧ Q ((List.range j.toNat).map fun i : Nat => D.int (0 + (i : Int))) M1
  | _ => False
theorem di_range1 {a : Expr} {ta : DTA} {p pos : Pos} (hg : Gl X "range") (hm : X.mg "range" = none) (ha : DA X W [a] ta) (hs : starEach [a] X.env = [(false, eval a X.env)] := by rfl) : DI X W tg (.Call (.Name "range" p) [a] [] pos) (iRng1' ta) :=
  ⟨_, pi_range1 hg hm ha.pa hs, fun st H Z r M Q R q ht kR => ⟨Z, r, M, _, q, ht, fun vs H1 ⟨ds, M1, q1, rps, sm, z⟩ => by
    dsimp only at z
    split at z
    · cases rps with
      | cons r1 rr =>
        cases rr
        cases r1
        exact ⟨_, rfl, z.1, z.2.1, kR _ _ _ M1 q1 sm (itr_range 0 _) z.2.2⟩
    · exact z.elim⟩⟩
end

def forL (g : DTG) (tb : DTS) (E : DEnds) : List D → Rho → Mh → Prop
  | [], r, M => E.nx r M
  | x :: xs, r, M => g x r M fun r1 M1 => tb { E with nx := forL g tb E xs, ct := forL g tb E xs, bk := E.nx } r1 M1
def dFor (ti : DTI) (g : DTG) (tb : DTS) : DTS := fun D r M => ti r M fun items M1 => forL g tb D items r M1
section
variable {X : Cx} {W : DWX} {tg iter : Expr} {body : List Stmt} {ti : DTI} {g : DTG} {tb : DTS} {pos : Pos}
theorem ds_for (hp : PassesOwn (model X.prog X.w) X.A X.env X.xe) (hc : X.calm = true) (hi : DI X W tg iter ti) (hg : DG X W tg g) (hb : DSs X W body tb) (hs : ∀ x, foldedSetIterable iter X.env x = pure x := by intro _; rfl) : DS X W (.For tg iter body [] pos) (dFor ti g tb) := by
  obtain ⟨wi, pi, k⟩ := hi.pi
  refine DS.of (ps_for hp hc pi hg.pg hb.pss hs) fun st H Z r M D q h => k st H Z r M _ _ q h fun J H1 items M1 q1 sm1 it h1 => ?_
  refine ⟨fun i m st' H' => m = items.length - i ∧ i ≤ items.length ∧ ∃ r' M', SR (kx X W) Z r' M' st' H' ∧ Same (out Z M1 H1) (out Z M' H') ∧ forL g tb D (items.drop i) r' M', ⟨items.length, by simp, Nat.zero_le _, r, M1, q1, Same.refl _, h1⟩, ?_⟩
  rintro i m st2 H2 ⟨rfl, hi, r2, M2, q2, sm2, h2⟩
  by_cases hlt : i < items.length
  · refine .inr ⟨it.go i Z M2 H2 q2.hr sm2 hlt, NQ (kx X W) Z (out Z M1 H1) (forL g tb D (items.drop (i + 1))), fun st3 H3 ⟨r3, M3, q3, sm3, h3⟩ => ⟨items.length - (i + 1), by omega, rfl, hlt, r3, M3, q3, sm3, h3⟩, fun x H3 y => ?_⟩
    obtain ⟨d, e, m3, sm3, rp⟩ := it.yld i Z M2 H2 H3 x q2.hr sm2 hlt y
    have q3 : SR (kx X W) Z r2 M2 st2 H3 := q2.step m3 sm3
    have ed : items.drop i = d :: items.drop (i + 1) := by
      obtain ⟨hl, e'⟩ := List.getElem?_eq_some_iff.mp e
      rw [← e', List.drop_eq_getElem_cons hl]
    rw [ed] at h2
    refine ⟨Z, r2, M2, d, _, q3, rp, h2, fun st4 H4 ⟨r4, M4, q4, sm4, h4⟩ => ?_⟩
    have s13 := sm2.trans sm3
    refine ⟨Z, r4, M4, _, q4, h4, fun a b e => e.mono (s13.trans sm4), fun a b e => e.mono (sm1.trans (s13.trans sm4)), fun a b e => e.mono (sm1.trans (s13.trans sm4)), fun a b e => e.mono (s13.trans sm4)⟩
  · have e : i = items.length := by omega
    subst e
    rw [List.drop_length] at h2
    exact .inl ⟨it.stop Z M2 H2 q2.hr sm2, r2, M2, q2, sm1.trans sm2, h2⟩
theorem forL_ind {E : DEnds} {g : DTG} {tb : DTS} (P : List D → Rho → Mh → Prop)
    (hs : ∀ x xs r M, P (x :: xs) r M → (∀ r M, P xs r M → forL g tb E xs r M) → g x r M fun r1 M1 => tb { E with nx := forL g tb E xs, ct := forL g tb E xs, bk := E.nx } r1 M1)
    (hd : ∀ r M, P [] r M → E.nx r M) : ∀ {items : List D} {r : Rho} {M : Mh}, P items r M → forL g tb E items r M
  | [], r, M, p => hd r M p
  | x :: xs, r, M, p => hs x xs r M p fun r M p => forL_ind P hs hd p
end

end DL

set_option maxHeartbeats 2000000
namespace DL
open PySem PySem.Spec PyProof.Rows L2

inductive TPat where
  | one (i : Nat) | tup (is : List Nat)
def gNames : List Nat → TGs
  | [] => gNil
  | i :: is => gCons (gName i) (gNames is)
def gdNames : List Nat → DTGs
  | [] => gdNil
  | i :: is => gdCons (gdName i) (gdNames is)
def tpV (K : PySem.W.Frag) : TPat → TG
  | .one i => gName i
  | .tup is => gTup K is.length (gNames is)
def tpD : TPat → DTG
  | .one i => gdName i
  | .tup is => gdTup is.length (gdNames is)
def TPat.ixs : TPat → List Nat
  | .one i => [i]
  | .tup is => is
def wipeR (r : Rho) : List Nat → Rho
  | [] => r
  | v :: vs => (wipeR r vs).set v none
def dYes : DTT := fun _ M Q => Q true M
def lcL (p : TPat) (tt : DTT) (te : DTE) (r0 : Rho) (Q : QD) : List D → List D → Mh → Prop
  | [], acc, M => Q (.lst acc) M
  | x :: xs, acc, M => tpD p x r0 M fun r1 M1 => tt r1 M1 fun b M2 => if b = true then te r1 M2 fun y M3 => acc.length < sizeLine ∧ lcL p tt te r0 Q xs (acc ++ [y]) M3 else lcL p tt te r0 Q xs acc M2
def dLc (ti : DTI) (p : TPat) (tt : DTT) (te : DTE) (vs : List Nat) : DTE := fun r M Q => ti r M fun items M1 => lcL p tt te (wipeR r vs) Q items [] M1

section
variable {k : Kt} {F Z : Hp} {M : Mh} {H : Hp} {r : Rho} {st : Sg}
theorem set_none_sr (q : SR k Z r M st H) (i : Nat) : SR k Z (r.set i none) M (st.set i none) H where
  len := by rw [List.length_set, List.length_set, q.len]
  hr := q.hr
  tk := q.tk
  sl := fun j d e => by
    by_cases hj : i = j
    · subst hj
      rw [List.getElem?_set] at e
      split at e
      · split at e
        · cases e
        · cases e
      · rename_i n; exact absurd rfl n
    · rw [List.getElem?_set_ne hj] at e
      obtain ⟨v, h1, h2⟩ := q.sl j d e
      exact ⟨v, by rw [List.getElem?_set_ne hj]; exact h1, h2⟩
theorem wipe_sr (q : SR k Z r M st H) : ∀ vs : List Nat, SR k Z (wipeR r vs) M (wipe st vs) H
  | [] => q
  | v :: vs => set_none_sr (wipe_sr q vs) v
theorem wipe_set {x : Option V} {i : Nat} : ∀ {vs : List Nat} {st : Sg}, i ∈ vs → wipe (st.set i x) vs = wipe st vs
  | [], _, h => by simp at h
  | v :: vs, st, h => by
    unfold wipe
    by_cases hi : i ∈ vs
    · rw [wipe_set hi]
    · have e : i = v := by
        rcases List.mem_cons.mp h with h | h
        · exact h
        · exact absurd h hi
      subst e
      have key : ∀ (vs : List Nat) (st : Sg), i ∉ vs → wipe (st.set i x) vs = (wipe st vs).set i x := by
        intro vs
        induction vs with
        | nil => intro st _; rfl
        | cons w vs ih =>
          intro st h
          have h1 : w ≠ i := fun e => h (by rw [e]; exact List.mem_cons_self ..)
          have h2 : i ∉ vs := fun z => h (List.mem_cons_of_mem _ z)
          unfold wipe
          rw [ih st h2, List.set_comm _ _ (Ne.symm h1)]
      rw [key vs st hi, List.set_set]
theorem wipe_wipe (st : Sg) : ∀ vs us : List Nat, (∀ v ∈ us, v ∈ vs) → wipe (wipe st us) vs = wipe st vs
  | vs, [], _ => rfl
  | vs, u :: us, h => by
    show wipe ((wipe st us).set u none) vs = _
    rw [wipe_set (h u (List.mem_cons_self ..)), wipe_wipe st vs us fun v z => h v (List.mem_cons_of_mem _ z)]
theorem gNames_ok {vs : List Nat} : ∀ {is : List Nat} {xs : List V} {ds : List D} {r : Rho} {st : Sg} {Q : Rho → Mh → Prop}, (∀ i ∈ is, i ∈ vs) → SR k Z r M st H → RepL k.K (out Z M H) xs ds → gdNames is ds r M Q →
    gNames is xs st H fun st2 H2 => H2 = H ∧ wipe st2 vs = wipe st vs ∧ ∃ r2, SR k Z r2 M st2 H ∧ Q r2 M
  | [], xs, ds, r, st, Q, hi, q, rl, h => by
    have h : gdNil ds r M Q := h
    unfold gdNil at h
    split at h
    · cases rl
      exact ⟨rfl, rfl, rfl, r, q, h⟩
    · exact h.elim
  | i :: is, xs, ds, r, st, Q, hi, q, rl, h => by
    have h : gdCons (gdName i) (gdNames is) ds r M Q := h
    unfold gdCons at h
    split at h
    · cases rl with
      | @cons v vs' d' ds' r1 r2 =>
        refine ⟨_, _, rfl, ?_⟩
        have z := gNames_ok (vs := vs) (is := is) (fun j z => hi j (List.mem_cons_of_mem _ z)) (q.set r1 i) r2 h
        have e : wipe (st.set i (some v)) vs = wipe st vs := wipe_set (hi i (List.mem_cons_self ..))
        rw [e] at z
        exact z
    · exact h.elim
theorem tp_ok {vs : List Nat} {p : TPat} {v : V} {d : D} {Q : Rho → Mh → Prop} (hi : ∀ i ∈ p.ixs, i ∈ vs) (q : SR k Z r M st H) (rp : Rep k.K (out Z M H) v d) (h : tpD p d r M Q) :
    tpV k.K p v st H fun st2 H2 => H2 = H ∧ wipe st2 vs = wipe st vs ∧ ∃ r2, SR k Z r2 M st2 H ∧ Q r2 M := by
  cases p with
  | one i => exact ⟨rfl, wipe_set (hi i (List.mem_cons_self ..)), _, q.set rp i, h⟩
  | tup is =>
    have h : gdTup is.length (gdNames is) d r M Q := h
    unfold gdTup at h
    split at h
    · cases rp with
      | tup ht rl => exact ⟨_, _, rfl, sqT_mono (out_sub _ _ _) ht, by rw [rl.length]; exact h.1, gNames_ok hi q rl h.2⟩
    · exact h.elim
end

@[reducible] def kxN (K : PySem.W.Frag) : Kt := ⟨K, fun _ _ => True, fun _ _ _ _ h => h⟩
theorem SR.conv0 {k kb : Kt} {Z : Hp} {r : Rho} {M : Mh} {st : Sg} {H : Hp} (q : SR k Z r M st H) (hk : kb.K = k.K) (ht : kb.T Z (out Z M H)) : SR kb Z r M st H :=
  ⟨q.len, fun i d e => by rw [hk]; exact q.sl i d e, by rw [hk]; exact q.hr, ht⟩
theorem liftT_conv {K : PySem.W.Frag} {kb : Kt} {t : DTT} {st : Sg} {H : Hp} {Q : Bool → Hp → Prop} (hk : kb.K = K) (hT : ∀ Z F, kb.T Z F) (z : liftT (kxN K) t st H Q) : liftT kb t st H Q := by
  obtain ⟨Z, r, M, DQ, q, ht, k⟩ := z
  exact ⟨Z, r, M, DQ, q.conv0 hk (hT _ _), ht, fun v H' ⟨M', q', sm, e⟩ => k v H' ⟨M', q'.conv0 hk.symm trivial, sm, e⟩⟩
theorem liftE_conv {K : PySem.W.Frag} {kb : Kt} {t : DTE} {st : Sg} {H : Hp} {Q : VK} (hk : kb.K = K) (hT : ∀ Z F, kb.T Z F) (z : liftE (kxN K) t st H Q) : liftE kb t st H Q := by
  obtain ⟨Z, r, M, DQ, q, ht, k⟩ := z
  exact ⟨Z, r, M, DQ, q.conv0 hk (hT _ _), ht, fun v H' ⟨d, M', q', rp, sm, e⟩ => k v H' ⟨d, M', q'.conv0 hk.symm trivial, by rw [← hk]; exact rp, sm, e⟩⟩
theorem PE_imp {X : Cx} {e : Expr} {t t' : TE} (h : PE X e t) (k : ∀ st H Q, t' st H Q → t st H Q) : PE X e t' := ⟨fun pins s st H Q I z => h.run pins s st H Q I (k _ _ _ z)⟩
theorem PTs_imp {X : Cx} {e : List Expr} {t t' : TT} (h : PTs X e t) (k : ∀ st H Q, t' st H Q → t st H Q) : PTs X e t' := ⟨fun pins s st H Q I z => h.run pins s st H Q I (k _ _ _ z)⟩
def DTs (X : Cx) (W : DWX) (ifs : List Expr) (t : DTT) : Prop := PTs X ifs (liftT (kx X W) t)
section
variable {X : Cx} {W : DWX}
theorem dts_nil : DTs X W [] dYes := ⟨fun pins s st H Q I ⟨Z, r, M, DQ, q, ht, k⟩ => pts_nil.run pins s st H Q I (k true H ⟨M, q, Same.refl _, ht⟩)⟩
theorem dts_one {c : Expr} {t : DTT} (h : DT X W c t) : DTs X W [c] t := pts_one h.pt
theorem tgv_imp {K : PySem.W.Frag} {Q Q' : Sg → Hp → Prop} (h : ∀ s H, Q s H → Q' s H) : ∀ {is : List Nat} {vs : List V} {st : Sg} {H : Hp}, gNames is vs st H Q → gNames is vs st H Q'
  | [], _, _, _, ⟨e, z⟩ => ⟨e, h _ _ z⟩
  | _ :: _, _, _, _, ⟨v, r, e, z⟩ => ⟨v, r, e, tgv_imp (K := K) h z⟩
theorem tpv_imp {K : PySem.W.Frag} {Q Q' : Sg → Hp → Prop} (h : ∀ s H, Q s H → Q' s H) {p : TPat} {v : V} {st : Sg} {H : Hp} (z : tpV K p v st H Q) : tpV K p v st H Q' := by
  cases p with
  | one i => exact h _ _ z
  | tup is =>
    obtain ⟨a, xs, e1, e2, e3, z⟩ := z
    exact ⟨a, xs, e1, e2, e3, tgv_imp (K := K) h z⟩
theorem takesN {X : Cx} {K : PySem.W.Frag} {Z F : Hp} : Takes X (XW K Z F WN) := fun _ _ x => by
  obtain ⟨_, _, _, _, _, _, _, _, _, _, _, _, _, _, _, _, z⟩ := x
  obtain ⟨_, _, _, _, _, _, _, _, z⟩ := z
  exact z.elim
theorem lc_ok {k kb : Kt} (hk : kb.K = k.K) (hT : ∀ Z F, kb.T Z F) {Z : Hp} {st : Sg} {r : Rho} {M1 : Mh} {H1 : Hp} {J : It} {items : List D} {p : TPat} {tt : DTT} {te : DTE} {vs : List Nat} {Q : QD} {Fin : VK} {L : Addr} (hix : ∀ i ∈ p.ixs, i ∈ vs)
    (q1 : SR k Z r M1 st H1) (it : ItR k.K (out Z M1 H1) J items) (h1 : lcL p tt te (wipeR r vs) Q items [] M1) (hL : H1 L = none)
    (fin : ∀ H' M2 acc av, Z L = none → (∀ (M3 : Mh), HR k.K Z M3 H' → Same (out Z M1 H1) (out Z M3 H') → SR k Z r M3 st H') → HR k.K (upd Z L (.lst av)) M2 H' → RepL k.K (out (upd Z L (.lst av)) M2 H') av acc → Same (out Z M1 H1) (out (upd Z L (.lst av)) M2 H') → Q (.lst acc) M2 → Fin (.ref L) H') :
    ∃ U : Nat → Nat → Hp → Prop, (∃ m, U 0 m (upd H1 L (.lst []))) ∧ ∀ i m H, U i m H →
      (J.stop i H ∧ Fin (.ref L) H) ∨ (J.go i H ∧ ∃ Nx : Hp → Prop, (∀ H', Nx H' → ∃ m', m' < m ∧ U (i + 1) m' H') ∧ ∀ x H', J.yld i H x H' → tpV k.K p x (wipe st vs) H' fun st2 H2 => wipe st2 vs = wipe st vs ∧ liftT kb tt st2 H2 fun b H3 =>
        if b = true then liftE kb te st2 H3 fun y H4 => ∃ acc, H4 L = some (.lst acc) ∧ acc.length < sizeLine ∧ Nx (upd H4 L (.lst (acc ++ [y]))) else Nx H3) := by
  have hzL : Z L = none := (q1.hr.fresh hL).2
  have nown : ∀ (xs : List V) x, HO.lst xs ≠ .own x := fun _ _ e => nomatch e
  have fresh_tk : ∀ {xs : List V} {M' : Mh} {H' : Hp}, Same (out Z M1 H1) (out (upd Z L (.lst xs)) M' H') → kb.T (upd Z L (.lst xs)) (out (upd Z L (.lst xs)) M' H') := fun _ => hT _ _
  -- the word: what has been made stands hidden at L
  let Wd : Nat → Hp → Prop := fun i H' => ∃ M' acc av, SR kb (upd Z L (.lst av)) r M' st H' ∧ RepL k.K (out (upd Z L (.lst av)) M' H') av acc ∧ Same (out Z M1 H1) (out (upd Z L (.lst av)) M' H') ∧ lcL p tt te (wipeR r vs) Q (items.drop i) acc M'
  refine ⟨fun i m H' => m = items.length - i ∧ i ≤ items.length ∧ Wd i H', ⟨items.length, by simp, Nat.zero_le _, M1, [], [], ?_, .nil, ?_, h1⟩, ?_⟩
  · obtain ⟨z1, z2⟩ := q1.hr.hide (o := .lst []) hL (nown [])
    exact ⟨q1.len, fun i d e => let ⟨v, a, b⟩ := q1.sl i d e; ⟨v, a, by rw [z2, hk]; exact b⟩, by rw [hk]; exact z1, hT _ _⟩
  · rw [(q1.hr.hide (o := .lst []) hL (nown [])).2]
    exact Same.refl _
  · rintro i m H2 ⟨rfl, hi, M2, acc, av, q2, rl2, sm2, h2⟩
    have hr2 : HR k.K (upd Z L (.lst av)) M2 H2 := by rw [← hk]; exact q2.hr
    by_cases hlt : i < items.length
    · refine .inr ⟨it.go i _ M2 H2 hr2 sm2 hlt, Wd (i + 1), fun H' w => ⟨items.length - (i + 1), by omega, rfl, hlt, w⟩, fun x H3 y => ?_⟩
      obtain ⟨d, e, m3, sm3, rp⟩ := it.yld i _ M2 H2 H3 x hr2 sm2 hlt y
      have q3 : SR kb (upd Z L (.lst av)) r M2 st H3 := q2.step (by rw [hk]; exact m3) sm3
      have ed : items.drop i = d :: items.drop (i + 1) := by
        obtain ⟨hl, e'⟩ := List.getElem?_eq_some_iff.mp e
        rw [← e', List.drop_eq_getElem_cons hl]
      rw [ed] at h2
      have tp := tp_ok (k := kb) (vs := vs) hix (wipe_sr q3 vs) (by rw [hk]; exact rp) h2
      rw [hk] at tp
      refine tpv_imp (fun st4 H4 z => ?_) tp
      obtain ⟨rfl, ew, r4, q4, h4⟩ := z
      refine ⟨by rw [ew]; exact wipe_wipe st vs vs fun _ h => h, _, r4, M2, _, q4, h4, fun b H5 ⟨M5, q5, sm5, h5⟩ => ?_⟩
      -- what is left of the state behind a step
      have back : ∀ {M' : Mh} {H' : Hp} (r' : Rho), SR kb (upd Z L (.lst av)) r' M' st4 H' → Same (out (upd Z L (.lst av)) M2 H4) (out (upd Z L (.lst av)) M' H') → SR kb (upd Z L (.lst av)) r M' st H' := fun r' qq sm => q3.step qq.hr sm
      cases b with
      | false => exact ⟨M5, acc, av, back r4 q5 sm5, rl2.mono (sm3.trans sm5), sm2.trans (sm3.trans sm5), h5⟩
      | true =>
        refine ⟨_, r4, M5, _, q5, h5, fun yv H6 ⟨dy, M6, q6, rp6, sm6, hl6, h6⟩ => ?_⟩
        have hLv := (q6.hr.hidL (p := L) upd_same)
        have q7 := back r4 q6 (sm5.trans sm6)
        obtain ⟨z1, z2⟩ := q6.hr.rehide (o' := .lst (av ++ [yv])) (nown _)
        have rl6 := rl2.mono (sm3.trans (sm5.trans sm6))
        refine ⟨av, hLv, by rw [rl6.length]; exact hl6, M6, acc ++ [dy], av ++ [yv], ⟨q7.len, fun i d e => let ⟨v, a, b⟩ := q7.sl i d e; ⟨v, a, by rw [z2]; exact b⟩, z1, hT _ _⟩, ?_, ?_, h6⟩
        · rw [z2]; exact rl6.append (.cons (by rw [← hk]; exact rp6) .nil)
        · rw [z2]; exact sm2.trans (sm3.trans (sm5.trans sm6))
    · have e : i = items.length := by omega
      subst e
      rw [List.drop_length] at h2
      exact .inl ⟨it.stop _ M2 H2 hr2 sm2, fin _ M2 acc av hzL (fun M3 m sm => q1.step m sm) hr2 rl2 sm2 h2⟩
theorem lc_frz {k : Kt} {Z H1 H' : Hp} {st : Sg} {r : Rho} {M1 M2 : Mh} {L : Addr} {acc : List D} {av : List V} {Q : QD} (hz : Z L = none) (q1 : ∀ (M3 : Mh), HR k.K Z M3 H' → Same (out Z M1 H1) (out Z M3 H') → SR k Z r M3 st H') (m : HR k.K (upd Z L (.lst av)) M2 H')
    (rl : RepL k.K (out (upd Z L (.lst av)) M2 H') av acc) (sm : Same (out Z M1 H1) (out (upd Z L (.lst av)) M2 H')) (h : Q (.lst acc) M2) : EQ k Z st r (out Z M1 H1) Q (.ref L) H' := by
  obtain ⟨z1, z2, z3⟩ := m.show_ hz
  exact ⟨.lst acc, M2, q1 M2 z1 (sm.trans z2), .lst z3 (rl.mono z2), sm.trans z2, h⟩
theorem de_lc {elt tg iter : Expr} {ifs : List Expr} {scope : Scope} {own : List (Str × Nat)} {pos : Pos} {ti : DTI} {p : TPat} {tt : DTT} {te : DTE} (hc : X.calm = true) (hN : X.N.Nodup) (hi : DI X W tg iter ti) (ok : BlkOk X.N X.env.scope scope own) (hix : ∀ i ∈ p.ixs, i ∈ own.map (·.2))
    (hg : ∀ (s : Shared) (H : Hp) (C : Addr) (cl : List (Str × Addr)) (fp : List Addr), PG (Cx.blk X s H scope (compEnvC scope cl C X.env) fp) tg (tpV X.K p)) (ht : ∀ (s : Shared) (H : Hp) (C : Addr) (cl : List (Str × Addr)) (fp : List Addr), DTs (Cx.blk X s H scope (compEnvC scope cl C X.env) fp) WN ifs tt)
    (he : ∀ (s : Shared) (H : Hp) (C : Addr) (cl : List (Str × Addr)) (fp : List Addr), DE (Cx.blk X s H scope (compEnvC scope cl C X.env) fp) WN elt te) (hs : ∀ x, foldedSetIterable iter X.env x = pure x := by intro _; rfl) :
    DE X W (.ListComp elt [⟨tg, iter, ifs, 0⟩] scope pos) (dLc ti p tt te (own.map (·.2))) := by
  obtain ⟨wi, pi, k⟩ := hi.pi
  refine DE.of (pe_lc (tt := liftT (kxN X.K) tt) (te := liftE (kxN X.K) te) hc hN pi ok hg (fun s H C cl fp => PTs_imp (ht s H C cl fp) fun st H Q z => liftT_conv rfl (fun _ _ => takesN) z) (fun s H C cl fp => PE_imp (he s H C cl fp).pe fun st H Q z => liftE_conv rfl (fun _ _ => takesN) z) hs) fun st H Z r M Q q h => k st H Z r M _ _ q h fun J H1 items M1 q1 sm1 it h1 => ?_
  intro L hL
  exact lc_ok (k := kx X W) (kb := kxN X.K) rfl (fun _ _ => trivial) hix q1 it h1 hL fun H' M2 acc av a1 a2 a3 a4 a5 a6 => (lc_frz a1 a2 a3 a4 a5 a6).mono sm1
end
end DL

set_option maxHeartbeats 2000000
namespace DL
open PySem PySem.Spec PyProof.Rows L2

theorem Rm.deeper {k : Nat} {A : Around} (r : Rm (k + 1) A) (env : Env) : Rm k (A.deeper env) := ⟨r.room.deeper env, by
  have e := r.gd
  obtain ⟨a, b, c, d, u⟩ := A
  exact e⟩
theorem Rm.in1 {k : Nat} {A : Around} (r : Rm (k + 1) A) : Rm k A.in1 := ⟨r.room.in1, by
  have e := r.gd
  obtain ⟨a, b, c, d, u⟩ := A
  exact e⟩
theorem Rm.make {k : Nat} {A : Around} (r : Rm (k + 1) A) (C : Addr) (us : List Value) (kw : List (Str × Value)) : Rm k (A.under (.builtin "type.__call__" ⟨.ref C :: us, kw⟩)) := ⟨r.room.make C us kw, by
  have e := r.gd
  simpa [Around.under, Code.guards, Code.isGuard, guardIds, pushGuards] using e⟩

section
variable {X : Cx} {W : DWX} {k : Nat} {f : Addr} {fd : FuncData} {ps ks : List Str} {sp : DSp}
theorem xq_takes {pins : List (Addr × Obj)} {s s' : Shared} {st : Sg} {H Z : Hp} {r : Rho} {M : Mh} {e : Value} (I : Inv X pins st H s) (q : SR (kx X W) Z r M st H) (c : L2.CX X.prog X.w X.stack H s (XQ X.K Z (out Z M H) fun cls fs M' => W cls fs r M') e s') : X.xe e s' :=
  q.tk _ _ (XE.of_call I (fun cls d H' z => by
    obtain ⟨fs, M', x1, x2, x3, x4⟩ := z
    exact ⟨fs, r, M', x1, q.len, fun i d e => let ⟨v, a, b⟩ := q.sl i d e; ⟨v, a, b.mono x3⟩, x2, x3, x4⟩) c)
theorem run_g {A : Around} {pins : List (Addr × Obj)} {s : Shared} {st : Sg} {H Z : Hp} {r : Rho} {M : Mh} {Q : QD} {args : Args} {full : List Value} {fullV : List V} {ds : List D} (F : FnG X.prog X.w X.K X.mg X.base k f fd ps sp) (hr : Rm k A) (e0 : Env0 X.prog X.w X.K X.mg X.base A X.stack s H) (I : Inv X pins st H s) (q : SR (kx X W) Z r M st H)
    (hb : BindsTo s fd args (ps.zip full)) (rv : Vals fullV full) (rp : RepL X.K (out Z M H) fullV ds) (h : sp ds M Q fun cls fs M' => W cls fs r M') :
    codeAny (model X.prog X.w) A (.call (.ref f) args) (fun z s' => match z with
      | .ok (.ret u) => EP X pins st (EQ (kx X W) Z st r (out Z M H) Q) u s'
      | .ok _ => False
      | .error e => X.xe e s') s := by
  refine codeAny_mono (F.run A X.stack s H Z M args full fullV ds Q _ hr e0 hb rv q.hr rp h) fun z s' hq => ?_
  cases z with
  | error e => exact xq_takes I q hq
  | ok fl =>
    cases fl with
    | ret u =>
      obtain ⟨v, H', I', rv', d, M', h1, h2, h3, h4⟩ := I.after hq
      exact ⟨v, H', I', rv', d, M', q.step h1 h3, h2, h3, h4⟩
    | next => exact False.elim hq
    | brk => exact False.elim hq
    | cont => exact False.elim hq
theorem run_call {pins : List (Addr × Obj)} {s : Shared} {st : Sg} {H Z : Hp} {r : Rho} {M : Mh} {Q : QD} {us ws : List Value} {vs zs : List V} {ds es : List D} {n : Nat} {gD : List D → List D → List D} (F : FnG X.prog X.w X.K X.mg X.base k f fd ps sp) (hr : Rm k X.A) (hb : Bd X.K fd ps n ks gD)
    (I : Inv X pins st H s) (q : SR (kx X W) Z r M st H) (rv : Vals vs us) (rz : Vals zs ws) (rp : RepL X.K (out Z M H) vs ds) (rpz : RepL X.K (out Z M H) zs es) (l1 : ds.length = n) (l2 : es.length = ks.length) (h : sp (gD ds es) M Q fun cls fs M' => W cls fs r M') :
    wpAny (model X.prog X.w) X.A (call (.ref f) us (ks.zip ws)) (EP X pins st (EQ (kx X W) Z st r (out Z M H) Q)) X.xe s := by
  obtain ⟨full, fullV, b1, b2, b3⟩ := hb.to s us ws vs zs ds es _ I.kIn (by rw [← rv.length, rp.length]; exact l1) (by rw [← rz.length, rpz.length]; exact l2) rv rz rp rpz
  refine wpAny_call (codeAny_mono (run_g F hr I.env0 I q b1 b2 b3 h) fun z s' hq => ?_)
  cases z with
  | error e => exact hq
  | ok fl => cases fl <;> first | exact hq | exact hq.elim
end

structure DK (X : Cx) (W : DWX) (kws : List Keyword) (t : DTA) : Prop where
  run : ∀ (pos : Pos) (pins : List (Addr × Obj)) (s : Shared) (st : Sg) (H Z : Hp) (r : Rho) (M : Mh) (Q : List D → Mh → Prop), Inv X pins st H s → SR (kx X W) Z r M st H → t r M Q →
    wpAny (model X.prog X.w) X.A (evalAll ((backToKw pos (keywordEach kws X.env)).map (·.2))) (AP X pins st (AQ (kx X W) Z st r (out Z M H) Q)) X.xe s
section
variable {X : Cx} {W : DWX} {kws : List Keyword} {e : Expr} {te : DTE} {t : DTA} {nm : Option Str} {kpos : Pos}
theorem DK.pk (h : DK X W kws t) : PK X kws (liftA (kx X W) t) := ⟨fun pos pins s st H Q I ⟨Z, r, M, DQ, q, ht, k⟩ =>
  thn (h.run pos pins s st H Z r M DQ I q ht) fun _ _ ⟨v, H', I', rv, z⟩ => ⟨v, H', I', rv, k v H' z⟩⟩
theorem dk_nil : DK X W [] dNil := ⟨fun pos pins s st H Z r M Q I q h => (pk_nil (X := X)).run pos pins s st H _ I ⟨[], M, q, .nil, Same.refl _, h⟩⟩
theorem dk_cons (ha : DE X W e te) (hr : DK X W kws t) : DK X W (⟨nm, e, kpos⟩ :: kws) (dCons te t) :=
  ⟨fun pos pins s st H Z r M Q I q h => (pk_cons ha.pe hr.pk).run pos pins s st H _ I ⟨Z, r, M, _, q, h, fun v H1 ⟨d, M1, q1, rp, sm, e⟩ => ⟨Z, r, M1, _, q1, e, fun vs H2 ⟨ds, M2, q2, rps, sm2, e2⟩ => ⟨d :: ds, M2, q2, .cons (rp.mono sm2) rps, sm.trans sm2, e2⟩⟩⟩⟩
end

def dCall (W : DWX) (sp : DSp) (n m : Nat) (gD : List D → List D → List D) (t tk : DTA) : DTE := fun r M Q => t r M fun ds M1 => tk r M1 fun es M2 => ds.length = n ∧ es.length = m ∧ sp (gD ds es) M2 Q fun cls fs M' => W cls fs r M'
section
variable {X : Cx} {W : DWX} {k n : Nat} {f : Addr} {fd : FuncData} {ps ks : List Str} {sp : DSp} {gD : List D → List D → List D} {x : Str} {p pos : Pos} {e : Expr} {es : List Expr} {kw : Keyword} {kws : List Keyword} {t tk : DTA}
theorem de_call (F : FnG X.prog X.w X.K X.mg X.base k f fd ps sp) (hr : Rm k X.A) (hg : Gl X x) (hm : X.mg x = some (.ref f)) (hk : PySem.W.keepIn X.K (.ref f) = true) (hb : Bd X.K fd ps n [] gD) (ha : DA X W (e :: es) t) (hdb : (x == ("__debug__" : Str)) = false := by decide)
    (he : starEach (e :: es) X.env = (false, eval e X.env) :: starEach es X.env := by rfl) (hpl : (backTo pos (starEach es X.env)).any (·.1) = false := by rfl) : DE X W (.Call (.Name x p) (e :: es) [] pos) (dCall W sp n 0 gD t dNil) := by
  refine ⟨fun pins s st H Z r M Q I q h => wpAny_Call_Name_kw (ld_glob I hg hm ?_ hdb)⟩
  refine PySem.W.callWith_K (h₀ := X.base) I.ok.mod.kin hk (thn (ha.run pos pins s st H Z r M _ I q h) fun us s1 ⟨vs, H1, I1, rv, ds, M1, q1, rps, sm, h1⟩ => ⟨I1.kIn, ?_⟩) he hpl
  obtain ⟨l1, _, h1⟩ := h1
  exact thn (run_call (ks := []) (ws := []) (zs := []) (es := []) F hr hb I1 q1 rv .nil rps .nil l1 rfl h1) fun u s2 ⟨v, H2, I2, rv2, e⟩ => ⟨v, H2, I2, rv2, e.mono sm⟩
theorem de_call0 (F : FnG X.prog X.w X.K X.mg X.base k f fd ps sp) (hr : Rm k X.A) (hg : Gl X x) (hm : X.mg x = some (.ref f)) (hk : PySem.W.keepIn X.K (.ref f) = true) (hb : Bd X.K fd ps 0 [] gD) (hdb : (x == ("__debug__" : Str)) = false := by decide) :
    DE X W (.Call (.Name x p) [] [] pos) (dCall W sp 0 0 gD dNil dNil) := by
  refine ⟨fun pins s st H Z r M Q I q h => wpAny_Call_Name_kw (ld_glob I hg hm ?_ hdb)⟩
  obtain ⟨_, _, h1⟩ := h
  exact PySem.W.callWith_K0 I.kIn hk (run_call (ks := []) (ws := []) (zs := []) (es := []) (us := []) (vs := []) (ds := []) F hr hb I q .nil .nil .nil .nil rfl rfl h1)
end

def dCB (o : DRL) (t : DTA) : DTE := fun r M Q => t r M fun ds M1 => o ds M1 Q
section
variable {X : Cx} {W : DWX} {x : Str} {p pos : Pos} {e : Expr} {es : List Expr} {t : DTA} {id T : String} {o : DRL}
theorem de_callB (hc : DCall X W (.builtin id) o) (hg : Gl X x) (hm : X.mg x = none) (hv : bootBuiltins x = some (.builtin id)) (ha : DA X W (e :: es) t) (hn : x ≠ "__name__" := by decide) (hdb : (x == ("__debug__" : Str)) = false := by decide)
    (he : starEach (e :: es) X.env = (false, eval e X.env) :: starEach es X.env := by rfl) (hpl : (backTo pos (starEach es X.env)).any (·.1) = false := by rfl) : DE X W (.Call (.Name x p) (e :: es) [] pos) (dCB o t) := by
  refine ⟨fun pins s st H Z r M Q I q h => wpAny_Call_Name_kw (ld_blt I hg hm hv ?_ hn hdb)⟩
  exact PyProof.Rows.callWith_builtin1 (thn (ha.run pos pins s st H Z r M _ I q h) fun us s1 ⟨vs, H1, I1, rv, ds, M1, q1, rps, sm, h1⟩ => thn (hc pins s1 st H1 Z r M1 vs us ds Q I1 q1 rv rps h1) fun u s2 ⟨v, H2, I2, rv2, e⟩ => ⟨v, H2, I2, rv2, e.mono sm⟩) he hpl
theorem de_callTy (hc : DCall X W (.type T) o) (hg : Gl X x) (hm : X.mg x = none) (hv : bootBuiltins x = some (.type T)) (ha : DA X W (e :: es) t) (hn : x ≠ "__name__" := by decide) (hdb : (x == ("__debug__" : Str)) = false := by decide)
    (he : starEach (e :: es) X.env = (false, eval e X.env) :: starEach es X.env := by rfl) (hpl : (backTo pos (starEach es X.env)).any (·.1) = false := by rfl) : DE X W (.Call (.Name x p) (e :: es) [] pos) (dCB o t) := by
  refine ⟨fun pins s st H Z r M Q I q h => wpAny_Call_Name_kw (ld_blt I hg hm hv ?_ hn hdb)⟩
  exact PyProof.Rows.callWith_type1 (thn (ha.run pos pins s st H Z r M _ I q h) fun us s1 ⟨vs, H1, I1, rv, ds, M1, q1, rps, sm, h1⟩ => thn (hc pins s1 st H1 Z r M1 vs us ds Q I1 q1 rv rps h1) fun u s2 ⟨v, H2, I2, rv2, e⟩ => ⟨v, H2, I2, rv2, e.mono sm⟩) he hpl
end

def startD (N : List Str) (ds : List D) : Rho := ds.map some ++ List.replicate (N.length - ds.length) none
theorem start_sr {k : Kt} {Z : Hp} {N : List Str} {vs : List V} {ds : List D} {M : Mh} {H : Hp} (m : HR k.K Z M H) (rp : RepL k.K (out Z M H) vs ds) (t : k.T Z (out Z M H)) : SR k Z (startD N ds) M (L2.start N vs) H where
  len := by
    unfold startD L2.start
    rw [List.length_append, List.length_append, List.length_map, List.length_map, rp.length, List.length_replicate, List.length_replicate]
  hr := m
  tk := t
  sl := fun i d e => by
    unfold startD at e
    unfold L2.start
    by_cases hi : i < ds.length
    · rw [List.getElem?_append_left (by simpa using hi), List.getElem?_map] at e
      obtain ⟨d', e1, e2⟩ := Option.map_eq_some_iff.mp e
      cases e2
      obtain ⟨v, e3, e4⟩ := rp.get e1
      exact ⟨v, by rw [List.getElem?_append_left (by rw [List.length_map, rp.length]; exact hi), List.getElem?_map, e3]; rfl, e4⟩
    · rw [List.getElem?_append_right (by simpa using Nat.le_of_not_lt hi), List.getElem?_replicate] at e
      split at e <;> cases e
theorem RetQ.rq {K : PySem.W.Frag} {Z F : Hp} {Q : QD} {v : V} {H : Hp} (h : RQ K Z F (RetQ Q) v H) : RQ K Z F Q v H := by
  obtain ⟨d, M, m, rp, sm, M', l, h⟩ := h
  have m' := m.less l
  rcases h with h | ⟨p, ds, rfl, e1, e2, h⟩
  · exact ⟨d, M', m', rp.mono l.same, sm.trans l.same, h⟩
  · cases rp with
    | ref =>
      obtain ⟨xs, e3, rl⟩ := m.mem p _ e1
      have z : Z p = none := by
        cases q : Z p with
        | none => rfl
        | some u => have := (m.hid p u q).2.1; rw [e1] at this; cases this
      exact ⟨.lst ds, M', m', .lst (by rw [out_none z e2]; exact e3) (rl.mono l.same), sm.trans l.same, h⟩
def CodeAt (K : PySem.W.Frag) (f : Addr) (cdv : Value) : Prop := ∃ (oc : Value) (od : Option Addr) (fd : FuncData) (osl : Array (Option Value)), K.lookup f = some ⟨oc, od, .func fd, osl⟩ ∧ fd.code = cdv
theorem fng_ofC {P : Program} {w : World} {K : PySem.W.Frag} {mg : Str → Option Value} {base : Heap} {k : Nat} {f : Addr} {x qual : Str} {params : Arguments} {body : List Stmt} {scope : Scope} {dvs : List V} {kws : List (Str × V)} {fd : FuncData} {N ps : List Str} {sp : DSp}
    (F : FunD K x qual params body scope dvs kws f fd) (S : FnScope N ps scope) (len : ∀ ds M Q E, sp ds M Q E → ds.length = ps.length)
    (hbody : ∀ (cdv : Value), CodeAt K f cdv → ∀ (A : Around) (outer : List Env) (s : Shared) (H Z : Hp) (ds : List D) (M : Mh) (Q : QD) (E : DXK) (E1 : XK), Rm k (A.deeper (envOfC qual scope s.heap.objs.size f cdv)) → sp ds M Q E →
      ∃ t, DSs (cxOf (L2.CX P w) P w K mg base N qual scope f cdv A outer s H E1) (fun cls fs _ M' => XLess E cls fs M') body t ∧ t { nx := fun _ M' => RetQ Q .non M', rt := RetQ Q } (startD N ds) M) : FnG P w K mg base (k + 1) f fd ps sp := by
  obtain ⟨oc, od, dV, kV, doc, pm, an, cdv, ct, osl, rfl, lk, hcd, _, _⟩ := F.ex
  refine ⟨len, fun A outer s H Z M args us vs ds Q E hr e0 hb rv hh rp hsp => ?_⟩
  have hl : vs.length = ps.length := rp.length.trans (len _ _ _ _ hsp)
  have KX : K.In s.heap := e0.mod.kin.keeps fun b o e => (e0.bs b o e).1
  have lim : s.heap.NoLimit := e0.mod.nolimit.keeps fun b o e => (e0.bs b o e).1
  have kinds : ∀ y ∈ ps.zip us, scope.names.lookup y.1 = some .local ∨ (scope.names.lookup y.1 = some .cell ∧ ((cellsFrom (s.heap.objs.size + 1) scope.names []).lookup y.1).isSome = true) := fun ⟨n, v⟩ hy =>
    (S.par n (List.of_mem_zip hy).1).elim .inl fun q => .inr ⟨q, PySem.W.cellsFrom_some _ _ _ (.inl q)⟩
  refine codeAny_call_function hr.room.depth (KX _ _ lk) rfl S.co S.gen rfl (PySem.W.codeRec_of KX hcd) (hb _ _ _ _ ?_)
  refine wpAny_newFunctionEnv_cells S.kind kinds fun env he s1 x => ?_
  subst he
  refine ⟨lim.keeps x.toInCall.keep, codeAny_func ?_⟩
  let E1 : XK := XQ K Z (out Z M H) E
  obtain ⟨t, ht, hq⟩ := hbody cdv ⟨_, _, _, _, lk, rfl⟩ A outer s H Z ds M Q E E1 (hr.deeper _) hsp
  have I : Inv (cxOf (L2.CX P w) P w K mg base N qual scope f cdv A outer s H E1) [] (L2.start N vs) H s1 := inv_start S hr.room.hd e0 hl rv x
  have tk : Takes (cxOf (L2.CX P w) P w K mg base N qual scope f cdv A outer s H E1) (XW K Z (out Z M H) fun cls fs _ M' => XLess E cls fs M') :=
    Takes.imp (takes_of (X := cxOf (L2.CX P w) P w K mg base N qual scope f cdv A outer s H E1) rfl rfl rfl rfl) fun cls d st H' ⟨fs, r, M', a, b, c, e, g, M2, l, h⟩ => ⟨fs, M2, a.mono l.same, e.less l, g.trans l.same, h⟩
  have q0 : SR (kx (cxOf (L2.CX P w) P w K mg base N qual scope f cdv A outer s H E1) fun cls fs _ M' => XLess E cls fs M') Z (startD N ds) M (L2.start N vs) H := start_sr hh rp tk
  refine wpAny_mono (ht.run [] s1 (L2.start N vs) H Z (startD N ds) M _ I q0 hq) (fun fl s' hs => ?_) fun e s' hs => hs
  have fin : ∀ {st' : Sg} {H' : Hp} {v : V} {u : Value}, Inv (cxOf (L2.CX P w) P w K mg base N qual scope f cdv A outer s H E1) [] st' H' s' → RelV v u → RQ K Z (out Z M H) Q v H' → CE outer P w H s (RQ K Z (out Z M H) Q) u s' :=
    fun {st' H' v u} J rv' q => ⟨v, H', J.os, J.bare, J.base, J.hok, rv', q⟩
  cases fl with
  | ret u =>
    obtain ⟨v, st', H', J, rv', q⟩ := hs
    exact fin J rv' (RetQ.rq q)
  | next =>
    obtain ⟨st', H', J, r', M', q', sm', z⟩ := hs
    exact fin (v := V.non) (u := Value.none) J rfl (RetQ.rq ⟨.non, M', q'.hr, .non, sm', z⟩)
  | brk =>
    obtain ⟨_, _, _, _, _, _, _, z⟩ := hs
    exact False.elim z
  | cont =>
    obtain ⟨_, _, _, _, _, _, _, z⟩ := hs
    exact False.elim z
theorem fng_of {P : Program} {w : World} {K : PySem.W.Frag} {mg : Str → Option Value} {base : Heap} {k : Nat} {f : Addr} {x qual : Str} {params : Arguments} {body : List Stmt} {scope : Scope} {dvs : List V} {kws : List (Str × V)} {fd : FuncData} {N ps : List Str} {sp : DSp}
    (F : FunD K x qual params body scope dvs kws f fd) (S : FnScope N ps scope) (len : ∀ ds M Q E, sp ds M Q E → ds.length = ps.length)
    (hbody : ∀ (cdv : Value) (A : Around) (outer : List Env) (s : Shared) (H Z : Hp) (ds : List D) (M : Mh) (Q : QD) (E : DXK) (E1 : XK), Rm k (A.deeper (envOfC qual scope s.heap.objs.size f cdv)) → sp ds M Q E →
      ∃ t, DSs (cxOf (L2.CX P w) P w K mg base N qual scope f cdv A outer s H E1) (fun cls fs _ M' => XLess E cls fs M') body t ∧ t { nx := fun _ M' => RetQ Q .non M', rt := RetQ Q } (startD N ds) M) : FnG P w K mg base (k + 1) f fd ps sp :=
  fng_ofC F S len fun cdv _ => hbody cdv
theorem pass_body {P : Program} {w : World} {K : PySem.W.Frag} {mg : Str → Option Value} {base : Heap} {N : List Str} {qual : Str} {scope : Scope} {f : Addr} {cdv : Value} {A : Around} {outer : List Env} {s : Shared} {H : Hp} {E1 : XK} :
    PassesOwn (model P w) (cxOf (L2.CX P w) P w K mg base N qual scope f cdv A outer s H E1).A (cxOf (L2.CX P w) P w K mg base N qual scope f cdv A outer s H E1).env (cxOf (L2.CX P w) P w K mg base N qual scope f cdv A outer s H E1).xe :=
  passes_of (X := cxOf (L2.CX P w) P w K mg base N qual scope f cdv A outer s H E1) rfl
theorem Bd.allD {K : PySem.W.Frag} {x qual : Str} {params : Arguments} {body : List Stmt} {scope : Scope} {f : Addr} {fd : FuncData} {ps : List Str} {dvs : List V} {kws : List (Str × V)} {n : Nat} (F : FunD K x qual params body scope dvs kws f fd) (hd : dvs ≠ []) (hn : n = ps.length)
    (h : ∀ (T : Addr) (kV doc pm : Value) (an : Option Addr) (cdv ct : Value) (us : List Value), us.length = ps.length → ∃ k : Option (Array Value) → Sem (List (Str × Value)), bindArgs (PySem.W.fnOf x qual params body scope (.ref T) kV doc pm an cdv ct) ⟨us, []⟩ = (seqItems? (.ref T) >>= k) ∧
      ∀ its : List Value, its.length = dvs.length → k (some its.toArray) = pure (ps.zip us)) : Bd K fd ps n [] (fun ds _ => ds) := by
  obtain ⟨oc, od, dV, kV, doc, pm, an, cdv, ct, osl, rfl, lk, hcd, hD, hK⟩ := F.ex
  rcases hD with ⟨e, _⟩ | ⟨_, T, o, its, m, rfl, lT, oT, rT⟩
  · exact absurd e hd
  · refine ⟨fun s us ws vs zs ds es Fr X l1 l2 rv rz rp rpz => ?_⟩
    cases rz with
    | cons _ _ => simp at l2
    | nil =>
      obtain ⟨k, e1, e2⟩ := h T kV doc pm an cdv ct us (l1.trans hn)
      refine ⟨us, vs, BindsTo.of_looks fun M => ?_, rv, rp⟩
      show PySem.W.Looks M s.heap (bindArgs _ ⟨us, []⟩) _
      rw [e1]
      exact looks_items X lT oT (.of_pure (e2 its rT.length.symm))
end DL

set_option maxHeartbeats 2000000
namespace DL
open PySem PySem.Spec PyProof.Rows L2

section
variable {X : Cx} {W : DWX}
def aLen : DRL := fun ds M Q => match ds with
  | [.str x] => x.length ≤ sizeLine ∧ Q (.int x.length) M
  | [d] => ∃ es, seqOf M d = some es ∧ Q (.int es.length) M
  | _ => False
theorem c_len : DCall X W (.builtin "len") aLen := .of (call_len_seq.or call_len_str) fun st H Z r M xs ds Q q rp h => by
  unfold aLen at h
  split at h
  · cases rp with
    | cons r1 rr =>
      cases rr; cases r1
      exact .inr ⟨_, rfl, h.1, EQ.val q (.int _) h.2⟩
  · cases rp with
    | cons r1 rr =>
      cases rr
      obtain ⟨es, e, h⟩ := h
      obtain ⟨a, ys, rfl, hs, rl⟩ := seqOf_rep q.hr e r1
      exact .inl ⟨a, ys, rfl, hs, EQ.val q (.int _) (by rw [rl.length]; exact h)⟩
  · exact h.elim
def aI1 (f : Int → Int) : DRL := fun ds M Q => match ds with
  | [.int i] => Q (.int (f i)) M
  | _ => False
def aI2 (f : Int → Int → Int) : DRL := fun ds M Q => match ds with
  | [.int i, .int j] => Q (.int (f i j)) M
  | _ => False
def absI (i : Int) : Int := if i < 0 then -i else i
def maxI (i j : Int) : Int := if j > i then j else i
def minI (i j : Int) : Int := if j < i then j else i
theorem c_abs : DCall X W (.builtin "abs") (aI1 absI) := .of call_abs fun st H Z r M xs ds Q q rp h => by
  unfold aI1 at h
  split at h
  · cases rp with
    | cons r1 rr => cases rr; cases r1; exact ⟨_, rfl, EQ.val q (.int _) h⟩
  · exact h.elim
theorem c_int : DCall X W (.type "int") (aI1 id) := .of call_int1 fun st H Z r M xs ds Q q rp h => by
  unfold aI1 at h
  split at h
  · cases rp with
    | cons r1 rr => cases rr; cases r1; exact .inl ⟨_, rfl, EQ.val q (.int _) h⟩
  · exact h.elim
theorem c_max2 (hc : X.calm = true) : DCall X W (.builtin "max") (aI2 maxI) := .of (call_max2 hc) fun st H Z r M xs ds Q q rp h => by
  unfold aI2 at h
  split at h
  · cases rp with
    | cons r1 rr => cases rr with
      | cons r2 rr => cases rr; cases r1; cases r2; exact ⟨_, _, rfl, EQ.val q (.int _) h⟩
  · exact h.elim
theorem c_min2 (hc : X.calm = true) : DCall X W (.builtin "min") (aI2 minI) := .of (call_min2 hc) fun st H Z r M xs ds Q q rp h => by
  unfold aI2 at h
  split at h
  · cases rp with
    | cons r1 rr => cases rr with
      | cons r2 rr => cases rr; cases r1; cases r2; exact ⟨_, _, rfl, EQ.val q (.int _) h⟩
  · exact h.elim
def aStrI : DRL := fun ds M Q => match ds with
  | [.int i] => i.natAbs.log2 < 1920 ∧ Q (.str (toString i)) M
  | _ => False
theorem divp {i j : Int} (h : CDivW i j) : Builtin.divisionGoesByPylong i j = false := PyProof.noPylong_of_log2 h.2
def aDivmod : DRL := fun ds M Q => match ds with
  | [.int i, .int j] => CDivW i j ∧ Q (.tup [.int (i / j), .int (i % j)]) M
  | _ => False
theorem c_divmod : DCall X W (.builtin "divmod") aDivmod := .of call_divmodW fun st H Z r M xs ds Q q rp h => by
  unfold aDivmod at h
  split at h
  · cases rp with
    | cons r1 rr => cases rr with
      | cons r2 rr =>
        cases rr; cases r1; cases r2
        exact ⟨_, _, rfl, ⟨h.1.1, divp h.1⟩, fun p hp => EQ.newTup q hp (.cons (.int _) (.cons (.int _) .nil)) h.2⟩
  · exact h.elim
def aList : DRL := fun ds M Q => match ds with
  | [d] => ∃ es, seqOf M d = some es ∧ Q (.lst es) M
  | _ => False
theorem c_list : DCall X W (.type "list") aList := .of call_list_of fun st H Z r M xs ds Q q rp h => by
  unfold aList at h
  split at h
  · cases rp with
    | cons r1 rr =>
      cases rr
      obtain ⟨es, e, h⟩ := h
      obtain ⟨a, ys, rfl, hs, rl⟩ := seqOf_rep q.hr e r1
      exact ⟨a, ys, rfl, hs, fun l hl => EQ.newLst q hl rl h⟩
  · exact h.elim
def blsD : List D → Option (List Bool)
  | [] => some []
  | .bl i :: ds => (blsD ds).map (i :: ·)
  | _ => none
theorem blsD_rep {K : PySem.W.Frag} {F : Hp} : ∀ {vs : List V} {ds : List D} {ns : List Bool}, RepL K F vs ds → blsD ds = some ns → vs = ns.map V.bl
  | _, _, _, .nil, e => by cases e; rfl
  | _, _, _, .cons (.bl i) r, e => by
    obtain ⟨ms, e1, e2⟩ := Option.map_eq_some_iff.mp (show (blsD _).map (i :: ·) = some _ from e)
    subst e2
    rw [List.map_cons, ← blsD_rep r e1]
  | _, _, _, .cons .non r, e => by cases e
  | _, _, _, .cons (.int _) r, e => by cases e
  | _, _, _, .cons (.str _) r, e => by cases e
  | _, _, _, .cons (.ref _) r, e => by cases e
  | _, _, _, .cons (.ty _) r, e => by cases e
  | _, _, _, .cons (.tup _ _) r, e => by cases e
  | _, _, _, .cons (.lst _ _) r, e => by cases e
  | _, _, _, .cons (.dic _ _) r, e => by cases e
  | _, _, _, .cons (.ins _ _) r, e => by cases e
  | _, _, _, .cons (.obj _ _) r, e => by cases e
  | _, _, _, .cons (.scr _) r, e => by cases e
  | _, _, _, .cons (.exc _ _) r, e => by cases e
theorem blsD_map (ns : List Bool) : blsD (ns.map D.bl) = some ns := by
  induction ns with
  | nil => rfl
  | cons n ns ih => rw [List.map_cons]; show (blsD _).map (n :: ·) = _; rw [ih]; rfl
def aAll : DRL := fun ds M Q => match ds with
  | [d] => ∃ es bs, lstOf M d = some es ∧ blsD es = some bs ∧ Q (.bl (bs.all id)) M
  | _ => False
theorem c_all (hc : X.calm = true) : DCall X W (.builtin "all") aAll := .of (cr_all hc) fun st H Z r M xs ds Q q rp h => by
  unfold aAll at h
  split at h
  · cases rp with
    | cons r1 rr =>
      cases rr
      obtain ⟨es, ns, e, e2, h⟩ := h
      obtain ⟨a, ys, rfl, hs, rl⟩ := lstOf_rep q.hr e r1
      rw [blsD_rep rl e2] at hs
      exact ⟨a, ns, rfl, hs, EQ.val q (.bl _) h⟩
  · exact h.elim
end

section
variable {X : Cx} {pins : List (Addr × Obj)} {st : Sg} {H : Hp} {s : Shared}
theorem rd_eq {h : Heap} {u v : Value} {p : PyData} {as : List Addr} (e : v = u) (q : Reads h u p as) : Reads h v p as := by rw [e]; exact q
mutual
theorem reads_of (I : Inv X pins st H s) (hsy : H sysModules = none) : ∀ {v : V} {d : D} {p : PyData} {u : Value}, Rep X.K H v d → py d = some p → RelV v u → ∃ as, Reads s.heap u p as ∧ sysModules ∉ as
  | _, _, _, _, .non, e, r => by cases e; cases r; exact ⟨[], .none, by simp⟩
  | _, _, _, _, .bl b, e, r => by cases e; cases r; exact ⟨[], .bool b, by simp⟩
  | _, _, _, _, .int b, e, r => by cases e; obtain ⟨t, rfl⟩ := r; exact ⟨[], .int b t, by simp⟩
  | _, _, _, _, .str b, e, r => by cases e; obtain ⟨t, rfl⟩ := r; exact ⟨[], .str b t, by simp⟩
  | _, _, _, _, .ref b, e, r => by cases e
  | _, _, _, _, .ty b, e, r => by cases e
  | _, _, _, _, .scr h, e, r => by cases e
  | _, _, _, _, .exc h r', e, r => by cases e
  | _, _, _, _, .fn h r', e, r => by cases e
  | _, _, _, _, .ins h r', e, r => by cases e
  | _, _, _, _, .obj h r', e, r => by cases e
  | _, _, _, _, .tup (ds := ds) h r', e, r => by
    cases r
    obtain ⟨ps, e3, rfl⟩ := Option.map_eq_some_iff.mp (show (pyL ds).map PyData.tuple = some _ from e)
    obtain ⟨its, rv, ⟨o, ho, hc, n, hd⟩, _⟩ := I.tuple h
    obtain ⟨as, q, hn⟩ := readsL_of I hsy r' e3 rv
    exact ⟨as, .tuple ho hc hd q, hn⟩
  | _, _, _, _, .lst (a := a) (ds := ds) h r', e, r => by
    cases r
    obtain ⟨ps, e3, rfl⟩ := Option.map_eq_some_iff.mp (show (pyL ds).map PyData.list = some _ from e)
    obtain ⟨its, rv, ⟨o, n, ho, hc, _, hd⟩, _⟩ := I.list (SqL.of h)
    obtain ⟨as, q, hn⟩ := readsL_of I hsy r' e3 rv
    refine ⟨_, .list ho hc hd q, fun z => ?_⟩
    rcases List.mem_cons.mp z with z | z
    · rw [z, h] at hsy; cases hsy
    · exact hn z
  | _, _, _, _, .dic (a := a) (ds := ds) h r', e, r => by
    cases r
    obtain ⟨ps, e3, rfl⟩ := Option.map_eq_some_iff.mp (show (pyK ds).map PyData.dict = some _ from e)
    obtain ⟨_, hs, vs, kv, o, es, ep, ho, hx, hd, _, hp, _⟩ := Rd.ok (.inr ⟨_, h⟩) I.hok
    obtain ⟨as, bs, q1, q2, hn1, hn2⟩ := readsK_of I hsy r' e3 kv hp
    refine ⟨_, .dict ho hx.1 hd q1 q2, fun z => ?_⟩
    rcases List.mem_append.mp z with z | z
    · rcases List.mem_cons.mp z with z | z
      · rw [← z] at hs; simp at hs
      · exact hn1 z
    · exact hn2 z
theorem readsL_of (I : Inv X pins st H s) (hsy : H sysModules = none) : ∀ {vs : List V} {ds : List D} {ps : List PyData} {us : List Value}, RepL X.K H vs ds → pyL ds = some ps → Vals vs us → ∃ as, ReadsAll s.heap us ps as ∧ sysModules ∉ as
  | _, _, _, _, .nil, e, r => by cases e; cases r; exact ⟨[], .nil, by simp⟩
  | _, _, _, _, .cons (d := d) (ds := ds) h r', e, r => by
    have e2 : (match py d, pyL ds with | some p, some ps => some (p :: ps) | _, _ => none) = some _ := e
    split at e2
    · rename_i p ps e3 e4
      cases e2
      cases r with
      | cons r1 r2 =>
        obtain ⟨as, q1, n1⟩ := reads_of I hsy h e3 r1
        obtain ⟨bs, q2, n2⟩ := readsL_of I hsy r' e4 r2
        exact ⟨_, .cons q1 q2, fun z => (List.mem_append.mp z).elim n1 n2⟩
    · cases e2
theorem readsK_of (I : Inv X pins st H s) (hsy : H sysModules = none) : ∀ {vs : List (Key × V)} {ds : List (Key × D)} {ps : List (PyData × PyData)} {us : List (Key × Value)} {es : List DictEntry}, RepK X.K H vs ds → pyK ds = some ps → KV vs us → Pairs (mixKind X.prog X.w) es us →
    ∃ as bs, ReadsAll s.heap (es.map (·.key)) (ps.map (·.1)) as ∧ ReadsAll s.heap (es.map (·.val)) (ps.map (·.2)) bs ∧ sysModules ∉ as ∧ sysModules ∉ bs
  | _, _, _, _, _, .nil, e, r, hp => by cases e; cases r; cases hp; exact ⟨[], [], .nil, .nil, by simp, by simp⟩
  | _, _, _, _, _, .cons (k := k) (d := d) (ds := ds) h r', e, r, hp => by
    have e2 : (match py d, pyK ds with | some p, some ps => some ((keyPy k, p) :: ps) | _, _ => none) = some _ := e
    split at e2
    · rename_i p ps e3 e4
      cases e2
      cases r with
      | cons r1 r2 =>
        cases hp with
        | cons h1 h2 h3 =>
          obtain ⟨ek, rv⟩ := r1
          obtain ⟨bs1, q1, n1⟩ := reads_of I hsy h e3 rv
          obtain ⟨as, bs, q2, q3, n2, n3⟩ := readsK_of I hsy r' e4 r2 h3
          have hkey : ∀ {en : DictEntry} {kk : Key}, keyIs kk en.key = true → Reads s.heap en.key (keyPy kk) [] := fun {en kk} z => by
            rcases keyIs_shape z with ⟨i, t, rfl, e⟩ | ⟨x, t, rfl, e⟩
            · rw [e]; exact .int i t
            · rw [e]; exact .str x t
          have hk2 := hkey h1
          rw [← ek] at hk2
          refine ⟨_, _, .cons hk2 q2, .cons (rd_eq h2 q1) q3, by simpa using n2, fun z => (List.mem_append.mp z).elim n1 n3⟩
    · cases e2
end
end

def ShowOk (p : PyData) : Prop := p.showable = true ∧ p.shown.length ≤ sizeLine ∧ p.depth ≤ 60
def aRepr : DRL := fun ds M Q => match ds with
  | [.lst es] => ∃ p, py (.lst es) = some p ∧ ShowOk p ∧ Q (.str p.shown) M
  | [.tup es] => ∃ p, py (.tup es) = some p ∧ ShowOk p ∧ Q (.str p.shown) M
  | [.dic es] => ∃ p, py (.dic es) = some p ∧ ShowOk p ∧ Q (.str p.shown) M
  | _ => False
theorem c_repr {X : Cx} {W : DWX} {k : Nat} (hr : Rm k X.A) (hsy : (X.K.lookup sysModules).isSome = true) : DCall X W (.builtin "repr") aRepr := by
  intro pins s st H Z r M xs vs ds Q I q rv rp h
  have hsy2 : H sysModules = none := by
    obtain ⟨o, e⟩ := Option.isSome_iff_exists.mp hsy
    exact (I.bs sysModules o (I.ok.mod.kin _ _ e)).2
  have main : ∀ (a : Addr) (d : D) (p : PyData), xs = [.ref a] → Rep X.K (out Z M H) (.ref a) d → py d = some p → ShowOk p → Q (.str p.shown) M → wpAny (model X.prog X.w) X.A (call (.builtin "repr") vs) (EP X pins st (EQ (kx X W) Z st r (out Z M H) Q)) X.xe s := by
    intro a d p e r1 e1 sh hq
    subst e
    obtain ⟨u, rfl, ru⟩ := vals1 rv
    cases (show u = Value.ref a from ru)
    obtain ⟨as, rd, hn⟩ := reads_of I hsy2 (r1.mono (out_sub _ _ _)) e1 (u := .ref a) rfl
    have hun := hr.room.un
    exact repr_of_reads' rd sh.1 (fun _ => hn) hr.gd (by have := sh.2.2; omega) (fun _ _ z => z) (fun h' u tk kk => ⟨.str _, H, I.kept (t' := tk) kk, ⟨u, rfl⟩, EQ.val q (.str _) hq⟩) sh.2.1
  unfold aRepr at h
  split at h
  · cases rp with
    | cons r1 rr =>
      cases rr
      obtain ⟨p, e, sh, h⟩ := h
      cases r1 with
      | lst h1 h2 => exact main _ _ p rfl (.lst h1 h2) e sh h
  · cases rp with
    | cons r1 rr =>
      cases rr
      obtain ⟨p, e, sh, h⟩ := h
      cases r1 with
      | tup h1 h2 => exact main _ _ p rfl (.tup h1 h2) e sh h
  · cases rp with
    | cons r1 rr =>
      cases rr
      obtain ⟨p, e, sh, h⟩ := h
      cases r1 with
      | dic h1 h2 => exact main _ _ p rfl (.dic h1 h2) e sh h
  · exact h.elim

def tyD (M : Mh) : D → Option Value
  | .non => some (.type "NoneType")
  | .bl _ => some (.type "bool")
  | .int _ => some (.type "int")
  | .str _ => some (.type "str")
  | .tup _ => some (.type "tuple")
  | .lst _ => some (.type "list")
  | .scr _ => some (.type "list")
  | .dic _ => some (.type "dict")
  | .ins C _ => some (.ref C)
  | .obj C _ => some (.ref C)
  | .ref a => match M a with
    | some (.lst _) => some (.type "list")
    | some .pool => some (.type "list")
    | some (.dic _) => some (.type "dict")
    | some (.ins C _ _) => some (.ref C)
    | some (.slt C _ _) => some (.ref C)
    | none => none
  | .ty _ => none
  | .exc _ _ _ => none
  | .fn _ _ _ _ => none
def clsD : D → Option Value
  | .ty n => some (.type n)
  | .ref C => some (.ref C)
  | _ => none
structure IsiC (K : PySem.W.Frag) (C : Addr) : Prop where
  ic : PySem.W.isClsIn K C = true
  pg : PySem.W.plainGet K C "__class__" = true
  ha : PySem.W.findIn K (.ref C) "__class__" = some (some (.builtin "object.__class__"))
  hm : PySem.W.mroIn K C (.type "object") = some true
theorem obj_cls (K : PySem.W.Frag) : PySem.W.specialIn K (.builtin "object.__class__") "__get__" = some (some (.builtin "getset_descriptor.__get__")) ∧ PySem.W.takesIn K (.builtin "object.__class__") = some true := by
  refine ⟨?_, ?_⟩
  · kernel_rfl
  · kernel_rfl
def aIsi (K : PySem.W.Frag) : DRL := fun ds M Q => match ds with
  | [d, c] => ∃ t u b, tyD M d = some t ∧ (∀ C, t = .ref C → IsiC K C) ∧ clsD c = some u ∧ PySem.W.kitOne K t u = some b ∧ Q (.bl b) M
  | _ => False
end DL
namespace DL
open PySem PySem.Spec PyProof.Rows L2
section
variable {X : Cx} {W : DWX}
theorem kit_d {pins : List (Addr × Obj)} {st : Sg} {H Z : Hp} {s : Shared} {M : Mh} {v : V} {d : D} {u t : Value} (I : Inv X pins st H s) (m : HR X.K Z M H) (rp : Rep X.K (out Z M H) v d) (ru : RelV v u) (e : tyD M d = some t) (hi : ∀ C, t = .ref C → IsiC X.K C) :
    ∃ P : Heap → Prop, PySem.W.KitX X.K u t P ∧ P s.heap ∧ u ≠ .builtin "__main__.__loader__#opaque" := by
  have one : ∀ (a C : Addr), u = .ref a → t = .ref C → (∃ ox od, PySem.W.InstAt s.heap a ox C (some od)) → ∃ P : Heap → Prop, PySem.W.KitX X.K u t P ∧ P s.heap ∧ u ≠ .builtin "__main__.__loader__#opaque" := fun a C e1 e2 ⟨ox, od, J⟩ => by
    subst e1; subst e2
    have c := hi C rfl
    exact ⟨_, OwX.kitx_slt c.ic c.pg c.ha (obj_cls X.K).1 (obj_cls X.K).2 c.hm, J, fun z => nomatch z⟩
  have fIns : ∀ (a C dx : Addr) xs, H a = some (.ins C dx xs) → ∃ ox od, PySem.W.InstAt s.heap a ox C (some od) := fun a C dx xs e => by
    obtain ⟨mA, O, _⟩ := ins_get I.hok e
    obtain ⟨od, J, _⟩ := O.look
    exact ⟨_, od, J⟩
  have fSl : ∀ (a C dx : Addr) xs, H a = some (SlX.SlO a C dx xs) → H dx = some (.xd []) → ∃ ox od, PySem.W.InstAt s.heap a ox C (some od) := fun a C dx xs e e' => by
    obtain ⟨sl, od, _, J, _⟩ := SlX.slt_inst I (.inr ⟨e, e'⟩)
    exact ⟨_, od, J⟩
  have fL : ∀ (a : Addr) (xs : List V), SqL X.K H a xs → u = .ref a → ∃ P : Heap → Prop, PySem.W.KitX X.K u (.type "list") P ∧ P s.heap ∧ u ≠ .builtin "__main__.__loader__#opaque" := fun a xs h e => by
    subst e
    obtain ⟨its, rv, ⟨o, n, ho, hc, _⟩, _⟩ := I.list h
    exact ⟨_, PySem.W.kitx_list, ⟨o, ho, hc⟩, fun z => nomatch z⟩
  have fD : ∀ (a : Addr) (xs : List (Key × V)), Rd H a (.dK xs) → u = .ref a → ∃ P : Heap → Prop, PySem.W.KitX X.K u (.type "dict") P ∧ P s.heap ∧ u ≠ .builtin "__main__.__loader__#opaque" := fun a xs h e => by
    subst e
    obtain ⟨_, _, vs, _, o, es, ep, h1, h2, _⟩ := h.ok I.hok
    exact ⟨_, PySem.W.kitx_dict, ⟨o, h1, h2.1⟩, fun z => nomatch z⟩
  cases rp with
  | non => cases e; cases (show u = Value.none from ru); exact ⟨_, PySem.W.kitx_none, True.intro, fun z => nomatch z⟩
  | bl y => cases e; cases (show u = Value.bool y from ru); exact ⟨_, PySem.W.kitx_bool, True.intro, fun z => nomatch z⟩
  | int i => cases e; obtain ⟨t, q⟩ := (show ∃ t, u = Value.int i t from ru); cases q; exact ⟨_, PySem.W.kitx_int, True.intro, fun z => nomatch z⟩
  | str y => cases e; obtain ⟨t, q⟩ := (show ∃ t, u = Value.str y t from ru); cases q; exact ⟨_, PySem.W.kitx_str, True.intro, fun z => nomatch z⟩
  | ty n => cases e
  | tup h r =>
    cases e
    cases (show u = Value.ref _ from ru)
    obtain ⟨its, rv, ⟨o, ho, hc, _⟩, _⟩ := I.tuple (sqT_mono (out_sub _ _ _) h)
    exact ⟨_, PySem.W.kitx_tuple, ⟨o, ho, hc⟩, fun z => nomatch z⟩
  | lst h r => cases e; exact fL _ _ (SqL.of (out_sub _ _ _ _ _ h)) ru
  | exc h r => cases e
  | fn h r => cases e
  | scr h => cases e; exact fL _ _ (sqL_mono (out_sub _ _ _) h) ru
  | dic h r => cases e; exact fD _ _ (.inr ⟨_, out_sub _ _ _ _ _ h⟩) ru
  | ins h r => cases e; exact one _ _ ru rfl (fSl _ _ _ _ (out_sub _ _ _ _ _ h.1) (out_sub _ _ _ _ _ h.2))
  | obj h r => cases e; exact one _ _ ru rfl (fIns _ _ _ _ (out_sub _ _ _ _ _ h))
  | ref a =>
    have e2 : (match M a with
      | some (.lst _) => some (.type "list")
      | some .pool => some (.type "list")
      | some (.dic _) => some (.type "dict")
      | some (.ins C _ _) => some (.ref C)
      | some (.slt C _ _) => some (.ref C)
      | none => none) = some t := e
    split at e2
    · rename_i em; cases e2; obtain ⟨xs, q, _⟩ := m.mem _ _ em; exact fL _ _ (SqL.of q) ru
    · rename_i em; cases e2; obtain ⟨i, j, k, q, _⟩ := m.mem _ _ em; exact fL _ _ (SqL.of q) ru
    · rename_i em; cases e2; obtain ⟨xs, q, _⟩ := m.mem _ _ em; exact fD _ _ (.inl q) ru
    · rename_i em; cases e2; obtain ⟨xs, q, _⟩ := m.mem _ _ em; exact one _ _ ru rfl (fIns _ _ _ _ q)
    · rename_i em; cases e2; obtain ⟨xs, q, q2, _⟩ := m.mem _ _ em; exact one _ _ ru rfl (fSl _ _ _ _ q (out_sub _ _ _ _ _ q2))
    · cases e2
theorem cls_d {K : PySem.W.Frag} {F : Hp} {v : V} {d : D} {u w : Value} (rp : Rep K F v d) (rv : RelV v u) (e : clsD d = some w) : u = w := by
  cases rp <;> cases e
  · exact rv
  · exact rv
theorem c_isi : DCall X W (.builtin "isinstance") (aIsi X.K) := by
  intro pins s st H Z r M xs vs ds Q I q rv rp h
  unfold aIsi at h
  split at h
  · cases rp with
    | cons r1 rr =>
      cases rr with
      | cons r2 rr =>
        cases rr
        obtain ⟨t, w, b, e1, hi, e2, e3, h⟩ := h
        obtain ⟨u1, u2, rfl, q1, q2⟩ := vals2 rv
        have := cls_d r2 q2 e2
        subst this
        obtain ⟨P, z, p, hx⟩ := kit_d I q.hr r1 q1 e1 hi
        exact PySem.W.kia_one z I.kIn p e3 hx fun tk => ⟨.bl b, H, I.tok tk, rfl, EQ.val q (.bl b) h⟩
  · exact h.elim
end
end DL

set_option maxHeartbeats 2000000
namespace DL
open PySem PySem.Spec PyProof.Rows L2

def bty (M : Mh) : D → Option String
  | .int _ => some "int"
  | .str _ => some "str"
  | .lst _ => some "list"
  | .scr _ => some "list"
  | .dic _ => some "dict"
  | .ref a => match M a with
    | some (.lst _) => some "list"
    | some .pool => some "list"
    | some (.dic _) => some "dict"
    | _ => none
  | _ => none
def dBM (T : String) (o : DRM) (te : DTE) (ta : DTA) : DTE := fun r M Q => te r M fun x M1 => bty M1 x = some T ∧ ta r M1 fun ds M2 => o x ds M2 Q
section
variable {X : Cx} {W : DWX}
theorem bty_is {pins : List (Addr × Obj)} {st : Sg} {H Z : Hp} {s : Shared} {M : Mh} {v : V} {d : D} {u : Value} {T : String} (I : Inv X pins st H s) (m : HR X.K Z M H) (rp : Rep X.K (out Z M H) v d) (ru : RelV v u) (e : bty M d = some T) :
    s.TypeIs u T ∧ ∀ a, u = .ref a → ∃ ob, s.heap.get? a = some ob ∧ ob.dict = none := by
  have fL : ∀ (a : Addr) (xs : List V), SqL X.K H a xs → u = .ref a → s.TypeIs u "list" ∧ ∀ a, u = .ref a → ∃ ob, s.heap.get? a = some ob ∧ ob.dict = none := fun a xs h e => by
    subst e
    obtain ⟨its, rv, pl, _⟩ := I.list h
    refine ⟨pl.isList.typeIs, fun b e => ?_⟩
    cases e
    obtain ⟨o, n, ho, hc, hd, _⟩ := pl
    exact ⟨o, ho, hd⟩
  have fD : ∀ (a : Addr) (xs : List (Key × V)), Rd H a (.dK xs) → u = .ref a → s.TypeIs u "dict" ∧ ∀ a, u = .ref a → ∃ ob, s.heap.get? a = some ob ∧ ob.dict = none := fun a xs h e => by
    subst e
    obtain ⟨_, _, vs, _, o, es, ep, h1, h2, _⟩ := h.ok I.hok
    refine ⟨⟨o, h1, h2.1⟩, fun b e => ?_⟩
    cases e
    exact ⟨o, h1, h2.2.1⟩
  cases rp with
  | non => cases e
  | bl y => cases e
  | ty n => cases e
  | ins h r => cases e
  | obj h r => cases e
  | int i => cases e; obtain ⟨t, q⟩ := (show ∃ t, u = Value.int i t from ru); cases q; exact ⟨typeIs_int s i t, fun _ e => nomatch e⟩
  | str y => cases e; obtain ⟨t, q⟩ := (show ∃ t, u = Value.str y t from ru); cases q; exact ⟨typeIs_str s y t, fun _ e => nomatch e⟩
  | tup h r => cases e
  | lst h r => cases e; exact fL _ _ (SqL.of (out_sub _ _ _ _ _ h)) ru
  | exc h r => cases e
  | fn h r => cases e
  | scr h => cases e; exact fL _ _ (sqL_mono (out_sub _ _ _) h) ru
  | dic h r => cases e; exact fD _ _ (.inr ⟨_, out_sub _ _ _ _ _ h⟩) ru
  | ref a =>
    have e2 : (match M a with
      | some (.lst _) => some "list"
      | some .pool => some "list"
      | some (.dic _) => some "dict"
      | _ => none) = some T := e
    split at e2
    · rename_i em; cases e2; obtain ⟨xs, q, _⟩ := m.mem _ _ em; exact fL _ _ (SqL.of q) ru
    · rename_i em; cases e2; obtain ⟨i, j, k, q, _⟩ := m.mem _ _ em; exact fL _ _ (SqL.of q) ru
    · rename_i em; cases e2; obtain ⟨xs, q, _⟩ := m.mem _ _ em; exact fD _ _ (.inl q) ru
    · cases e2
variable {o e : Expr} {es : List Expr} {to : DTE} {t : DTA} {name : Str} {apos cpos : Pos} {T id : String} {rd : DRM}
theorem de_bm (pa : PlainAttrs T) (slot : Slot T name id) (hty : typeOf (.builtin id) = pure (.type "method_descriptor")) (hm : DMt X W id rd) (ho : DE X W o to) (ha : DA X W (e :: es) t)
    (hbase : attributeBase o name X.env (eval o X.env) = eval o X.env := by rfl)
    (hfew : ((backTo cpos (starEach (e :: es) X.env)).all (fun x => !x.1) && (backToKw cpos (keywordEach [] X.env)).all (fun x => x.1.isSome)
      && decide ((e :: es).length + ([] : List Keyword).length + (if ([] : List Keyword).isEmpty then 0 else 1) < 30)) = true := by rfl)
    (hline : (apos.endLine == cpos.line) = true := by rfl) (hs : starEach (e :: es) X.env = (false, eval e X.env) :: starEach es X.env := by rfl) (hplain : (backTo cpos (starEach es X.env)).any (·.1) = false := by rfl) :
    DE X W (.Call (.Attribute o name apos) (e :: es) [] cpos) (dBM T rd to t) := by
  refine ⟨fun pins s st H Z r M Q I q h => wpAny_Call_method_late hbase hfew hline rfl (thn (ho.run pins s st H Z r M _ I q h) fun v s1 ⟨x, H1, I1, rx, d, M1, q1, rp, sm, ty, h1⟩ => ?_)⟩
  obtain ⟨h2, h3⟩ := bty_is I1 q1.hr rp rx ty
  refine ⟨T, id, pa, slot, hty, h2, h3, ?_⟩
  have hA := ha.run cpos pins s1 st H1 Z r M1 _ I1 q1 h1
  rw [hs] at hA ⊢
  refine Calls.callWith_builtin (by show (false || (backTo cpos (starEach es X.env)).any (·.1)) = false; rw [hplain] <;> rfl) (Calls.evalArgs_plain ?_)
  exact thn hA fun us s2 ⟨vs, H2, I2, rvs, ds, M2, q2, rps, sm2, h4⟩ => thn (hm pins s2 st H2 Z r M2 x vs v us d ds Q I2 q2 rx rvs (rp.mono sm2) rps h4) fun u s3 ⟨y, H3, I3, ry, e⟩ => ⟨y, H3, I3, ry, e.mono (sm.trans sm2)⟩

theorem sr_mlst {k : Kt} {Z : Hp} {r : Rho} {M : Mh} {st : Sg} {H : Hp} {p : Addr} {ds ds' : List D} {xs' : List V} (q : SR k Z r M st H) (e : M p = some (.lst ds)) (rl : RepL k.K (out Z M H) xs' ds') :
    SR k Z r (mset M p (.lst ds')) st (upd H p (.lst xs')) ∧ Same (out Z M H) (out Z (mset M p (.lst ds')) (upd H p (.lst xs'))) := by
  have hn : H p = none ∨ M p ≠ none := .inr (by rw [e]; exact fun z => nomatch z)
  refine ⟨q.mset (fun b hb => upd_ne hb) hn ⟨xs', upd_same, rl⟩, ?_⟩
  rw [out_mset q.hr (fun b hb => upd_ne hb) hn]
  exact Same.refl _
def mAppend : DRM := fun d ds M Q => match d, ds with
  | .ref p, [y] => ∃ xs, M p = some (.lst xs) ∧ xs.length < sizeLine ∧ Q .non (mset M p (.lst (xs ++ [y])))
  | _, _ => False
theorem m_append : DMt X W "list.append" mAppend := .of mt_append fun st H Z r M x xs d ds Q q rp rl h => by
  unfold mAppend at h
  split at h
  · obtain ⟨ys, e, hz, h⟩ := h
    cases rp
    cases rl with
    | cons r1 rr =>
      cases rr
      obtain ⟨zs, e2, r2⟩ := q.hr.mem _ _ e
      obtain ⟨q', sm⟩ := sr_mlst q e (r2.append (.cons r1 .nil))
      exact ⟨_, zs, _, rfl, rfl, e2, by rw [r2.length]; exact hz, .non, _, q', .non, sm, h⟩
  · exact h.elim
theorem RepL.erase {K : PySem.W.Frag} {F : Hp} : ∀ {v : List V} {d : List D} (i : Nat), RepL K F v d → RepL K F (v.eraseIdx i) (d.eraseIdx i)
  | _, _, _, .nil => .nil
  | _, _, 0, .cons _ t => t
  | _, _, i + 1, .cons r t => .cons r (RepL.erase i t)
def m2S (g : Str → Str → D) : DRM := fun d ds M Q => match d, ds with
  | .str a, [.str b] => Q (g a b) M
  | _, _ => False
end
end DL

set_option maxHeartbeats 2000000
namespace DL
open PySem PySem.Spec PyProof.Rows L2

def clsI (M : Mh) : D → Option Addr
  | .ins C _ => some C
  | .obj C _ => some C
  | .ref a => match M a with
    | some (.ins C _ _) => some C
    | some (.slt C _ _) => some C
    | _ => none
  | _ => none
section
variable {X : Cx} {W : DWX} {pins : List (Addr × Obj)} {st : Sg} {H Z : Hp} {s : Shared} {M : Mh} {r : Rho} {v : V} {d : D} {u : Value}
theorem inst_at {C : Addr} (I : Inv X pins st H s) (m : HR X.K Z M H) (rp : Rep X.K (out Z M H) v d) (e : clsI M d = some C) : ∃ a ox od, v = .ref a ∧ PySem.W.InstAt s.heap a ox C (some od) := by
  have fIns : ∀ (a C dx : Addr) xs, H a = some (.ins C dx xs) → ∃ ox od, PySem.W.InstAt s.heap a ox C (some od) := fun a C dx xs e => by
    obtain ⟨mA, O, _⟩ := ins_get I.hok e
    obtain ⟨od, J, _⟩ := O.look
    exact ⟨_, od, J⟩
  have fSl : ∀ (a C dx : Addr) xs, H a = some (SlX.SlO a C dx xs) → H dx = some (.xd []) → ∃ ox od, PySem.W.InstAt s.heap a ox C (some od) := fun a C dx xs e e' => by
    obtain ⟨sl, od, _, J, _⟩ := SlX.slt_inst I (.inr ⟨e, e'⟩)
    exact ⟨_, od, J⟩
  cases rp with
  | ins h r => cases e; obtain ⟨ox, od, J⟩ := fSl _ _ _ _ (out_sub _ _ _ _ _ h.1) (out_sub _ _ _ _ _ h.2); exact ⟨_, ox, od, rfl, J⟩
  | obj h r => cases e; obtain ⟨ox, od, J⟩ := fIns _ _ _ _ (out_sub _ _ _ _ _ h); exact ⟨_, ox, od, rfl, J⟩
  | ref a =>
    have e2 : (match M a with
      | some (.ins C _ _) => some C
      | some (.slt C _ _) => some C
      | _ => none) = some C := e
    split at e2
    · rename_i em; cases e2; obtain ⟨xs, q, _⟩ := m.mem _ _ em; obtain ⟨ox, od, J⟩ := fIns _ _ _ _ q; exact ⟨_, ox, od, rfl, J⟩
    · rename_i em; cases e2; obtain ⟨xs, q, q2, _⟩ := m.mem _ _ em; obtain ⟨ox, od, J⟩ := fSl _ _ _ _ q (out_sub _ _ _ _ _ q2); exact ⟨_, ox, od, rfl, J⟩
    · cases e2
  | _ => cases e
end

structure PropC (K : PySem.W.Frag) (C : Addr) (f : Str) (p g : Addr) : Prop extends ICls K C where
  at_ : PySem.W.findIn K (.ref C) f = some (some (.ref p))
  gt : PySem.W.specialIn K (.ref p) "__get__" = some (some (.builtin "property.__get__"))
  tak : PySem.W.takesIn K (.ref p) = some true
  rec_ : ∃ rest, PySem.W.recIn K p "property" = some (.ref g :: rest)
theorem cx_no {P : Program} {w : World} {outer : List Env} {H : Hp} {s : Shared} {K : PySem.W.Frag} {Z F : Hp} {u : Value} {s' : Shared} (h : L2.CX P w outer H s (XQ K Z F fun _ _ _ => False) u s') : False := by
  obtain ⟨_, _, _, _, _, _, _, _, _, _, _, _, h⟩ := h
  obtain ⟨_, _, _, _, _, z⟩ := h
  exact z
def dProp (C : Addr) (sp : DSp) (te : DTE) : DTE := fun r M Q => te r M fun x M1 => clsI M1 x = some C ∧ sp [x] M1 Q fun _ _ _ => False
section
variable {X : Cx} {W : DWX} {k n : Nat} {C p g : Addr} {f m : Str} {fd : FuncData} {ps ks : List Str} {sp : DSp} {e o : Expr} {es : List Expr} {kws : List Keyword} {pos apos : Pos} {te : DTE} {t tk : DTA} {gD : List D → List D → List D}
theorem de_prop (he : DE X W e te) (hp : PropC X.K C f p g) (F : FnG X.prog X.w X.K X.mg X.base k g fd ps sp) (hr : Rm (k + 1) X.A) (hb : Bd X.K fd ps 1 [] gD) (hg : ∀ x, gD [x] [] = [x] := by intro _; rfl)
    (hab : attributeBase e f X.env (eval e X.env) = eval e X.env := by rfl) : DE X W (.Attribute e f pos) (dProp C sp te) := by
  refine ⟨fun pins s st H Z r M Q I q h => ?_⟩
  refine attr_of hab (thn (he.run pins s st H Z r M _ I q h) fun u s1 ⟨v, H1, I1, rv, d, M1, q1, rp, sm, hc, hs⟩ => ?_)
  obtain ⟨a, ox, od, rfl, J⟩ := inst_at I1 q1.hr rp hc
  cases (show u = Value.ref a from rv)
  obtain ⟨rest, hrec⟩ := hp.rec_
  have I2 := I1.tok (s1.toks + 1)
  refine PySem.W.get_bind I1.kIn J (PySem.W.plainGet_of (hp.get f)).1 (PySem.W.findObj_data hp.ic hp.at_ hp.gt hp.tak) (PySem.W.plainGet_of (hp.get f)).2 (wpAny_call (PySem.W.prop_get (s := { s1 with toks := s1.toks + 1 }) I1.kIn hrec ?_))
  obtain ⟨full, fullV, b1, b2, b3⟩ := hb.to { s1 with toks := s1.toks + 1 } [.ref a] [] [.ref a] [] [d] [] _ I2.kIn rfl rfl (.cons rfl .nil) .nil (.cons rp .nil) .nil
  rw [hg] at b3
  refine codeAny_mono (F.run X.A.in1 X.stack { s1 with toks := s1.toks + 1 } H1 Z M1 ⟨[.ref a], []⟩ full fullV [d] Q _ hr.in1 I2.env0.in1 b1 b2 q1.hr b3 hs) fun z s' hq => ?_
  cases z with
  | error er =>
    exact (cx_no hq).elim
  | ok fl =>
    cases fl with
    | ret u =>
      obtain ⟨v, H', I3, rv, d', M', q3, q4, q5, q6⟩ := I2.after hq
      show wpAny _ _ (handedOut u) _ _ _
      rw [PySem.W.handedOut_of (handed_of rv)]
      exact wpAny_pure ⟨v, H', I3, rv, d', M', q1.step q3 q5, q4, sm.trans q5, q6⟩
    | next => exact False.elim hq
    | brk => exact False.elim hq
    | cont => exact False.elim hq

def dSlot (C : Addr) (i : Nat) (te : DTE) : DTE := fun r M Q => te r M fun x M1 => match x with
  | .ins C' ds => C' = C ∧ ∃ d, ds[i]? = some d ∧ Q d M1
  | .ref a => ∃ dx ds d, M1 a = some (.slt C dx ds) ∧ ds[i]? = some (some d) ∧ Q d M1
  | _ => False
theorem de_slot {p : Addr} {i : Nat} (c : SlX.SCls X.K C) (t : SlX.Slot1 X.K C f p i) (he : DE X W e te) (hab : attributeBase e f X.env (eval e X.env) = eval e X.env := by rfl) : DE X W (.Attribute e f pos) (dSlot C i te) := by
  refine ⟨fun pins s st H Z r M Q I q h => ?_⟩
  refine attr_of hab (thn (he.run pins s st H Z r M _ I q h) fun u s1 ⟨v, H1, I1, rv, d, M1, q1, rp, sm, hc⟩ => ?_)
  cases rp with
  | ins h1 h2 =>
    obtain ⟨rfl, d', e1, hq⟩ := hc
    obtain ⟨y, e2, ry⟩ := h2.get e1
    cases (show u = Value.ref _ from rv)
    exact SlX.getslot_ok I1 (.inr ⟨out_sub _ _ _ _ _ h1.1, out_sub _ _ _ _ _ h1.2⟩) c t (by rw [List.getElem?_map, e2]; rfl) fun w s2 I2 rw' => ⟨y, H1, I2, rw', d', M1, q1, ry, sm, hq⟩
  | ref a =>
    obtain ⟨dx, ds, d', e1, e2, hq⟩ := hc
    obtain ⟨xs, x1, x2, x3, x4⟩ := q1.hr.mem _ _ e1
    obtain ⟨y, e3, ry⟩ := x4 i d' e2
    cases (show u = Value.ref _ from rv)
    exact SlX.getslot_ok I1 (.inr ⟨x1, out_sub _ _ _ _ _ x2⟩) c t e3 fun w s2 I2 rw' => ⟨y, H1, I2, rw', d', M1, q1, ry, sm, hq⟩
  | _ => exact hc.elim
theorem sr_mslt {k : Kt} {Z : Hp} {r : Rho} {M : Mh} {st : Sg} {H : Hp} {a : Addr} {o : HO} {mo : MO} (q : SR k Z r M st H) (e : M a ≠ none) (rl : MoR k.K (out Z M H) (upd H a o) a mo) :
    SR k Z r (mset M a mo) st (upd H a o) ∧ Same (out Z M H) (out Z (mset M a mo) (upd H a o)) := by
  refine ⟨q.mset (fun b hb => upd_ne hb) (.inr e) rl, ?_⟩
  rw [out_mset q.hr (fun b hb => upd_ne hb) (.inr e)]
  exact Same.refl _
def putD (i : Nat) (d : D) (ds : List (Option D)) : List (Option D) := (ds ++ List.replicate (i + 1 - ds.length) none).set i (some d)
theorem putD_get {i : Nat} {d : D} {ds : List (Option D)} : (putD i d ds)[i]? = some (some d) := by
  unfold putD
  exact List.getElem?_set_self (by simp only [List.length_append, List.length_replicate]; omega)
theorem putD_ne {i j : Nat} {d x : D} {ds : List (Option D)} (h : j ≠ i) (e : (putD i d ds)[j]? = some (some x)) : ds[j]? = some (some x) := by
  unfold putD at e
  rw [List.getElem?_set_ne (Ne.symm h)] at e
  by_cases hj : j < ds.length
  · rwa [List.getElem?_append_left hj] at e
  · rw [List.getElem?_append_right (by omega), List.getElem?_replicate] at e
    split at e <;> cases e
def dSetSlot (C : Addr) (i : Nat) (to tv : DTE) : DTS := fun D r M => tv r M fun y M1 => to r M1 fun x M2 => ∃ a dx ds, x = .ref a ∧ M2 a = some (.slt C dx ds) ∧ D.nx r (mset M2 a (.slt C dx (putD i y ds)))
theorem ds_slot {p : Addr} {i : Nat} {value : Expr} {pos' : Pos} {tv : DTE} (c : SlX.SCls X.K C) (t : SlX.Slot1 X.K C f p i) (ho : DE X W o te) (hv : DE X W value tv) (hs : swapsWith value (some (.Attribute o f pos')) pos.line X.env = pure false := by rfl) :
    DS X W (.Assign [.Attribute o f pos'] value pos) (dSetSlot C i te tv) := by
  refine ⟨fun pins s st H Z r M D I q h => ?_⟩
  refine plainObj_wpAny_Assign_Attribute (thn (hv.run pins s st H Z r M _ I q h) fun u s1 ⟨y, H1, I1, ry, dy, M1, q1, rpy, sm1, h1⟩ => thn (ho.run pins s1 st H1 Z r M1 _ I1 q1 h1) fun ov s2 ⟨x, H2, I2, rx, d, M2, q2, rp, sm2, a, dx, ds, ed, em, hn⟩ => ?_) hs
  subst ed
  cases rp with
  | ref =>
    cases (show ov = Value.ref a from rx)
    obtain ⟨xs, x1, x2, x3, x4⟩ := q2.hr.mem _ _ em
    have hd := out_sub _ _ _ _ _ x2
    have ne : dx ≠ a := fun z => by
      rw [z, x1] at hd
      exact SlX.slO_not (Option.some.inj hd)
    refine SlX.setslot_ok I2 (.inr ⟨x1, hd⟩) c t ry fun s3 I3 => ?_
    have eh : SlX.slH H2 a C dx (SlX.putS i y xs) = upd H2 a (SlX.SlO a C dx (SlX.putS i y xs)) := by
      funext b
      unfold SlX.slH
      by_cases h1 : b = a
      · rw [h1, upd_same, upd_same]
      · rw [upd_ne h1, upd_ne h1]
        by_cases h2 : b = dx
        · rw [h2, upd_same, hd]
        · rw [upd_ne h2]
    rw [eh] at I3
    have rpy2 := rpy.mono sm2
    obtain ⟨q3, sm3⟩ := sr_mslt (o := SlX.SlO a C dx (SlX.putS i y xs)) (mo := .slt C dx (putD i dy ds)) q2 (by rw [em]; exact fun z => nomatch z) (by
      refine ⟨_, upd_same, x2, ?_, fun j dj ej => ?_⟩
      · unfold SlX.putS putD
        rw [List.length_set, List.length_set, List.length_append, List.length_append, List.length_replicate, List.length_replicate, x3]
      · by_cases hj : j = i
        · subst hj
          rw [putD_get] at ej
          cases ej
          exact ⟨y, SlX.putS_get _ _ _, rpy2⟩
        · obtain ⟨w, e1, e2⟩ := x4 j dj (putD_ne hj ej)
          exact ⟨w, (SlX.putS_ne hj).mpr e1, e2⟩)
    exact ⟨st, _, I3, r, _, q3, (sm1.trans sm2).trans sm3, hn⟩
def MadeQ (Q : QD) (C x dx : Addr) : QD := fun v M => v = .non ∧ ((∃ ds, M x = some (.slt C dx (ds.map some)) ∧ Q (.ins C ds) (mdel M x)) ∨ (∃ fs, M x = some (.ins C dx fs) ∧ Q (.ref x) M) ∨ ∃ fs, M x = some (.ins C dx fs) ∧ Q (.obj C fs) (mdel M x))
def newS (C x dx : Addr) : MO := .slt C dx []
def newI (C x dx : Addr) : MO := .ins C dx []
def dMake (W : DWX) (C : Addr) (sp : DSp) (mk : Addr → Addr → Addr → MO) (n m : Nat) (gD : List D → List D → List D) (t tk : DTA) : DTE := fun r M Q => t r M fun ds M1 => tk r M1 fun es M2 => ds.length = n ∧ es.length = m ∧
  ∀ x dx, M2 x = none → M2 dx = none → dx ≠ x → sp (gD (.ref x :: ds) es) (mset M2 x (mk C x dx)) (MadeQ Q C x dx) (XLess fun cls fs M' => W cls fs r M')
theorem MadeQ.rq {K : PySem.W.Frag} {Z F H' : Hp} {Q : QD} {C x dx : Addr} {v : V} (h : RQ K Z F (MadeQ Q C x dx) v H') : v = .non ∧ RQ K Z F Q (.ref x) H' := by
  obtain ⟨d, M, m, rp, sm, e, h⟩ := h
  subst e
  cases rp
  refine ⟨rfl, ?_⟩
  have nz : ∀ o, M x = some o → Z x = none := fun o e => by
    cases q : Z x with
    | none => rfl
    | some u => have := (m.hid x u q).2.1; rw [e] at this; cases this
  rcases h with ⟨ds, e, h⟩ | ⟨fs, e, h⟩ | ⟨fs, e, h⟩
  · obtain ⟨xs, x1, x2, x3, x4⟩ := m.mem _ _ e
    have z := nz _ e
    refine ⟨_, mdel M x, m.less less_del, ?_, sm.trans less_del.same, h⟩
    have key : ∀ (us : List (Option V)) (es : List D), us.length = es.length → (∀ (i : Nat) d, es[i]? = some d → ∃ v, us[i]? = some (some v) ∧ Rep K (out Z M H') v d) → ∃ ws, us = ws.map some ∧ RepL K (out Z M H') ws es := by
      intro us
      induction us with
      | nil => intro es l _; cases es with
        | nil => exact ⟨[], rfl, .nil⟩
        | cons _ _ => cases l
      | cons u us ih =>
        intro es l k
        cases es with
        | nil => cases l
        | cons d es =>
          obtain ⟨w, e1, e2⟩ := k 0 d rfl
          obtain ⟨ws, e3, e4⟩ := ih es (Nat.succ.inj l) fun i d e => k (i + 1) d (by simpa using e)
          have : u = some w := by simpa using e1
          exact ⟨w :: ws, by rw [this, e3]; rfl, .cons e2 e4⟩
    obtain ⟨ws, e5, e6⟩ := key xs ds (by rw [x3, List.length_map]) fun i d e => x4 i d (by rw [List.getElem?_map, e]; rfl)
    subst e5
    exact .ins ⟨by rw [out_none z mdel_same]; exact x1, less_del.same _ _ x2⟩ (e6.mono less_del.same)
  · exact ⟨_, M, m, .ref x, sm, h⟩
  · obtain ⟨xs, x1, x2⟩ := m.mem _ _ e
    have z := nz _ e
    exact ⟨_, mdel M x, m.less less_del, .obj (by rw [out_none z mdel_same]; exact x1) (x2.mono less_del.same), sm.trans less_del.same, h⟩
theorem XLess.xq {K : PySem.W.Frag} {Z F : Hp} {E : DXK} {cls : Value} {d : Option Addr} {H' : Hp} (h : XQ K Z F (XLess E) cls d H') : XQ K Z F E cls d H' := by
  obtain ⟨fs, M', a, b, c, M2, l, e⟩ := h
  exact ⟨fs, M2, a.mono l.same, b.less l, c.trans l.same, e⟩
theorem run_mk {g : Addr} {mk : Addr → Addr → Addr → MO} {pins : List (Addr × Obj)} {s : Shared} {st : Sg} {H Z : Hp} {r : Rho} {M : Mh} {Q : QD} {us ws : List Value} {vs zs : List V} {ds es : List D} (mkc : Mk X.K C g) (F : FnG X.prog X.w X.K X.mg X.base k g fd ps sp) (hr : Rm (k + 1) X.A) (hb : Bd X.K fd ps (n + 1) ks gD)
    (hmk : mk = newS ∨ mk = newI) (I : Inv X pins st H s) (q : SR (kx X W) Z r M st H) (rv : Vals vs us) (rz : Vals zs ws) (rp : RepL X.K (out Z M H) vs ds) (rpz : RepL X.K (out Z M H) zs es) (l1 : ds.length = n) (l2 : es.length = ks.length)
    (h : ∀ x dx, M x = none → M dx = none → dx ≠ x → sp (gD (.ref x :: ds) es) (mset M x (mk C x dx)) (MadeQ Q C x dx) (XLess fun cls fs M' => W cls fs r M')) :
    wpAny (model X.prog X.w) X.A (call (.ref C) us (ks.zip ws)) (EP X pins st (EQ (kx X W) Z st r (out Z M H) Q)) X.xe s := by
  obtain ⟨dx, edx⟩ : ∃ x, x = s.heap.objs.size := ⟨_, rfl⟩
  obtain ⟨x, ex⟩ : ∃ x, x = dx + 1 := ⟨_, rfl⟩
  have hx : H x = none := I.hok.fresh (by rw [ex, edx]; exact Nat.le_succ _)
  have hdx : H dx = none := I.hok.fresh (by rw [edx]; exact Nat.le_refl _)
  have ne : dx ≠ x := by rw [ex]; exact Nat.ne_of_lt (Nat.lt_succ_self _)
  have ne' := Ne.symm ne
  have hsp := h x dx (q.hr.fresh hx).1 (q.hr.fresh hdx).1 ne
  have I1 := Inv.made (C := C) I
  rw [← edx, ← ex] at I1
  have hH : ∃ H2 : Hp, Inv X pins st H2 { s with heap := (s.heap.push PySem.W.emptyDict).push (PySem.W.instObj C dx) } ∧ HR X.K Z (mset M x (mk C x dx)) H2 ∧ Same (out Z M H) (out Z (mset M x (mk C x dx)) H2) := by
    rcases hmk with e | e
    · subst e
      have ei : (upd (upd H dx (.own x)) x (.ins C dx [])) x = some (.ins C dx []) := upd_same
      obtain ⟨od, ho, _⟩ := SlX.slt_at I1 (.inl ⟨ei, rfl⟩)
      have I2 : Inv X pins st (SlX.slH (upd (upd H dx (.own x)) x (.ins C dx [])) x C dx []) { s with heap := (s.heap.push PySem.W.emptyDict).push (PySem.W.instObj C dx), toks := s.toks } := by
        obtain ⟨_, sl, mA, e0, _⟩ := SlX.slt_at I1 (.inl ⟨ei, rfl⟩)
        exact SlX.inv_slot (s := { s with heap := (s.heap.push PySem.W.emptyDict).push (PySem.W.instObj C dx) }) (h' := (s.heap.push PySem.W.emptyDict).push (PySem.W.instObj C dx)) (t' := s.toks) I1 (.inl ⟨ei, rfl⟩) (fun _ _ _ _ z => z) (fun _ z => z) e0 (SlX.SlR.nil _)
      have eh : SlX.slH (upd (upd H dx (.own x)) x (.ins C dx [])) x C dx [] = upd (upd H dx (.xd [])) x (SlX.SlO x C dx []) := by
        funext b
        unfold SlX.slH
        by_cases h1 : b = x
        · rw [h1, upd_same, upd_same]
        · rw [upd_ne h1, upd_ne h1]
          by_cases h2 : b = dx
          · rw [h2, upd_same, upd_same]
          · rw [upd_ne h2, upd_ne h2, upd_ne h1, upd_ne h2]
      rw [eh] at I2
      have m1 := q.hr.new (o := .xd []) hdx
      have hx1 : upd H dx (.xd []) x = none := by rw [upd_ne ne']; exact hx
      refine ⟨_, I2, m1.mset (fun b hb => upd_ne hb) (.inl hx1) ⟨[], upd_same, ?_, rfl, fun i d e => by simp at e⟩, ?_⟩
      · rw [out_new q.hr hdx]; exact upd_same
      · rw [out_mset m1 (fun b hb => upd_ne hb) (.inl hx1)]
        exact same_new q.hr hdx
    · subst e
      have m1 := q.hr.new (o := .own x) hdx
      have hx1 : upd H dx (.own x) x = none := by rw [upd_ne ne']; exact hx
      refine ⟨_, I1, m1.mset (fun b hb => upd_ne hb) (.inl hx1) ⟨[], upd_same, .nil⟩, ?_⟩
      rw [out_mset m1 (fun b hb => upd_ne hb) (.inl hx1)]
      exact same_new q.hr hdx
  obtain ⟨H2, I2, m2, sm2⟩ := hH
  obtain ⟨full, fullV, b1, b2, b3⟩ := hb.to { s with heap := (s.heap.push PySem.W.emptyDict).push (PySem.W.instObj C dx) } (.ref x :: us) ws (.ref x :: vs) zs (.ref x :: ds) es _ I2.kIn (by rw [List.length_cons, ← rv.length, rp.length, l1]) (by rw [← rz.length, rpz.length]; exact l2) (.cons rfl rv) rz (.cons (.ref x) (rp.mono sm2)) (rpz.mono sm2)
  have run := F.run _ X.stack _ H2 Z (mset M x (mk C x dx)) ⟨.ref x :: us, ks.zip ws⟩ full fullV _ _ _ (hr.make C us (ks.zip ws)) (I2.env0.make C us (ks.zip ws)) b1 b2 m2 b3 hsp
  refine wpAny_call (make_map (f := g) I.kIn mkc.makes mkc.init (beq_iff_eq.mp mkc.fn) ?_)
  rw [← edx, ← ex]
  refine codeAny_mono run fun z s' hq' => ?_
  cases z with
  | error e =>
    have I2' := I2
    have q2 := q.step m2 sm2
    refine q2.tk _ _ (XE.of_call I2' (fun cls d H' z => ?_) hq')
    obtain ⟨fs, M', x1, x2, x3, x4⟩ := XLess.xq z
    exact ⟨fs, r, M', x1, q.len, fun i d e => let ⟨v, a, b⟩ := q2.sl i d e; ⟨v, a, b.mono x3⟩, x2, x3, x4⟩
  | ok fl =>
    cases fl with
    | ret u =>
      have I2' := I2
      obtain ⟨v, H', I3, rv', rq⟩ := I2'.after hq'
      obtain ⟨ev, d, M', h1, h2, h3, h4⟩ := MadeQ.rq rq
      subst ev
      exact ⟨rv', V.ref x, H', I3, rfl, d, M', q.step h1 (sm2.trans h3), h2, sm2.trans h3, h4⟩
    | next => exact False.elim hq'
    | brk => exact False.elim hq'
    | cont => exact False.elim hq'

theorem de_make {g : Addr} {mk : Addr → Addr → Addr → MO} {x : Str} {p : Pos} (mkc : Mk X.K C g) (F : FnG X.prog X.w X.K X.mg X.base k g fd ps sp) (hr : Rm (k + 1) X.A) (hg : Gl X x) (hm : X.mg x = some (.ref C)) (hb : Bd X.K fd ps (n + 1) [] gD) (hmk : mk = newS ∨ mk = newI) (ha : DA X W (e :: es) t)
    (hdb : (x == ("__debug__" : Str)) = false := by decide) (he : starEach (e :: es) X.env = (false, eval e X.env) :: starEach es X.env := by rfl) (hpl : (backTo pos (starEach es X.env)).any (·.1) = false := by rfl) :
    DE X W (.Call (.Name x p) (e :: es) [] pos) (dMake W C sp mk n 0 gD t dNil) := by
  refine ⟨fun pins s st H Z r M Q I q h => wpAny_Call_Name_kw (ld_glob I hg hm ?_ hdb)⟩
  refine PySem.W.callWith_K (h₀ := X.base) I.ok.mod.kin mkc.kp (thn (ha.run pos pins s st H Z r M _ I q h) fun us s1 ⟨vs, H1, I1, rv, ds, M1, q1, rps, sm, l1, l2, h1⟩ => ⟨I1.kIn, ?_⟩) he hpl
  exact thn (run_mk (ks := []) (ws := []) (zs := []) (es := []) mkc F hr hb hmk I1 q1 rv .nil rps .nil l1 rfl h1) fun u s2 ⟨v, H2, I2, rv2, e⟩ => ⟨v, H2, I2, rv2, e.mono sm⟩
theorem de_makeK {g : Addr} {mk : Addr → Addr → Addr → MO} {x : Str} {p : Pos} (mkc : Mk X.K C g) (F : FnG X.prog X.w X.K X.mg X.base k g fd ps sp) (hr : Rm (k + 1) X.A) (hg : Gl X x) (hm : X.mg x = some (.ref C)) (hb : Bd X.K fd ps (n + 1) ks gD) (hmk : mk = newS ∨ mk = newI) (ha : DA X W (e :: es) t) (hkw : DK X W kws tk)
    (hall : (backToKw pos (keywordEach kws X.env)).all (·.1.isSome) = true := by rfl) (hks : (backToKw pos (keywordEach kws X.env)).filterMap (·.1) = ks := by rfl)
    (hdb : (x == ("__debug__" : Str)) = false := by decide) (he : starEach (e :: es) X.env = (false, eval e X.env) :: starEach es X.env := by rfl)
    (hpl : ((backTo pos (starEach (e :: es) X.env)).any (·.1) || (backToKw pos (keywordEach kws X.env)).any (·.1.isNone)) = false := by rfl) : DE X W (.Call (.Name x p) (e :: es) kws pos) (dMake W C sp mk n ks.length gD t tk) := by
  refine ⟨fun pins s st H Z r M Q I q h => wpAny_Call_Name_kw (ld_glob I hg hm ?_ hdb)⟩
  refine PySem.W.callWith_KW (h₀ := X.base) I.ok.mod.kin mkc.kp hall (thn (ha.run pos pins s st H Z r M _ I q h) fun us s1 ⟨vs, H1, I1, rv, ds, M1, q1, rps, sm, h1⟩ => ?_) hpl he
  refine thn (hkw.run pos pins s1 st H1 Z r M1 _ I1 q1 h1) fun ws s2 ⟨zs, H2, I2, rz, es', M2, q2, rpz, sm2, l1, l2, h2⟩ => ⟨I2.kIn, ?_⟩
  rw [hks]
  exact thn (run_mk mkc F hr hb hmk I2 q2 rv rz (rps.mono sm2) rpz l1 l2 h2) fun u s3 ⟨v, H3, I3, rv3, e⟩ => ⟨v, H3, I3, rv3, e.mono (sm.trans sm2)⟩
theorem de_makeK0 {g : Addr} {mk : Addr → Addr → Addr → MO} {x : Str} {p : Pos} (mkc : Mk X.K C g) (F : FnG X.prog X.w X.K X.mg X.base k g fd ps sp) (hr : Rm (k + 1) X.A) (hg : Gl X x) (hm : X.mg x = some (.ref C)) (hb : Bd X.K fd ps 1 ks gD) (hmk : mk = newS ∨ mk = newI) (hkw : DK X W kws tk)
    (hall : (backToKw pos (keywordEach kws X.env)).all (·.1.isSome) = true := by rfl) (hks : (backToKw pos (keywordEach kws X.env)).filterMap (·.1) = ks := by rfl) (hdb : (x == ("__debug__" : Str)) = false := by decide)
    (hpl : ((backTo pos (starEach [] X.env)).any (·.1) || (backToKw pos (keywordEach kws X.env)).any (·.1.isNone)) = false := by rfl) : DE X W (.Call (.Name x p) [] kws pos) (dMake W C sp mk 0 ks.length gD dNil tk) := by
  refine ⟨fun pins s st H Z r M Q I q h => wpAny_Call_Name_kw (ld_glob I hg hm ?_ hdb)⟩
  refine PySem.W.callWith_KW0 (h₀ := X.base) I.ok.mod.kin mkc.kp hall ?_ hpl
  refine thn (hkw.run pos pins s st H Z r M _ I q h) fun ws s2 ⟨zs, H2, I2, rz, es', M2, q2, rpz, sm2, l1, l2, h2⟩ => ⟨I2.kIn, ?_⟩
  rw [hks]
  exact thn (run_mk (us := []) (vs := []) (ds := []) mkc F hr hb hmk I2 q2 .nil rz .nil rpz rfl l2 h2) fun u s3 ⟨v, H3, I3, rv3, e⟩ => ⟨v, H3, I3, rv3, e.mono sm2⟩
end
end DL

set_option maxHeartbeats 2000000
namespace DL
open PySem PySem.Spec PyProof.Rows L2

structure Cl where
  c : Value
  i : Option Nat
  t : Addr → Value → Option Addr → DTS
def goneD (i : Nat) (E : DEnds) : DEnds := ⟨fun r M => E.nx (r.set i none) M, E.rt, fun r M => E.bk (r.set i none) M, fun r M => E.ct (r.set i none) M⟩
def wTry (K : PySem.W.Frag) (W : DWX) (E : DEnds) : List Cl → DWX
  | [] => W
  | cl :: l => fun cls fs r M => ∃ b, PySem.W.exmOne K cls cl.c = some b ∧ (b = true → ∀ a, match cl.i with
      | none => ∀ dx, cl.t a cls dx E r M
      | some i => fs ≠ [] ∧ ∀ dd, cl.t a cls (some dd) (goneD i E) (r.set i (some (.exc a dd fs))) M) ∧ (b = false → wTry K W E l cls fs r M)
def dTry (K : PySem.W.Frag) (W : DWX) (l : List Cl) (tb : DWX → DTS) : DTS := fun E r M => tb (wTry K W E l) E r M
def SuiteD (X : Cx) (suite : List Stmt) (t : Addr → Value → Option Addr → DTS) : Prop :=
  ∀ (a : Addr) (oe : Obj) (cls : Value) (d : Option Addr) (pn : List (Addr × Obj)), Zc cls d oe → (∃ vs, oe.data = .fields vs) → DSs (X.suite a ((a, oe) :: pn)) WN suite (t a cls d)
inductive Clauses (X : Cx) : List ExceptHandler → List Cl → Prop
  | nil : Clauses X [] []
  | bare {x : Str} {c : Value} {t : Addr → Value → Option Addr → DTS} {b0 : Stmt} {sui : List Stmt} {p1 p2 : Pos} {hds : List ExceptHandler} {l : List Cl} (hc : Names X x c) (hs : SuiteD X (b0 :: sui) t) (rest : Clauses X hds l) :
      Clauses X (.ExceptHandler (some (.Name x p1)) none (b0 :: sui) p2 :: hds) (⟨c, none, t⟩ :: l)
  | name {x n : Str} {i : Nat} {c : Value} {t : Addr → Value → Option Addr → DTS} {b0 : Stmt} {sui : List Stmt} {p1 p2 : Pos} {hds : List ExceptHandler} {l : List Cl} (hc : Names X x c) (hi : X.N[i]? = some n) (hl : X.env.kindOf n = some .local)
      (hs : SuiteD X (b0 :: sui) t) (rest : Clauses X hds l) : Clauses X (.ExceptHandler (some (.Name x p1)) (some n) (b0 :: sui) p2 :: hds) (⟨c, some i, t⟩ :: l)
def initSp (K : PySem.W.Frag) (f : Str) : Sp := fun vs H Q _ => ∃ (a C : Addr) (y : V), vs = [.ref a, y] ∧ OexC K C ∧ PySem.W.findIn K (.ref C) f = some none ∧ H a = some (exo a C none) ∧
  ∀ dx, H dx = none → dx ≠ a → Q .non (upd (upd H dx (exd dx [(f, y)])) a (exo a C (some dx)))
structure Exc1 (K : PySem.W.Frag) (C fI : Addr) (f : Str) : Prop where
  T : OexC K C
  init : PySem.W.findIn K (.ref C) "__init__" = some (some (.ref fI))
  fn : PySem.W.typeIn K (.ref fI) = some (.type "function")
  no : PySem.W.findIn K (.ref C) f = some none
theorem exc_init {CX : CXT} {P : Program} {w : World} {K : PySem.W.Frag} {mg : Str → Option Value} {base : Heap} {fI : Addr} {x qual f y : Str} {params : Arguments} {body : List Stmt} {scope : Scope} {fd : FuncData} {p1 p2 p3 p4 : Pos}
    (F : FunD K x qual params body scope [] [] fI fd) (S : FnScope ["self", y] ["self", y] scope) (hb : body = [.Assign [.Attribute (.Name "self" p1) f p2] (.Name y p3) p4]) (hd : (y == ("__debug__" : Str)) = false) (hcd : (y == ("__classdict__" : Str)) = false) : FnOk P w K mg base CX 1 fI fd ["self", y] (initSp K f) := by
  have v0 : Vis scope "self" := (S.par "self" (List.Mem.head _)).elim (fun z => .inl z) (fun z => .inr (.inl z))
  have v1 : Vis scope y := (S.par y (List.Mem.tail _ (List.Mem.head _))).elim (fun z => .inl z) (fun z => .inr (.inl z))
  subst hb
  refine F.ok S (fun vs H Q E ⟨a, C, y, e, _⟩ => by rw [e]; rfl) (fun cdv A outer s H vs Q E hr h => ?_)
  obtain ⟨a, C, z, e, T, no, ea, q⟩ := h
  subst e
  refine ⟨_, pss_one (ps_ost (pe_var (i := 0) rfl v0) (pe_var (i := 1) rfl v1 hd hcd)), ?_⟩
  exact ⟨z, rfl, .ref a, rfl, a, C, rfl, T, no, .inl ⟨ea, fun dx n ne => q dx n ne⟩⟩
def dRaise (W : DWX) (C : Addr) (f : Str) (ta : DTA) : DTS := fun E r M => ta r M fun ds M1 => ∃ y, ds = [y] ∧ W (.ref C) [(f, y)] r M1
theorem ds_raise {X : Cx} {W : DWX} {x f y : Str} {C fI : Addr} {fd : FuncData} {e : Expr} {ta : DTA} {p p5 p6 : Pos} (hc : X.calm = true) (T : Exc1 X.K C fI f) (F1 : FnOk X.prog X.w X.K X.mg X.base (fun _ _ _ _ _ _ => False) 1 fI fd ["self", y] (initSp X.K f)) (hr : Rm 2 X.A)
    (hb : ∀ us : List Value, us.length = 2 → bindArgs fd ⟨us, []⟩ = pure ((["self", y] : List Str).zip us)) (hg : Gl X x) (hm : X.mg x = some (.ref C)) (ha : DA X W [e] ta)
    (hdb : (x == ("__debug__" : Str)) = false := by decide) (he : starEach [e] X.env = (false, eval e X.env) :: starEach [] X.env := by rfl) : DS X W (.Raise (some (.Call (.Name x p) [e] [] p5)) none p6) (dRaise W C f ta) := by
  refine ⟨fun pins s st H Z r M E I q h => ?_⟩
  refine (ps_raise (W := XW X.K Z (out Z M H) W) hc q.tk (pmk_oex (CX := fun _ _ _ _ _ _ => False) (dvs := []) T.T T.init T.fn F1 hr.room (Binds.all hb) .nil (fun _ _ _ _ _ _ _ z => z.elim) hg hm ha.pa hdb he rfl)).run pins s st H _ I ?_
  refine ⟨Z, r, M, _, q, h, fun vs H1 ⟨ds, M1, q1, rps, sm, y, ed, w⟩ => ?_⟩
  subst ed
  cases rps with
  | @cons vv _ _ _ r1 rr =>
    cases rr
    refine ⟨Nat.le_of_ble_eq_true rfl, fun a na => ?_⟩
    refine ⟨a, C, _, rfl, T.T, T.no, upd_same, fun dx nd ne => ⟨rfl, dx, [(f, vv)], upd_same, ?_, ?_, ?_⟩⟩
    · rw [upd_ne ne, upd_same]
    · rw [upd_ne ne] at nd; exact nd
    · have nd1 : H1 dx = none := by rw [upd_ne ne] at nd; exact nd
      have eh : ∀ (o1 o2 o3 o4 : HO), upd (del (upd (upd (upd H1 a o1) dx o2) a o3) a) dx o4 = upd H1 dx o4 := fun o1 o2 o3 o4 => by
        funext b
        by_cases h1 : b = dx
        · rw [h1, upd_same, upd_same]
        · rw [upd_ne h1, upd_ne h1]
          by_cases h2 : b = a
          · rw [h2, del_same, na]
          · rw [del_ne h2, upd_ne h2, upd_ne h1, upd_ne h2]
      rw [eh]
      have m1 := q1.hr.new (o := .xd [(f, vv)]) nd1
      have sm1 := same_new (o := .xd [(f, vv)]) q1.hr nd1
      exact ⟨[(f, y)], r, M1, .inr ⟨dx, _, rfl, by rw [out_new q1.hr nd1]; exact upd_same, .cons (r1.mono sm1) .nil⟩, q1.len, fun i d e => let ⟨v, h1, h2⟩ := q1.sl i d e; ⟨v, h1, h2.mono sm1⟩, m1, sm.trans sm1, w⟩

end DL

set_option maxHeartbeats 2000000
namespace DL
open PySem PySem.Spec PyProof.Rows L2

section
variable {X : Cx} {W : DWX} {K : PySem.W.Frag} {F Z : Hp} {tg e : Expr} {te : DTE}
def signsOf (x : Str) : List D := x.cps.toList.map fun c => D.str ⟨#[c]⟩
theorem itr_str (x : Str) : ItR K F (Its x) (signsOf x) where
  go := fun i Z M H q sm hi => by
    show i < x.cps.size
    unfold signsOf at hi
    simpa using hi
  stop := fun Z M H q sm => by
    show x.cps.size ≤ _
    unfold signsOf
    simp
  yld := fun i Z M H H' y q sm hi z => by
    obtain ⟨e1, c, e2, e3⟩ := z
    subst e1 e3
    refine ⟨.str ⟨#[c]⟩, ?_, q, Same.refl _, .str _⟩
    unfold signsOf
    rw [List.getElem?_map, Array.getElem?_toList, e2]
    rfl
def iStrD (te : DTE) : DTI := fun r M Q => te r M fun x M1 => match x with
  | .str z => Q (signsOf z) M1
  | _ => False
theorem di_str (h : DE X W e te) : DI X W tg e (iStrD te) := ⟨_, pi_str h.pe, fun st H Z r M Q R q ht kR => ⟨Z, r, M, _, q, ht, fun v H1 ⟨d, M1, q1, rp, sm, z⟩ => by
  dsimp only at z
  split at z
  · cases rp
    exact ⟨_, rfl, kR _ _ _ M1 q1 sm (itr_str _) z⟩
  · exact z.elim⟩⟩
end
def putKD (kvs : List (Key × D)) (k : Key) (d : D) : List (Key × D) :=
  if (kvs.any fun kv => decide (kv.1 = k)) = true then kvs.map (fun kv => if kv.1 = k then (kv.1, d) else kv) else kvs ++ [(k, d)]
def mergeD (kvs more : List (Key × D)) : List (Key × D) := more.foldl (fun acc kv => putKD acc kv.1 kv.2) kvs
section
variable {K : PySem.W.Frag} {F : Hp}
theorem RepK.append : ∀ {v w : List (Key × V)} {d e : List (Key × D)}, RepK K F v d → RepK K F w e → RepK K F (v ++ w) (d ++ e)
  | _, _, _, _, .nil, s => s
  | _, _, _, _, .cons h r, s => .cons h (RepK.append r s)
theorem RepK.mapPut {k : Key} {y : V} {dy : D} (hy : Rep K F y dy) : ∀ {v : List (Key × V)} {d : List (Key × D)}, RepK K F v d → RepK K F (v.map fun kv => if kv.1 = k then (kv.1, y) else kv) (d.map fun kv => if kv.1 = k then (kv.1, dy) else kv)
  | _, _, .nil => .nil
  | _, _, .cons (k := k') h r => by
    rw [List.map_cons, List.map_cons]
    by_cases e : k' = k
    · simp only [e, if_true]; exact .cons hy (RepK.mapPut hy r)
    · simp only [e, if_false]; exact .cons h (RepK.mapPut hy r)
theorem RepK.put {k : Key} {y : V} {dy : D} (hy : Rep K F y dy) {v : List (Key × V)} {d : List (Key × D)} (r : RepK K F v d) : RepK K F (putK v k y) (putKD d k dy) := by
  unfold putK putKD
  rw [r.any]
  split
  · exact r.mapPut hy
  · exact r.append (.cons hy .nil)
end
def frzD (te : DTE) : DTE := fun r M Q => te r M fun d M' => ∃ p kvs, d = .ref p ∧ M' p = some (.dic kvs) ∧ Q (.dic kvs) (mdel M' p)
theorem de_frzD {X : Cx} {W : DWX} {e : Expr} {te : DTE} (h : DE X W e te) : DE X W e (frzD te) := ⟨fun pins s st H Z r M Q I q hh => thn (h.run pins s st H Z r M _ I q hh) fun u s1 ⟨v, H1, I1, rv, d, M1, q1, rp, sm, p, kvs, ed, em, hq⟩ => by
  subst ed
  cases rp
  obtain ⟨xs, hx, rk⟩ := q1.hr.mem p _ em
  obtain ⟨od, I2⟩ := I1.lock hx trivial
  obtain ⟨m2, s2, r2⟩ := hr_lockK (od := od) q1.hr em hx rk
  exact ⟨.ref p, _, I2, rv, .dic kvs, _, q1.step m2 s2, r2, sm.trans s2, hq⟩⟩
theorem frzD_new {M : Mh} {kvs : List (Key × D)} {Q : QD} : (∀ p, M p = none → ∃ p' kvs', D.ref p = .ref p' ∧ (mset M p (.dic kvs)) p' = some (.dic kvs') ∧ Q (.dic kvs') (mdel (mset M p (.dic kvs)) p')) = (∀ p, M p = none → Q (.dic kvs) M) := by
  refine propext ⟨fun h p hp => ?_, fun h p hp => ⟨p, kvs, rfl, mset_same, by rw [mdel_mset hp]; exact h p hp⟩⟩
  obtain ⟨p', kvs', e1, e2, e3⟩ := h p hp
  cases e1
  rw [mset_same] at e2
  cases e2
  rw [mdel_mset hp] at e3
  exact e3
def dDisp0M : DTE := fun _ M Q => ∀ p, M p = none → Q (.ref p) (mset M p (.dic []))
theorem de_disp0M {X : Cx} {W : DWX} {pos : Pos} : DE X W (.Dict [] [] pos) dDisp0M := DE.of pe_dnewK fun st H Z r M Q q h => fun p hp => by
  have hf := q.hr.fresh hp
  have hx : ∀ b, b ≠ p → upd H p (.dK []) b = H b := fun b hb => upd_ne hb
  refine ⟨.ref p, _, q.mset (mo := .dic []) hx (.inl hp) ⟨[], upd_same, .nil⟩, .ref p, ?_, h p hf.1⟩
  rw [out_mset q.hr hx (.inl hp)]
  exact Same.refl _
theorem de_disp0 {X : Cx} {W : DWX} {pos : Pos} : DE X W (.Dict [] [] pos) (dC (.dic [])) := ⟨fun pins s st H Z r M Q I q h => (de_frzD de_disp0M).run pins s st H Z r M Q I q ((frzD_new (Q := Q)).mpr fun p hp => h)⟩
end DL

set_option maxHeartbeats 2000000
namespace DL
open PySem PySem.Spec PyProof.Rows L2

def NewP (sp : DSp) : DSp := fun ds M Q E => sp ds M (fun d M' => ∃ p i j k, d = .ref p ∧ M p = none ∧ PoolOk i j k ∧ M' = mset M p (.lst [.int i, .int j, .int k]) ∧ Q (.ref p) (mset M p .pool)) fun _ _ _ => False
theorem fng_newPool {P : Program} {w : World} {K : PySem.W.Frag} {mg : Str → Option Value} {base : Heap} {k : Nat} {f : Addr} {fd : FuncData} {ps : List Str} {sp : DSp} (F : FnG P w K mg base k f fd ps sp) : FnG P w K mg base k f fd ps (NewP sp) where
  len := fun ds M Q E h => F.len _ _ _ _ h
  run := fun A outer s H Z M args us vs ds Q E hr e0 hb rv hh rp h => by
    refine codeAny_mono (F.run A outer s H Z M args us vs ds _ _ hr e0 hb rv hh rp h) fun z s' q => cr_imp (fun v H' q => ?_) (fun c d H' q => ?_) q
    · refine rq_imp (fun d M' m' rp' hq => ?_) q
      obtain ⟨p, i, j, k, ed, ep, po, eM, hQ⟩ := hq
      subst ed eM
      obtain ⟨m2, eo2⟩ := pool_shut m' po
      cases rp'
      exact ⟨.ref p, _, m2, .ref p, by rw [eo2]; exact Same.refl _, hQ⟩
    · obtain ⟨_, _, _, _, _, z⟩ := q
      exact z.elim

def LawSp (n : Nat) : DSp := fun ds M Q _ => ∃ ns : List Int, ds = [.scr ns] ∧ ns.length ≤ n ∧ (∀ i ∈ ns, Builtin.Int.intBits i ≤ 1048576) ∧ (∀ a, M a = none) ∧ ∀ M', Q (.bl true) M'
def tblZ (K : PySem.W.Frag) : Hp := fun b => match (tabK K).find? (fun x => x.2.1 == b) with
  | some x => some (tblO x.2.2)
  | none => none
def TbB (K : PySem.W.Frag) (mg : Str → Option Value) (base : Heap) : Prop := ∀ x ∈ tabK K, LamX.TabB base mg x.1 x.2.1
theorem tblZ_at {K : PySem.W.Frag} {h : Heap} (T : TabsOk K h) {x : Addr × Addr × Str} (hx : x ∈ tabK K) : tblZ K x.2.1 = some (tblO x.2.2) := by
  unfold tblZ
  cases e : (tabK K).find? (fun y => y.2.1 == x.2.1) with
  | none =>
    have := List.find?_eq_none.mp e x hx
    simp at this
  | some y =>
    have h1 := List.mem_of_find?_eq_some e
    have h2 : y.2.1 = x.2.1 := by simpa using List.find?_some e
    show some (tblO y.2.2) = _
    rw [T.uq y h1 x hx h2]
theorem tblZ_of {K : PySem.W.Frag} {b : Addr} {o : HO} (h : tblZ K b = some o) : ∃ x ∈ tabK K, x.2.1 = b ∧ o = tblO x.2.2 := by
  unfold tblZ at h
  split at h
  · rename_i y e
    cases h
    exact ⟨y, List.mem_of_find?_eq_some e, by simpa using List.find?_some e, rfl⟩
  · cases h
theorem law_end {P : Program} {w : World} {K : PySem.W.Frag} {mg mb : Str → Option Value} {k n : Nat} {fa a : Addr} {fd : FuncData} {x : Str} {s : Shared} {vs : List Value} {ns : List Int} (KX : K.In s.heap) (hns : s.heap.Ns mainGlobals mg) (hb : s.heap.Ns builtinsNs mb) (hbb : ∀ x : Str, x ≠ "__name__" → mb x = bootBuiltins x)
    (hlim : s.heap.NoLimit) (hg : s.gens = #[]) (T : TabsOk K s.heap)
    (hbm : ∃ (bm : Addr) (ob : Obj), mg "__builtins__" = some (.ref bm) ∧ bm ≠ builtinsNs ∧ s.heap.get? bm = some ob ∧ ob.cls = .type "module" ∧ ob.dict = some builtinsNs ∧ ob.data = .plain)
    (ha : s.heap.get? a = some { cls := .type "list", data := .seq vs.toArray }) (hi : IntsAre vs ns) (hl : ns.length ≤ n) (hn : n ≤ sizeLine) (hbits : ∀ i ∈ ns, Builtin.Int.intBits i ≤ 1048576) (hr : Room k callerA)
    (F : ∀ base : Heap, K.In base → base.Ns mainGlobals mg → TbB K mg base → FnG P w K mg base k fa fd [x] (LawSp n)) (hbind : ∀ (s : Shared) (u : Value), BindsTo s fd ⟨[u], []⟩ [(x, u)]) :
    codeAny (model P w) callerA (.call (.ref fa) ⟨[.ref a], []⟩) (fun r s' => r = .ok (.ret (.bool true)) ∧ OldK s.heap s'.heap ∧ s'.os = s.os ∧ AllBare s'.gens) s := by
  have rv := vals_ints hi
  have hlz : (ns.map V.int).length ≤ sizeLine := by rw [List.length_map]; exact Nat.le_trans hl hn
  have isT : ∀ b : Addr, tblZ K b ≠ none → s.heap.get? b = some { cls := .none, data := .fields #[] } ∧ K.lookup b = none := fun b hb => by
    cases e : tblZ K b with
    | none => exact absurd e hb
    | some o =>
      obtain ⟨x, hx, ex, _⟩ := tblZ_of e
      rw [← ex]
      exact ⟨T.at_ x hx, T.no x hx⟩
  have aT : tblZ K a = none := by
    cases e : tblZ K a with
    | none => rfl
    | some o =>
      have q := (isT a (by rw [e]; simp)).1
      rw [ha] at q
      exact nomatch (show Data.seq vs.toArray _ = .fields #[] from congrArg Obj.data (Option.some.inj q))
  -- what is tracked: the script, where it is none of the module's own objects, and the tables
  obtain ⟨H, hH⟩ : ∃ H : Hp, H = fun b => if b = a ∧ K.lookup a = none then some (.frz { cls := .type "list", data := .seq vs.toArray } (.lst (ns.map V.int))) else if tblZ K b ≠ none then some (.tbl #[]) else none := ⟨_, rfl⟩
  have at_ : ∀ {b : Addr} {u : HO}, H b = some u → (b = a ∧ K.lookup a = none ∧ u = .frz { cls := .type "list", data := .seq vs.toArray } (.lst (ns.map V.int))) ∨ (tblZ K b ≠ none ∧ u = .tbl #[]) := fun {b u} e => by
    rw [hH] at e
    dsimp only at e
    by_cases h : b = a ∧ K.lookup a = none
    · rw [if_pos h] at e; cases e; exact .inl ⟨h.1, h.2, rfl⟩
    · rw [if_neg h] at e
      by_cases h2 : tblZ K b ≠ none
      · rw [if_pos h2] at e; cases e; exact .inr ⟨h2, rfl⟩
      · rw [if_neg h2] at e; cases e
  have atT : ∀ {b : Addr}, tblZ K b ≠ none → H b = some (.tbl #[]) := fun {b} h => by
    rw [hH]
    dsimp only
    rw [if_neg (fun z => h (by rw [z.1]; exact aT)), if_pos h]
  have free : ∀ {b : Addr}, (∀ u, H b ≠ some u) → H b = none := fun {b} h => by
    cases q : H b with
    | none => rfl
    | some u => exact absurd q (h u)
  have hS : SqL K H a (ns.map V.int) := by
    cases q : K.lookup a with
    | none => exact .inl (.inr ⟨_, by rw [hH]; exact if_pos ⟨rfl, q⟩⟩)
    | some o =>
      have e := KX a o q
      rw [ha] at e
      have e2 := Option.some.inj e
      subst e2
      exact .inr ⟨_, vs.toArray, _, q, rfl, rfl, rfl, by rw [List.size_toArray, ← rv.length]; exact hlz, by simpa using rv⟩
  have hok : HOk P w H s.heap := fun b u e => by
    rcases at_ e with ⟨rfl, _, rfl⟩ | ⟨ht, rfl⟩
    · exact ⟨ha, hlz, vs, _, rv, ha⟩
    · exact (isT b ht).1
  have noD : ∀ {b : Addr} {o : Obj}, s.heap.get? b = some o → (∀ vs n, o.data ≠ .seq vs n) → o.data ≠ .fields #[] → H b = none := fun {b o} e h1 h2 => free fun u q => by
    rcases at_ q with ⟨rfl, _, _⟩ | ⟨ht, _⟩
    · rw [ha] at e
      have e2 := Option.some.inj e
      exact h1 _ _ (by rw [← e2])
    · rw [(isT b ht).1] at e
      have e2 := Option.some.inj e
      exact h2 (by rw [← e2])
  have dic : ∀ {b : Addr} {o : Obj} {es : Array DictEntry} {ep : Nat}, s.heap.get? b = some o → o.data = .dict es ep → H b = none := fun {b o es ep} e d => noD e (fun vs n z => by rw [d] at z; cases z) (fun z => by rw [d] at z; cases z)
  have ns_ : ∀ {b : Addr} {m : Str → Option Value}, s.heap.Ns b m → (hidT s.heap H).Ns b m := fun {b m} ⟨o, es, ep, e, d, r⟩ => ⟨o, es, ep, hidT_get e (dic e d), d, r⟩
  have hK : K.In (hidT s.heap H) := fun b o e => hidT_get (KX b o e) (free fun u q => by
    rcases at_ q with ⟨rfl, hk, _⟩ | ⟨ht, _⟩
    · rw [hk] at e
      cases e
    · rw [(isT b ht).2] at e
      cases e)
  have e0 : Env0 P w K mg (hidT s.heap H) callerA [] s H :=
    ⟨rfl, ⟨hK, ns_ hns, ⟨mb, ns_ hb, hbb⟩, let ⟨mc, h1, h2⟩ := hlim; ⟨mc, ns_ h1, h2⟩⟩, fun b o e => of_hidT e, Nat.le_of_eq (hidT_size _ _), trivial, fun b hb => absurd (show b ∈ ([] : List Addr) from hb) (by simp), hok, .of_eq hg⟩
  have TB : TbB K mg (hidT s.heap H) := fun y hy => by
    have eT := T.at_ y hy
    refine ⟨?cd, ?bm, ?gl⟩
    case cd =>
      have cd := T.code y hy
      unfold PySem.W.CodeHd at cd ⊢
      obtain ⟨oc, us, fl, tf, fg, tg, inF, tx, tt, c1, c2, c3, c4, c5⟩ := cd
      refine ⟨oc, us, fl, tf, fg, tg, inF, tx, tt, hidT_get c1 (noD c1 (fun _ _ e => ?_) (fun e => ?_)), c2, c3, c4, c5⟩ <;> rw [c3] at e <;> cases e
      simp at c4
    case bm =>
      obtain ⟨am, om, m1, m2, m3, m4, m5, m6⟩ := hbm
      have plainD : ∀ o : Obj, s.heap.get? am = some o → o.data = .plain := fun o e => by
        rw [m3] at e
        rw [← Option.some.inj e]; exact m6
      refine ⟨am, om, m1, m2, fun e => ?_, fun e => ?_, hidT_get m3 (noD m3 (fun _ _ e => by rw [m6] at e; cases e) (fun e => by rw [m6] at e; cases e)), m4, m5, m6⟩
      · obtain ⟨on, _, _, n1, n2, _⟩ := id hns
        have := plainD on (by rw [e]; exact n1)
        rw [n2] at this; cases this
      · have := plainD _ (by rw [e]; exact eT)
        cases this
    case gl =>
      intro e
      obtain ⟨on, _, _, n1, n2, _⟩ := id hns
      rw [e, eT] at n1
      rw [← Option.some.inj n1] at n2; cases n2
  have hh : HR K (tblZ K) (fun _ => none) H := ⟨fun _ _ e => (nomatch e), fun b o e => by
    obtain ⟨x, hx, ex, eo⟩ := tblZ_of e
    subst eo
    exact ⟨⟨#[], atT (by rw [e]; simp), True.intro, fun pos cv hc => by
      rw [show codeAmong pos (#[] : Array Value).toList = none from rfl] at hc
      cases hc⟩, rfl, fun x e => nomatch e⟩, ⟨fun b ps e => by
    rcases at_ e with ⟨_, _, z⟩ | ⟨ht, _⟩
    · cases z
    · cases e2 : tblZ K b with
      | none => exact absurd e2 ht
      | some o =>
        obtain ⟨x, hx, ex, _⟩ := tblZ_of e2
        exact ⟨x, hx, ex⟩, fun x hx => tblZ_at T hx, fun b φ e => by
    obtain ⟨x, hx, ex, eo⟩ := tblZ_of e
    cases eo⟩⟩
  have hout : SqL K (out (tblZ K) (fun _ => none) H) a (ns.map V.int) := by
    rcases hS with (h | ⟨o, h⟩) | h
    · exact .inl (.inl (by rw [out_none aT rfl]; exact h))
    · exact .inl (.inr ⟨o, by rw [out_none aT rfl]; exact h⟩)
    · exact .inr h
  refine codeAny_mono ((F _ hK (ns_ hns) TB).run callerA [] s H (tblZ K) (fun _ => none) ⟨[.ref a], []⟩ [.ref a] [.ref a] [.scr ns] (fun d _ => d = .bl true) (fun _ _ _ => False) ⟨hr, rfl⟩ e0 (hbind s (.ref a)) (.cons rfl .nil) hh
    (.cons (.scr hout) .nil) ⟨ns, rfl, hl, hbits, fun _ => rfl, fun _ => rfl⟩) fun z s' h => ?_
  cases z with
  | error e => exact (cx_no h).elim
  | ok fl =>
    cases fl with
    | next => exact False.elim h
    | brk => exact False.elim h
    | cont => exact False.elim h
    | ret u =>
      obtain ⟨v, H', os, bare, un, hok', r', d, M', m', rp, sm, ed⟩ := h
      have ed' : d = .bl true := ed
      subst ed'
      cases rp
      cases (show u = Value.bool true from r')
      have key : ∀ b o, tblZ K b = none → s.heap.get? b = some o → s'.heap.get? b = some o := fun b o nb e => by
        cases q : H b with
        | none => exact un.keep b o e q (fun z => by cases (show b ∈ ([] : List Addr) from z)) (by simp)
        | some u =>
          rcases at_ q with ⟨rfl, _, rfl⟩ | ⟨ht, _⟩
          · rw [ha] at e
            rw [← e]
            exact (hok' b _ (un.frzs b _ _ q)).1
          · exact absurd nb ht
      have grown : ∀ b, tblZ K b ≠ none → ∃ more : Array Value, s'.heap.get? b = some { cls := .none, data := .fields more } := fun b hb => by
        obtain ⟨more, z⟩ := un.tbls b #[] (atT hb)
        exact ⟨_, hok' b _ z⟩
      refine ⟨rfl, ⟨fun b o e => ?_, fun b o e => ?_⟩, os, bare⟩
      · cases q : tblZ K b with
        | none => exact .inl (key b o q e)
        | some u =>
          have hb : tblZ K b ≠ none := by rw [q]; simp
          obtain ⟨more, hm⟩ := grown b hb
          obtain ⟨x, hx, ex, _⟩ := tblZ_of q
          have e1 := (isT b hb).1
          rw [e1] at e
          cases e
          have cd := T.code x hx
          rw [ex] at cd
          exact .inr (.inl ⟨(cd.tab e1).isCodeTable, rfl, #[], more, rfl, by rw [Array.empty_append]; exact hm⟩)
      · cases q : tblZ K b with
        | none => exact ⟨o, key b o q e⟩
        | some u =>
          obtain ⟨more, hm⟩ := grown b (by rw [q]; simp)
          exact ⟨_, hm⟩
theorem walk_g {l : PySem.W.OpenLaw} {n k : Nat} {q : Program} {loose : List Str} {XP : (Str → Option Value) → Heap → Prop} {YP : World → Heap → Prop} {d : DefRec} {x : Str} (hn : l.most = some n) (hn2 : n ≤ sizeLine) (hdf : d.params.defaults = []) (hr : Room k callerA)
    (F : ∀ (w : World) (mg : Str → Option Value) (fa : Addr) (h : Heap), YP w h → h.Ns mainGlobals mg → mg d.name = some (.ref fa) → ∃ (K : PySem.W.Frag) (fd : FuncData), K.In h ∧ TabsOk K h ∧ (∀ (s : Shared) (u : Value), BindsTo s fd ⟨[u], []⟩ [(x, u)]) ∧
      ∀ base : Heap, K.In base → base.Ns mainGlobals mg → TbB K mg base → FnG l.prog w K mg base k fa fd [x] (LawSp n)) :
    PySem.W.WalkO q loose XP YP l.row.toRowW d [] (fun f vs => PySem.call f vs) := by
  refine Att.attach_callB hn hdf fun w s₀ s₁ mg mb fa o pm cd doc a vs ns G Y ho hd hcd hmg hobj hints hlen hbits hg => ?_
  obtain ⟨K, fd, KX, T, hb, hF⟩ := F w mg fa _ Y G.T.g hmg
  exact law_end KX G.T.g G.T.b G.T.builtins G.T.nolimit hg T G.T.bmain hobj hints hlen hn2 hbits hr hF hb
end DL

set_option maxHeartbeats 2000000
namespace DL
open PySem PySem.Spec PyProof.Rows L2 He

theorem obsFG_eq {n : Nat} {fa : List Fc} {fn : List He5.DefA} {g : Addr → Option Obj} {s : Shared} (h : ∀ a, g a = s.heap.get? a) : obsFG n fa fn g = (hookF n fa fn).obs s := by
  have e : g = s.heap.get? := funext h
  rw [e]
  rfl
section
variable {fa : List Fc} {fn : List He5.DefA} {K : PySem.W.Frag}
theorem SaysF.fact (c : SaysF fa fn K) (i : Nat) {f : Fc} (h : fa[i]? = some f := by rfl) : f K = true :=
  List.all_eq_true.mp (ba (show ((fa.all fun f => f K) && fn.all fun d => d.ok K) = true from congrArg (fun z : AlD => z.1) c)).1 f (List.mem_of_getElem? h)
theorem SaysF.def_ (c : SaysF fa fn K) (i : Nat) {d : He5.DefA} (h : fn[i]? = some d := by rfl) : ∃ fd, FunD K d.name d.qual d.params d.body d.scope (d.dvs K) (d.kws K) (d.at_ K) fd := by
  have c2 := (ba (show ((fa.all fun f => f K) && fn.all fun d => d.ok K) = true from congrArg (fun z : AlD => z.1) c)).2
  have e : (fn.map fun d => He5.fnA K (d.at_ K))[i]? = (fn.map He5.DefA.val)[i]? := congrArg (fun z : AlD => z.2[i]?) c
  rw [List.getElem?_map, List.getElem?_map, h] at e
  exact He5.DefA.funD (Option.some.inj e) (List.all_eq_true.mp c2 d (List.mem_of_getElem? h))
end
theorem isT_ok {α : Type} [DecidableEq α] {a b : α} (h : isT a b = true) : a = b := of_decide_eq_true h
section
variable {K : PySem.W.Frag} {x f m : Str} {i : Nat}
theorem bIcls_ok (h : bIcls x K = true) : ICls K (ga K x) := ⟨(ba h).1, (ba h).2⟩
theorem bProp_ok (h : bProp x f K = true) : PropC K (ga K x) f (ma K (ga K x) f) (pgA K (ga K x) f) := by
  obtain ⟨h1, h⟩ := ba h
  obtain ⟨h2, h⟩ := ba h
  obtain ⟨h3, h⟩ := ba h
  obtain ⟨h4, h5⟩ := ba h
  refine { bIcls_ok h1 with at_ := isT_ok h2, gt := isT_ok h3, tak := isT_ok h4, rec_ := ?_ }
  unfold pgA
  split at h5
  · rename_i g r e
    exact ⟨r, by rw [e]⟩
  · cases h5
theorem bScls_ok (h : bScls x K = true) : SlX.SCls K (ga K x) := by
  obtain ⟨h1, h⟩ := ba h
  obtain ⟨h2, h⟩ := ba h
  obtain ⟨h3, h4⟩ := ba h
  exact ⟨h1, h2, h3, isT_ok h4⟩
theorem bSlot_ok (h : bSlot x f i K = true) : SlX.Slot1 K (ga K x) f (ma K (ga K x) f) i := by
  obtain ⟨h1, h⟩ := ba h
  obtain ⟨h2, h⟩ := ba h
  obtain ⟨h3, h⟩ := ba h
  obtain ⟨h4, h⟩ := ba h
  obtain ⟨h5, h6⟩ := ba h
  exact ⟨isT_ok h1, isT_ok h2, isT_ok h3, isT_ok h4, isT_ok h5, of_decide_eq_true h6⟩
theorem bIsi_ok (h : bIsi x K = true) : IsiC K (ga K x) := by
  obtain ⟨h1, h⟩ := ba h
  obtain ⟨h2, h⟩ := ba h
  obtain ⟨h3, h4⟩ := ba h
  exact ⟨h1, h2, isT_ok h3, isT_ok h4⟩
theorem bKitT_ok {T : String} {b : Bool} (h : bKitT T x b K = true) : PySem.W.kitOne K (.type T) (.ref (ga K x)) = some b := isT_ok h
theorem bKitC_ok {y : Str} {b : Bool} (h : bKitC x y b K = true) : PySem.W.kitOne K (.ref (ga K x)) (.ref (ga K y)) = some b := isT_ok h
theorem oexB_ok {C : Addr} (h : oexB K C = true) : ∃ nm q N bs bm sn sub ab col dd k0 k1 k2 k3 k5, K.lookup C = some (excClassObj nm q C N bs bm true sn sub ab col dd k0 k1 k2 k3 k5 "ValueError.__new__") ∧ PySem.HandSPX.refsVE bm = true := by
  unfold oexB at h
  split at h
  · rename_i dd cd sl e
    split at h
    · rename_i C' bm k0 k1 k2 k3 n k5 hm hs
      obtain ⟨h1, h⟩ := ba h
      obtain ⟨h2, h⟩ := ba h
      obtain ⟨h3, h⟩ := ba h
      obtain ⟨h4, h5⟩ := ba h
      have e1 := of_decide_eq_true h1
      have e2 := of_decide_eq_true h2
      subst e1 e2
      obtain ⟨nm, bs, mro, N, q, hd, sn, sub, ab, col, del⟩ := cd
      dsimp only at hm h3 h4
      subst hm h4
      have e3 : del = false := by simpa using h3
      subst e3
      obtain ⟨l⟩ := sl
      dsimp only at hs
      subst hs
      exact ⟨nm, q, N, bs, bm, sn, sub, ab, col, dd, k0, k1, k2, k3, k5, e, h5⟩
    · cases h
  · cases h
theorem bExc_ok (h : bExc x f K = true) : Exc1 K (ga K x) (ma K (ga K x) "__init__") f ∧ XfC K (ga K x) := by
  obtain ⟨h1, h⟩ := ba h
  obtain ⟨h2, h⟩ := ba h
  obtain ⟨h3, h⟩ := ba h
  obtain ⟨h4, h⟩ := ba h
  obtain ⟨h5, h⟩ := ba h
  obtain ⟨h6, h⟩ := ba h
  obtain ⟨h7, h⟩ := ba h
  obtain ⟨h8, h9⟩ := ba h
  exact ⟨⟨⟨oexB_ok h1, isT_ok h2, isT_ok h3, isT_ok h4, h5⟩, isT_ok h6, isT_ok h7, isT_ok h8⟩, xfB_ok h9⟩
theorem bNoT_ok (h : bNoT K = true) : tabK K = [] := List.isEmpty_iff.mp h
end
end DL

set_option maxHeartbeats 2000000
namespace DL
open PySem PySem.Spec PyProof.Rows L2

def sp0 (g : Mh → QD → DXK → Prop) : DSp := fun ds M Q E => ds = [] ∧ g M Q E
def sp1 (g : D → Mh → QD → DXK → Prop) : DSp := fun ds M Q E => ∃ a, ds = [a] ∧ g a M Q E
def sp2 (g : D → D → Mh → QD → DXK → Prop) : DSp := fun ds M Q E => ∃ a b, ds = [a, b] ∧ g a b M Q E
def sp3 (g : D → D → D → Mh → QD → DXK → Prop) : DSp := fun ds M Q E => ∃ a b c, ds = [a, b, c] ∧ g a b c M Q E
def sp4 (g : D → D → D → D → Mh → QD → DXK → Prop) : DSp := fun ds M Q E => ∃ a b c d, ds = [a, b, c, d] ∧ g a b c d M Q E
def sp5 (g : D → D → D → D → D → Mh → QD → DXK → Prop) : DSp := fun ds M Q E => ∃ a b c d e, ds = [a, b, c, d, e] ∧ g a b c d e M Q E
def sp6 (g : D → D → D → D → D → D → Mh → QD → DXK → Prop) : DSp := fun ds M Q E => ∃ a b c d e f, ds = [a, b, c, d, e, f] ∧ g a b c d e f M Q E
theorem sp1_len {g} {ds : List D} {M : Mh} {Q : QD} {E : DXK} (h : sp1 g ds M Q E) : ds.length = 1 := by obtain ⟨_, rfl, _⟩ := h; rfl
theorem sp2_len {g} {ds : List D} {M : Mh} {Q : QD} {E : DXK} (h : sp2 g ds M Q E) : ds.length = 2 := by obtain ⟨_, _, rfl, _⟩ := h; rfl
theorem OkF.newPool {P : Program} {w : World} {K : PySem.W.Frag} {mg : Str → Option Value} {base : Heap} {k : Nat} {d : He5.DefA} {ps : List Str} {sp : DSp} (F : OkF P w K mg base k d ps sp) : OkF P w K mg base k d ps (NewP sp) := by
  obtain ⟨fd, a, b, c⟩ := F
  exact ⟨fd, a, fng_newPool b, c⟩
section
variable {K : PySem.W.Frag} {F : Hp}
def gP {α : Type} (pick : List (Nat ⊕ Nat)) (l m : List α) : List α := pick.filterMap fun i => match i with
  | .inl i => l[i]?
  | .inr i => m[i]?
theorem vals_gP {vs zs : List V} {us ws : List Value} (h1 : Vals vs us) (h2 : Vals zs ws) : ∀ pick : List (Nat ⊕ Nat), Vals (gP pick vs zs) (gP pick us ws)
  | [] => .nil
  | p :: r => by
    have ih := vals_gP h1 h2 r
    have one : ∀ {a : List V} {b : List Value} (i : Nat), Vals a b → (a[i]? = none ∧ b[i]? = none) ∨ ∃ x y, a[i]? = some x ∧ b[i]? = some y ∧ RelV x y := by
      intro a b i h
      induction h generalizing i with
      | nil => exact .inl ⟨by simp, by simp⟩
      | cons h t ih =>
        cases i with
        | zero => exact .inr ⟨_, _, rfl, rfl, h⟩
        | succ i => simpa using ih i
    unfold gP at ih ⊢
    rw [List.filterMap_cons, List.filterMap_cons]
    cases p with
    | inl i =>
      rcases one i h1 with ⟨e1, e2⟩ | ⟨x, y, e1, e2, h⟩
      · simp only [e1, e2]; exact ih
      · simp only [e1, e2]; exact .cons h ih
    | inr i =>
      rcases one i h2 with ⟨e1, e2⟩ | ⟨x, y, e1, e2, h⟩
      · simp only [e1, e2]; exact ih
      · simp only [e1, e2]; exact .cons h ih
theorem repL_gP {vs zs : List V} {ds es : List D} (h1 : RepL K F vs ds) (h2 : RepL K F zs es) : ∀ pick : List (Nat ⊕ Nat), RepL K F (gP pick vs zs) (gP pick ds es)
  | [] => .nil
  | p :: r => by
    have ih := repL_gP h1 h2 r
    have one : ∀ {a : List V} {b : List D} (i : Nat), RepL K F a b → (a[i]? = none ∧ b[i]? = none) ∨ ∃ x y, a[i]? = some x ∧ b[i]? = some y ∧ Rep K F x y := fun {a b} i h => by
      cases e : b[i]? with
      | none =>
        refine .inl ⟨?_, rfl⟩
        rw [List.getElem?_eq_none_iff] at e ⊢
        rw [h.length]; exact e
      | some d =>
        obtain ⟨v, e1, e2⟩ := h.get e
        exact .inr ⟨v, d, e1, rfl, e2⟩
    unfold gP at ih ⊢
    rw [List.filterMap_cons, List.filterMap_cons]
    cases p with
    | inl i =>
      rcases one i h1 with ⟨e1, e2⟩ | ⟨x, y, e1, e2, h⟩
      · simp only [e1, e2]; exact ih
      · simp only [e1, e2]; exact .cons h ih
    | inr i =>
      rcases one i h2 with ⟨e1, e2⟩ | ⟨x, y, e1, e2, h⟩
      · simp only [e1, e2]; exact ih
      · simp only [e1, e2]; exact .cons h ih
variable {x qual : Str} {params : Arguments} {body : List Stmt} {scope : Scope} {f : Addr} {fd : FuncData} {ps ks : List Str} {dvs : List V} {kws : List (Str × V)} {n : Nat}
theorem Bd.kw (pick : List (Nat ⊕ Nat)) (F : FunD K x qual params body scope dvs kws f fd) (hd : dvs = [])
    (h : ∀ (kV doc pm : Value) (an : Option Addr) (cdv ct : Value) (us ws : List Value), us.length = n → ws.length = ks.length → bindArgs (PySem.W.fnOf x qual params body scope .none kV doc pm an cdv ct) ⟨us, ks.zip ws⟩ = pure (ps.zip (gP pick us ws))) : Bd K fd ps n ks (gP pick) := by
  obtain ⟨oc, od, dV, kV, doc, pm, an, cdv, ct, osl, rfl, lk, hcd, hD, hK⟩ := F.ex
  rcases hD with ⟨_, rfl⟩ | ⟨e, _⟩
  · exact ⟨fun s us ws vs zs ds es Fr X l1 l2 rv rz rp rpz => ⟨_, _, .of_eq (h kV doc pm an cdv ct us ws l1 l2), vals_gP rv rz pick, repL_gP rp rpz pick⟩⟩
  · exact absurd hd e
theorem Bd.kwD (pick : List (Nat ⊕ Nat)) (F : FunD K x qual params body scope dvs kws f fd) (hd : dvs ≠ [])
    (h : ∀ (T : Addr) (kV doc pm : Value) (an : Option Addr) (cdv ct : Value) (us ws : List Value), us.length = n → ws.length = ks.length → ∃ k : Option (Array Value) → Sem (List (Str × Value)), bindArgs (PySem.W.fnOf x qual params body scope (.ref T) kV doc pm an cdv ct) ⟨us, ks.zip ws⟩ = (seqItems? (.ref T) >>= k) ∧
      ∀ its : List Value, its.length = dvs.length → k (some its.toArray) = pure (ps.zip (gP pick us ws))) : Bd K fd ps n ks (gP pick) := by
  obtain ⟨oc, od, dV, kV, doc, pm, an, cdv, ct, osl, rfl, lk, hcd, hD, hK⟩ := F.ex
  rcases hD with ⟨e, _⟩ | ⟨_, T, o, its, m, rfl, lT, oT, rT⟩
  · exact absurd e hd
  · refine ⟨fun s us ws vs zs ds es Fr X l1 l2 rv rz rp rpz => ?_⟩
    obtain ⟨k, e1, e2⟩ := h T kV doc pm an cdv ct us ws l1 l2
    refine ⟨_, _, BindsTo.of_looks fun M => ?_, vals_gP rv rz pick, repL_gP rp rpz pick⟩
    rw [e1]
    exact looks_items X lT oT (.of_pure (e2 its rT.length.symm))
theorem Bd.dfl (F : FunD K x qual params body scope dvs [] f fd) (hd : dvs ≠ []) (es : List D) (hr : ∀ Fr, RepL K Fr dvs es) (hn : n + dvs.length = ps.length)
    (h : ∀ (T : Addr) (kV doc pm : Value) (an : Option Addr) (cdv ct : Value) (us : List Value), us.length = n → ∃ k : Option (Array Value) → Sem (List (Str × Value)), bindArgs (PySem.W.fnOf x qual params body scope (.ref T) kV doc pm an cdv ct) ⟨us, []⟩ = (seqItems? (.ref T) >>= k) ∧
      ∀ its : List Value, its.length = dvs.length → k (some its.toArray) = pure (ps.zip (us ++ its))) : Bd K fd ps n [] (fun ds _ => ds ++ es) := by
  obtain ⟨oc, od, dV, kV, doc, pm, an, cdv, ct, osl, rfl, lk, hcd, hD, hK⟩ := F.ex
  rcases hD with ⟨e, _⟩ | ⟨_, T, o, its, m, rfl, lT, oT, rT⟩
  · exact absurd e hd
  · refine ⟨fun s us ws vs zs ds es' Fr X l1 l2 rv rz rp rpz => ?_⟩
    cases rz with
    | cons _ _ => simp at l2
    | nil =>
      obtain ⟨k, e1, e2⟩ := h T kV doc pm an cdv ct us l1
      refine ⟨us ++ its, vs ++ dvs, BindsTo.of_looks fun M => ?_, rv.append rT, rp.append (hr _)⟩
      show PySem.W.Looks M s.heap (bindArgs _ ⟨us, []⟩) _
      rw [e1]
      exact looks_items X lT oT (.of_pure (e2 its rT.length.symm))
end
def OkX (P : Program) (w : World) (K : PySem.W.Frag) (mg : Str → Option Value) (base : Heap) (C fI : Addr) (f y : Str) : Prop :=
  ∃ fd, FnOk P w K mg base (fun _ _ _ _ _ _ => False) 1 fI fd ["self", y] (initSp K f) ∧ (∀ us : List Value, us.length = 2 → bindArgs fd ⟨us, []⟩ = pure ((["self", y] : List Str).zip us)) ∧ Exc1 K C fI f ∧ XfC K C
theorem okX_of {P : Program} {w : World} {K : PySem.W.Frag} {mg : Str → Option Value} {base : Heap} {C fI : Addr} {x qual f y : Str} {params : Arguments} {body : List Stmt} {scope : Scope} {fd : FuncData} {p1 p2 p3 p4 : Pos} (h : Exc1 K C fI f ∧ XfC K C)
    (F : FunD K x qual params body scope [] [] fI fd) (S : FnScope ["self", y] ["self", y] scope) (hb : body = [.Assign [.Attribute (.Name "self" p1) f p2] (.Name y p3) p4]) (hbd : ∀ (kV doc pm : Value) (an : Option Addr) (cdv ct : Value) (us : List Value), us.length = 2 → bindArgs (PySem.W.fnOf x qual params body scope .none kV doc pm an cdv ct) ⟨us, []⟩ = pure ((["self", y] : List Str).zip us))
    (hd : (y == ("__debug__" : Str)) = false := by decide) (hcd : (y == ("__classdict__" : Str)) = false := by decide) : OkX P w K mg base C fI f y := by
  refine ⟨fd, exc_init F S hb hd hcd, fun us hl => ?_, h⟩
  obtain ⟨oc, od, dV, kV, doc, pm, an, cdv, ct, osl, rfl, _, _, hD, _⟩ := F.ex
  rcases hD with ⟨_, rfl⟩ | ⟨e, _⟩
  · exact hbd kV doc pm an cdv ct us hl
  · exact absurd rfl e
end DL

namespace DL
open PySem PySem.Spec PyProof.Rows L2 He
end DL
--FRONT
set_option maxHeartbeats 4000000
namespace DL.FR
open DL PySem PySem.Spec PyProof.Rows L2
theorem ob_eq (s : PySem.W.SharedT) : ob s = hk.obs s.abs := obsFG_eq (HandSHeadRun.getT_eq s)
end DL.FR

set_option maxHeartbeats 2000000
namespace DL
open PySem PySem.Spec PyProof.Rows L2

def liftR (k : Kt) (o : DR2) : R2 := fun x y H Q => ∃ Z M a b DQ, HR k.K Z M H ∧ k.T Z (out Z M H) ∧ Rep k.K (out Z M H) x a ∧ Rep k.K (out Z M H) y b ∧ o a b M DQ ∧ ∀ v H' d M', HR k.K Z M' H' → Rep k.K (out Z M' H') v d → Same (out Z M H) (out Z M' H') → DQ d M' → Q v H'
theorem sr_blank {k : Kt} {Z : Hp} {M : Mh} {H : Hp} (st : Sg) (m : HR k.K Z M H) (t : k.T Z (out Z M H)) : SR k Z (List.replicate st.length none) M st H :=
  ⟨by simp, fun i d e => (by rw [List.getElem?_replicate] at e; split at e <;> cases e), m, t⟩
theorem DOp.opR {X : Cx} {W : DWX} {f : Value → Value → Sem Value} {o : DR2} (h : DOp X W f o) : OpR X f (liftR (kx X W) o) := fun pins s st H x y v u Q I rx ry ⟨Z, M, a, b, DQ, m, t, ra, rb, ho, k⟩ =>
  thn (h pins s st H Z _ M x y v u a b DQ I (sr_blank st m t) rx ry ra rb ho) fun w s' ⟨z, H', I', rz, d, M', q', rp, sm, hq⟩ => ⟨z, H', I', rz, k z H' d M' q'.hr rp sm hq⟩
def dChain (o o' : DR2) (ta tb tc : DTE) : DTE := fun r M Q => ta r M fun x M1 => tb r M1 fun y M2 => o x y M2 fun z M3 => ∃ k, z = .bl k ∧ if k = true then tc r M3 fun w M4 => o' y w M4 Q else Q (.bl false) M3
theorem chain_lift {X : Cx} {W : DWX} {o o' : DR2} {ta tb tc : DTE} {st : Sg} {H Z : Hp} {r : Rho} {M : Mh} {Q : QD} {R : VK} (q : SR (kx X W) Z r M st H) (h : dChain o o' ta tb tc r M Q) (fin : ∀ v H', EQ (kx X W) Z st r (out Z M H) Q v H' → R v H') :
    tChain (liftR (kx X W) o) (liftR (kx X W) o') (liftE (kx X W) ta) (liftE (kx X W) tb) (liftE (kx X W) tc) st H R := by
  refine ⟨Z, r, M, _, q, h, fun x H1 ⟨dx, M1, q1, rx, sm1, h1⟩ => ⟨Z, r, M1, _, q1, h1, fun y H2 ⟨dy, M2, q2, ry, sm2, h2⟩ => ?_⟩⟩
  refine ⟨Z, M2, dx, dy, _, q2.hr, q2.tk, rx.mono sm2, ry, h2, fun v H3 d M3 m3 rv sm3 ⟨k, ek, h3⟩ => ?_⟩
  subst ek
  cases rv
  refine ⟨k, rfl, ?_⟩
  have q3 := q2.step m3 sm3
  cases k with
  | false => exact fin _ _ ⟨_, M3, q3, .bl _, sm1.trans (sm2.trans sm3), h3⟩
  | true => exact ⟨Z, r, M3, _, q3, h3, fun w H4 ⟨dw, M4, q4, rw', sm4, h4⟩ => ⟨Z, M4, dy, dw, _, q4.hr, q4.tk, ry.mono (sm3.trans sm4), rw', h4, fun v H5 d M5 m5 rv sm5 h5 => fin _ _ ⟨d, M5, q4.step m5 sm5, rv, sm1.trans (sm2.trans (sm3.trans (sm4.trans sm5))), h5⟩⟩⟩
theorem dt_chain {X : Cx} {W : DWX} {op op' : CmpOp} {o o' : DR2} {a b c : Expr} {ta tb tc : DTE} {pos : Pos} (ho : DOp X W (compareOp op) o) (ho' : DOp X W (compareOp op') o') (ha : DE X W a ta) (hb : DE X W b tb) (hc : DE X W c tc)
    (hm : lastMarks [op, op'] [b, c] = false := by with_unfolding_all rfl) : DT X W (.Compare a [op, op'] [b, c] pos) (dB (dChain o o' ta tb tc)) :=
  DT.of (pt_chain ho.opR ho'.opR ha.pe hb.pe hc.pe hm) fun st H Z r M Q q h => chain_lift q h fun v H' e => dB_liftQ e

def Plain : D → Prop
  | .non => True
  | .bl _ => True
  | .int _ => True
  | .str _ => True
  | .tup _ => True
  | .lst _ => True
  | .dic _ => True
  | _ => False
def isIntD : D → Bool
  | .int _ => true
  | _ => false
def isStrD : D → Bool
  | .str _ => true
  | _ => false
theorem py_plain {a : D} {p : PyData} (h : py a = some p) : Plain a := by
  cases a <;> first | trivial | cases h
end DL
namespace DL
open PySem PySem.Spec PyProof.Rows L2
def blkB (N : List Str) (sc scope : Scope) (own : List (Str × Nat)) : Bool :=
  decide (scope.kind = .function) && ((scope.names.all fun y => decide (scope.names.lookup y.1 = some y.2)) && ((own.all fun p => decide (N[p.2]? = some p.1)) &&
  ((scope.names.all fun y => !decide (y.2 = .free) || (decide (sc.names.lookup y.1 = some .cell) || decide (sc.names.lookup y.1 = some .free))) &&
    scope.names.all fun y => !(decide (y.2 = .local) || decide (y.2 = .cell)) || (decide (y.1 ∈ own.map (·.1)) || !decide (y.1 ∈ N)))))
theorem blkB_ok {N : List Str} {sc scope : Scope} {own : List (Str × Nat)} (h : blkB N sc scope own = true) : BlkOk N sc scope own := by
  obtain ⟨h1, h⟩ := He.ba h
  obtain ⟨h2, h⟩ := He.ba h
  obtain ⟨h3, h⟩ := He.ba h
  obtain ⟨h4, h5⟩ := He.ba h
  refine ⟨of_decide_eq_true h1, fun y hy => of_decide_eq_true (List.all_eq_true.mp h2 y hy), fun p hp => of_decide_eq_true (List.all_eq_true.mp h3 p hp), fun y hy e => ?_, fun y hy e => ?_⟩
  · have := List.all_eq_true.mp h4 y hy
    simpa [e] using this
  · have := List.all_eq_true.mp h5 y hy
    have e2 : (decide (y.2 = .local) || decide (y.2 = .cell)) = true := by simpa using e
    rw [e2] at this
    simpa using this
theorem sp0_iff {g} {M : Mh} {Q : QD} {E : DXK} : sp0 g [] M Q E ↔ g M Q E := ⟨fun h => by
  obtain ⟨e, h⟩ := h
  cases e
  exact h, fun h => ⟨rfl, h⟩⟩
theorem sp1_iff {g} {a : D} {M : Mh} {Q : QD} {E : DXK} : sp1 g [a] M Q E ↔ g a M Q E := ⟨fun h => by
  obtain ⟨a1, e, h⟩ := h
  cases e
  exact h, fun h => ⟨_, rfl, h⟩⟩
theorem sp2_iff {g} {a b : D} {M : Mh} {Q : QD} {E : DXK} : sp2 g [a, b] M Q E ↔ g a b M Q E := ⟨fun h => by
  obtain ⟨a1, b1, e, h⟩ := h
  cases e
  exact h, fun h => ⟨_, _, rfl, h⟩⟩
theorem sp3_iff {g} {a b c : D} {M : Mh} {Q : QD} {E : DXK} : sp3 g [a, b, c] M Q E ↔ g a b c M Q E := ⟨fun h => by
  obtain ⟨a1, b1, c1, e, h⟩ := h
  cases e
  exact h, fun h => ⟨_, _, _, rfl, h⟩⟩
theorem sp4_iff {g} {a b c d : D} {M : Mh} {Q : QD} {E : DXK} : sp4 g [a, b, c, d] M Q E ↔ g a b c d M Q E := ⟨fun h => by
  obtain ⟨a1, b1, c1, d1, e, h⟩ := h
  cases e
  exact h, fun h => ⟨_, _, _, _, rfl, h⟩⟩
theorem sp5_iff {g} {a b c d e : D} {M : Mh} {Q : QD} {E : DXK} : sp5 g [a, b, c, d, e] M Q E ↔ g a b c d e M Q E := ⟨fun h => by
  obtain ⟨a1, b1, c1, d1, e1, e, h⟩ := h
  cases e
  exact h, fun h => ⟨_, _, _, _, _, rfl, h⟩⟩
theorem sp6_iff {g} {a b c d e f : D} {M : Mh} {Q : QD} {E : DXK} : sp6 g [a, b, c, d, e, f] M Q E ↔ g a b c d e f M Q E := ⟨fun h => by
  obtain ⟨a1, b1, c1, d1, e1, f1, e, h⟩ := h
  cases e
  exact h, fun h => ⟨_, _, _, _, _, _, rfl, h⟩⟩
theorem rm_u64 {k : Nat} {A : Around} (r : Rm k A) : A.units + 64 < cLine := by have := r.room.un; omega
theorem ixN_nat {n i : Nat} (h : i < n) : ixN n (i : Int) = some i := by
  unfold ixN
  rw [if_pos (Int.natCast_nonneg i), if_pos (by omega)]
  rfl
theorem atI_nat {α : Type} (l : List α) (i : Nat) (h : i < l.length) : atI l (i : Int) = l[i]? := by
  unfold atI
  rw [ixN_nat h]
  rfl
theorem ix_m {M : Mh} {p : Addr} {ds : List D} {i : Int} {d : D} {Q : QD} (e : M p = some (.lst ds)) (h : atI ds i = some d) (q : Q d M) : aIx (.ref p) (.int i) M Q := by
  refine ⟨ds, d, ?_, h, q⟩
  show (match M p with | some (.lst ds) => some ds | _ => none) = some ds
  rw [e]
theorem set_m {M : Mh} {p : Addr} {ds : List D} {i : Int} {j : Nat} {v : D} {Q : Mh → Prop} (e : M p = some (.lst ds)) (h : ixN ds.length i = some j) (q : Q (mset M p (.lst (ds.set j v)))) : aSetL (.ref p) (.int i) v M Q :=
  ⟨p, ds, i, j, rfl, rfl, e, h, q⟩
end DL

set_option maxHeartbeats 2000000
namespace DL
open PySem PySem.Spec PyProof.Rows L2

mutual
def szP : PyData → Nat
  | .none => 4
  | .bool _ => 5
  | .int i => i.natAbs.log2 + 2
  | .str x => 10 * x.length + 2
  | .list xs => 2 + szA xs
  | .tuple xs => 4 + szA xs
  | .dict kvs => 2 + szK kvs
def szA : List PyData → Nat
  | [] => 0
  | x :: xs => szP x + 2 + szA xs
def szK : List (PyData × PyData) → Nat
  | [] => 0
  | (k, v) :: r => szP k + szP v + 4 + szK r
end
mutual
def okP : PyData → Bool
  | .none => true
  | .bool _ => true
  | .int i => decide (i.natAbs.log2 < 1920)
  | .str x => PyData.strOk x
  | .list xs => okA xs
  | .tuple xs => okA xs
  | .dict kvs => okK kvs
def okA : List PyData → Bool
  | [] => true
  | x :: xs => okP x && okA xs
def okK : List (PyData × PyData) → Bool
  | [] => true
  | (k, v) :: r => okP k && okP v && okK r
end
theorem join_le (ts : List Str) : (Str.join ", " ts).length ≤ piled ts := by
  by_cases h : ts = []
  · subst h; exact Nat.le_refl _
  · have := join_length_add ts h
    omega
mutual
theorem shown_le : ∀ p : PyData, okP p = true → p.showable = true ∧ p.shown.length ≤ szP p
  | .none, _ => ⟨rfl, by rw [PyData.shown_none]; decide⟩
  | .bool b, _ => ⟨rfl, by rw [PyData.shown_bool]; cases b <;> decide⟩
  | .int i, h => by
    have h1 : i.natAbs.log2 < 1920 := of_decide_eq_true (by simpa [okP] using h)
    refine ⟨by simpa [PyData.showable] using h1, ?_⟩
    rw [PyData.shown_int]
    have := int_text_length_le (a := i) (k := i.natAbs.log2 + 1) (by omega) (by omega)
    show (Str.ofString (toString i)).length ≤ _
    rw [PySem.ofString_length]
    simp only [szP]
    omega
  | .str x, h => by
    refine ⟨rfl, ?_⟩
    rw [PyData.shown_str]
    simp only [szP]
    refine StrLaws.reprText_len x fun c hc => ?_
    have q : x.cps.all (· < 0x110000) = true := by
      simp only [okP] at h
      exact h
    rw [← Array.all_toList] at q
    have := of_decide_eq_true (List.all_eq_true.mp q c hc)
    omega
  | .list xs, h => by
    obtain ⟨h1, h2⟩ := shown_leA xs (by simpa [okP] using h)
    refine ⟨by simpa [PyData.showable] using h1, ?_⟩
    rw [PyData.shown_list, strLen_append, strLen_append]
    have := join_le (PyData.shownAll xs)
    have e1 : (("[" : String) : Str).length = 1 := rfl
    have e2 : (("]" : String) : Str).length = 1 := rfl
    simp only [szP]
    omega
  | .tuple xs, h => by
    obtain ⟨h1, h2⟩ := shown_leA xs (by simpa [okP] using h)
    refine ⟨by simpa [PyData.showable] using h1, ?_⟩
    rw [PyData.shown_tuple, strLen_append, strLen_append]
    have := join_le (PyData.shownAll xs)
    have e1 : (("(" : String) : Str).length = 1 := rfl
    have e3 : (((if xs.length == 1 then ",)" else ")" : String) : Str)).length ≤ 2 := by split <;> decide
    simp only [szP]
    omega
  | .dict kvs, h => by
    obtain ⟨h1, h2⟩ := shown_leK kvs (by simpa [okP] using h)
    refine ⟨by simpa [PyData.showable] using h1, ?_⟩
    rw [PyData.shown_dict, strLen_append, strLen_append]
    have := join_le (PyData.shownKv kvs)
    have e1 : (("{" : String) : Str).length = 1 := rfl
    have e2 : (("}" : String) : Str).length = 1 := rfl
    simp only [szP]
    omega
theorem shown_leA : ∀ ps : List PyData, okA ps = true → PyData.showableAll ps = true ∧ piled (PyData.shownAll ps) ≤ szA ps
  | [], _ => ⟨rfl, by rw [PyData.shownAll_nil]; exact Nat.le_refl _⟩
  | p :: ps, h => by
    obtain ⟨h1, h2⟩ := He.ba (show (okP p && okA ps) = true by simpa [okA] using h)
    obtain ⟨a1, a2⟩ := shown_le p h1
    obtain ⟨b1, b2⟩ := shown_leA ps h2
    refine ⟨by simp [PyData.showableAll, a1, b1], ?_⟩
    rw [PyData.shownAll_cons, piled_cons]
    simp only [szA]
    omega
theorem shown_leK : ∀ ps : List (PyData × PyData), okK ps = true → PyData.showableKv ps = true ∧ piled (PyData.shownKv ps) ≤ szK ps
  | [], _ => ⟨rfl, by rw [PyData.shownKv_nil]; exact Nat.le_refl _⟩
  | (k, v) :: ps, h => by
    obtain ⟨h1, h3⟩ := He.ba (show (okP k && okP v && okK ps) = true by simpa [okK] using h)
    obtain ⟨h1, h2⟩ := He.ba h1
    obtain ⟨a1, a2⟩ := shown_le k h1
    obtain ⟨c1, c2⟩ := shown_le v h2
    obtain ⟨b1, b2⟩ := shown_leK ps h3
    refine ⟨by simp [PyData.showableKv, a1, b1, c1], ?_⟩
    rw [PyData.shownKv_cons, piled_cons, strLen_append, strLen_append]
    have e : ((": " : String) : Str).length = 2 := rfl
    simp only [szK]
    omega
end
theorem showOk_of {p : PyData} (h : okP p = true) (hs : szP p ≤ 16777216) (hd : p.depth ≤ 60) : ShowOk p := by
  obtain ⟨h1, h2⟩ := shown_le p h
  have := sizeLine_eq
  exact ⟨h1, by omega, hd⟩
def Good (p : PyData) : Prop := okP p = true ∧ szP p ≤ 100000 ∧ p.depth ≤ 20
def Thing (d : D) : Prop := ∃ p, py d = some p ∧ Good p
theorem Thing.plain {d : D} (h : Thing d) : Plain d := by
  obtain ⟨p, e, _⟩ := h
  exact py_plain e
theorem Thing.str {z : Str} (h : Thing (.str z)) : z.length ≤ 10000 ∧ PyData.strOk z = true := by
  obtain ⟨p, e, h1, h2, _⟩ := h
  cases e
  refine ⟨by simp only [szP] at h2; omega, by simp only [okP] at h1; exact h1⟩
end DL
namespace DL
open PySem PySem.Spec PyProof.Rows L2
theorem ix_s {M : Mh} {b : D} {ds : List D} {i : Int} {d : D} {Q : QD} (e : seqOf M b = some ds) (h : atI ds i = some d) (q : Q d M) : aIx b (.int i) M Q := by
  cases b <;> first | exact ⟨ds, d, e, h, q⟩ | cases e
theorem RetQ.drop {Q : QD} {d : D} {M : Mh} {p : Addr} {o : MO} (hp : M p = none) (h : Q d M) : RetQ Q d (mset M p o) := ⟨M, less_mset hp, .inl h⟩
theorem log2_lt {n k : Nat} (h : n < 2 ^ (k + 1)) : n.log2 < k + 1 := by
  by_cases h0 : n = 0
  · subst h0; simp
  · exact (Nat.log2_lt h0).mpr h
end DL

set_option maxHeartbeats 2000000
namespace DL
open PySem PySem.Spec PyProof.Rows L2

def dP (f : Rho → Option D) : DTE := fun r M Q => ∃ d, f r = some d ∧ Q d M
def fTup (g : Rho → Option (List D)) : Rho → Option D := fun r => match g r with
  | some l => if l.length ≤ 1000 then some (.tup l) else none
  | none => none
def fLst (g : Rho → Option (List D)) : Rho → Option D := fun r => match g r with
  | some l => if l.length ≤ 1000 then some (.lst l) else none
  | none => none
def fCons (f : Rho → Option D) (g : Rho → Option (List D)) : Rho → Option (List D) := fun r => match f r, g r with
  | some d, some l => some (d :: l)
  | _, _ => none
def fVar (i : Nat) : Rho → Option D := fun r => match r[i]? with
  | some (some d) => some d
  | _ => none
def fKv : List (Key × (Rho → Option D)) → Rho → Option (List (Key × D))
  | [], _ => some []
  | (k, f) :: l, r => match f r, fKv l r with
    | some d, some m => some ((k, d) :: m)
    | _, _ => none
def fDic (l : List (Key × (Rho → Option D))) : Rho → Option D := fun r => match fKv l r with
  | some m => if m.length ≤ 15 then some (.dic (mergeD [] m)) else none
  | none => none
section
variable {X : Cx} {W : DWX} {pos : Pos} {e : Expr} {es : List Expr} {f : Rho → Option D} {g : Rho → Option (List D)}
theorem DE.imp {t t' : DTE} (h : DE X W e t) (k : ∀ r M Q, t' r M Q → t r M Q) : DE X W e t' := ⟨fun pins s st H Z r M Q I q z => h.run pins s st H Z r M Q I q (k _ _ _ z)⟩
theorem DA.imp {t t' : DTA} (h : DA X W es t) (k : ∀ r M Q, t' r M Q → t r M Q) : DA X W es t' := ⟨fun po pins s st H Z r M Q I q z => h.run po pins s st H Z r M Q I q (k _ _ _ z)⟩
end
end DL
namespace DL
open PySem PySem.Spec PyProof.Rows L2
section
variable {i j : Int} {M : Mh} {Q : QD} {x y : Str} {a b : List D} {p : Int → Int → Bool} {f : Int → Int → Int} {g : Int → Int} {C : Int → Int → Prop} {ns : List Int}
theorem aAdd_ii : aAdd (.int i) (.int j) M Q ↔ Q (.int (i + j)) M := Iff.rfl
theorem aAdd_ss : aAdd (.str x) (.str y) M Q ↔ x.length + y.length ≤ sizeLine ∧ Q (.str (x ++ y)) M := Iff.rfl
theorem aAdd_tt : aAdd (.tup a) (.tup b) M Q ↔ a.length + b.length ≤ sizeLine ∧ Q (.tup (a ++ b)) M := Iff.rfl
theorem aAdd_ll : aAdd (.lst a) (.lst b) M Q ↔ a.length + b.length ≤ sizeLine ∧ Q (.lst (a ++ b)) M := Iff.rfl
theorem aInt_ii : aInt f C (.int i) (.int j) M Q ↔ C i j ∧ Q (.int (f i j)) M := Iff.rfl
theorem aInt0_ii : aInt0 f (.int i) (.int j) M Q ↔ Q (.int (f i j)) M := Iff.rfl
theorem aMul_ii : aMul (.int i) (.int j) M Q ↔ IntMulOk i j ∧ Q (.int (i * j)) M := Iff.rfl
theorem aCmp_ii : aCmp p (.int i) (.int j) M Q ↔ Q (.bl (p i j)) M := Iff.rfl
theorem aLen_s : aLen [.str x] M Q ↔ x.length ≤ sizeLine ∧ Q (.int x.length) M := Iff.rfl
theorem aLen_t : aLen [.tup a] M Q ↔ Q (.int a.length) M := ⟨fun ⟨_, e, q⟩ => by cases e; exact q, fun q => ⟨_, rfl, q⟩⟩
theorem aLen_l : aLen [.lst a] M Q ↔ Q (.int a.length) M := ⟨fun ⟨_, e, q⟩ => by cases e; exact q, fun q => ⟨_, rfl, q⟩⟩
theorem aLen_r : aLen [.scr ns] M Q ↔ Q (.int ns.length) M := ⟨fun ⟨_, e, q⟩ => by cases e; simpa using q, fun q => ⟨_, rfl, by simpa using q⟩⟩
theorem aNeg_i : aNeg (.int i) M Q ↔ Q (.int (-i)) M := Iff.rfl
theorem aI1_i : aI1 g [.int i] M Q ↔ Q (.int (g i)) M := Iff.rfl
theorem aI2_i : aI2 f [.int i, .int j] M Q ↔ Q (.int (f i j)) M := Iff.rfl
theorem aStrI_i : aStrI [.int i] M Q ↔ i.natAbs.log2 < 1920 ∧ Q (.str (toString i)) M := Iff.rfl
end
end DL
namespace DL
open PySem PySem.Spec PyProof.Rows L2
def Signs (ds : List D) : Prop := ∃ ss : List Str, ds = ss.map D.str ∧ ∀ s ∈ ss, s.length ≤ 1 ∧ PyData.strOk s = true
theorem Signs.set {ds : List D} {x : Str} (h : Signs ds) (hx : x.length ≤ 1 ∧ PyData.strOk x = true) (j : Nat) : Signs (ds.set j (.str x)) := by
  obtain ⟨ss, rfl, h⟩ := h
  refine ⟨ss.set j x, by rw [List.map_set], fun s hs => ?_⟩
  rcases List.mem_or_eq_of_mem_set hs with hs | rfl
  · exact h s hs
  · exact hx
theorem atI_mem {α : Type} {l : List α} {i : Int} (h0 : 0 ≤ i) (h1 : i < l.length) : ∃ a, atI l i = some a ∧ a ∈ l := by
  obtain ⟨k, rfl⟩ := Int.eq_ofNat_of_zero_le h0
  have hk : k < l.length := by omega
  exact ⟨l[k], by show atI l (k : Int) = _; rw [atI_nat _ _ hk, List.getElem?_eq_getElem hk], List.getElem_mem hk⟩
end DL
namespace DL
open PySem PySem.Spec PyProof.Rows L2
theorem aEq_ii {i j : Int} {M : Mh} {Q : QD} : aEq (.int i) (.int j) M Q ↔ Q (.bl (i == j)) M := ⟨fun ⟨_, _, e1, e2, _, _, q⟩ => by
  cases e1; cases e2
  simpa [PyData.eqv] using q, fun q => ⟨_, _, rfl, rfl, by simp [SeqAt.shaped, PyData.canLay0, PyData.depth], by simp [SeqAt.shaped, PyData.canLay0, PyData.depth], by simpa [PyData.eqv] using q⟩⟩
theorem aNe_ii {i j : Int} {M : Mh} {Q : QD} : aNe (.int i) (.int j) M Q ↔ Q (.bl (!(i == j))) M := ⟨fun ⟨_, _, e1, e2, _, _, q⟩ => by
  cases e1; cases e2
  simpa [PyData.eqv] using q, fun q => ⟨_, _, rfl, rfl, by simp [SeqAt.shaped, PyData.canLay0, PyData.depth], by simp [SeqAt.shaped, PyData.canLay0, PyData.depth], by simpa [PyData.eqv] using q⟩⟩
end DL
namespace DL
open PySem PySem.Spec PyProof.Rows L2
def aEqT : DR2 := fun x y M Q => match x, y with
  | .str a, .str b => Q (.bl (decide (a = b))) M
  | _, _ => False
def aNeT : DR2 := fun x y M Q => match x, y with
  | .str a, .str b => Q (.bl (!decide (a = b))) M
  | _, _ => False
theorem dec_str {a b : Str} : decide (V.str a = V.str b) = decide (a = b) := by
  by_cases h : a = b
  · subst h; simp
  · rw [decide_eq_false h]; exact decide_eq_false fun z => h (by cases z; rfl)
section
variable {X : Cx} {W : DWX}
theorem op_neT : DOp X W (compareOp .NotEq) aNeT := .of op_ne fun st H Z r M x y da db Q q ra rb h => by
  unfold aNeT at h
  split at h
  · cases ra; cases rb
    refine ⟨rfl, EQ.val q (.bl _) ?_⟩
    rw [dec_str]; exact h
  · exact h.elim
end
theorem aNeT_ss {x y : Str} {M : Mh} {Q : QD} : aNeT (.str x) (.str y) M Q ↔ Q (.bl (!decide (x = y))) M := Iff.rfl
theorem aEqT_ss {x y : Str} {M : Mh} {Q : QD} : aEqT (.str x) (.str y) M Q ↔ Q (.bl (decide (x = y))) M := Iff.rfl
theorem pyL_map {ds : List D} {ps : List PyData} (h : pyL ds = some ps) : py (.lst ds) = some (.list ps) := by
  show (pyL ds).map PyData.list = _
  rw [h]; rfl
theorem pyL_cons {d : D} {ds : List D} {p : PyData} {ps : List PyData} (h1 : py d = some p) (h2 : pyL ds = some ps) : pyL (d :: ds) = some (p :: ps) := by
  show (match py d, pyL ds with | some p, some ps => some (p :: ps) | _, _ => none) = _
  rw [h1, h2]
theorem lcL_inv {p : TPat} {tt : DTT} {te : DTE} {r0 : Rho} {Q : QD} (Inv : Mh → Prop) (R : D → Option D → Prop) : ∀ {items acc : List D} {M : Mh},
    (∀ x ∈ items, ∀ (M : Mh), Inv M → ∀ (K1 : D → Mh → Prop) (K0 : Mh → Prop), (∀ o M', R x o → Inv M' → match o with | some y => K1 y M' | none => K0 M') → tpD p x r0 M fun r1 M1 => tt r1 M1 fun b M2 => if b = true then te r1 M2 K1 else K0 M2) →
    acc.length + items.length ≤ sizeLine → Inv M → (∀ (M : Mh) (os : List (Option D)), Inv M → Paired R items os → Q (.lst (acc ++ os.filterMap id)) M) → lcL p tt te r0 Q items acc M
  | [], acc, M, h, hl, hi, hq => by
    have := hq M [] hi .nil
    simpa [lcL] using this
  | x :: xs, acc, M, h, hl, hi, hq => by
    have hl' : acc.length + (xs.length + 1) ≤ sizeLine := hl
    refine h x (List.mem_cons_self ..) M hi (fun y M3 => acc.length < sizeLine ∧ lcL p tt te r0 Q xs (acc ++ [y]) M3) (fun M3 => lcL p tt te r0 Q xs acc M3) fun o M3 ro hi3 => ?_
    cases o with
    | some y =>
      refine ⟨by omega, lcL_inv Inv R (fun y hy => h y (List.mem_cons_of_mem _ hy)) (by rw [List.length_append, List.length_cons, List.length_nil]; omega) hi3 fun M4 os hi4 po => ?_⟩
      have := hq M4 (some y :: os) hi4 (.cons ro po)
      simpa using this
    | none =>
      refine lcL_inv Inv R (fun y hy => h y (List.mem_cons_of_mem _ hy)) (by omega) hi3 fun M4 os hi4 po => ?_
      have := hq M4 (none :: os) hi4 (.cons ro po)
      simpa using this
theorem paired_all {d : D} : ∀ {items : List D} {os : List (Option D)}, Paired (fun _ o => o = some d) items os → os.filterMap id = List.replicate items.length d
  | _, _, .nil => rfl
  | _, _, .cons e r => by
    subst e
    rw [List.filterMap_cons]
    show d :: List.filterMap id _ = _
    rw [paired_all r]
    rfl
end DL

set_option maxHeartbeats 2000000
namespace DL
open PySem PySem.Spec PyProof.Rows L2

inductive T (α : Type) where
  | v (a : α) | x (C : Value) (fs : List (Str × D)) | no | dr (p : Addr) (n : Int) (k : Int → T α)
namespace T
variable {α β : Type}
def bind : T α → (α → T β) → T β
  | .v a, f => f a
  | .x C fs, _ => .x C fs
  | .no, _ => .no
  | .dr p n k, f => .dr p n fun m => (k m).bind f
def nx : T α → T α
  | .v a => .v a
  | .x _ _ => .no
  | .no => .no
  | .dr p n k => .dr p n fun m => (k m).nx
def ofO : Option α → T α
  | some a => .v a
  | none => .no
def gd (b : Bool) (t : T α) : T α := match b with
  | true => t
  | false => .no
def go (M : Mh) (Q : α → Prop) (E : Value → List (Str × D) → Prop) : T α → Prop
  | .v a => Q a
  | .x C fs => E C fs
  | .no => False
  | .dr p n k => M p = some .pool ∧ 0 < n ∧ n.natAbs.log2 < 9000 ∧ ∀ m, 0 ≤ m → m < n → (k m).go M Q E
def al0 (p : Addr) (Q : α → Prop) (E : Value → List (Str × D) → Prop) : T α → Prop
  | .v a => Q a
  | .x C fs => E C fs
  | .no => False
  | .dr q n k => q = p ∧ 0 < n ∧ n.natAbs.log2 < 9000 ∧ ∀ m, 0 ≤ m → m < n → (k m).al0 p Q E
variable {M M' : Mh} {Q Q' : α → Prop} {E E' : Value → List (Str × D) → Prop} {p : Addr} {a : α} {f : α → T β} {C : Value} {fs : List (Str × D)} {n : Int} {k : Int → T α}
theorem bind_v : (T.v a).bind f = f a := rfl
theorem bind_dr : (T.dr p n k).bind f = .dr p n fun m => (k m).bind f := rfl
theorem nx_v : (T.v a).nx = .v a := rfl
theorem nx_dr : (T.dr p n k).nx = .dr p n fun m => (k m).nx := rfl
theorem gd_t {t : T α} : gd true t = t := rfl
theorem ofO_s : ofO (some a) = .v a := rfl
theorem go_bind {R : β → Prop} : ∀ {t : T α}, (t.bind f).go M R E ↔ t.go M (fun a => (f a).go M R E) E
  | .v _ => Iff.rfl
  | .x _ _ => Iff.rfl
  | .no => Iff.rfl
  | .dr p n k => by
    show (_ ∧ _ ∧ _ ∧ ∀ m, _ → _ → ((k m).bind f).go M R E) ↔ (_ ∧ _ ∧ _ ∧ ∀ m, _ → _ → (k m).go M _ E)
    exact ⟨fun ⟨a, b, c, h⟩ => ⟨a, b, c, fun m h1 h2 => go_bind.mp (h m h1 h2)⟩, fun ⟨a, b, c, h⟩ => ⟨a, b, c, fun m h1 h2 => go_bind.mpr (h m h1 h2)⟩⟩
theorem go_mono : ∀ {t : T α}, t.go M Q E → (∀ p, M p = some .pool → M' p = some .pool) → (∀ a, Q a → Q' a) → (∀ c f, E c f → E' c f) → t.go M' Q' E'
  | .v _, h, _, hq, _ => hq _ h
  | .x _ _, h, _, _, he => he _ _ h
  | .no, h, _, _, _ => h
  | .dr p n k, ⟨a, b, c, h⟩, hM, hq, he => ⟨hM _ a, b, c, fun m h1 h2 => go_mono (h m h1 h2) hM hq he⟩
theorem go_imp {t : T α} (h : t.go M Q E) (hq : ∀ a, Q a → Q' a) : t.go M Q' E := go_mono h (fun _ h => h) hq fun _ _ h => h
theorem go_ofO {o : Option α} : (ofO o).go M Q E ↔ ∃ a, o = some a ∧ Q a := by
  cases o with
  | none => exact ⟨fun h => h.elim, fun ⟨_, e, _⟩ => nomatch e⟩
  | some a => exact ⟨fun h => ⟨a, rfl, h⟩, fun ⟨b, e, h⟩ => by cases e; exact h⟩
theorem go_gd {b : Bool} {t : T α} : (gd b t).go M Q E ↔ b = true ∧ t.go M Q E := by
  cases b with
  | false => exact ⟨fun h => h.elim, fun ⟨e, _⟩ => nomatch e⟩
  | true => exact ⟨fun h => ⟨rfl, h⟩, fun h => h.2⟩
theorem go_nx : ∀ {t : T α}, t.nx.go M Q E ↔ t.go M Q fun _ _ => False
  | .v _ => Iff.rfl
  | .x _ _ => Iff.rfl
  | .no => Iff.rfl
  | .dr p n k => ⟨fun ⟨a, b, c, h⟩ => ⟨a, b, c, fun m h1 h2 => go_nx.mp (h m h1 h2)⟩, fun ⟨a, b, c, h⟩ => ⟨a, b, c, fun m h1 h2 => go_nx.mpr (h m h1 h2)⟩⟩
theorem al0_go : ∀ {t : T α}, t.al0 p Q E → M p = some .pool → t.go M Q E
  | .v _, h, _ => h
  | .x _ _, h, _ => h
  | .no, h, _ => h
  | .dr q n k, ⟨a, b, c, h⟩, hM => ⟨by rw [a]; exact hM, b, c, fun m h1 h2 => al0_go (h m h1 h2) hM⟩
theorem al0_bind {R : β → Prop} : ∀ {t : T α}, (t.bind f).al0 p R E ↔ t.al0 p (fun a => (f a).al0 p R E) E
  | .v _ => Iff.rfl
  | .x _ _ => Iff.rfl
  | .no => Iff.rfl
  | .dr q n k => ⟨fun ⟨a, b, c, h⟩ => ⟨a, b, c, fun m h1 h2 => al0_bind.mp (h m h1 h2)⟩, fun ⟨a, b, c, h⟩ => ⟨a, b, c, fun m h1 h2 => al0_bind.mpr (h m h1 h2)⟩⟩
theorem al0_mono : ∀ {t : T α}, t.al0 p Q E → (∀ a, Q a → Q' a) → (∀ c f, E c f → E' c f) → t.al0 p Q' E'
  | .v _, h, hq, _ => hq _ h
  | .x _ _, h, _, he => he _ _ h
  | .no, h, _, _ => h
  | .dr p n k, ⟨a, b, c, h⟩, hq, he => ⟨a, b, c, fun m h1 h2 => al0_mono (h m h1 h2) hq he⟩
theorem al0_imp {t : T α} (h : t.al0 p Q E) (hq : ∀ a, Q a → Q' a) : t.al0 p Q' E := al0_mono h hq fun _ _ h => h
theorem al0_nx : ∀ {t : T α}, t.nx.al0 p Q E ↔ t.al0 p Q fun _ _ => False
  | .v _ => Iff.rfl
  | .x _ _ => Iff.rfl
  | .no => Iff.rfl
  | .dr p n k => ⟨fun ⟨a, b, c, h⟩ => ⟨a, b, c, fun m h1 h2 => al0_nx.mp (h m h1 h2)⟩, fun ⟨a, b, c, h⟩ => ⟨a, b, c, fun m h1 h2 => al0_nx.mpr (h m h1 h2)⟩⟩
structure al (p : Addr) (Q : α → Prop) (E : Value → List (Str × D) → Prop) (t : T α) : Prop where
  out : t.al0 p Q E
theorem al_go {t : T α} (h : t.al p Q E) (hM : M p = some .pool) : t.go M Q E := al0_go h.out hM
theorem al_mono {t : T α} (h : t.al p Q E) (hq : ∀ a, Q a → Q' a) (he : ∀ c f, E c f → E' c f) : t.al p Q' E' := ⟨al0_mono h.out hq he⟩
theorem al_imp {t : T α} (h : t.al p Q E) (hq : ∀ a, Q a → Q' a) : t.al p Q' E := ⟨al0_imp h.out hq⟩
theorem al_bind {R : β → Prop} {t : T α} : (t.bind f).al p R E ↔ t.al p (fun a => (f a).al p R E) E := ⟨fun ⟨h⟩ => ⟨al0_imp (al0_bind.mp h) fun _ h => ⟨h⟩⟩, fun ⟨h⟩ => ⟨al0_bind.mpr (al0_imp h fun _ h => h.out)⟩⟩
theorem al_v : (T.v a).al p Q E ↔ Q a := ⟨fun ⟨h⟩ => h, fun h => ⟨h⟩⟩
theorem al_x : (T.x C fs : T α).al p Q E ↔ E C fs := ⟨fun ⟨h⟩ => h, fun h => ⟨h⟩⟩
theorem al_nx {t : T α} : t.nx.al p Q E ↔ t.al p Q fun _ _ => False := ⟨fun ⟨h⟩ => ⟨al0_nx.mp h⟩, fun ⟨h⟩ => ⟨al0_nx.mpr h⟩⟩
theorem al_drw : (T.dr p n k).al p Q E ↔ 0 < n ∧ n.natAbs.log2 < 9000 ∧ ∀ m, 0 ≤ m → m < n → (k m).al p Q E := ⟨fun ⟨h⟩ => ⟨h.2.1, h.2.2.1, fun m a b => ⟨h.2.2.2 m a b⟩⟩, fun h => ⟨rfl, h.1, h.2.1, fun m a b => (h.2.2 m a b).out⟩⟩
end T

def unD : D → Option D
  | .ty "" => none
  | d => some d
inductive MoD : D → MO → Prop
  | lst (ds : List D) : MoD (.lst ds) (.lst ds)
  | dic (kvs : List (Key × D)) : MoD (.dic kvs) (.dic kvs)
  | obj (C dx : Addr) (fs : List (Str × D)) : MoD (.obj C fs) (.ins C dx fs)
  | slt (C dx : Addr) (ds : List D) : MoD (.ins C ds) (.slt C dx (ds.map unD))
theorem MoD.pool {d : D} (h : MoD d .pool) : False := by cases h
structure Bx where
  m : Mh
  sf : Option (Addr × Addr)
  J : Rho → Prop
  fr : Bool
def Bx.Jk (B : Bx) (i : Nat) : Prop := ∀ r x, B.J r → B.J (r.set i x)
def dxIs (dx : Addr) : MO → Prop
  | .ins _ d _ => d = dx
  | .slt _ d _ => d = dx
  | _ => False
def Bx.S (B : Bx) (i : Nat) (p : Addr) (mo : MO) : Prop := match B.sf with
  | none => True
  | some (x, dx) => i = 0 → p = x ∧ dxIs dx mo
structure Lw (o : List Nat) (B : Bx) (r : Rho) (M : Mh) (l : Rho) : Prop where
  len : r.length = l.length
  less : Less B.m M
  j : B.J r
  pl : ∀ i d, i ∉ o → l[i]? = some (some d) → r[i]? = some (some d)
  ow : ∀ i d, i ∈ o → l[i]? = some (some d) → ∃ p mo, r[i]? = some (some (.ref p)) ∧ MoD d mo ∧ M p = some mo ∧ B.m p = none ∧ B.S i p mo
  dis : ∀ i j p d e, i ∈ o → j ∈ o → l[i]? = some (some d) → l[j]? = some (some e) → r[i]? = some (some (.ref p)) → r[j]? = some (some (.ref p)) → i = j
def Vw (M : Mh) (d' d : D) : Prop := d' = d ∨ ∃ p mo, d' = .ref p ∧ MoD d mo ∧ M p = some mo
theorem Less.pool {M0 M : Mh} (h : Less M0 M) (p : Addr) (e : M0 p = some .pool) : M p = some .pool := by
  rcases h p with z | z
  · rw [← z]; exact e
  · rw [z] at e; cases e
def lk (l : Rho) (i : Nat) : T D := match l[i]? with
  | some (some d) => .v d
  | _ => .no
abbrev FE := Rho → T D
def fV (i : Nat) : Rho → T D := fun l => lk l i
abbrev FT := Rho → T Bool
abbrev FA := Rho → T (List D)
def tE (W : DWX) (o : List Nat) (B : Bx) (f : FE) : DTE := fun r M Q => ∃ l, Lw o B r M l ∧ (f l).go B.m (fun d => Q d M) (fun C fs => W C fs r M)
def tL (W : DWX) (o : List Nat) (B : Bx) (f : FE) : DTE := fun r M Q => ∃ l, Lw o B r M l ∧ (f l).go B.m (fun d => ∀ d', Vw M d' d → Q d' M) (fun C fs => W C fs r M)
def tT (W : DWX) (o : List Nat) (B : Bx) (f : FT) : DTT := fun r M Q => ∃ l, Lw o B r M l ∧ (f l).go B.m (fun d => Q d M) (fun C fs => W C fs r M)
def tA (W : DWX) (o : List Nat) (B : Bx) (f : FA) : DTA := fun r M Q => ∃ l, Lw o B r M l ∧ (f l).go B.m (fun d => Q d M) (fun C fs => W C fs r M)
section
variable {X : Cx} {W : DWX} {o : List Nat} {B : Bx} {e a b c : Expr} {es rest : List Expr} {f fa fb fc : FE} {g ga gb : FT} {h : FA} {pos : Pos}
theorem DE.imp' {t t' : DTE} (h : DE X W e t) (k : ∀ r M Q, t' r M Q → t r M Q) : DE X W e t' := ⟨fun pins s st H Z r M Q I q h' => h.run pins s st H Z r M Q I q (k r M Q h')⟩
theorem DT.imp' {t t' : DTT} (h : DT X W e t) (k : ∀ r M Q, t' r M Q → t r M Q) : DT X W e t' := ⟨fun pins s st H Z r M Q I q h' => h.run pins s st H Z r M Q I q (k r M Q h')⟩
theorem DW.imp' {t t' : DTT} (h : DW X W e t) (k : ∀ r M Q, t' r M Q → t r M Q) : DW X W e t' := ⟨fun wh pins s st H Z r M Q I q h' => h.run wh pins s st H Z r M Q I q (k r M Q h')⟩
theorem DA.imp' {t t' : DTA} (h : DA X W es t) (k : ∀ r M Q, t' r M Q → t r M Q) : DA X W es t' := ⟨fun pos pins s st H Z r M Q I q h' => h.run pos pins s st H Z r M Q I q (k r M Q h')⟩
theorem DS.imp' {s : Stmt} {t t' : DTS} (h : DS X W s t) (k : ∀ E r M, t' E r M → t E r M) : DS X W s t' := ⟨fun pins s st H Z r M E I q h' => h.run pins s st H Z r M E I q (k E r M h')⟩
theorem DSs.imp' {s : List Stmt} {t t' : DTS} (h : DSs X W s t) (k : ∀ E r M, t' E r M → t E r M) : DSs X W s t' := ⟨fun pins s st H Z r M E I q h' => h.run pins s st H Z r M E I q (k E r M h')⟩
theorem lo (h : DE X W e (tE W o B f)) : DE X W e (tL W o B f) := h.imp' fun r M Q ⟨l, w, g⟩ => ⟨l, w, T.go_imp g fun d k => k d (.inl rfl)⟩
theorem te_var (i : Nat) (hi : i ∉ o := by decide) {x : Str} (hN : X.N[i]? = some x := by rfl) (hv : Vis X.env.scope x := by first | exact Or.inl rfl | exact Or.inr (Or.inl rfl) | exact Or.inr (Or.inr rfl)) (hd : (x == ("__debug__" : Str)) = false := by decide)
    (hcd : (x == ("__classdict__" : Str)) = false := by decide) : DE X W (.Name x pos) (tE W o B (fV i)) := (dv i hN hv hd hcd).imp' fun r M Q ⟨l, w, g⟩ => by
  unfold dVar
  unfold fV lk at g
  split at g
  · rename_i d e
    rw [w.pl i d hi e]; exact g
  · exact g.elim
theorem tl_own (i : Nat) {x : Str} (hN : X.N[i]? = some x := by rfl) (hv : Vis X.env.scope x := by first | exact Or.inl rfl | exact Or.inr (Or.inl rfl) | exact Or.inr (Or.inr rfl)) (hd : (x == ("__debug__" : Str)) = false := by decide)
    (hcd : (x == ("__classdict__" : Str)) = false := by decide) : DE X W (.Name x pos) (tL W o B (fV i)) := (dv i hN hv hd hcd).imp' fun r M Q ⟨l, w, g⟩ => by
  unfold dVar
  unfold fV lk at g
  split at g
  · rename_i d e
    by_cases hi : i ∈ o
    · obtain ⟨p, mo, e2, e3, e4, _, _⟩ := w.ow i d hi e
      rw [e2]
      exact g _ (.inr ⟨p, mo, rfl, e3, e4⟩)
    · rw [w.pl i d hi e]
      exact g _ (.inl rfl)
  · exact g.elim
def fC (d : D) : FE := fun _ => .v d
theorem te_c {d : D} (h : DE X W e (dC d)) : DE X W e (tE W o B (fC d)) := h.imp' fun r M Q ⟨l, w, g⟩ => g
def Op2 (X : Cx) (W : DWX) (f : Value → Value → Sem Value) (g : D → D → Option D) : Prop :=
  ∃ o, DOp X W f o ∧ ∀ (M : Mh) (x' y' x y d : D) (Q : QD), Vw M x' x → Vw M y' y → g x y = some d → Q d M → o x' y' M Q
def Op1 (X : Cx) (W : DWX) (f : Value → Sem Value) (g : D → Option D) : Prop :=
  ∃ o, DUn X W f o ∧ ∀ (M : Mh) (x' x d : D) (Q : QD), Vw M x' x → g x = some d → Q d M → o x' M Q
def f2 (g : D → D → Option D) (fa fb : FE) : FE := fun l => (fa l).bind fun x => (fb l).bind fun y => .ofO (g x y)
def f1 (g : D → Option D) (fa : FE) : FE := fun l => (fa l).bind fun x => .ofO (g x)
theorem two_t {o' : DR2} {g : D → D → Option D} (hg : ∀ (M : Mh) (x' y' x y d : D) (Q : QD), Vw M x' x → Vw M y' y → g x y = some d → Q d M → o' x' y' M Q) (r : Rho) (M : Mh) (Q : QD) (h : tE W o B (f2 g fa fb) r M Q) : dOp o' (tL W o B fa) (tL W o B fb) r M Q := by
  obtain ⟨l, w, k⟩ := h
  refine ⟨l, w, T.go_imp (T.go_bind.mp k) fun x kx x' hx => ⟨l, w, T.go_imp (T.go_bind.mp kx) fun y ky y' hy => ?_⟩⟩
  obtain ⟨d, e, q⟩ := T.go_ofO.mp ky
  exact hg M x' y' x y d Q hx hy e q
theorem te_op {op : Operator} {g : D → D → Option D} (hg : Op2 X W (binaryOp op) g) (ha : DE X W a (tL W o B fa)) (hb : DE X W b (tL W o B fb)) : DE X W (.BinOp a op b pos) (tE W o B (f2 g fa fb)) := by
  obtain ⟨o', h1, h2⟩ := hg
  exact (de_op h1 ha hb).imp' (two_t h2)
theorem te_un {op : UnaryOp} {g : D → Option D} (hg : Op1 X W (unaryOp op) g) (ha : DE X W a (tL W o B fa)) : DE X W (.UnaryOp op a pos) (tE W o B (f1 g fa)) := by
  obtain ⟨o', h1, h2⟩ := hg
  refine (de_un h1 ha).imp' fun r M Q ⟨l, w, k⟩ => ⟨l, w, T.go_imp (T.go_bind.mp k) fun x kx x' hx => ?_⟩
  obtain ⟨d, e, q⟩ := T.go_ofO.mp kx
  exact h2 M x' x d Q hx e q
theorem te_cmp {op : CmpOp} {g : D → D → Option D} (hg : Op2 X W (compareOp op) g) (ha : DE X W a (tL W o B fa)) (hb : DE X W b (tL W o B fb)) (hm : behindInMarks op b = false) : DE X W (.Compare a [op] [b] pos) (tE W o B (f2 g fa fb)) := by
  obtain ⟨o', h1, h2⟩ := hg
  exact (de_cmp h1 ha hb hm).imp' (two_t h2)
def tB : D → T Bool
  | .bl b => .v b
  | _ => .no
def fB (f : FE) : FT := fun l => (f l).bind tB
theorem tB_go {d : D} {Q : Bool → Prop} {E} {M : Mh} : (tB d).go M Q E ↔ ∃ b, d = .bl b ∧ Q b := by
  cases d <;> first | exact ⟨fun h => ⟨_, rfl, h⟩, fun ⟨b, e, h⟩ => by cases e; exact h⟩ | exact ⟨fun h => h.elim, fun ⟨b, e, h⟩ => by cases e⟩
theorem tt_cmp {op : CmpOp} {g : D → D → Option D} (hg : Op2 X W (compareOp op) g) (ha : DE X W a (tL W o B fa)) (hb : DE X W b (tL W o B fb)) (hm : behindInMarks op b = false) : DT X W (.Compare a [op] [b] pos) (tT W o B (fB (f2 g fa fb))) := by
  obtain ⟨o', h1, h2⟩ := hg
  refine (dt_cmp h1 ha hb hm).imp' fun r M Q ⟨l, w, k⟩ => two_t h2 r M _ ⟨l, w, T.go_imp (T.go_bind.mp k) fun d h => ?_⟩
  obtain ⟨b, rfl, h⟩ := tB_go.mp h
  exact h
theorem tt_val (h : DE X W e (tE W o B f)) (he : ∀ whole, isTrue e X.env whole = (do let v ← whole; standAt e.pos; holding [v] (truthy v)) := by intro _; rfl) : DT X W e (tT W o B (fB f)) :=
  (dt_val h he).imp' fun r M Q ⟨l, w, k⟩ => ⟨l, w, T.go_imp (T.go_bind.mp k) fun d h => by
    obtain ⟨b, rfl, h⟩ := tB_go.mp h
    exact h⟩
def fAnd (f g : FT) : FT := fun l => (f l).bind fun b => if b = true then g l else .v false
def fOr (f g : FT) : FT := fun l => (f l).bind fun b => if b = true then .v true else g l
def fNot (f : FT) : FT := fun l => (f l).bind fun b => .v (!b)
def fAndV (f g : FE) : FE := fun l => (f l).bind fun d => (tB d).bind fun b => if b = true then g l else .v (.bl false)
def fOrV (f g : FE) : FE := fun l => (f l).bind fun d => (tB d).bind fun b => if b = true then .v (.bl true) else g l
def fNotV (f : FE) : FE := fun l => (f l).bind fun d => (tB d).bind fun b => .v (.bl (!b))
def fIf (c : FT) (f g : FE) : FE := fun l => (c l).bind fun b => if b = true then f l else g l
theorem tw_and1 (ha : DT X W a (tT W o B ga)) : DW X W (.BoolOp .And [a] pos) (tT W o B ga) := dw_and1 ha
theorem tw_or1 (ha : DT X W a (tT W o B ga)) : DW X W (.BoolOp .Or [a] pos) (tT W o B ga) := dw_or1 ha
theorem tw_and (ha : DT X W a (tT W o B ga)) (hb : DW X W (.BoolOp .And (b :: rest) pos) (tT W o B gb)) : DW X W (.BoolOp .And (a :: b :: rest) pos) (tT W o B (fAnd ga gb)) :=
  (dw_and ha hb).imp' fun r M Q ⟨l, w, k⟩ => ⟨l, w, T.go_imp (T.go_bind.mp k) fun x h => by
    cases x
    · exact h
    · exact ⟨l, w, h⟩⟩
theorem tw_or (ha : DT X W a (tT W o B ga)) (hb : DW X W (.BoolOp .Or (b :: rest) pos) (tT W o B gb)) : DW X W (.BoolOp .Or (a :: b :: rest) pos) (tT W o B (fOr ga gb)) :=
  (dw_or ha hb).imp' fun r M Q ⟨l, w, k⟩ => ⟨l, w, T.go_imp (T.go_bind.mp k) fun x h => by
    cases x
    · exact ⟨l, w, h⟩
    · exact h⟩
theorem tt_not (ha : DT X W a (tT W o B ga)) : DT X W (.UnaryOp .Not a pos) (tT W o B (fNot ga)) := (dt_not ha).imp' fun r M Q ⟨l, w, k⟩ => ⟨l, w, T.go_imp (T.go_bind.mp k) fun x h => h⟩
theorem te_one {op} (h : DE X W a (tE W o B fa)) : DE X W (.BoolOp op [a] pos) (tE W o B fa) := de_one h
theorem te_and (ha : DE X W a (tE W o B fa)) (hb : DE X W (.BoolOp .And (b :: rest) pos) (tE W o B fb)) : DE X W (.BoolOp .And (a :: b :: rest) pos) (tE W o B (fAndV fa fb)) :=
  (de_and ha hb).imp' fun r M Q ⟨l, w, k⟩ => ⟨l, w, T.go_imp (T.go_bind.mp k) fun x h => by
    obtain ⟨b, rfl, h⟩ := tB_go.mp (T.go_bind.mp h)
    cases b
    · exact h
    · exact ⟨l, w, h⟩⟩
theorem te_or (ha : DE X W a (tE W o B fa)) (hb : DE X W (.BoolOp .Or (b :: rest) pos) (tE W o B fb)) : DE X W (.BoolOp .Or (a :: b :: rest) pos) (tE W o B (fOrV fa fb)) :=
  (de_or ha hb).imp' fun r M Q ⟨l, w, k⟩ => ⟨l, w, T.go_imp (T.go_bind.mp k) fun x h => by
    obtain ⟨b, rfl, h⟩ := tB_go.mp (T.go_bind.mp h)
    cases b
    · exact ⟨l, w, h⟩
    · exact h⟩
theorem te_not (ha : DE X W a (tE W o B fa)) : DE X W (.UnaryOp .Not a pos) (tE W o B (fNotV fa)) := (de_not ha).imp' fun r M Q ⟨l, w, k⟩ => ⟨l, w, T.go_imp (T.go_bind.mp k) fun x h => by
  obtain ⟨b, rfl, h⟩ := tB_go.mp (T.go_bind.mp h)
  exact h⟩
theorem te_if (hc : DT X W c (tT W o B g)) (ha : DE X W a (tE W o B fa)) (hb : DE X W b (tE W o B fb)) : DE X W (.IfExp c a b pos) (tE W o B (fIf g fa fb)) :=
  (de_if hc ha hb).imp' fun r M Q ⟨l, w, k⟩ => ⟨l, w, T.go_imp (T.go_bind.mp k) fun x h => by
    cases x
    · exact ⟨l, w, h⟩
    · exact ⟨l, w, h⟩⟩
def fNil : FA := fun _ => .v []
def fCo (f : FE) (h : FA) : FA := fun l => (f l).bind fun x => (h l).bind fun xs => .v (x :: xs)
def szOk (n : Nat) : Bool := decide (n ≤ sizeLine)
def fTu (h : FA) : FE := fun l => (h l).bind fun xs => .gd (szOk xs.length) (.v (.tup xs))
def fLs (h : FA) : FE := fun l => (h l).bind fun xs => .gd (szOk xs.length) (.v (.lst xs))
theorem ta_nil : DA X W [] (tA W o B fNil) := da_nil.imp' fun r M Q ⟨l, w, k⟩ => k
theorem ta_cons (ha : DE X W e (tE W o B f)) (hr : DA X W es (tA W o B h)) (hs : starEach (e :: es) X.env = (false, eval e X.env) :: starEach es X.env := by rfl) : DA X W (e :: es) (tA W o B (fCo f h)) :=
  (da_cons ha hr hs).imp' fun r M Q ⟨l, w, k⟩ => ⟨l, w, T.go_imp (T.go_bind.mp k) fun x h => ⟨l, w, T.go_imp (T.go_bind.mp h) fun y h => h⟩⟩
def tAL (W : DWX) (o : List Nat) (B : Bx) (f : FA) : DTA := fun r M Q => ∃ l, Lw o B r M l ∧ (f l).go B.m (fun ds => ∀ ds', Paired (Vw M) ds' ds → Q ds' M) (fun C fs => W C fs r M)
theorem tal_nil : DA X W [] (tAL W o B fNil) := da_nil.imp' fun r M Q ⟨l, w, k⟩ => k [] .nil
theorem tal_cons (ha : DE X W e (tL W o B f)) (hr : DA X W es (tAL W o B h)) (hs : starEach (e :: es) X.env = (false, eval e X.env) :: starEach es X.env := by rfl) : DA X W (e :: es) (tAL W o B (fCo f h)) :=
  (da_cons ha hr hs).imp' fun r M Q ⟨l, w, k⟩ => ⟨l, w, T.go_imp (T.go_bind.mp k) fun x h x' hx => ⟨l, w, T.go_imp (T.go_bind.mp h) fun y h y' hy => h _ (.cons hx hy)⟩⟩
theorem te_tup {x1} (ha : DA X W es (tA W o B h)) : DE X W (.Tuple es x1 pos) (tE W o B (fTu h)) :=
  (de_tup ha).imp' fun r M Q ⟨l, w, k⟩ => ⟨l, w, T.go_imp (T.go_bind.mp k) fun x h => ⟨of_decide_eq_true (T.go_gd.mp h).1, (T.go_gd.mp h).2⟩⟩
theorem te_lst (ha : DA X W es (tA W o B h)) : DE X W (.List es pos) (tE W o B (fLs h)) :=
  (de_lst ha).imp' fun r M Q ⟨l, w, k⟩ => ⟨l, w, T.go_imp (T.go_bind.mp k) fun x h => ⟨of_decide_eq_true (T.go_gd.mp h).1, (T.go_gd.mp h).2⟩⟩
end
end DL

set_option maxHeartbeats 2000000
namespace DL
open PySem PySem.Spec PyProof.Rows L2

def og (b : Bool) (d : D) : Option D := match b with
  | true => some d
  | false => none
theorem og_t {d : D} : og true d = some d := rfl
theorem og_s {b : Bool} {d x : D} : og b d = some x ↔ b = true ∧ d = x := by
  cases b
  · exact ⟨fun h => (nomatch h), fun h => (nomatch h.1)⟩
  · exact ⟨fun h => ⟨rfl, Option.some.inj h⟩, fun h => congrArg some h.2⟩
section
variable {M : Mh} {x' x : D} {ds : List D}
theorem Vw.lst (h : Vw M x' (.lst ds)) : x' = .lst ds ∨ ∃ p, x' = .ref p ∧ M p = some (.lst ds) := by
  rcases h with h | ⟨p, mo, e, m, e2⟩
  · exact .inl h
  · cases m; exact .inr ⟨p, e, e2⟩
theorem Vw.lstW (h : Vw M x' (.lst ds)) : lstW M x' = some ds := by
  rcases h.lst with e | ⟨p, e, e2⟩
  · rw [e]; rfl
  · rw [e]; show (match M p with | some (.lst ds) => some ds | _ => none) = _; rw [e2]
theorem Vw.lstOf (h : Vw M x' (.lst ds)) : lstOf M x' = some ds := by
  rcases h.lst with e | ⟨p, e, e2⟩
  · rw [e]; rfl
  · rw [e]; show (match M p with | some (.lst ds) => some ds | _ => none) = _; rw [e2]
theorem Vw.int {i : Int} (h : Vw M x' (.int i)) : x' = .int i := by
  rcases h with h | ⟨p, mo, e, m, e2⟩
  · exact h
  · cases m
theorem Vw.str {i : Str} (h : Vw M x' (.str i)) : x' = .str i := by
  rcases h with h | ⟨p, mo, e, m, e2⟩
  · exact h
  · cases m
theorem Vw.bl {i : Bool} (h : Vw M x' (.bl i)) : x' = .bl i := by
  rcases h with h | ⟨p, mo, e, m, e2⟩
  · exact h
  · cases m
theorem Vw.tup {i : List D} (h : Vw M x' (.tup i)) : x' = .tup i := by
  rcases h with h | ⟨p, mo, e, m, e2⟩
  · exact h
  · cases m
theorem Vw.non (h : Vw M x' .non) : x' = .non := by
  rcases h with h | ⟨p, mo, e, m, e2⟩
  · exact h
  · cases m
theorem Vw.scr {i : List Int} (h : Vw M x' (.scr i)) : x' = .scr i := by
  rcases h with h | ⟨p, mo, e, m, e2⟩
  · exact h
  · cases m
def sq : D → Option (List D)
  | .tup ds => some ds
  | .lst ds => some ds
  | .scr ns => some (ns.map .int)
  | _ => none
theorem Vw.seqOf (h : Vw M x' x) (e : sq x = some ds) : seqOf M x' = some ds := by
  unfold sq at e
  split at e
  · cases e; rw [h.tup]; rfl
  · cases e
    rcases h.lst with e | ⟨p, e, e2⟩
    · rw [e]; rfl
    · rw [e]; show (match M p with | some (.lst ds) => some ds | _ => none) = _; rw [e2]
  · cases e; rw [h.scr]; rfl
  · cases e
end
def pAdd : D → D → Option D
  | .int i, .int j => some (.int (i + j))
  | .str a, .str b => og (szOk (a.length + b.length)) (.str (a ++ b))
  | .tup a, .tup b => og (szOk (a.length + b.length)) (.tup (a ++ b))
  | .lst a, .lst b => og (szOk (a.length + b.length)) (.lst (a ++ b))
  | _, _ => none
def pInt (f : Int → Int → Int) : D → D → Option D
  | .int i, .int j => some (.int (f i j))
  | _, _ => none
abbrev pSub := pInt fun i j => i - j
def pPow : D → D → Option D
  | .int i, .int j => og (decide (0 ≤ j ∧ j ≤ 1000000 ∧ i.natAbs < 2 ^ 64)) (.int (i ^ j.toNat))
  | _, _ => none
def pNeg : D → Option D
  | .int i => some (.int (-i))
  | _ => none
section
variable {X : Cx} {W : DWX}
theorem p_add : Op2 X W (binaryOp .Add) pAdd := ⟨_, op_add_, fun M x' y' x y d Q hx hy e q => by
  unfold pAdd at e
  split at e
  · cases e; rw [hx.int, hy.int]; exact q
  · obtain ⟨e1, e2⟩ := og_s.mp e
    cases e2; rw [hx.str, hy.str]; exact ⟨of_decide_eq_true e1, q⟩
  · obtain ⟨e1, e2⟩ := og_s.mp e
    cases e2; rw [hx.tup, hy.tup]; exact ⟨of_decide_eq_true e1, q⟩
  · rename_i a b
    obtain ⟨e1, e2⟩ := og_s.mp e
    cases e2
    have h1 := hx.lstW
    have h2 := hy.lstW
    have main : (match lstW M x', lstW M y' with | some a, some b => a.length + b.length ≤ sizeLine ∧ Q (.lst (a ++ b)) M | _, _ => False) := by
      rw [h1, h2]; exact ⟨of_decide_eq_true e1, q⟩
    rcases hx.lst with rfl | ⟨p, rfl, _⟩
    · exact main
    · exact main
  · cases e⟩
theorem p_int {f : Value → Value → Sem Value} {g : Int → Int → Int} (h : DOp X W f (aInt0 g)) : Op2 X W f (pInt g) := ⟨_, h, fun M x' y' x y d Q hx hy e q => by
  unfold pInt at e
  split at e
  · cases e; rw [hx.int, hy.int]; exact q
  · cases e⟩
theorem p_sub : Op2 X W (binaryOp .Sub) pSub := p_int op_sub_
theorem p_pow : Op2 X W (binaryOp .Pow) pPow := ⟨_, op_pow_, fun M x' y' x y d Q hx hy e q => by
  unfold pPow at e
  split at e
  · obtain ⟨e1, e2⟩ := og_s.mp e
    have e3 := of_decide_eq_true e1
    cases e2; rw [hx.int, hy.int]; exact ⟨e3, q⟩
  · cases e⟩
theorem p_neg : Op1 X W (unaryOp .USub) pNeg := ⟨_, un_neg_, fun M x' x d Q hx e q => by
  unfold pNeg at e
  split at e
  · cases e; rw [hx.int]; exact q
  · cases e⟩
def pCmp (p : Int → Int → Bool) : D → D → Option D
  | .int i, .int j => some (.bl (p i j))
  | _, _ => none
abbrev pLt := pCmp fun i j => decide (i < j)
abbrev pLe := pCmp fun i j => decide (i ≤ j)
abbrev pGe := pCmp fun i j => decide (j ≤ i)
theorem p_cmp {f : Value → Value → Sem Value} {g : Int → Int → Bool} (h : DOp X W f (aCmp g)) : Op2 X W f (pCmp g) := ⟨_, h, fun M x' y' x y d Q hx hy e q => by
  unfold pCmp at e
  split at e
  · cases e; rw [hx.int, hy.int]; exact q
  · cases e⟩
theorem p_lt : Op2 X W (compareOp .Lt) pLt := p_cmp op_lt_
theorem p_le : Op2 X W (compareOp .LtE) pLe := p_cmp op_le_
theorem p_ge : Op2 X W (compareOp .GtE) pGe := p_cmp op_ge_
def pIsN : D → D → Option D
  | x, .non => some (.bl (isNon x))
  | _, _ => none
def pNotN : D → D → Option D
  | x, .non => some (.bl (!isNon x))
  | _, _ => none
theorem Vw.isNon {M : Mh} {x' x : D} (h : Vw M x' x) : isNon x' = isNon x := by
  rcases h with rfl | ⟨p, mo, rfl, m, _⟩
  · rfl
  · cases m <;> rfl
theorem p_isN : Op2 X W (compareOp .Is) pIsN := ⟨_, op_isN_, fun M x' y' x y d Q hx hy e q => by
  unfold pIsN at e
  split at e
  · cases e; rw [hy.non]; rw [← hx.isNon] at q; exact q
  · cases e⟩
theorem p_notN : Op2 X W (compareOp .IsNot) pNotN := ⟨_, op_notN_, fun M x' y' x y d Q hx hy e q => by
  unfold pNotN at e
  split at e
  · cases e; rw [hy.non]; rw [← hx.isNon] at q; exact q
  · cases e⟩
def pIn (neg : Bool) : D → D → Option D
  | .str a, .str b => match isSign a with
    | some c => some (.bl (if neg then !decide (c ∈ b.cps.toList) else decide (c ∈ b.cps.toList)))
    | none => none
  | x, y => match sq y with
    | some ds => match scalD x, scalL ds with
      | some w, some vs => some (.bl (if neg then !inV w vs else inV w vs))
      | _, _ => none
    | none => none
theorem p_in0 {neg : Bool} {op : CmpOp} (h : DOp X W (compareOp op) (aIn neg)) : Op2 X W (compareOp op) (pIn neg) := ⟨_, h, fun M x' y' x y d Q hx hy e q => by
  have main : ∀ (ds vs : _) (w : V), sq y = some ds → scalD x = some w → scalL ds = some vs → d = .bl (if neg then !inV w vs else inV w vs) → aIn neg x' y' M Q := fun ds vs w e1 e2 e3 e4 => by
    subst e4
    have hs := hy.seqOf e1
    have e5 : scalD x' = some w := by
      rcases hx with rfl | ⟨p, mo, rfl, m, _⟩
      · exact e2
      · cases m <;> cases e2
    have nstr : ∀ b, y' ≠ .str b := fun b z => by
      subst z
      rcases hy with rfl | ⟨p, mo, z, _, _⟩
      · cases e1
      · cases z
    unfold aIn
    split
    · exact absurd rfl (nstr _)
    · exact ⟨ds, vs, w, hs, e5, e3, q⟩
  unfold pIn at e
  split at e
  · split at e
    · rename_i c ec
      cases e
      rw [hx.str, hy.str]
      exact ⟨c, ec, q⟩
    · cases e
  · split at e
    · rename_i ds e1
      split at e
      · rename_i w vs e2 e3
        cases e
        exact main ds vs w e1 e2 e3 rfl
      · cases e
    · cases e⟩
theorem p_in : Op2 X W (compareOp .In) (pIn false) := p_in0 op_in_
theorem p_notIn : Op2 X W (compareOp .NotIn) (pIn true) := p_in0 op_notIn_
def Op2s (X : Cx) (W : DWX) (f : Value → Value → Sem Value) (g : D → D → Option D) : Prop :=
  ∃ o, DOp X W f o ∧ ∀ (M : Mh) (x y d : D) (Q : QD), g x y = some d → Q d M → o x y M Q
def pEq (neg : Bool) (x y : D) : Option D := match py x, py y with
  | some p, some q => og (SeqAt.shaped p && SeqAt.shaped q) (.bl (if neg then !PyData.eqv p q else PyData.eqv p q))
  | _, _ => none
theorem p_eq (hu : X.A.units + 64 < cLine) : Op2s X W (compareOp .Eq) (pEq false) := ⟨_, op_eq_ hu, fun M x y d Q e q => by
  unfold pEq at e
  split at e
  · rename_i p q' e1 e2
    obtain ⟨e3, e4⟩ := og_s.mp e
    rw [Bool.and_eq_true] at e3
    subst e4
    exact ⟨p, q', e1, e2, e3.1, e3.2, q⟩
  · cases e⟩
theorem p_ne (hu : X.A.units + 64 < cLine) : Op2s X W (compareOp .NotEq) (pEq true) := ⟨_, op_ne_ hu, fun M x y d Q e q => by
  unfold pEq at e
  split at e
  · rename_i p q' e1 e2
    obtain ⟨e3, e4⟩ := og_s.mp e
    rw [Bool.and_eq_true] at e3
    subst e4
    exact ⟨p, q', e1, e2, e3.1, e3.2, q⟩
  · cases e⟩
def pEqT (neg : Bool) : D → D → Option D
  | .str a, .str b => some (.bl (if neg then !decide (a = b) else decide (a = b)))
  | _, _ => none
theorem p_neT : Op2s X W (compareOp .NotEq) (pEqT true) := ⟨_, op_neT, fun M x y d Q e q => by
  unfold pEqT at e
  split at e
  · cases e; exact q
  · cases e⟩
end
section
variable {X : Cx} {W : DWX} {o : List Nat} {B : Bx} {e a b c : Expr} {es rest : List Expr} {f fa fb fc : FE} {g ga gb : FT} {h : FA} {pos : Pos}
theorem two_s {o' : DR2} {g : D → D → Option D} (hg : ∀ (M : Mh) (x y d : D) (Q : QD), g x y = some d → Q d M → o' x y M Q) (r : Rho) (M : Mh) (Q : QD) (h : tE W o B (f2 g fa fb) r M Q) : dOp o' (tE W o B fa) (tE W o B fb) r M Q := by
  obtain ⟨l, w, k⟩ := h
  refine ⟨l, w, T.go_imp (T.go_bind.mp k) fun x kx => ⟨l, w, T.go_imp (T.go_bind.mp kx) fun y ky => ?_⟩⟩
  obtain ⟨d, e, q⟩ := T.go_ofO.mp ky
  exact hg M x y d Q e q
theorem te_cmpS {op : CmpOp} {g : D → D → Option D} (hg : Op2s X W (compareOp op) g) (ha : DE X W a (tE W o B fa)) (hb : DE X W b (tE W o B fb)) (hm : behindInMarks op b = false) : DE X W (.Compare a [op] [b] pos) (tE W o B (f2 g fa fb)) := by
  obtain ⟨o', h1, h2⟩ := hg
  exact (de_cmp h1 ha hb hm).imp' (two_s h2)
theorem tt_cmpS {op : CmpOp} {g : D → D → Option D} (hg : Op2s X W (compareOp op) g) (ha : DE X W a (tE W o B fa)) (hb : DE X W b (tE W o B fb)) (hm : behindInMarks op b = false) : DT X W (.Compare a [op] [b] pos) (tT W o B (fB (f2 g fa fb))) := by
  obtain ⟨o', h1, h2⟩ := hg
  refine (dt_cmp h1 ha hb hm).imp' fun r M Q ⟨l, w, k⟩ => two_s h2 r M _ ⟨l, w, T.go_imp (T.go_bind.mp k) fun d h => ?_⟩
  obtain ⟨b, rfl, h⟩ := tB_go.mp h
  exact h
def fCh (g g' : D → D → Option D) (fa fb fc : FE) : FE := fun l => (fa l).bind fun x => (fb l).bind fun y => (T.ofO (g x y)).bind fun d => (tB d).bind fun k => if k = true then (fc l).bind fun z => .ofO (g' y z) else .v (.bl false)
theorem tt_chain {op op' : CmpOp} {g g' : D → D → Option D} (hg : Op2 X W (compareOp op) g) (hg' : Op2 X W (compareOp op') g') (ha : DE X W a (tL W o B fa)) (hb : DE X W b (tL W o B fb)) (hc : DE X W c (tL W o B fc))
    (hm : lastMarks [op, op'] [b, c] = false := by with_unfolding_all rfl) : DT X W (.Compare a [op, op'] [b, c] pos) (tT W o B (fB (fCh g g' fa fb fc))) := by
  obtain ⟨o1, h1, h2⟩ := hg
  obtain ⟨o2, h3, h4⟩ := hg'
  refine (dt_chain h1 h3 ha hb hc hm).imp' fun r M Q ⟨l, w, k⟩ => ⟨l, w, T.go_imp (T.go_bind.mp (T.go_bind.mp k)) fun x kx x' hx => ⟨l, w, T.go_imp (T.go_bind.mp kx) fun y ky y' hy => ?_⟩⟩
  obtain ⟨d, e, q⟩ := T.go_ofO.mp (T.go_bind.mp ky)
  obtain ⟨b, rfl, q⟩ := tB_go.mp (T.go_bind.mp q)
  refine h2 M x' y' x y _ _ hx hy e ⟨b, rfl, ?_⟩
  cases b
  · obtain ⟨b, e, q⟩ := tB_go.mp q
    cases e; exact q
  · refine ⟨l, w, T.go_imp (T.go_bind.mp q) fun z kz z' hz => ?_⟩
    obtain ⟨d, e, q⟩ := T.go_ofO.mp kz
    refine h4 M y' z' y z d _ hy hz e ?_
    obtain ⟨b, rfl, q⟩ := tB_go.mp q
    exact q
def pIx : D → D → Option D
  | .str z, .int i => match atI z.cps.toList i with
    | some c => og (szOk z.length) (.str ⟨#[c]⟩)
    | none => none
  | x, .int i => match sq x with
    | some ds => atI ds i
    | none => none
  | _, _ => none
theorem te_ix (ha : DE X W a (tL W o B fa)) (hb : DE X W b (tL W o B fb)) (hs : PlainIx b) : DE X W (.Subscript a b pos) (tE W o B (f2 pIx fa fb)) :=
  (de_ix ha hb hs).imp' (two_t fun M x' y' x y d Q hx hy e q => by
    unfold pIx at e
    split at e
    · split at e
      · rename_i ec
        obtain ⟨e1, e2⟩ := og_s.mp e
        subst e2
        rw [hx.str, hy.int]
        exact ⟨_, of_decide_eq_true e1, ec, q⟩
      · cases e
    · split at e
      · rename_i i _ ds es
        rw [hy.int]
        have hs := hx.seqOf es
        have nstr : ∀ b, x' ≠ .str b := fun b z => by
          subst z
          rcases hx with rfl | ⟨p, mo, z, _, _⟩
          · cases es
          · cases z
        unfold aIx
        split
        · exact absurd rfl (nstr _)
        · rename_i heq
          cases heq
          exact ⟨ds, d, hs, e, q⟩
        · rename_i h1 h2
          first | exact h1 _ rfl | exact h1 _ _ rfl rfl | exact (h1 _ _ rfl) rfl
      · cases e
    · cases e)
abbrev FO := Rho → T (Option Int)
def tO (W : DWX) (o : List Nat) (B : Bx) (f : FO) : DTO := fun r M Q => ∃ l, Lw o B r M l ∧ (f l).go B.m (fun d => Q d M) (fun C fs => W C fs r M)
def fNoP : FO := fun _ => .v none
def toI : D → T Int
  | .int i => .v i
  | _ => .no
theorem toI_go {d : D} {Q : Int → Prop} {E} {M : Mh} : (toI d).go M Q E ↔ ∃ b, d = .int b ∧ Q b := by
  cases d <;> first | exact ⟨fun h => ⟨_, rfl, h⟩, fun ⟨b, e, h⟩ => by cases e; exact h⟩ | exact ⟨fun h => h.elim, fun ⟨b, e, h⟩ => by cases e⟩
def fPa (f : FE) : FO := fun l => (f l).bind fun d => (toI d).bind fun i => .v (some i)
theorem DO.imp' {e : Option Expr} {t t' : DTO} (h : DO X W e t) (k : ∀ r M Q, t' r M Q → t r M Q) : DO X W e t' := ⟨fun pins s st H Z r M Q I q h' => h.run pins s st H Z r M Q I q (k r M Q h')⟩
theorem to_none : DO X W none (tO W o B fNoP) := do_none.imp' fun r M Q ⟨l, w, k⟩ => k
theorem to_some (h : DE X W e (tE W o B f)) : DO X W (some e) (tO W o B (fPa f)) := (do_some h).imp' fun r M Q ⟨l, w, k⟩ => ⟨l, w, T.go_imp (T.go_bind.mp k) fun x kx => by
  obtain ⟨i, rfl, q⟩ := toI_go.mp (T.go_bind.mp kx)
  exact q⟩
def pSl (x : D) (lo hi : Option Int) : Option D := match x with
  | .str z => og (szOk z.length) (.str (cutS z lo hi))
  | .tup ds => some (.tup (cutD ds lo hi))
  | .lst ds => some (.lst (cutD ds lo hi))
  | .scr ns => some (.lst (cutD (ns.map .int) lo hi))
  | _ => none
def fSl (f : FE) (fl fh : FO) : FE := fun l => (f l).bind fun x => (fl l).bind fun lo => (fh l).bind fun hi => .ofO (pSl x lo hi)
theorem te_slice {lo hi : Option Expr} {p2 : Pos} {fl fh : FO} (he : DE X W e (tL W o B f)) (hl : DO X W lo (tO W o B fl)) (hu : DO X W hi (tO W o B fh)) : DE X W (.Subscript e (.Slice lo hi none p2) pos) (tE W o B (fSl f fl fh)) :=
  (de_slice he hl hu).imp' fun r M Q ⟨l, w, k⟩ => ⟨l, w, T.go_imp (T.go_bind.mp k) fun x kx x' hx => ⟨l, w, T.go_imp (T.go_bind.mp kx) fun a ka => ⟨l, w, T.go_imp (T.go_bind.mp ka) fun b kb => by
    obtain ⟨d, e, q⟩ := T.go_ofO.mp kb
    unfold pSl at e
    split at e
    · obtain ⟨e1, e2⟩ := og_s.mp e
      subst e2
      rw [hx.str]
      exact ⟨of_decide_eq_true e1, q⟩
    · cases e; rw [hx.tup]; exact q
    · rename_i ds
      cases e
      have h1 := hx.lstOf
      rcases hx.lst with rfl | ⟨p, rfl, _⟩
      · exact ⟨ds, h1, q⟩
      · exact ⟨ds, h1, q⟩
    · cases e; rw [hx.scr]; exact ⟨_, rfl, q⟩
    · cases e⟩⟩⟩
end
end DL

set_option maxHeartbeats 2000000
namespace DL
open PySem PySem.Spec PyProof.Rows L2

inductive Ct where
  | nx (l : Rho) | rt (d : D) | bk (l : Rho) | ct (l : Rho) | rs (C : Value) (fs : List (Str × D)) (l : Rho)
abbrev FS := Rho → T Ct
def T.sx {α : Type} : T α → Rho → (α → T Ct) → T Ct
  | .v a, _, f => f a
  | .x C fs, l, _ => .v (.rs C fs l)
  | .no, _, _ => .no
  | .dr p n k, l, f => .dr p n fun m => (k m).sx l f
theorem T.sx_v {α : Type} {a : α} {l : Rho} {f : α → T Ct} : (T.v a).sx l f = f a := rfl
theorem T.sx_dr {α : Type} {p : Addr} {n : Int} {k : Int → T α} {l : Rho} {f : α → T Ct} : (T.dr p n k).sx l f = .dr p n fun m => (k m).sx l f := rfl
theorem T.sx_go {α : Type} {M : Mh} {Q : Ct → Prop} {E : Value → List (Str × D) → Prop} {l : Rho} {f : α → T Ct} : ∀ {t : T α}, (t.sx l f).go M Q E ↔ t.go M (fun a => (f a).go M Q E) (fun C fs => Q (.rs C fs l))
  | .v _ => Iff.rfl
  | .x _ _ => Iff.rfl
  | .no => Iff.rfl
  | .dr p n k => ⟨fun ⟨a, b, c, h⟩ => ⟨a, b, c, fun m h1 h2 => T.sx_go.mp (h m h1 h2)⟩, fun ⟨a, b, c, h⟩ => ⟨a, b, c, fun m h1 h2 => T.sx_go.mpr (h m h1 h2)⟩⟩
theorem T.sx_al {α : Type} {p : Addr} {Q : Ct → Prop} {E : Value → List (Str × D) → Prop} {l : Rho} {f : α → T Ct} {t : T α} : (t.sx l f).al p Q E ↔ t.al p (fun a => (f a).al p Q E) (fun C fs => Q (.rs C fs l)) := by
  have key : ∀ t : T α, (t.sx l f).al0 p Q E ↔ t.al0 p (fun a => (f a).al p Q E) (fun C fs => Q (.rs C fs l)) := by
    intro t
    induction t with
    | v a => exact ⟨fun h => ⟨h⟩, fun h => h.out⟩
    | x C fs => exact Iff.rfl
    | no => exact Iff.rfl
    | dr q n k ih => exact ⟨fun ⟨a, b, c, h⟩ => ⟨a, b, c, fun m h1 h2 => (ih m).mp (h m h1 h2)⟩, fun ⟨a, b, c, h⟩ => ⟨a, b, c, fun m h1 h2 => (ih m).mpr (h m h1 h2)⟩⟩
  exact ⟨fun ⟨h⟩ => ⟨(key t).mp h⟩, fun ⟨h⟩ => ⟨(key t).mpr h⟩⟩
def CtQ (W : DWX) (o : List Nat) (B : Bx) (E : DEnds) : Ct → Prop
  | .nx l => ∀ r M, Lw o B r M l → E.nx r M
  | .bk l => ∀ r M, Lw o B r M l → E.bk r M
  | .ct l => ∀ r M, Lw o B r M l → E.ct r M
  | .rt d => ∀ d' M, Less B.m M → (B.fr = false ∧ d' = d ∨ ∃ p ds, d' = .ref p ∧ B.m p = none ∧ d = .lst ds ∧ M p = some (.lst ds)) → E.rt d' M
  | .rs C fs l => ∀ r M, Lw o B r M l → W C fs r M
abbrev noX : Value → List (Str × D) → Prop := fun _ _ => False
def tS (W : DWX) (o : List Nat) (B : Bx) (f : FS) : DTS := fun E r M => ∃ l, Lw o B r M l ∧ (f l).go B.m (CtQ W o B E) noX
section
variable {W : DWX} {o : List Nat} {B : Bx} {r : Rho} {M : Mh} {l : Rho} {i : Nat} {d : D}
theorem rset {i j : Nat} {a : Option D} (l : Rho) : (l.set i a)[j]? = if i = j ∧ j < l.length then some a else l[j]? := by
  by_cases h : i = j
  · subst h
    by_cases hl : i < l.length
    · rw [if_pos ⟨rfl, hl⟩, List.getElem?_set_self hl]
    · rw [if_neg fun z => hl z.2, List.set_eq_of_length_le (Nat.le_of_not_lt hl)]
  · rw [if_neg fun z => h z.1, List.getElem?_set_ne h]
theorem rset_k {i j : Nat} {a d : D} {l : Rho} (h : (l.set i (some a))[j]? = some (some d)) : (i = j ∧ d = a ∧ j < l.length) ∨ (i ≠ j ∧ l[j]? = some (some d)) := by
  by_cases e : i = j
  · rw [rset] at h
    split at h
    · rename_i q
      cases h
      exact .inl ⟨e, rfl, q.2⟩
    · rename_i q
      have : l[j]? = none := List.getElem?_eq_none (Nat.le_of_not_lt fun z => q ⟨e, z⟩)
      rw [this] at h; cases h
  · rw [List.getElem?_set_ne e] at h
    exact .inr ⟨e, h⟩
theorem Lw.set (w : Lw o B r M l) (hi : i ∉ o) (hJ : B.Jk i) : Lw o B (r.set i (some d)) M (l.set i (some d)) where
  len := by rw [List.length_set, List.length_set, w.len]
  less := w.less
  j := hJ _ _ w.j
  pl := fun j e hj h => by
    rcases rset_k h with ⟨rfl, rfl, hl⟩ | ⟨ne, h⟩
    · rw [List.getElem?_set_self (by rw [w.len]; exact hl)]
    · rw [List.getElem?_set_ne ne]; exact w.pl j e hj h
  ow := fun j e hj h => by
    have ne : i ≠ j := fun e => hi (e ▸ hj)
    rw [List.getElem?_set_ne ne] at h ⊢
    exact w.ow j e hj h
  dis := fun j k p d' e' hj hk h1 h2 e1 e2 => by
    have n1 : i ≠ j := fun e => hi (e ▸ hj)
    have n2 : i ≠ k := fun e => hi (e ▸ hk)
    rw [List.getElem?_set_ne n1] at e1 h1
    rw [List.getElem?_set_ne n2] at e2 h2
    exact w.dis j k p d' e' hj hk h1 h2 e1 e2
theorem Lw.new {p : Addr} {mo : MO} (w : Lw o B r M l) (hi : i ∈ o) (hp : M p = none) (hm : MoD d mo) (hS : ∀ p mo, B.S i p mo) (hJ : B.Jk i) : Lw o B (r.set i (some (.ref p))) (mset M p mo) (l.set i (some d)) := by
  have hb : B.m p = none := by
    rcases w.less p with z | z
    · rw [z]; exact hp
    · exact z
  have old : ∀ j e, j ∈ o → l[j]? = some (some e) → r[j]? ≠ some (some (.ref p)) := fun j e hj h z => by
    obtain ⟨q, mo', e2, e3, e4, _⟩ := w.ow j e hj h
    rw [e2] at z; cases z; rw [hp] at e4; cases e4
  refine ⟨by rw [List.length_set, List.length_set, w.len], fun a => ?_, hJ _ _ w.j, fun j e hj h => ?_, fun j e hj h => ?_, fun j k q e f hj hk h1 h2 e1 e2 => ?_⟩
  · by_cases h : a = p
    · subst h; exact .inr hb
    · rw [mset_ne h]; exact w.less a
  · have ne : i ≠ j := fun e => hj (e ▸ hi)
    rw [List.getElem?_set_ne ne] at h ⊢
    exact w.pl j e hj h
  · rcases rset_k h with ⟨rfl, rfl, hl⟩ | ⟨ne, h⟩
    · exact ⟨p, mo, by rw [List.getElem?_set_self (by rw [w.len]; exact hl)], hm, mset_same, hb, hS _ _⟩
    · rw [List.getElem?_set_ne ne]
      obtain ⟨q, mo', e2, e3, e4, e5, e6⟩ := w.ow j e hj h
      refine ⟨q, mo', e2, e3, ?_, e5, e6⟩
      rw [mset_ne (fun z => by rw [z, hp] at e4; cases e4)]
      exact e4
  · rcases rset_k h1 with ⟨a1, a2, hl⟩ | ⟨n1, g1⟩
    · rcases rset_k h2 with ⟨b1, _⟩ | ⟨n2, g2⟩
      · rw [← a1, ← b1]
      · rw [← a1, List.getElem?_set_self (by rw [w.len, a1]; exact hl)] at e1
        cases e1
        rw [List.getElem?_set_ne n2] at e2
        exact absurd e2 (old k f hk g2)
    · rw [List.getElem?_set_ne n1] at e1
      rcases rset_k h2 with ⟨b1, b2, hl⟩ | ⟨n2, g2⟩
      · rw [← b1, List.getElem?_set_self (by rw [w.len, b1]; exact hl)] at e2
        cases e2
        exact absurd e1 (old j e hj g1)
      · rw [List.getElem?_set_ne n2] at e2
        exact w.dis j k q e f hj hk g1 g2 e1 e2
theorem Lw.upd {p : Addr} {mo : MO} {d0 : D} (w : Lw o B r M l) (hi : i ∈ o) (hk : l[i]? = some (some d0)) (hr : r[i]? = some (some (.ref p))) (hb : B.m p = none) (hm : MoD d mo) (hS : B.S i p mo) : Lw o B r (mset M p mo) (l.set i (some d)) := by
  refine ⟨by rw [List.length_set, w.len], fun a => ?_, w.j, fun j e hj h => ?_, fun j e hj h => ?_, fun j k q e f hj hk' h1 h2 e1 e2 => ?_⟩
  · by_cases h : a = p
    · subst h; exact .inr hb
    · rw [mset_ne h]; exact w.less a
  · have ne : i ≠ j := fun e => hj (e ▸ hi)
    rw [List.getElem?_set_ne ne] at h
    exact w.pl j e hj h
  · rcases rset_k h with ⟨rfl, rfl, hl⟩ | ⟨ne, h⟩
    · exact ⟨p, mo, hr, hm, mset_same, hb, hS⟩
    · obtain ⟨q, mo', e2, e3, e4, e5, e6⟩ := w.ow j e hj h
      refine ⟨q, mo', e2, e3, ?_, e5, e6⟩
      rw [mset_ne (fun z => ne (w.dis i j p d0 e hi hj hk h hr (by rw [e2, z])))]
      exact e4
  · have known : ∀ j e, (l.set i (some d))[j]? = some (some e) → ∃ e', l[j]? = some (some e') := fun j e h => by
      rcases rset_k h with ⟨rfl, _⟩ | ⟨_, h⟩
      · exact ⟨_, hk⟩
      · exact ⟨_, h⟩
    obtain ⟨_, h1⟩ := known j e h1
    obtain ⟨_, h2⟩ := known k f h2
    exact w.dis j k q _ _ hj hk' h1 h2 e1 e2
theorem Lw.blind {x : Option D} (w : Lw o B r M l) (hi : i ∉ o) (hJ : B.J (r.set i x)) : Lw o B (r.set i x) M (l.set i none) := by
  have back : ∀ j e, (l.set i none)[j]? = some (some e) → i ≠ j ∧ l[j]? = some (some e) := fun j e h => by
    rw [rset] at h
    split at h
    · cases h
    · rename_i q
      refine ⟨fun e => ?_, h⟩
      subst e
      have : l[i]? = none := List.getElem?_eq_none (Nat.le_of_not_lt fun z => q ⟨rfl, z⟩)
      rw [this] at h; cases h
  refine ⟨by rw [List.length_set, List.length_set, w.len], w.less, hJ, fun j e hj h => ?_, fun j e hj h => ?_, fun j k p e f hj hk h1 h2 e1 e2 => ?_⟩
  · obtain ⟨n, h⟩ := back j e h
    rw [List.getElem?_set_ne n]; exact w.pl j e hj h
  · obtain ⟨n, h⟩ := back j e h
    rw [List.getElem?_set_ne n]; exact w.ow j e hj h
  · obtain ⟨n1, h1⟩ := back j e h1
    obtain ⟨n2, h2⟩ := back k f h2
    rw [List.getElem?_set_ne n1] at e1
    rw [List.getElem?_set_ne n2] at e2
    exact w.dis j k p e f hj hk h1 h2 e1 e2
end
section
variable {X : Cx} {W : DWX} {o : List Nat} {B : Bx} {e c : Expr} {s : Stmt} {ss a b : List Stmt} {f : FE} {g : FT} {h : FA} {fs gs fa fb : FS} {pos : Pos}
def fNext : FS := fun l => .v (.nx l)
def thenC (c : Ct) (g : FS) : T Ct := match c with
  | .nx l => g l
  | c => .v c
def fSeq (f g : FS) : FS := fun l => (f l).bind fun c => thenC c g
theorem ts_nil : DSs X W [] (tS W o B fNext) := dss_nil.imp' fun E r M ⟨l, w, k⟩ => k r M w
theorem ts_cons (h1 : DS X W s (tS W o B fs)) (h2 : DSs X W ss (tS W o B gs)) : DSs X W (s :: ss) (tS W o B (fSeq fs gs)) :=
  (dss_cons h1 h2).imp' fun E r M ⟨l, w, k⟩ => ⟨l, w, T.go_imp (T.go_bind.mp k) fun c hc => by
    cases c with
    | nx l' => exact fun r' M' w' => ⟨l', w', hc⟩
    | _ => exact hc⟩
theorem sx_use {α : Type} {t : T α} {k : α → T Ct} {E : DEnds} {r : Rho} {M : Mh} {l : Rho} {P : α → Prop} (w : Lw o B r M l) (hk : (t.sx l k).go B.m (CtQ W o B E) noX) (hp : ∀ a, (k a).go B.m (CtQ W o B E) noX → P a) : t.go B.m P (fun C fs => W C fs r M) :=
  T.go_mono (T.sx_go.mp hk) (fun _ z => z) hp fun C fs q => q r M w
def fRet (f : FE) : FS := fun l => (f l).sx l fun d => .v (.rt d)
theorem ts_ret (he : DE X W e (tE W o B f)) (hfr : B.fr = false := by rfl) : DS X W (.Return (some e) pos) (tS W o B (fRet f)) :=
  (ds_ret he).imp' fun E r M ⟨l, w, k⟩ => ⟨l, w, sx_use w k fun d q => q d M w.less (.inl ⟨hfr, rfl⟩)⟩
def fRetO (i : Nat) : FS := fun l => (lk l i).bind fun d => match d with
  | .lst ds => .v (.rt (.lst ds))
  | _ => .no
theorem ts_retO (i : Nat) (hi : i ∈ o := by decide) {x : Str} {p : Pos} (hN : X.N[i]? = some x := by rfl) (hv : Vis X.env.scope x := by first | exact Or.inl rfl | exact Or.inr (Or.inl rfl) | exact Or.inr (Or.inr rfl)) (hd : (x == ("__debug__" : Str)) = false := by decide)
    (hcd : (x == ("__classdict__" : Str)) = false := by decide) : DS X W (.Return (some (.Name x p)) pos) (tS W o B (fRetO i)) := (ds_ret (dv i hN hv hd hcd)).imp' fun E r M ⟨l, w, k⟩ => by
  unfold dRet dVar
  have k : ((lk l i).bind fun d => match d with | .lst ds => T.v (Ct.rt (.lst ds)) | _ => .no).go B.m (CtQ W o B E) noX := k
  rw [T.go_bind] at k
  unfold lk at k
  split at k
  · rename_i d e
    obtain ⟨p, mo, e2, e3, e4, e5, _⟩ := w.ow i d hi e
    rw [e2]
    cases e3 with
    | lst ds => exact k (.ref p) M w.less (.inr ⟨p, ds, rfl, e5, rfl, e4⟩)
    | _ => exact k.elim
  · exact k.elim
def fIfS (g : FT) (fa fb : FS) : FS := fun l => (g l).sx l fun b => if b = true then fa l else fb l
theorem ts_if (hc : DT X W c (tT W o B g)) (ha : DSs X W a (tS W o B fa)) (hb : DSs X W b (tS W o B fb)) : DS X W (.If c a b pos) (tS W o B (fIfS g fa fb)) :=
  (ds_if hc ha hb).imp' fun E r M ⟨l, w, k⟩ => ⟨l, w, sx_use w k fun b q => by
    cases b
    · exact ⟨l, w, q⟩
    · exact ⟨l, w, q⟩⟩
def fSet (i : Nat) (f : FE) : FS := fun l => (f l).sx l fun d => .v (.nx (l.set i (some d)))
theorem ts_set {i : Nat} {x : Str} {pos' : Pos} (hN : X.N.Nodup) (hi : X.N[i]? = some x) (hx : Loc X.env.scope x) (ho : i ∉ o) (hJ : B.Jk i) (he : DE X W e (tE W o B f)) (hs : swapsWith e (some (.Name x pos')) pos.line X.env = pure false := by rfl) (hf : X.fn x = true ∨ X.env.scope.names.lookup x = some .local := by first | exact .inl rfl | exact .inr rfl | assumption) :
    DS X W (.Assign [.Name x pos'] e pos) (tS W o B (fSet i f)) :=
  (ds_set hN hi hx he hs hf).imp' fun E r M ⟨l, w, k⟩ => ⟨l, w, sx_use w k fun d q => q _ M (w.set ho hJ)⟩
abbrev FG := D → Rho → Option Rho
def TGt (X : Cx) (W : DWX) (o : List Nat) (B : Bx) (tg : Expr) (g : FG) : Prop := ∃ t, DG X W tg t ∧ ∀ d r M (Q : Rho → Mh → Prop) l l', Lw o B r M l → g d l = some l' → (∀ r', Lw o B r' M l' → Q r' M) → t d r M Q
def TGs' (X : Cx) (W : DWX) (o : List Nat) (B : Bx) (tg : List Expr) (g : List D → Rho → Option Rho) : Prop := ∃ t, DGs X W tg t ∧ ∀ ds r M (Q : Rho → Mh → Prop) l l', Lw o B r M l → g ds l = some l' → (∀ r', Lw o B r' M l' → Q r' M) → t ds r M Q
def gN (i : Nat) : FG := fun d l => some (l.set i (some d))
def gTN : List D → Rho → Option Rho := fun ds l => match ds with
  | [] => some l
  | _ => none
def gTC (g : FG) (gs : List D → Rho → Option Rho) : List D → Rho → Option Rho := fun ds l => match ds with
  | d :: ds => (g d l).bind (gs ds)
  | [] => none
def gTU (n : Nat) (gs : List D → Rho → Option Rho) : FG := fun d l => match d with
  | .tup ds => if ds.length = n then gs ds l else none
  | _ => none
theorem tg_name {i : Nat} {x : Str} (hN : X.N.Nodup) (hi : X.N[i]? = some x) (hx : Loc X.env.scope x) (ho : i ∉ o) (hJ : B.Jk i) (hf : X.fn x = true ∨ X.env.scope.names.lookup x = some .local := by first | exact .inl rfl | exact .inr rfl | assumption) : TGt X W o B (.Name x pos) (gN i) :=
  ⟨_, dg_name hN hi hx hf, fun d r M Q l l' w e k => by cases e; exact k _ (w.set ho hJ)⟩
theorem tgs_nil : TGs' X W o B [] gTN := ⟨_, dgs_nil, fun ds r M Q l l' w e k => by
  unfold gTN at e
  split at e
  · cases e; exact k r w
  · cases e⟩
theorem tgs_cons {es : List Expr} {g : FG} {gs : List D → Rho → Option Rho} (h1 : TGt X W o B e g) (h2 : TGs' X W o B es gs) (hs : (assignEach (e :: es) X.env).map (·.2) = assign e X.env :: (assignEach es X.env).map (·.2) := by rfl) : TGs' X W o B (e :: es) (gTC g gs) := by
  obtain ⟨t, h3, h4⟩ := h1
  obtain ⟨u, h5, h6⟩ := h2
  refine ⟨_, dgs_cons h3 h5 hs, fun ds r M Q l l' w e k => ?_⟩
  unfold gTC at e
  split at e
  · obtain ⟨l1, e1, e2⟩ := Option.bind_eq_some_iff.mp e
    exact h4 _ r M _ l l1 w e1 fun r1 w1 => h6 _ r1 M Q l1 l' w1 e2 k
  · cases e
theorem tg_tup {es : List Expr} {k : Nat} {gs : List D → Rho → Option Rho} {n : Nat} (hc : X.calm = true) (h : TGs' X W o B es gs) (hn : (assignEach es X.env).length = n := by rfl) (hst : (assignEach es X.env).findIdx? (·.1) = none := by rfl) : TGt X W o B (.Tuple es k pos) (gTU n gs) := by
  obtain ⟨u, h5, h6⟩ := h
  refine ⟨_, dg_tup hc h5 hn hst, fun d r M Q l l' w e k => ?_⟩
  unfold gTU at e
  split at e
  · split at e
    · rename_i hl
      exact ⟨hl, h6 _ r M Q l l' w e k⟩
    · cases e
  · cases e
def fAsg (g : FG) (f : FE) : FS := fun l => (f l).sx l fun d => (T.ofO (g d l)).bind fun l' => .v (.nx l')
theorem ts_asg {tg : Expr} {g : FG} (he : DE X W e (tE W o B f)) (hg : TGt X W o B tg g) (hs : swapsWithSole [tg] e pos.line X.env = pure false := by rfl) (hw : swappedStores [tg] e X.env = pure none := by rfl)
    (h1 : (assignEach [tg] X.env).map (·.2) = [assign tg X.env] := by rfl) : DS X W (.Assign [tg] e pos) (tS W o B (fAsg g f)) := by
  obtain ⟨t, h3, h4⟩ := hg
  exact (ds_asg he h3 hs hw h1).imp' fun E r M ⟨l, w, k⟩ => ⟨l, w, sx_use w k fun d q => by
    obtain ⟨l', e, q⟩ := T.go_ofO.mp (T.go_bind.mp q)
    exact h4 d r M E.nx l l' w e fun r' w' => q r' M w'⟩
def fPar (i j : Nat) (h : FA) : FS := fun l => (h l).sx l fun ds => match ds with
  | [v, w] => .v (.nx ((l.set i (some v)).set j (some w)))
  | _ => .no
theorem ts_par {i j : Nat} {x y : Str} {a b : Expr} {px py pt : Pos} {kt k2 pt2} (hc : X.calm = true) (hN : X.N.Nodup) (hi : X.N[i]? = some x) (hj : X.N[j]? = some y) (hij : i ≠ j)
    (hx : X.env.scope.names.lookup x = some .local) (hy : X.env.scope.names.lookup y = some .local) (oi : i ∉ o) (oj : j ∉ o) (hJi : B.Jk i) (hJj : B.Jk j) (ha : DA X W [a, b] (tA W o B h))
    (hw : swappedStores [.Tuple [.Name x px, .Name y py] kt pt] (.Tuple [a, b] k2 pt2) X.env = pure (some [x, y]))
    (hs : swapsWithSole [.Tuple [.Name x px, .Name y py] kt pt] (.Tuple [a, b] k2 pt2) pos.line X.env = pure false := by rfl) :
    DS X W (.Assign [.Tuple [.Name x px, .Name y py] kt pt] (.Tuple [a, b] k2 pt2) pos) (tS W o B (fPar i j h)) :=
  (ds_par hc hN hi hj hij hx hy ha hw hs).imp' fun E r M ⟨l, w, k⟩ => ⟨l, w, sx_use w k fun ds q => by
    split at q
    · exact q _ _ ((w.set oi hJi).set oj hJj)
    · exact q.elim⟩
def lkL (l : Rho) (i : Nat) : T (List D) := match l[i]? with
  | some (some (.lst ds)) => .v ds
  | _ => .no
theorem Lw.atL {r : Rho} {M : Mh} {l : Rho} {i : Nat} {P : List D → Prop} {E} (w : Lw o B r M l) (hi : i ∈ o) (h : (lkL l i).go B.m P E) : ∃ p ds, l[i]? = some (some (.lst ds)) ∧ r[i]? = some (some (.ref p)) ∧ M p = some (.lst ds) ∧ B.m p = none ∧ B.S i p (.lst ds) ∧ P ds := by
  unfold lkL at h
  split at h
  · rename_i ds e
    obtain ⟨p, mo, e2, e3, e4, e5, e6⟩ := w.ow i _ hi e
    cases e3
    exact ⟨p, ds, e, e2, e4, e5, e6, h⟩
  · exact h.elim
theorem Bx.S_lst {i : Nat} {p : Addr} {ds ds' : List D} (h : B.S i p (.lst ds)) : B.S i p (.lst ds') := by
  unfold Bx.S at h ⊢
  split
  · trivial
  · rename_i x dx e
    rw [e] at h
    exact fun hi => absurd (h hi).2 id
def fApp (i : Nat) (f : FE) : FS := fun l => (lkL l i).bind fun xs => (f l).sx l fun y => .gd (szOk (xs.length + 1)) (.v (.nx (l.set i (some (.lst (xs ++ [y]))))))
theorem ts_app {i : Nat} {x : Str} {p1 apos cpos : Pos} (ho : i ∈ o) (he : DE X W e (tE W o B f)) (hN : X.N[i]? = some x := by rfl) (hv : Vis X.env.scope x := by first | exact Or.inl rfl | exact Or.inr (Or.inl rfl) | exact Or.inr (Or.inr rfl)) (hd : (x == ("__debug__" : Str)) = false := by decide)
    (hcd : (x == ("__classdict__" : Str)) = false := by decide)
    (hbase : attributeBase (.Name x p1) "append" X.env (eval (.Name x p1) X.env) = eval (.Name x p1) X.env := by rfl)
    (hfew : ((backTo cpos (starEach [e] X.env)).all (fun x => !x.1) && (backToKw cpos (keywordEach [] X.env)).all (fun x => x.1.isSome)
      && decide (([e] : List Expr).length + ([] : List Keyword).length + (if ([] : List Keyword).isEmpty then 0 else 1) < 30)) = true := by rfl)
    (hline : (apos.endLine == cpos.line) = true := by rfl) (hs : starEach [e] X.env = (false, eval e X.env) :: starEach [] X.env := by rfl) (hplain : (backTo cpos (starEach [] X.env)).any (·.1) = false := by rfl)
    (hsw : swapsWith (.Call (.Attribute (.Name x p1) "append" apos) [e] [] cpos) none pos.line X.env = pure false := by rfl) :
    DS X W (.Expr (.Call (.Attribute (.Name x p1) "append" apos) [e] [] cpos) pos) (tS W o B (fApp i f)) :=
  (ds_expr (de_bm PySem.F.plainAttrs_list PySem.F.slot_list_append PySem.F.type_list_append m_append (dv i hN hv hd hcd) (da_cons he da_nil hs) hbase hfew hline hs hplain) hsw).imp' fun E r M ⟨l, w, k⟩ => by
    obtain ⟨p, ds, e0, e1, e2, e3, e4, q⟩ := w.atL ho (T.go_bind.mp k)
    unfold dDrop dBM dVar
    rw [e1]
    refine ⟨?_, l, w, sx_use w q fun y q => ?_⟩
    · show (match M p with | some (.lst _) => some "list" | some .pool => some "list" | some (.dic _) => some "dict" | _ => none) = _
      rw [e2]
    · obtain ⟨q1, q2⟩ := T.go_gd.mp q
      exact ⟨ds, e2, of_decide_eq_true q1, q2 r _ (w.upd ho e0 e1 e3 (.lst _) (Bx.S_lst e4))⟩
def TI (X : Cx) (W : DWX) (tg iter : Expr) (o : List Nat) (B : Bx) (f : FA) : Prop :=
  ∃ t, DI X W tg iter t ∧ ∀ r M (Q : List D → Mh → Prop) l, Lw o B r M l → (f l).go B.m (fun ds => Q ds M) (fun C fs => W C fs r M) → t r M Q
def forT (g : FG) (fb : FS) : List D → FS
  | [], l => .v (.nx l)
  | x :: xs, l => (T.ofO (g x l)).bind fun l1 => (fb l1).bind fun c => match c with
    | .nx l2 => forT g fb xs l2
    | .ct l2 => forT g fb xs l2
    | .bk l2 => .v (.nx l2)
    | c => .v c
def fFor (fi : FA) (g : FG) (fb : FS) : FS := fun l => (fi l).sx l fun ds => forT g fb ds l
theorem forT_L {gd : DTG} {g : FG} {fb : FS} {E : DEnds} (hg : ∀ d r M (Q : Rho → Mh → Prop) l l', Lw o B r M l → g d l = some l' → (∀ r', Lw o B r' M l' → Q r' M) → gd d r M Q) :
    ∀ (ds : List D) {r : Rho} {M : Mh} {l : Rho}, Lw o B r M l → (forT g fb ds l).go B.m (CtQ W o B E) noX → forL gd (tS W o B fb) E ds r M
  | [], r, M, l, w, h => h r M w
  | d :: ds, r, M, l, w, h => by
    obtain ⟨l1, e, h⟩ := T.go_ofO.mp (T.go_bind.mp h)
    refine hg d r M _ l l1 w e fun r1 w1 => ⟨l1, w1, T.go_imp (T.go_bind.mp h) fun c hc => ?_⟩
    cases c with
    | nx l2 => exact fun r2 M2 w2 => forT_L hg ds w2 hc
    | ct l2 => exact fun r2 M2 w2 => forT_L hg ds w2 hc
    | bk l2 => exact hc
    | rt d => exact hc
    | rs C fs l2 => exact hc
theorem ts_for {tg iter : Expr} {body : List Stmt} {fi : FA} {g : FG} (hp : PassesOwn (model X.prog X.w) X.A X.env X.xe) (hc : X.calm = true) (hi : TI X W tg iter o B fi) (hg : TGt X W o B tg g) (hb : DSs X W body (tS W o B fb)) (hs : ∀ x, foldedSetIterable iter X.env x = pure x := by intro _; rfl) :
    DS X W (.For tg iter body [] pos) (tS W o B (fFor fi g fb)) := by
  obtain ⟨ti, h1, h2⟩ := hi
  obtain ⟨gd, h3, h4⟩ := hg
  exact (ds_for hp hc h1 h3 hb hs).imp' fun E r M ⟨l, w, k⟩ => h2 r M _ l w (sx_use w k fun ds q => forT_L h4 ds w q)
def asTup : D → T (List D)
  | .tup ds => .v ds
  | _ => .no
theorem asTup_go {d : D} {Q : List D → Prop} {E} {M : Mh} : (asTup d).go M Q E ↔ ∃ b, d = .tup b ∧ Q b := by
  cases d <;> first | exact ⟨fun h => ⟨_, rfl, h⟩, fun ⟨b, e, h⟩ => by cases e; exact h⟩ | exact ⟨fun h => h.elim, fun ⟨b, e, h⟩ => by cases e⟩
def fI (a : D → T (List D)) (f : FE) : FA := fun l => (f l).bind a
theorem ti_tup {tg : Expr} (h : DE X W e (tE W o B f)) : TI X W tg e o B (fI asTup f) := ⟨_, di_tup h, fun r M Q l w k => ⟨l, w, T.go_imp (T.go_bind.mp k) fun d q => by
  obtain ⟨ds, rfl, q⟩ := asTup_go.mp q
  exact q⟩⟩
def rngD (i j : Int) : List D := (List.range (j - i).toNat).map fun k : Nat => D.int (i + (k : Int))
def smB (i : Int) : Bool := decide (-(2 ^ 62) ≤ i ∧ i < 2 ^ 62)
def fRng1 (h : FA) : FA := fun l => (h l).bind fun ds => match ds with
  | [.int j] => .gd (smB j) (.v (rngD 0 j))
  | _ => .no
theorem ti_range1 {tg a : Expr} {p : Pos} (hg : Gl X "range") (hm : X.mg "range" = none) (ha : DA X W [a] (tA W o B h)) (hs : starEach [a] X.env = [(false, eval a X.env)] := by rfl) : TI X W tg (.Call (.Name "range" p) [a] [] pos) o B (fRng1 h) :=
  ⟨_, di_range1 hg hm ha hs, fun r M Q l w k => ⟨l, w, T.go_imp (T.go_bind.mp k) fun ds q => by
    split at q
    · rename_i j
      obtain ⟨q1, q2⟩ := T.go_gd.mp q
      have := of_decide_eq_true q1
      refine ⟨this.1, this.2, ?_⟩
      have q2 : Q (rngD 0 j) M := q2
      unfold rngD at q2
      rw [Int.sub_zero] at q2
      exact q2
    · exact q.elim⟩⟩
end
end DL

set_option maxHeartbeats 2000000
namespace DL
open PySem PySem.Spec PyProof.Rows L2

structure TA (X : Cx) (W : DWX) (es : List Expr) (o : List Nat) (B : Bx) (h : FA) : Prop where
  da : DA X W es (tA W o B h)
  len : ∀ l M Q E, (h l).go M Q E → (h l).go M (fun ds => ds.length = es.length ∧ Q ds) E
section
variable {X : Cx} {W : DWX} {o : List Nat} {B : Bx} {e a b c : Expr} {es rest : List Expr} {f fa fb fc : FE} {g ga gb : FT} {h : FA} {pos : Pos}
theorem xa_nil : TA X W [] o B fNil := ⟨ta_nil, fun l M Q E k => ⟨rfl, k⟩⟩
theorem xa_cons (ha : DE X W e (tE W o B f)) (hr : TA X W es o B h) (hs : starEach (e :: es) X.env = (false, eval e X.env) :: starEach es X.env := by rfl) : TA X W (e :: es) o B (fCo f h) :=
  ⟨ta_cons ha hr.da hs, fun l M Q E k => T.go_bind.mpr (T.go_imp (T.go_bind.mp k) fun d q => T.go_bind.mpr (T.go_imp (hr.len l M _ E (T.go_bind.mp q)) fun ds q => ⟨congrArg (· + 1) q.1, q.2⟩))⟩
def T.fm (g : D → T (Option D)) : List D → T (List D)
  | [] => .v []
  | a :: as => (g a).bind fun o => (T.fm g as).bind fun ys => .v (match o with | some y => y :: ys | none => ys)
def asgN : List Nat → List D → Rho → Option Rho
  | [], [], l => some l
  | i :: is, d :: ds, l => asgN is ds (l.set i (some d))
  | _, _, _ => none
def asgP : TPat → D → Rho → Option Rho
  | .one i, x, l => some (l.set i (some x))
  | .tup is, .tup ds, l => asgN is ds l
  | _, _, _ => none
def stepC (p : TPat) (ft : FT) (fe : FE) (l0 : Rho) (x : D) : T (Option D) := (T.ofO (asgP p x l0)).bind fun l1 => (ft l1).nx.bind fun b => if b = true then (fe l1).nx.bind fun y => .v (some y) else .v none
def fYes : FT := fun _ => .v true
theorem asgN_ok {r : Rho} {M : Mh} {Q : Rho → Mh → Prop} : ∀ {is : List Nat} {ds : List D} {r l l' : Rho}, (∀ i ∈ is, i ∉ o ∧ B.Jk i) → Lw o B r M l → asgN is ds l = some l' → (∀ r', Lw o B r' M l' → Q r' M) → gdNames is ds r M Q ∧ ds.length = is.length
  | [], [], r, l, l', hi, w, e, k => by cases e; exact ⟨k r w, rfl⟩
  | i :: is, d :: ds, r, l, l', hi, w, e, k => by
    obtain ⟨h1, h2⟩ := asgN_ok (r := r) (is := is) (ds := ds) (fun j hj => hi j (List.mem_cons_of_mem _ hj)) (w.set (hi i (List.mem_cons_self ..)).1 (hi i (List.mem_cons_self ..)).2) e k
    exact ⟨h1, congrArg (· + 1) h2⟩
  | [], _ :: _, _, _, _, _, _, e, _ => by cases e
  | _ :: _, [], _, _, _, _, _, e, _ => by cases e
theorem asgP_ok {p : TPat} {x : D} {r l l' : Rho} {M : Mh} {Q : Rho → Mh → Prop} (hi : ∀ i ∈ p.ixs, i ∉ o ∧ B.Jk i) (w : Lw o B r M l) (e : asgP p x l = some l') (k : ∀ r', Lw o B r' M l' → Q r' M) : tpD p x r M Q := by
  cases p with
  | one i => cases e; exact k _ (w.set (hi i (List.mem_cons_self ..)).1 (hi i (List.mem_cons_self ..)).2)
  | tup is =>
    cases x with
    | tup ds =>
      obtain ⟨h1, h2⟩ := asgN_ok (r := r) hi w e k
      exact ⟨h2, h1⟩
    | _ => cases e
theorem Lw.wipe {r l : Rho} {M : Mh} (w : Lw o B r M l) : ∀ {vs : List Nat}, (∀ i ∈ vs, i ∉ o ∧ B.Jk i) → Lw o B (wipeR r vs) M (wipeR l vs)
  | [], _ => w
  | v :: vs, h => by
    have w' := w.wipe (vs := vs) fun i hi => h i (List.mem_cons_of_mem _ hi)
    have hv := h v (List.mem_cons_self ..)
    show Lw o B ((wipeR r vs).set v none) M ((wipeR l vs).set v none)
    exact w'.blind hv.1 (hv.2 _ _ w'.j)
theorem fm_lc {p : TPat} {ft : FT} {fe : FE} {r0 l0 : Rho} {Q : QD} {M : Mh} {E} (hi : ∀ i ∈ p.ixs, i ∉ o ∧ B.Jk i) (w : Lw o B r0 M l0) : ∀ {items acc : List D}, acc.length + items.length ≤ sizeLine → (T.fm (stepC p ft fe l0) items).go B.m (fun ys => Q (.lst (acc ++ ys)) M) E → lcL p (tT WN o B ft) (tE WN o B fe) r0 Q items acc M
  | [], acc, hl, h => by
    have h : Q (.lst (acc ++ [])) M := h
    rw [List.append_nil] at h
    exact h
  | x :: xs, acc, hl, h => by
    have hl' : acc.length + (xs.length + 1) ≤ sizeLine := hl
    have h := T.go_bind.mp h
    unfold stepC at h
    obtain ⟨l1, e, h⟩ := T.go_ofO.mp (T.go_bind.mp h)
    refine asgP_ok hi w e fun r1 w1 => ⟨l1, w1, T.go_mono (T.go_nx.mp (T.go_bind.mp h)) (fun _ z => z) (fun b h => ?_) (fun _ _ z => z)⟩
    cases b with
    | true =>
      have h := T.go_nx.mp (T.go_bind.mp (show (((fe l1).nx).bind fun y => T.v (some y)).go B.m _ _ from h))
      refine ⟨l1, w1, T.go_imp h fun y h => ⟨by omega, ?_⟩⟩
      refine fm_lc hi w (by rw [List.length_append, List.length_cons, List.length_nil]; omega) (T.go_imp (T.go_bind.mp h) fun ys h => ?_)
      have h : Q (.lst (acc ++ (y :: ys))) M := h
      rw [List.append_cons] at h
      exact h
    | false => exact fm_lc hi w (by omega) (T.go_bind.mp h)
def fLc (fi : FA) (p : TPat) (ft : FT) (fe : FE) (vs : List Nat) : FE := fun l => (fi l).bind fun items => .gd (szOk items.length) ((T.fm (stepC p ft fe (wipeR l vs)) items).bind fun ys => .v (.lst ys))
theorem tlc_ok {tg iter : Expr} {ti : DTI} {fi : FA} {p : TPat} {ft : FT} {fe : FE} {vs : List Nat} (hv : ∀ i ∈ vs, i ∉ o ∧ B.Jk i) (hix : ∀ i ∈ p.ixs, i ∈ vs) (h2 : ∀ r M (Q : List D → Mh → Prop) l, Lw o B r M l → (fi l).go B.m (fun ds => Q ds M) (fun C fs => W C fs r M) → ti r M Q) (r : Rho) (M : Mh) (Q : QD)
    (h : tE W o B (fLc fi p ft fe vs) r M Q) : dLc ti p (tT WN o B ft) (tE WN o B fe) vs r M Q := by
  obtain ⟨l, w, k⟩ := h
  refine h2 r M _ l w (T.go_imp (T.go_bind.mp k) fun items k => ?_)
  obtain ⟨k1, k2⟩ := T.go_gd.mp k
  exact fm_lc (fun i hi => hv i (hix i hi)) (w.wipe hv) (by rw [List.length_nil, Nat.zero_add]; exact of_decide_eq_true k1) (T.go_bind.mp k2)
theorem te_lc {elt tg iter : Expr} {ifs : List Expr} {scope : Scope} {own : List (Str × Nat)} {fi : FA} {p : TPat} {ft : FT} {fe : FE} (hc : X.calm = true) (hN : X.N.Nodup) (hi : TI X W tg iter o B fi) (ok : BlkOk X.N X.env.scope scope own) (hix : ∀ i ∈ p.ixs, i ∈ own.map (·.2)) (hv0 : ∀ i ∈ own.map (·.2), i ∉ o) (hvJ : ∀ i ∈ own.map (·.2), B.Jk i)
    (hg : ∀ (s : Shared) (H : Hp) (C : Addr) (cl : List (Str × Addr)) (fp : List Addr), PG (Cx.blk X s H scope (compEnvC scope cl C X.env) fp) tg (tpV X.K p)) (ht : ∀ (s : Shared) (H : Hp) (C : Addr) (cl : List (Str × Addr)) (fp : List Addr), DTs (Cx.blk X s H scope (compEnvC scope cl C X.env) fp) WN ifs (tT WN o B ft))
    (he : ∀ (s : Shared) (H : Hp) (C : Addr) (cl : List (Str × Addr)) (fp : List Addr), DE (Cx.blk X s H scope (compEnvC scope cl C X.env) fp) WN elt (tE WN o B fe)) (hs : ∀ x, foldedSetIterable iter X.env x = pure x := by intro _; rfl) :
    DE X W (.ListComp elt [⟨tg, iter, ifs, 0⟩] scope pos) (tE W o B (fLc fi p ft fe (own.map (·.2)))) := by
  obtain ⟨ti, h1, h2⟩ := hi
  exact (de_lc hc hN h1 ok hix hg ht he hs).imp' (tlc_ok (tg := tg) (iter := iter) (fun i hi => ⟨hv0 i hi, hvJ i hi⟩) hix h2)
theorem tts_nil : DTs X W [] (tT W o B fYes) := ⟨fun pins s st H Q I ⟨Z, r, M, DQ, q, ⟨l, w, k⟩, kk⟩ => pts_nil.run pins s st H Q I (kk true H ⟨M, q, Same.refl _, k⟩)⟩
theorem tts_one (h : DT X W c (tT W o B g)) : DTs X W [c] (tT W o B g) := dts_one h
def OpN (X : Cx) (W : DWX) (f : Value) (g : List D → Option D) : Prop := ∃ o, DCall X W f o ∧ ∀ (M : Mh) (ds' ds : List D) (d : D) (Q : QD), Paired (Vw M) ds' ds → g ds = some d → Q d M → o ds' M Q
def fCB (g : List D → Option D) (h : FA) : FE := fun l => (h l).bind fun ds => .ofO (g ds)
theorem te_callB {x : Str} {p : Pos} {id : String} {g : List D → Option D} (hc : OpN X W (.builtin id) g) (hg : Gl X x) (hm : X.mg x = none) (hv : bootBuiltins x = some (.builtin id)) (ha : DA X W (e :: es) (tAL W o B h)) (hn : x ≠ "__name__" := by decide) (hdb : (x == ("__debug__" : Str)) = false := by decide)
    (he : starEach (e :: es) X.env = (false, eval e X.env) :: starEach es X.env := by rfl) (hpl : (backTo pos (starEach es X.env)).any (·.1) = false := by rfl) : DE X W (.Call (.Name x p) (e :: es) [] pos) (tE W o B (fCB g h)) := by
  obtain ⟨o', h1, h2⟩ := hc
  exact (de_callB h1 hg hm hv ha hn hdb he hpl).imp' fun r M Q ⟨l, w, k⟩ => ⟨l, w, T.go_imp (T.go_bind.mp k) fun ds q ds' hp => by
    obtain ⟨d, e, q⟩ := T.go_ofO.mp q
    exact h2 M ds' ds d Q hp e q⟩
theorem te_callTy {x : Str} {p : Pos} {ty : String} {g : List D → Option D} (hc : OpN X W (.type ty) g) (hg : Gl X x) (hm : X.mg x = none) (hv : bootBuiltins x = some (.type ty)) (ha : DA X W (e :: es) (tAL W o B h)) (hn : x ≠ "__name__" := by decide) (hdb : (x == ("__debug__" : Str)) = false := by decide)
    (he : starEach (e :: es) X.env = (false, eval e X.env) :: starEach es X.env := by rfl) (hpl : (backTo pos (starEach es X.env)).any (·.1) = false := by rfl) : DE X W (.Call (.Name x p) (e :: es) [] pos) (tE W o B (fCB g h)) := by
  obtain ⟨o', h1, h2⟩ := hc
  exact (de_callTy h1 hg hm hv ha hn hdb he hpl).imp' fun r M Q ⟨l, w, k⟩ => ⟨l, w, T.go_imp (T.go_bind.mp k) fun ds q ds' hp => by
    obtain ⟨d, e, q⟩ := T.go_ofO.mp q
    exact h2 M ds' ds d Q hp e q⟩
def btyD : D → Option String
  | .int _ => some "int"
  | .str _ => some "str"
  | .lst _ => some "list"
  | .scr _ => some "list"
  | .dic _ => some "dict"
  | _ => none
theorem Vw.bty {M : Mh} {x' x : D} {T : String} (h : Vw M x' x) (e : btyD x = some T) : bty M x' = some T := by
  rcases h with rfl | ⟨p, mo, rfl, m, hp⟩
  · cases x' <;> first | exact e | cases e
  · show (match M p with | some (.lst _) => some "list" | some .pool => some "list" | some (.dic _) => some "dict" | _ => none) = _
    rw [hp]
    cases m <;> first | exact e | cases e
def spT (n : Nat) (f : List D → T D) : DSp := fun ds M Q E => ds.length = n ∧ (f ds).go M (fun d => Q d M) (fun C fs => E C fs M)
def fCall (f : List D → T D) (gD : List D → List D → List D) (h hk : FA) : FE := fun l => (h l).bind fun ds => (hk l).bind fun es => f (gD ds es)
theorem call_ok {n m k : Nat} {f : List D → T D} {gD : List D → List D → List D} {h hk : FA} {kes : List Expr} (hl : ∀ ds es, ds.length = n → es.length = m → (gD ds es).length = k) (l1 : ∀ l M Q E, (h l).go M Q E → (h l).go M (fun ds => ds.length = n ∧ Q ds) E) (l2 : ∀ l M Q E, (hk l).go M Q E → (hk l).go M (fun ds => ds.length = m ∧ Q ds) E)
    (r : Rho) (M : Mh) (Q : QD) (hh : tE W o B (fCall f gD h hk) r M Q) : dCall W (spT k f) n m gD (tA W o B h) (tA W o B hk) r M Q := by
  obtain ⟨l, w, kk⟩ := hh
  refine ⟨l, w, T.go_imp (l1 l _ _ _ (T.go_bind.mp kk)) fun ds q => ⟨l, w, T.go_imp (l2 l _ _ _ (T.go_bind.mp q.2)) fun es q2 => ⟨q.1, q2.1, hl _ _ q.1 q2.1, ?_⟩⟩⟩
  exact T.go_mono q2.2 (fun p z => w.less.pool p z) (fun _ z => z) fun _ _ z => z
theorem te_call {k n j : Nat} {f : Addr} {fd : FuncData} {ps : List Str} {x : Str} {p : Pos} {gD : List D → List D → List D} {ff : List D → T D} (F : FnG X.prog X.w X.K X.mg X.base k f fd ps (spT j ff)) (hr : Rm k X.A) (hg : Gl X x) (hm : X.mg x = some (.ref f)) (hk : PySem.W.keepIn X.K (.ref f) = true) (hb : Bd X.K fd ps n [] gD) (hn : (e :: es).length = n) (hl : ∀ ds es, ds.length = n → es.length = 0 → (gD ds es).length = j) (ha : TA X W (e :: es) o B h)
    (hdb : (x == ("__debug__" : Str)) = false := by decide) (he : starEach (e :: es) X.env = (false, eval e X.env) :: starEach es X.env := by rfl) (hpl : (backTo pos (starEach es X.env)).any (·.1) = false := by rfl) : DE X W (.Call (.Name x p) (e :: es) [] pos) (tE W o B (fCall ff gD h fNil)) :=
  ((de_call F hr hg hm hk hb ha.da hdb he hpl).imp' fun r M Q hh => by
    have := call_ok (kes := []) hl (fun l M Q E k => by have := ha.len l M Q E k; rw [hn] at this; exact this) (fun l M Q E k => (xa_nil (X := X) (W := W) (o := o) (B := B)).len l M Q E k) r M Q hh
    obtain ⟨l, w, kk⟩ := this
    exact ⟨l, w, T.go_imp kk fun ds ⟨l', w', q⟩ => q⟩)
theorem te_call0 {k j : Nat} {f : Addr} {fd : FuncData} {ps : List Str} {x : Str} {p : Pos} {gD : List D → List D → List D} {ff : List D → T D} (F : FnG X.prog X.w X.K X.mg X.base k f fd ps (spT j ff)) (hr : Rm k X.A) (hg : Gl X x) (hm : X.mg x = some (.ref f)) (hk : PySem.W.keepIn X.K (.ref f) = true) (hb : Bd X.K fd ps 0 [] gD) (hl : (gD [] []).length = j)
    (hdb : (x == ("__debug__" : Str)) = false := by decide) : DE X W (.Call (.Name x p) [] [] pos) (tE W o B (fCall ff gD fNil fNil)) :=
  (de_call0 F hr hg hm hk hb hdb).imp' fun r M Q ⟨l, w, kk⟩ => ⟨rfl, rfl, hl, T.go_mono kk (fun p z => w.less.pool p z) (fun _ z => z) fun _ _ z => z⟩
structure TK (X : Cx) (W : DWX) (kws : List Keyword) (o : List Nat) (B : Bx) (h : FA) : Prop where
  dk : DK X W kws (tA W o B h)
  len : ∀ l M Q E, (h l).go M Q E → (h l).go M (fun ds => ds.length = kws.length ∧ Q ds) E
def isC (C : Addr) : D → Bool
  | .ins C' _ => decide (C' = C)
  | .obj C' _ => decide (C' = C)
  | _ => false
theorem isC_ok {C : Addr} {d : D} {M : Mh} (h : isC C d = true) : clsI M d = some C := by
  cases d with
  | ins C' ds => exact congrArg some (of_decide_eq_true h)
  | obj C' ds => exact congrArg some (of_decide_eq_true h)
  | _ => cases h
def fProp (C : Addr) (ff : List D → T D) (f : FE) : FE := fun l => (f l).bind fun x => .gd (isC C x) (ff [x]).nx
theorem te_prop {k : Nat} {C p gA : Addr} {fn : Str} {fd : FuncData} {ps : List Str} {gD : List D → List D → List D} {ff : List D → T D} (he : DE X W e (tE W o B f)) (hp : PropC X.K C fn p gA) (F : FnG X.prog X.w X.K X.mg X.base k gA fd ps (spT 1 ff)) (hr : Rm (k + 1) X.A) (hb : Bd X.K fd ps 1 [] gD) (hg : ∀ x, gD [x] [] = [x] := by intro _; rfl)
    (hab : attributeBase e fn X.env (eval e X.env) = eval e X.env := by rfl) : DE X W (.Attribute e fn pos) (tE W o B (fProp C ff f)) :=
  (de_prop he hp F hr hb hg hab).imp' fun r M Q ⟨l, w, kk⟩ => ⟨l, w, T.go_imp (T.go_bind.mp kk) fun d q => by
    obtain ⟨q1, q2⟩ := T.go_gd.mp q
    exact ⟨isC_ok q1, rfl, T.go_mono (T.go_nx.mp q2) (fun p z => w.less.pool p z) (fun _ z => z) fun _ _ z => z⟩⟩
def pSlot (C : Addr) (i : Nat) : D → Option D
  | .ins C' ds => match decide (C' = C) with
    | true => ds[i]?
    | false => none
  | _ => none
theorem te_slot {p C : Addr} {i : Nat} {fn : Str} (c : SlX.SCls X.K C) (t : SlX.Slot1 X.K C fn p i) (he : DE X W e (tE W o B f)) (hab : attributeBase e fn X.env (eval e X.env) = eval e X.env := by rfl) : DE X W (.Attribute e fn pos) (tE W o B (f1 (pSlot C i) f)) :=
  (de_slot c t he hab).imp' fun r M Q ⟨l, w, kk⟩ => ⟨l, w, T.go_imp (T.go_bind.mp kk) fun d q => by
    obtain ⟨y, e, q'⟩ := T.go_ofO.mp q
    clear q
    unfold pSlot at e
    split at e
    · split at e
      · rename_i h
        exact ⟨of_decide_eq_true h, y, e, q'⟩
      · cases e
    · cases e⟩
end
def runT (t : T Ct) : T D := t.nx.bind fun c => match c with
  | .nx _ => .v .non
  | .rt d => .v d
  | .rs C fs _ => .x C fs
  | _ => .no
theorem start_lw {o : List Nat} {M : Mh} {N : List Str} {ds : List D} {b : Bool} (ho : ∀ i ∈ o, ds.length ≤ i) : Lw o ⟨M, none, fun _ => True, b⟩ (startD N ds) M (startD N ds) where
  len := rfl
  less := Less.refl
  j := trivial
  pl := fun _ _ _ h => h
  ow := fun i d hi h => by
    have h1 : ds.length ≤ i := ho i hi
    unfold startD at h
    rw [List.getElem?_append_right (by rw [List.length_map]; exact h1), List.getElem?_replicate] at h
    split at h <;> cases h
  dis := fun i j p d e hi hj h _ _ _ => by
    have h1 : ds.length ≤ i := ho i hi
    unfold startD at h
    rw [List.getElem?_append_right (by rw [List.length_map]; exact h1), List.getElem?_replicate] at h
    split at h <;> cases h
theorem t_def {P : Program} {w : World} {K : PySem.W.Frag} {mg : Str → Option Value} {base : Heap} {k : Nat} {f : Addr} {x qual : Str} {params : Arguments} {body : List Stmt} {scope : Scope} {dvs : List V} {kws : List (Str × V)} {fd : FuncData} {N ps : List Str} {o : List Nat} {n : Nat} {fs : FS}
    (F : FunD K x qual params body scope dvs kws f fd) (S : FnScope N ps scope) (hn : n = ps.length) (ho : ∀ i ∈ o, n ≤ i)
    (hbody : ∀ (cdv : Value) (A : Around) (outer : List Env) (s : Shared) (H Z : Hp) (M : Mh) (E : DXK) (E1 : XK), Rm k (A.deeper (envOfC qual scope s.heap.objs.size f cdv)) →
      DSs (cxOf (L2.CX P w) P w K mg base N qual scope f cdv A outer s H E1) (fun cls fs _ M' => XLess E cls fs M') body (tS (fun cls fs _ M' => XLess E cls fs M') o ⟨M, none, fun _ => True, false⟩ fs)) : FnG P w K mg base (k + 1) f fd ps (spT n fun ds => runT (fs (startD N ds))) := by
  refine fng_of F S (fun ds M Q E h => h.1.trans hn) fun cdv A outer s H Z ds M Q E E1 hr h => ⟨_, hbody cdv A outer s H Z M E E1 hr, startD N ds, start_lw (fun i hi => by rw [h.1]; exact ho i hi), ?_⟩
  refine T.go_mono (T.go_nx.mp (T.go_bind.mp h.2)) (fun _ z => z) (fun c hc => ?_) fun C fs z => z
  · cases c with
    | nx l => exact fun r M' w' => ⟨M, w'.less, .inl hc⟩
    | rt d =>
      intro d' M' hl hd
      rcases hd with ⟨_, rfl⟩ | ⟨p, ds, rfl, e1, rfl, e3⟩
      · exact ⟨M, hl, .inl hc⟩
      · exact ⟨M, hl, .inr ⟨p, ds, rfl, e3, e1, hc⟩⟩
    | rs C fs l => exact fun r M' w' => ⟨M, w'.less, hc⟩
    | bk l => exact hc.elim
    | ct l => exact hc.elim
end DL

set_option maxHeartbeats 2000000
namespace DL
open PySem PySem.Spec PyProof.Rows L2

section
variable {X : Cx} {W : DWX}
def p1 (g : D → Option D) : List D → Option D
  | [d] => g d
  | _ => none
def p2 (g : D → D → Option D) : List D → Option D
  | [d, e] => g d e
  | _ => none
theorem pv1 {M : Mh} {g : D → Option D} {ds' ds : List D} {d : D} (h : Paired (Vw M) ds' ds) (e : p1 g ds = some d) : ∃ x' x, ds' = [x'] ∧ Vw M x' x ∧ g x = some d := by
  cases h with
  | nil => cases e
  | cons h1 h2 =>
    cases h2 with
    | nil => exact ⟨_, _, rfl, h1, e⟩
    | cons _ _ => cases e
theorem pv2 {M : Mh} {g : D → D → Option D} {ds' ds : List D} {d : D} (h : Paired (Vw M) ds' ds) (e : p2 g ds = some d) : ∃ x' y' x y, ds' = [x', y'] ∧ Vw M x' x ∧ Vw M y' y ∧ g x y = some d := by
  cases h with
  | nil => cases e
  | cons h1 h2 =>
    cases h2 with
    | nil => cases e
    | cons h3 h4 =>
      cases h4 with
      | nil => exact ⟨_, _, _, _, rfl, h1, h3, e⟩
      | cons _ _ => cases e
def pLen : D → Option D
  | .str x => og (szOk x.length) (.int x.length)
  | d => (sq d).map fun es => .int es.length
theorem b_len : OpN X W (.builtin "len") (p1 pLen) := ⟨_, c_len, fun M ds' ds d Q hp e q => by
  obtain ⟨x', x, rfl, hv, e⟩ := pv1 hp e
  unfold pLen at e
  split at e
  · obtain ⟨e1, e2⟩ := og_s.mp e
    subst e2
    rw [hv.str]
    exact ⟨of_decide_eq_true e1, q⟩
  · obtain ⟨es, e1, e2⟩ := Option.map_eq_some_iff.mp e
    subst e2
    have hs := hv.seqOf e1
    have nstr : ∀ b, x' ≠ .str b := fun b z => by
      subst z
      rcases hv with rfl | ⟨p, mo, z, _, _⟩
      · cases e1
      · cases z
    unfold aLen
    split
    · rename_i h; cases h; exact absurd rfl (nstr _)
    · rename_i h; cases h; exact ⟨es, hs, q⟩
    · rename_i h2 h3; exact h3 _ rfl⟩
def pList (d : D) : Option D := (sq d).map .lst
theorem b_list : OpN X W (.type "list") (p1 pList) := ⟨_, c_list, fun M ds' ds d Q hp e q => by
  obtain ⟨x', x, rfl, hv, e⟩ := pv1 hp e
  obtain ⟨es, e1, e2⟩ := Option.map_eq_some_iff.mp e
  subst e2
  exact ⟨es, hv.seqOf e1, q⟩⟩
def lsD : D → Option (List D)
  | .lst ds => some ds
  | .scr ns => some (ns.map .int)
  | _ => none
theorem Vw.lsOf {M : Mh} {x' x : D} {ds : List D} (h : Vw M x' x) (e : lsD x = some ds) : DL.lstOf M x' = some ds := by
  unfold lsD at e
  split at e
  · cases e; exact h.lstOf
  · cases e; rw [h.scr]; rfl
  · cases e
def pAll (d : D) : Option D := (lsD d).bind fun es => (blsD es).map fun ns => .bl (ns.all id)
theorem b_all (hc : X.calm = true) : OpN X W (.builtin "all") (p1 pAll) := ⟨_, c_all hc, fun M ds' ds d Q hp e q => by
  obtain ⟨x', x, rfl, hv, e⟩ := pv1 hp e
  obtain ⟨es, e1, e2⟩ := Option.bind_eq_some_iff.mp e
  obtain ⟨ns, e3, e4⟩ := Option.map_eq_some_iff.mp e2
  subst e4
  exact ⟨es, ns, hv.lsOf e1, e3, q⟩⟩
def showB (p : PyData) : Bool := p.showable && (decide (p.shown.length ≤ sizeLine) && decide (p.depth ≤ 60))
theorem showB_ok {p : PyData} (h : showB p = true) : ShowOk p := by
  unfold showB at h
  rw [Bool.and_eq_true, Bool.and_eq_true] at h
  exact ⟨h.1, of_decide_eq_true h.2.1, of_decide_eq_true h.2.2⟩
def pRepr : D → Option D
  | .lst es => match py (.lst es) with
    | some p => og (showB p) (.str p.shown)
    | none => none
  | .tup es => match py (.tup es) with
    | some p => og (showB p) (.str p.shown)
    | none => none
  | .dic es => match py (.dic es) with
    | some p => og (showB p) (.str p.shown)
    | none => none
  | _ => none
def OpNs (X : Cx) (W : DWX) (f : Value) (g : List D → Option D) : Prop := ∃ o, DCall X W f o ∧ ∀ (M : Mh) (ds : List D) (d : D) (Q : QD), g ds = some d → Q d M → o ds M Q
theorem b_repr {k : Nat} (hr : Rm k X.A) (hsy : (X.K.lookup sysModules).isSome = true) : OpNs X W (.builtin "repr") (p1 pRepr) := ⟨_, c_repr hr hsy, fun M ds d Q e q => by
  unfold p1 at e
  split at e
  · unfold pRepr at e
    split at e
    · split at e
      · rename_i p e1
        obtain ⟨e2, e3⟩ := og_s.mp e
        subst e3
        exact ⟨p, e1, showB_ok e2, q⟩
      · cases e
    · split at e
      · rename_i p e1
        obtain ⟨e2, e3⟩ := og_s.mp e
        subst e3
        exact ⟨p, e1, showB_ok e2, q⟩
      · cases e
    · split at e
      · rename_i p e1
        obtain ⟨e2, e3⟩ := og_s.mp e
        subst e3
        exact ⟨p, e1, showB_ok e2, q⟩
      · cases e
    · cases e
  · cases e⟩
def tyN : D → Option Value := tyD fun _ => none
def okTy (cs : List Addr) : Value → Bool
  | .ref C => decide (C ∈ cs)
  | _ => true
def pIsi (K : PySem.W.Frag) (cs : List Addr) (d c : D) : Option D := match tyN d, clsD c with
  | some t, some u => match PySem.W.kitOne K t u with
    | some b => og (okTy cs t) (.bl b)
    | none => none
  | _, _ => none
theorem Vw.ty {M : Mh} {x' x : D} {t : Value} (h : Vw M x' x) (e : tyN x = some t) : tyD M x' = some t := by
  rcases h with rfl | ⟨p, mo, rfl, m, hp⟩
  · cases x' <;> first | exact e | cases e
  · show (match M p with | some (.lst _) => some (Value.type "list") | some .pool => some (.type "list") | some (.dic _) => some (.type "dict") | some (.ins C _ _) => some (.ref C) | some (.slt C _ _) => some (.ref C) | none => none) = _
    rw [hp]
    cases m <;> exact e
theorem b_isi {cs : List Addr} (hcs : ∀ C ∈ cs, IsiC X.K C) : OpN X W (.builtin "isinstance") (p2 (pIsi X.K cs)) := ⟨_, c_isi, fun M ds' ds d Q hp e q => by
  obtain ⟨x', y', x, y, rfl, hv, hw, e⟩ := pv2 hp e
  unfold pIsi at e
  split at e
  · rename_i t u e1 e2
    split at e
    · rename_i b e3
      obtain ⟨e4, e5⟩ := og_s.mp e
      subst e5
      refine ⟨t, u, b, hv.ty e1, fun C ec => ?_, ?_, e3, q⟩
      · subst ec
        exact hcs C (of_decide_eq_true e4)
      · rcases hw with rfl | ⟨p, mo, rfl, m, _⟩
        · exact e2
        · cases m <;> cases e2
    · cases e
  · cases e⟩
def q1 (g : D → D → Option D) : D → List D → Option D
  | x, [d] => g x d
  | _, _ => none
def pSplit : D → D → Option D
  | .str a, .str b => og (!(b.length == 0) && szOk (a.length + 2)) (.lst ((Txt.split a b).map D.str))
  | _, _ => none
end
section
variable {X : Cx} {W : DWX} {o : List Nat} {B : Bx} {e a b c : Expr} {es rest : List Expr} {f fa fb fc : FE} {g ga gb : FT} {h hk : FA} {pos : Pos} {kws : List Keyword}
theorem te_callBs {x : Str} {p : Pos} {id : String} {g : List D → Option D} (hc : OpNs X W (.builtin id) g) (hg : Gl X x) (hm : X.mg x = none) (hv : bootBuiltins x = some (.builtin id)) (ha : DA X W (e :: es) (tA W o B h)) (hn : x ≠ "__name__" := by decide) (hdb : (x == ("__debug__" : Str)) = false := by decide)
    (he : starEach (e :: es) X.env = (false, eval e X.env) :: starEach es X.env := by rfl) (hpl : (backTo pos (starEach es X.env)).any (·.1) = false := by rfl) : DE X W (.Call (.Name x p) (e :: es) [] pos) (tE W o B (fCB g h)) := by
  obtain ⟨o', h1, h2⟩ := hc
  exact (de_callB h1 hg hm hv ha hn hdb he hpl).imp' fun r M Q ⟨l, w, k⟩ => ⟨l, w, T.go_imp (T.go_bind.mp k) fun ds q => by
    obtain ⟨d, e, q⟩ := T.go_ofO.mp q
    exact h2 M ds d Q e q⟩
theorem xk_nil : TK X W [] o B fNil := ⟨⟨fun pos pins s st H Z r M Q I q ⟨l, w, k⟩ => dk_nil.run pos pins s st H Z r M Q I q k⟩, fun l M Q E k => ⟨rfl, k⟩⟩
theorem xk_cons {nm : Option Str} {kpos : Pos} (ha : DE X W e (tE W o B f)) (hr : TK X W kws o B h) : TK X W (⟨nm, e, kpos⟩ :: kws) o B (fCo f h) :=
  ⟨⟨fun pos pins s st H Z r M Q I q ⟨l, w, k⟩ => (dk_cons ha hr.dk).run pos pins s st H Z r M Q I q ⟨l, w, T.go_imp (T.go_bind.mp k) fun x h => ⟨l, w, T.go_imp (T.go_bind.mp h) fun y h => h⟩⟩⟩,
   fun l M Q E k => T.go_bind.mpr (T.go_imp (T.go_bind.mp k) fun d q => T.go_bind.mpr (T.go_imp (hr.len l M _ E (T.go_bind.mp q)) fun ds q => ⟨congrArg (· + 1) q.1, q.2⟩))⟩
def allSet : D → Bool
  | .ins _ ds => ds.all fun d => (unD d).isSome
  | .obj _ _ => true
  | _ => false
def spI (C : Addr) (mk : Addr → Addr → Addr → MO) (n : Nat) (g : List D → T D) : DSp := fun ds M Q E => ∃ x dx as, ds = .ref x :: as ∧ as.length = n ∧ M x = some (mk C x dx) ∧
  (g as).go (mdel M x) (fun fin => ∀ mo, MoD fin mo → dxIs dx mo → Q .non (mset (mdel M x) x mo)) (fun c fs => E c fs (mdel M x))
theorem unD_all {ds : List D} (h : (ds.all fun d => (unD d).isSome) = true) : ds.map unD = ds.map some := by
  refine List.map_congr_left fun d hd => ?_
  have := List.all_eq_true.mp h d hd
  unfold unD at this ⊢
  split at this
  · cases this
  · rfl
theorem made_ok {C x dx : Addr} {M : Mh} {mo : MO} {Q : QD} {fin : D} (ha : allSet fin = true) (hc : isC C fin = true) (hm : MoD fin mo) (hd : dxIs dx mo) (hx : M x = none) (hQ : Q fin M) : MadeQ Q C x dx .non (mset M x mo) := by
  have hmd : ∀ mo, mdel (mset M x mo) x = M := fun mo => mdel_mset hx
  refine ⟨rfl, ?_⟩
  cases hm with
  | lst _ => cases ha
  | dic _ => cases ha
  | obj C' dx' fs =>
    have e1 : C' = C := of_decide_eq_true hc
    have e2 : dx' = dx := hd
    subst e1 e2
    exact .inr (.inr ⟨fs, mset_same, by rw [hmd]; exact hQ⟩)
  | slt C' dx' ds =>
    have e1 : C' = C := of_decide_eq_true hc
    have e2 : dx' = dx := hd
    subst e1 e2
    exact .inl ⟨ds, by rw [mset_same, unD_all ha], by rw [hmd]; exact hQ⟩
def mkT (C : Addr) (g : List D → T D) (as : List D) : T D := (g as).bind fun fin => .gd (allSet fin && isC C fin) (.v fin)
def fMake (C : Addr) (g : List D → T D) (gT : List D → List D → List D) (h hk : FA) : FE := fun l => (h l).bind fun ds => (hk l).bind fun es => mkT C g (gT ds es)
theorem make_ok {n m j : Nat} {C : Addr} {mk : Addr → Addr → Addr → MO} {g : List D → T D} {gD gT : List D → List D → List D} {h hk : FA} (hgT : ∀ x ds es, ds.length = n → es.length = m → gD (x :: ds) es = x :: gT ds es ∧ (gT ds es).length = j)
    (l1 : ∀ l M Q E, (h l).go M Q E → (h l).go M (fun ds => ds.length = n ∧ Q ds) E) (l2 : ∀ l M Q E, (hk l).go M Q E → (hk l).go M (fun ds => ds.length = m ∧ Q ds) E)
    (r : Rho) (M : Mh) (Q : QD) (hh : tE W o B (fMake C g gT h hk) r M Q) : dMake W C (spI C mk j g) mk n m gD (tA W o B h) (tA W o B hk) r M Q := by
  obtain ⟨l, w, kk⟩ := hh
  refine ⟨l, w, T.go_imp (l1 l _ _ _ (T.go_bind.mp kk)) fun ds q => ⟨l, w, T.go_imp (l2 l _ _ _ (T.go_bind.mp q.2)) fun es q2 => ⟨q.1, q2.1, fun x dx ex edx ne => ?_⟩⟩⟩
  obtain ⟨e1, e2⟩ := hgT (.ref x) ds es q.1 q2.1
  refine ⟨x, dx, gT ds es, e1, e2, mset_same, ?_⟩
  have hmd : mdel (mset M x (mk C x dx)) x = M := mdel_mset ex
  rw [hmd]
  refine T.go_mono (T.go_bind.mp q2.2) (fun p z => w.less.pool p z) (fun fin hf mo hm hd => ?_) fun c fs z => XLess.here z
  obtain ⟨g1, g2⟩ := T.go_gd.mp hf
  rw [Bool.and_eq_true] at g1
  exact made_ok g1.1 g1.2 hm hd ex g2
theorem te_make {k n j : Nat} {C gA : Addr} {mk : Addr → Addr → Addr → MO} {fd : FuncData} {ps : List Str} {x : Str} {p : Pos} {gD gT : List D → List D → List D} {g : List D → T D} (mkc : Mk X.K C gA) (F : FnG X.prog X.w X.K X.mg X.base k gA fd ps (spI C mk j g)) (hr : Rm (k + 1) X.A) (hg : Gl X x) (hm : X.mg x = some (.ref C)) (hb : Bd X.K fd ps (n + 1) [] gD)
    (hmk : mk = newS ∨ mk = newI) (hn : (e :: es).length = n) (hgT : ∀ x ds es, ds.length = n → es.length = 0 → gD (x :: ds) es = x :: gT ds es ∧ (gT ds es).length = j) (ha : TA X W (e :: es) o B h)
    (hdb : (x == ("__debug__" : Str)) = false := by decide) (he : starEach (e :: es) X.env = (false, eval e X.env) :: starEach es X.env := by rfl) (hpl : (backTo pos (starEach es X.env)).any (·.1) = false := by rfl) :
    DE X W (.Call (.Name x p) (e :: es) [] pos) (tE W o B (fMake C g gT h fNil)) :=
  (de_make mkc F hr hg hm hb hmk ha.da hdb he hpl).imp' fun r M Q hh => by
    obtain ⟨l, w, kk⟩ := make_ok hgT (fun l M Q E k => by have := ha.len l M Q E k; rw [hn] at this; exact this) (fun l M Q E k => (xa_nil (X := X) (W := W) (o := o) (B := B)).len l M Q E k) r M Q hh
    exact ⟨l, w, T.go_imp kk fun ds ⟨l', w', q⟩ => q⟩
theorem te_makeK {k n j : Nat} {C gA : Addr} {mk : Addr → Addr → Addr → MO} {fd : FuncData} {ps ks : List Str} {x : Str} {p : Pos} {gD gT : List D → List D → List D} {g : List D → T D} (mkc : Mk X.K C gA) (F : FnG X.prog X.w X.K X.mg X.base k gA fd ps (spI C mk j g)) (hr : Rm (k + 1) X.A) (hg : Gl X x) (hm : X.mg x = some (.ref C)) (hb : Bd X.K fd ps (n + 1) ks gD)
    (hmk : mk = newS ∨ mk = newI) (hn : (e :: es).length = n) (hnk : kws.length = ks.length) (hgT : ∀ x ds es, ds.length = n → es.length = ks.length → gD (x :: ds) es = x :: gT ds es ∧ (gT ds es).length = j) (ha : TA X W (e :: es) o B h) (hw : TK X W kws o B hk)
    (hall : (backToKw pos (keywordEach kws X.env)).all (·.1.isSome) = true := by rfl) (hks : (backToKw pos (keywordEach kws X.env)).filterMap (·.1) = ks := by rfl)
    (hdb : (x == ("__debug__" : Str)) = false := by decide) (he : starEach (e :: es) X.env = (false, eval e X.env) :: starEach es X.env := by rfl)
    (hpl : ((backTo pos (starEach (e :: es) X.env)).any (·.1) || (backToKw pos (keywordEach kws X.env)).any (·.1.isNone)) = false := by rfl) : DE X W (.Call (.Name x p) (e :: es) kws pos) (tE W o B (fMake C g gT h hk)) :=
  (de_makeK mkc F hr hg hm hb hmk ha.da hw.dk hall hks hdb he hpl).imp' fun r M Q hh => make_ok hgT (fun l M Q E k => by have := ha.len l M Q E k; rw [hn] at this; exact this) (fun l M Q E k => by have := hw.len l M Q E k; rw [hnk] at this; exact this) r M Q hh
theorem te_makeK0 {k j : Nat} {C gA : Addr} {mk : Addr → Addr → Addr → MO} {fd : FuncData} {ps ks : List Str} {x : Str} {p : Pos} {gD gT : List D → List D → List D} {g : List D → T D} (mkc : Mk X.K C gA) (F : FnG X.prog X.w X.K X.mg X.base k gA fd ps (spI C mk j g)) (hr : Rm (k + 1) X.A) (hg : Gl X x) (hm : X.mg x = some (.ref C)) (hb : Bd X.K fd ps 1 ks gD)
    (hmk : mk = newS ∨ mk = newI) (hnk : kws.length = ks.length) (hgT : ∀ x ds es, ds.length = 0 → es.length = ks.length → gD (x :: ds) es = x :: gT ds es ∧ (gT ds es).length = j) (hw : TK X W kws o B hk)
    (hall : (backToKw pos (keywordEach kws X.env)).all (·.1.isSome) = true := by rfl) (hks : (backToKw pos (keywordEach kws X.env)).filterMap (·.1) = ks := by rfl)
    (hdb : (x == ("__debug__" : Str)) = false := by decide) (hpl : ((backTo pos (starEach [] X.env)).any (·.1) || (backToKw pos (keywordEach kws X.env)).any (·.1.isNone)) = false := by rfl) : DE X W (.Call (.Name x p) [] kws pos) (tE W o B (fMake C g gT fNil hk)) :=
  (de_makeK0 mkc F hr hg hm hb hmk hw.dk hall hks hdb hpl).imp' fun r M Q hh => by
    obtain ⟨l, w, kk⟩ := make_ok hgT (fun l M Q E k => (xa_nil (X := X) (W := W) (o := o) (B := B)).len l M Q E k) (fun l M Q E k => by have := hw.len l M Q E k; rw [hnk] at this; exact this) r M Q hh
    exact kk
def isSet (y : D) : Bool := (unD y).isSome
def putI (i : Nat) (y : D) (ds : List D) : List D := (ds ++ List.replicate (i + 1 - ds.length) (D.ty "")).set i y
theorem putI_un {i : Nat} {y : D} {ds : List D} (h : isSet y = true) : (putI i y ds).map unD = putD i y (ds.map unD) := by
  have hy : unD y = some y := by
    unfold isSet unD at h
    unfold unD
    split at h
    · cases h
    · rfl
  unfold putI putD
  rw [List.map_set, List.map_append, List.map_replicate, hy, List.length_map]
  rfl
def lkI (l : Rho) (C : Addr) : T (List D) := match (l[(0 : Nat)]? : Option (Option D)) with
  | some (some (.ins C' ds)) => .gd (decide (C' = C)) (.v ds)
  | _ => .no
def fSelfS (C : Addr) (i : Nat) (f : FE) : FS := fun l => (f l).sx l fun y => .gd (isSet y) ((lkI l C).bind fun ds => .v (.nx (l.set 0 (some (.ins C (putI i y ds))))))
theorem Lw.atI {r : Rho} {M : Mh} {l : Rho} {C : Addr} {P : List D → Prop} {E} (w : Lw o B r M l) (hi : 0 ∈ o) (h : (lkI l C).go B.m P E) : ∃ p dx ds, l[(0 : Nat)]? = some (some (D.ins C ds)) ∧ r[0]? = some (some (.ref p)) ∧ M p = some (.slt C dx (ds.map unD)) ∧ B.m p = none ∧ B.S 0 p (.slt C dx (ds.map unD)) ∧ P ds := by
  unfold lkI at h
  split at h
  · rename_i C' ds e
    obtain ⟨h1, h2⟩ := T.go_gd.mp h
    have h1 := of_decide_eq_true h1
    subst h1
    obtain ⟨p, mo, e2, e3, e4, e5, e6⟩ := w.ow 0 _ hi e
    cases e3 with
    | slt C' dx ds => exact ⟨p, dx, ds, e, e2, e4, e5, e6, h2⟩
  · exact h.elim
theorem Bx.S_dx {i : Nat} {p : Addr} {mo mo' : MO} (h : B.S i p mo) (k : ∀ dx, dxIs dx mo → dxIs dx mo') : B.S i p mo' := by
  unfold Bx.S at h ⊢
  split
  · trivial
  · rename_i x dx e
    rw [e] at h
    exact fun hi => ⟨(h hi).1, k _ (h hi).2⟩
theorem ts_selfS {p C : Addr} {i : Nat} {x fn : Str} {p1 pos' : Pos} {value : Expr} (ho : 0 ∈ o) (c : SlX.SCls X.K C) (t : SlX.Slot1 X.K C fn p i) (hv : DE X W value (tE W o B f)) (hN : X.N[0]? = some x := by rfl) (hvs : Vis X.env.scope x := by first | exact Or.inl rfl | exact Or.inr (Or.inl rfl) | exact Or.inr (Or.inr rfl))
    (hd : (x == ("__debug__" : Str)) = false := by decide) (hcd : (x == ("__classdict__" : Str)) = false := by decide) (hs : swapsWith value (some (.Attribute (.Name x p1) fn pos')) pos.line X.env = pure false := by rfl) :
    DS X W (.Assign [.Attribute (.Name x p1) fn pos'] value pos) (tS W o B (fSelfS C i f)) :=
  (ds_slot c t (dv 0 hN hvs hd hcd) hv hs).imp' fun E r M ⟨l, w, k⟩ => ⟨l, w, sx_use w k fun y q => by
    obtain ⟨q1, q2⟩ := T.go_gd.mp q
    obtain ⟨p, dx, ds, e0, e1, e2, e3, e4, q3⟩ := w.atI ho (T.go_bind.mp q2)
    unfold dVar
    rw [e1]
    refine ⟨p, dx, _, rfl, e2, ?_⟩
    rw [← putI_un q1]
    exact q3 r _ (w.upd ho e0 e1 e3 (.slt C dx _) (Bx.S_dx e4 fun _ z => z))⟩
def fRaise (C : Addr) (fn : Str) (h : FA) : FS := fun l => (h l).sx l fun ds => match ds with
  | [y] => .v (.rs (.ref C) [(fn, y)] l)
  | _ => .no
theorem ts_raise {x fn y : Str} {C fI : Addr} {fd : FuncData} {p p5 p6 : Pos} (hc : X.calm = true) (T : Exc1 X.K C fI fn) (F1 : FnOk X.prog X.w X.K X.mg X.base (fun _ _ _ _ _ _ => False) 1 fI fd ["self", y] (initSp X.K fn)) (hr : Rm 2 X.A)
    (hb : ∀ us : List Value, us.length = 2 → bindArgs fd ⟨us, []⟩ = pure ((["self", y] : List Str).zip us)) (hg : Gl X x) (hm : X.mg x = some (.ref C)) (ha : DA X W [e] (tA W o B h))
    (hdb : (x == ("__debug__" : Str)) = false := by decide) (he : starEach [e] X.env = (false, eval e X.env) :: starEach [] X.env := by rfl) : DS X W (.Raise (some (.Call (.Name x p) [e] [] p5)) none p6) (tS W o B (fRaise C fn h)) :=
  (ds_raise hc T F1 hr hb hg hm ha hdb he).imp' fun E r M ⟨l, w, k⟩ => ⟨l, w, sx_use w k fun ds q => by
    split at q
    · exact ⟨_, rfl, q r M w⟩
    · exact q.elim⟩
end
def runI (t : T Ct) : T D := t.nx.bind fun c => match c with
  | .nx l => lk l 0
  | .rs C fs _ => .x C fs
  | _ => .no
def selfD : (Addr → Addr → Addr → MO) → Addr → D → Prop := fun mk C d => ∀ x dx, MoD d (mk C x dx)
theorem selfS {C : Addr} : selfD newS C (.ins C []) := fun x dx => .slt C dx []
theorem startI_lw {o : List Nat} {M : Mh} {N : List Str} {as : List D} {x dx : Addr} {d0 : D} {mo : MO} (hm : MoD d0 mo) (hM : M x = some mo) (hd : dxIs dx mo) (h0 : 0 ∈ o) (ho : ∀ i ∈ o, i = 0 ∨ as.length + 1 ≤ i) : Lw o ⟨mdel M x, some (x, dx), fun _ => True, false⟩ (startD N (.ref x :: as)) M (startD N (d0 :: as)) := by
  have hN : ∀ i, i ≠ 0 → (startD N (.ref x :: as))[i]? = (startD N (d0 :: as))[i]? := fun i hi => by
    obtain ⟨j, rfl⟩ : ∃ j, i = j + 1 := ⟨i - 1, by omega⟩
    rfl
  have hb : ∀ i d, as.length + 1 ≤ i → (startD N (d0 :: as))[i]? ≠ some (some d) := fun i d h1 h => by
    unfold startD at h
    rw [List.getElem?_append_right (by rw [List.length_map]; exact h1), List.getElem?_replicate] at h
    split at h <;> cases h
  have key : ∀ i d, i ∈ o → (startD N (d0 :: as))[i]? = some (some d) → i = 0 := fun i d hi h => (ho i hi).elim id fun z => absurd h (hb i d z)
  refine ⟨rfl, less_del, trivial, fun i d hi h => ?_, fun i d hi h => ?_, fun i j p d e hi hj h1 h2 _ _ => by rw [key i d hi h1, key j e hj h2]⟩
  · rw [hN i (fun z => hi (z ▸ h0))]; exact h
  · have := key i d hi h
    subst this
    cases h
    exact ⟨x, mo, rfl, hm, hM, mdel_same, fun _ => ⟨rfl, hd⟩⟩
theorem t_init {P : Program} {w : World} {K : PySem.W.Frag} {mg : Str → Option Value} {base : Heap} {k : Nat} {f C : Addr} {x qual : Str} {params : Arguments} {body : List Stmt} {scope : Scope} {dvs : List V} {kws : List (Str × V)} {fd : FuncData} {N ps : List Str} {o : List Nat} {n : Nat} {fs : FS} {mk : Addr → Addr → Addr → MO} {d0 : D}
    (F : FunD K x qual params body scope dvs kws f fd) (S : FnScope N ps scope) (hn : n + 1 = ps.length) (hmk : selfD mk C d0) (hdx : ∀ x dx, dxIs dx (mk C x dx)) (h0 : 0 ∈ o) (ho : ∀ i ∈ o, i = 0 ∨ n + 1 ≤ i)
    (hbody : ∀ (cdv : Value) (A : Around) (outer : List Env) (s : Shared) (H Z : Hp) (m : Mh) (sf : Option (Addr × Addr)) (E : DXK) (E1 : XK), Rm k (A.deeper (envOfC qual scope s.heap.objs.size f cdv)) →
      DSs (cxOf (L2.CX P w) P w K mg base N qual scope f cdv A outer s H E1) (fun cls fs _ M' => XLess E cls fs M') body (tS (fun cls fs _ M' => XLess E cls fs M') o ⟨m, sf, fun _ => True, false⟩ fs)) : FnG P w K mg base (k + 1) f fd ps (spI C mk n fun as => runI (fs (startD N (d0 :: as)))) := by
  refine fng_of F S (fun ds M Q E ⟨x, dx, as, e, l, _⟩ => by rw [e, List.length_cons, l, hn]) fun cdv A outer s H Z ds M Q E E1 hr ⟨x, dx, as, e, l, hM, h⟩ => ?_
  subst e
  refine ⟨_, hbody cdv A outer s H Z (mdel M x) (some (x, dx)) E E1 hr, startD N (d0 :: as), startI_lw (hmk x dx) hM (hdx x dx) h0 (fun i hi => by rw [l]; exact ho i hi), ?_⟩
  refine T.go_mono (T.go_nx.mp (T.go_bind.mp h)) (fun _ z => z) (fun c hc => ?_) fun C fs z => z
  cases c with
  | nx l =>
    intro r M' w'
    show RetQ Q .non M'
    have hc : (lk l 0).go (mdel M x) (fun fin => ∀ mo, MoD fin mo → dxIs dx mo → Q .non (mset (mdel M x) x mo)) (fun c fs => E c fs (mdel M x)) := hc
    unfold lk at hc
    split at hc
    · rename_i d e
      obtain ⟨p, mo, e2, e3, e4, e5, e6⟩ := w'.ow 0 d h0 e
      obtain ⟨rfl, e7⟩ := e6 rfl
      refine ⟨_, fun a => ?_, .inl (hc mo e3 e7)⟩
      by_cases ha : a = p
      · subst ha; rw [mset_same, e4]; exact .inl rfl
      · rw [mset_ne ha]; exact w'.less a
    · exact hc.elim
  | rt d => exact hc.elim
  | rs C fs l => exact fun r M' w' => ⟨_, w'.less, hc⟩
  | bk l => exact hc.elim
  | ct l => exact hc.elim
end DL

set_option maxHeartbeats 2000000
namespace DL
open PySem PySem.Spec PyProof.Rows L2

theorem SR.here {k : Kt} {Z : Hp} {r : Rho} {M : Mh} {st : Sg} {H : Hp} {i : Nat} {v : V} {d : D} (q : SR k Z r M st H) (hs : st[i]? = some (some v)) (h : Rep k.K (out Z M H) v d) : SR k Z (r.set i (some d)) M st H where
  len := by rw [List.length_set, q.len]
  hr := q.hr
  tk := q.tk
  sl := fun j e z => by
    rcases rset_k z with ⟨rfl, rfl, _⟩ | ⟨_, z⟩
    · exact ⟨v, hs, h⟩
    · exact q.sl j e z
section
variable {X : Cx} {W : DWX} {o : List Nat} {B : Bx} {e c : Expr} {s : Stmt} {ss a b : List Stmt} {f : FE} {g : FT} {h : FA} {fs gs fa fb : FS} {pos : Pos} {es : List Expr}
def DF (X : Cx) (W : DWX) (o : List Nat) (B : Bx) (e : Expr) (f : FE) : Prop := ∃ te, DE X W e te ∧ ∀ r M (Q : QD) l, Lw o B r M l → (f l).go B.m (fun d => ∀ ds, d = .lst ds → ∀ p, M p = none → Q (.ref p) (mset M p (.lst ds))) (fun C fs => W C fs r M) → te r M Q
def DFm (X : Cx) (W : DWX) (o : List Nat) (B : Bx) (e : Expr) (f : FE) : Prop := ∃ te, DE X W e te ∧ ∀ r M (Q : QD) l, Lw o B r M l → (f l).go B.m (fun d => ∀ p mo, M p = none → MoD d mo → Q (.ref p) (mset M p mo)) (fun C fs => W C fs r M) → te r M Q
theorem DF.m {e : Expr} {f : FE} (h : DF X W o B e f) : DFm X W o B e f := by
  obtain ⟨te, d, u⟩ := h
  exact ⟨te, d, fun r M Q l w k => u r M Q l w (T.go_imp k fun d q ds e p hp => q p _ hp (by rw [e]; exact .lst ds))⟩
inductive TX (X : Cx) (W : DWX) (o : List Nat) (B : Bx) (i : Nat) : Expr → FE → Prop
  | val {e : Expr} {f : FE} (ho : i ∉ o) (hJ : B.Jk i) (h : DE X W e (tE W o B f)) : TX X W o B i e f
  | new {es : List Expr} {p : Pos} {h : FA} (ho : i ∈ o) (hS : ∀ p mo, B.S i p mo) (hJ : B.Jk i) (hh : DA X W es (tA W o B h)) : TX X W o B i (.List es p) (fLs h)
  | fresh {e : Expr} {f : FE} (ho : i ∈ o) (hS : ∀ p mo, B.S i p mo) (hJ : B.Jk i) (hh : DF X W o B e f) : TX X W o B i e f
  | freshM {e : Expr} {f : FE} (ho : i ∈ o) (hS : ∀ p mo, B.S i p mo) (hJ : B.Jk i) (hh : DFm X W o B e f) : TX X W o B i e f
theorem TX.de {i : Nat} {e : Expr} {f : FE} (t : TX X W o B i e f) : ∃ te, DE X W e te ∧ ∀ r M (Q : QD) l, Lw o B r M l → (f l).go B.m (fun d => ∀ d' M', (M' = M ∧ d' = d ∧ i ∉ o ∨ ∃ p mo, d' = .ref p ∧ M p = none ∧ MoD d mo ∧ M' = mset M p mo ∧ i ∈ o) → Q d' M') (fun C fs => W C fs r M) → te r M Q := by
  cases t with
  | val ho hJ h => exact ⟨_, h, fun r M Q l w k => ⟨l, w, T.go_imp k fun d q => q d M (.inl ⟨rfl, rfl, ho⟩)⟩⟩
  | new ho hS hJ hh => exact ⟨_, de_lstM hh, fun r M Q l w k => ⟨l, w, T.go_imp (T.go_bind.mp k) fun ds q => by
      obtain ⟨q1, q2⟩ := T.go_gd.mp q
      exact ⟨of_decide_eq_true q1, fun p hp => q2 (.ref p) _ (.inr ⟨p, _, rfl, hp, .lst ds, rfl, ho⟩)⟩⟩⟩
  | fresh ho hS hJ hh =>
    obtain ⟨te, d, u⟩ := hh
    exact ⟨te, d, fun r M Q l w k => u r M Q l w (T.go_imp k fun d q ds e p hp => by
      subst e
      exact q (.ref p) _ (.inr ⟨p, _, rfl, hp, .lst ds, rfl, ho⟩))⟩
  | freshM ho hS hJ hh =>
    obtain ⟨te, d, u⟩ := hh
    exact ⟨te, d, fun r M Q l w k => u r M Q l w (T.go_imp k fun d q p mo hp hm => q (.ref p) _ (.inr ⟨p, mo, rfl, hp, hm, rfl, ho⟩))⟩
theorem TX.J {i : Nat} {e : Expr} {f : FE} (t : TX X W o B i e f) : B.Jk i := by
  cases t with
  | val _ hJ _ => exact hJ
  | new _ _ hJ _ => exact hJ
  | fresh _ _ hJ _ => exact hJ
  | freshM _ _ hJ _ => exact hJ
theorem TX.S {i : Nat} {e : Expr} {f : FE} (t : TX X W o B i e f) (hi : i ∈ o) : ∀ p mo, B.S i p mo := by
  cases t with
  | val h _ _ => exact absurd hi h
  | new _ hS _ _ => exact hS
  | fresh _ hS _ _ => exact hS
  | freshM _ hS _ _ => exact hS
theorem Lw.stand {r l : Rho} {M : Mh} {p : Addr} {mo : MO} (w : Lw o B r M l) (hp : M p = none) : Lw o B r (mset M p mo) l := by
  have hb : B.m p = none := by
    rcases w.less p with z | z
    · rw [z]; exact hp
    · exact z
  refine ⟨w.len, fun a => ?_, w.j, w.pl, fun j e hj h => ?_, w.dis⟩
  · by_cases h : a = p
    · subst h; exact .inr hb
    · rw [mset_ne h]; exact w.less a
  · obtain ⟨q, mo', e2, e3, e4, e5, e6⟩ := w.ow j e hj h
    refine ⟨q, mo', e2, e3, ?_, e5, e6⟩
    rw [mset_ne (fun z => by rw [z, hp] at e4; cases e4)]
    exact e4
theorem Lw.put {r l : Rho} {M : Mh} {i : Nat} {d d' : D} (w : Lw o B r M l) (hJ : B.Jk i) (h : d' = d ∧ i ∉ o ∨ ∃ p mo, d' = .ref p ∧ i ∈ o ∧ MoD d mo ∧ M p = some mo ∧ B.m p = none ∧ B.S i p mo ∧ ∀ j e, j ∈ o → l[j]? = some (some e) → r[j]? ≠ some (some (.ref p))) : Lw o B (r.set i (some d')) M (l.set i (some d)) := by
  rcases h with ⟨rfl, ho⟩ | ⟨p, mo, rfl, ho, hm, hM, hb, hS, old⟩
  · exact w.set ho hJ
  · refine ⟨by rw [List.length_set, List.length_set, w.len], w.less, hJ _ _ w.j, fun j e hj h => ?_, fun j e hj h => ?_, fun j k q e f hj hk h1 h2 e1 e2 => ?_⟩
    · have ne : i ≠ j := fun e => hj (e ▸ ho)
      rw [List.getElem?_set_ne ne] at h ⊢
      exact w.pl j e hj h
    · rcases rset_k h with ⟨rfl, rfl, hl⟩ | ⟨ne, h⟩
      · exact ⟨p, mo, by rw [List.getElem?_set_self (by rw [w.len]; exact hl)], hm, hM, hb, hS⟩
      · rw [List.getElem?_set_ne ne]
        exact w.ow j e hj h
    · rcases rset_k h1 with ⟨a1, a2, hl⟩ | ⟨n1, g1⟩
      · rcases rset_k h2 with ⟨b1, _⟩ | ⟨n2, g2⟩
        · rw [← a1, ← b1]
        · rw [← a1, List.getElem?_set_self (by rw [w.len, a1]; exact hl)] at e1
          cases e1
          rw [List.getElem?_set_ne n2] at e2
          exact absurd e2 (old k f hk g2)
      · rw [List.getElem?_set_ne n1] at e1
        rcases rset_k h2 with ⟨b1, b2, hl⟩ | ⟨n2, g2⟩
        · rw [← b1, List.getElem?_set_self (by rw [w.len, b1]; exact hl)] at e2
          cases e2
          exact absurd e1 (old j e hj g1)
        · rw [List.getElem?_set_ne n2] at e2
          exact w.dis j k q e f hj hk g1 g2 e1 e2
def MadeAt (o : List Nat) (i : Nat) (M M' : Mh) (d d' : D) : Prop := M' = M ∧ d' = d ∧ i ∉ o ∨ ∃ p mo, d' = .ref p ∧ M p = none ∧ MoD d mo ∧ M' = mset M p mo ∧ i ∈ o
theorem MadeAt.lw {r l : Rho} {M M' : Mh} {i : Nat} {d d' : D} (h : MadeAt o i M M' d d') (w : Lw o B r M l) : Lw o B r M' l := by
  rcases h with ⟨rfl, _⟩ | ⟨p, mo, _, hp, _, rfl, _⟩
  · exact w
  · exact w.stand hp
theorem MadeAt.keep {M M' : Mh} {i : Nat} {d d' : D} {q : Addr} {mo : MO} (h : MadeAt o i M M' d d') (e : M q = some mo) : M' q = some mo := by
  rcases h with ⟨rfl, _⟩ | ⟨p, mo', _, hp, _, rfl, _⟩
  · exact e
  · rw [mset_ne (fun z => by rw [z, hp] at e; cases e)]; exact e
theorem MadeAt.puts {r l : Rho} {M M' M2 : Mh} {i : Nat} {d d' : D} (h : MadeAt o i M M' d d') (keep : ∀ q mo, M' q = some mo → M2 q = some mo) (w0 : Lw o B r M l) (hS : i ∈ o → ∀ p mo, B.S i p mo) :
    d' = d ∧ i ∉ o ∨ ∃ p mo, d' = .ref p ∧ i ∈ o ∧ MoD d mo ∧ M2 p = some mo ∧ B.m p = none ∧ B.S i p mo ∧ ∀ j e, j ∈ o → l[j]? = some (some e) → r[j]? ≠ some (some (.ref p)) := by
  rcases h with ⟨_, rfl, ho⟩ | ⟨p, mo, rfl, hp, hm, rfl, ho⟩
  · exact .inl ⟨rfl, ho⟩
  · refine .inr ⟨p, mo, rfl, ho, hm, keep p mo mset_same, ?_, hS ho p mo, fun j e hj h z => ?_⟩
    · rcases w0.less p with z | z
      · rw [z]; exact hp
      · exact z
    · obtain ⟨q, mo', e2, e3, e4, _⟩ := w0.ow j e hj h
      rw [e2] at z; cases z; rw [hp] at e4; cases e4
def fPar2 (i j : Nat) (f1 f2 : FE) : FS := fun l => (f1 l).sx l fun v => (f2 l).sx l fun w => .v (.nx ((l.set i (some v)).set j (some w)))
theorem par2_of {i j : Nat} {a b : Expr} {c : Stmt} {f1 f2 : FE} (ha : TX X W o B i a f1) (hb : TX X W o B j b f2) (hd : ∀ ta, DA X W [a, b] ta → DS X W c (dPar i j ta))
    (h1 : starEach [a, b] X.env = (false, eval a X.env) :: starEach [b] X.env := by rfl) (h2 : starEach [b] X.env = (false, eval b X.env) :: starEach [] X.env := by rfl) :
    DS X W c (tS W o B (fPar2 i j f1 f2)) := by
  obtain ⟨t1, d1, u1⟩ := ha.de
  obtain ⟨t2, d2, u2⟩ := hb.de
  refine (hd _ (da_cons d1 (da_cons d2 da_nil h2) h1)).imp' fun E r M ⟨l, w, k⟩ => u1 r M _ l w (sx_use w k fun v k v' M1 m1 => ?_)
  have w1 := MadeAt.lw m1 w
  refine u2 r M1 _ l w1 (sx_use w1 k fun z k z' M2 m2 => ?_)
  have w2 := MadeAt.lw m2 w1
  refine k _ _ ?_
  have p1 := w2.put ha.J (MadeAt.puts m1 (fun q mo e => MadeAt.keep m2 e) w fun hi => ha.S hi)
  refine p1.put hb.J ?_
  rcases MadeAt.puts (M2 := M2) m2 (fun _ _ e => e) w1 (fun hi => hb.S hi) with h | ⟨p, mo, e, ho, hm, hM, hb', hS, old⟩
  · exact .inl h
  · refine .inr ⟨p, mo, e, ho, hm, hM, hb', hS, fun k e' hk h z => ?_⟩
    rcases rset_k h with ⟨e1, e2, hl⟩ | ⟨n, h⟩
    · subst e1
      rw [List.getElem?_set_self (by rw [w.len]; exact hl)] at z
      cases z
      rcases m1 with ⟨_, _, no⟩ | ⟨p1, mo1, e3, hp1, _, e4, _⟩
      · exact no hk
      · cases e3
        rcases m2 with ⟨_, _, no⟩ | ⟨p2, mo2, e5, hp2, _⟩
        · exact no ho
        · rw [e] at e5; cases e5
          rw [e4, mset_same] at hp2; cases hp2
    · rw [List.getElem?_set_ne n] at z
      exact old k e' hk h z
def dTup2 (t : DTA) : DTE := fun r M Q => t r M fun ds M1 => match ds with
  | [v, w] => Q (.tup [v, w]) M1
  | _ => False
theorem de_tup2 {a b : Expr} {x1} {t : DTA} (h : DA X W [a, b] t) : DE X W (.Tuple [a, b] x1 pos) (dTup2 t) :=
  DE.of (pe_tup h.pa) fun st H Z r M Q q ht => ⟨Z, r, M, _, q, ht, fun vs H1 ⟨ds, M1, q1, rps, sm, e⟩ => by
    dsimp only at e
    split at e
    · exact ⟨by rw [rps.length]; show 2 ≤ sizeLine; decide, fun p hp => (EQ.newTup q1 hp rps e).mono sm⟩
    · exact e.elim⟩
theorem ds_parN {i j : Nat} {x y : Str} {a b : Expr} {ta : DTA} {px py pt : Pos} {kt k2 pt2} (hc : X.calm = true) (hN : X.N.Nodup) (hi : X.N[i]? = some x) (hj : X.N[j]? = some y)
    (hx : Loc X.env.scope x) (hy : Loc X.env.scope y) (fx : X.fn x = true) (fy : X.fn y = true) (ha : DA X W [a, b] ta)
    (hw : swappedStores [.Tuple [.Name x px, .Name y py] kt pt] (.Tuple [a, b] k2 pt2) X.env = pure none)
    (hs : swapsWithSole [.Tuple [.Name x px, .Name y py] kt pt] (.Tuple [a, b] k2 pt2) pos.line X.env = pure false) :
    DS X W (.Assign [.Tuple [.Name x px, .Name y py] kt pt] (.Tuple [a, b] k2 pt2) pos) (dPar i j ta) :=
  (ds_asg (de_tup2 ha) (dg_tup (n := 2) hc (dgs_cons (dg_name hN hi hx (.inl fx)) (dgs_cons (dg_name hN hj hy (.inl fy)) dgs_nil))) hs hw rfl).imp' fun E r M h => by
    unfold dPar at h
    unfold dAsg dTup2
    refine (congrArg (ta r M) ?_).mp h
    funext ds M1
    match ds with
    | [] => rfl
    | [_] => rfl
    | [v, w] => exact propext ⟨fun h => ⟨rfl, h⟩, fun h => h.2⟩
    | _ :: _ :: _ :: _ => rfl
theorem ts_par2n {i j : Nat} {x y : Str} {a b : Expr} {f1 f2 : FE} {px py pt : Pos} {kt k2 pt2} (hc : X.calm = true) (hN : X.N.Nodup) (hi : X.N[i]? = some x) (hj : X.N[j]? = some y)
    (hx : Loc X.env.scope x) (hy : Loc X.env.scope y) (fx : X.fn x = true) (fy : X.fn y = true) (ha : TX X W o B i a f1) (hb : TX X W o B j b f2)
    (hw : swappedStores [.Tuple [.Name x px, .Name y py] kt pt] (.Tuple [a, b] k2 pt2) X.env = pure none)
    (hs : swapsWithSole [.Tuple [.Name x px, .Name y py] kt pt] (.Tuple [a, b] k2 pt2) pos.line X.env = pure false := by rfl)
    (h1 : starEach [a, b] X.env = (false, eval a X.env) :: starEach [b] X.env := by rfl) (h2 : starEach [b] X.env = (false, eval b X.env) :: starEach [] X.env := by rfl) :
    DS X W (.Assign [.Tuple [.Name x px, .Name y py] kt pt] (.Tuple [a, b] k2 pt2) pos) (tS W o B (fPar2 i j f1 f2)) :=
  par2_of ha hb (fun _ h => ds_parN hc hN hi hj hx hy fx fy h hw hs) h1 h2
def dPar3 (i j k : Nat) (ta : DTA) : DTS := fun D r M => ta r M fun ds M1 => match ds with
  | [u, v, w] => D.nx (((r.set i (some u)).set j (some v)).set k (some w)) M1
  | _ => False
theorem ds_par3 {i j l : Nat} {x y z : Str} {a b c : Expr} {ta : DTA} {px py pz pt : Pos} {kt k2 pt2} (hc : X.calm = true) (hN : X.N.Nodup) (hi : X.N[i]? = some x) (hj : X.N[j]? = some y) (hl : X.N[l]? = some z) (hij : i ≠ j) (hil : i ≠ l) (hjl : j ≠ l)
    (hx : X.env.scope.names.lookup x = some .local) (hy : X.env.scope.names.lookup y = some .local) (hz : X.env.scope.names.lookup z = some .local) (ha : DA X W [a, b, c] ta)
    (hw : swappedStores [.Tuple [.Name x px, .Name y py, .Name z pz] kt pt] (.Tuple [a, b, c] k2 pt2) X.env = pure (some [x, y, z]))
    (hs : swapsWithSole [.Tuple [.Name x px, .Name y py, .Name z pz] kt pt] (.Tuple [a, b, c] k2 pt2) pos.line X.env = pure false := by rfl) :
    DS X W (.Assign [.Tuple [.Name x px, .Name y py, .Name z pz] kt pt] (.Tuple [a, b, c] k2 pt2) pos) (dPar3 i j l ta) :=
  DS.of (ps_par3 hc hN hi hj hl hij hil hjl hx hy hz ha.pa hw hs) fun st H Z r M D q h => ⟨Z, r, M, _, q, h, fun vs H' ⟨ds, M1, q1, rps, sm, e⟩ => by
    dsimp only at e
    split at e
    · cases rps with
      | cons r1 rr =>
        cases rr with
        | cons r2 rr =>
          cases rr with
          | cons r3 rr =>
            cases rr
            exact ⟨_, _, _, rfl, _, M1, ((q1.set r1 i).set r2 j).set r3 l, sm, e⟩
    · exact e.elim⟩
def fPar3 (i j k : Nat) (h : FA) : FS := fun l => (h l).sx l fun ds => match ds with
  | [u, v, w] => .v (.nx (((l.set i (some u)).set j (some v)).set k (some w)))
  | _ => .no
theorem ts_par3 {i j l : Nat} {x y z : Str} {a b c : Expr} {px py pz pt : Pos} {kt k2 pt2} (hc : X.calm = true) (hN : X.N.Nodup) (hi : X.N[i]? = some x) (hj : X.N[j]? = some y) (hl : X.N[l]? = some z) (hij : i ≠ j) (hil : i ≠ l) (hjl : j ≠ l)
    (hx : X.env.scope.names.lookup x = some .local) (hy : X.env.scope.names.lookup y = some .local) (hz : X.env.scope.names.lookup z = some .local) (oi : i ∉ o) (oj : j ∉ o) (ol : l ∉ o) (hJi : B.Jk i) (hJj : B.Jk j) (hJl : B.Jk l) (ha : DA X W [a, b, c] (tA W o B h))
    (hw : swappedStores [.Tuple [.Name x px, .Name y py, .Name z pz] kt pt] (.Tuple [a, b, c] k2 pt2) X.env = pure (some [x, y, z]))
    (hs : swapsWithSole [.Tuple [.Name x px, .Name y py, .Name z pz] kt pt] (.Tuple [a, b, c] k2 pt2) pos.line X.env = pure false := by rfl) :
    DS X W (.Assign [.Tuple [.Name x px, .Name y py, .Name z pz] kt pt] (.Tuple [a, b, c] k2 pt2) pos) (tS W o B (fPar3 i j l h)) :=
  (ds_par3 hc hN hi hj hl hij hil hjl hx hy hz ha hw hs).imp' fun E r M ⟨l', w, k⟩ => ⟨l', w, sx_use w k fun ds q => by
    split at q
    · exact q _ _ (((w.set oi hJi).set oj hJj).set ol hJl)
    · exact q.elim⟩
structure ClT where
  c : Value
  i : Option Nat
  f : Value → List (Str × D) → FS
end
def exJ (i : Nat) (a dd : Addr) (fs : List (Str × D)) : Rho → Prop := fun r => r[i]? = some (some (.exc a dd fs))
def Bx.ex (B : Bx) (i : Nat) (a dd : Addr) (fs : List (Str × D)) : Bx := ⟨B.m, B.sf, exJ i a dd fs, B.fr⟩
theorem ex_jk {B : Bx} {i j : Nat} {a dd : Addr} {fs : List (Str × D)} (h : j ≠ i) : (B.ex i a dd fs).Jk j := fun r x e => by
  show (r.set j x)[i]? = _
  rw [List.getElem?_set_ne h]; exact e
section
variable {X : Cx} {W : DWX} {o : List Nat} {B : Bx}
inductive TCl (X : Cx) (o : List Nat) (B : Bx) : List ExceptHandler → List ClT → Prop
  | nil : TCl X o B [] []
  | bare {x : Str} {c : Value} {f : FS} {b0 : Stmt} {sui : List Stmt} {p1 p2 : Pos} {hds : List ExceptHandler} {l : List ClT} (hc : Names X x c)
      (hs : ∀ (a : Addr) (oe : Obj) (cls : Value) (d : Option Addr) (pn : List (Addr × Obj)), Zc cls d oe → (∃ vs, oe.data = .fields vs) → DSs (X.suite a ((a, oe) :: pn)) WN (b0 :: sui) (tS WN o B f)) (rest : TCl X o B hds l) :
      TCl X o B (.ExceptHandler (some (.Name x p1)) none (b0 :: sui) p2 :: hds) (⟨c, none, fun _ _ => f⟩ :: l)
  | name {x n : Str} {i : Nat} {c : Value} {f : Value → List (Str × D) → FS} {b0 : Stmt} {sui : List Stmt} {p1 p2 : Pos} {hds : List ExceptHandler} {l : List ClT} (hc : Names X x c) (hi : X.N[i]? = some n) (hl : X.env.kindOf n = some .local) (ho : i ∉ o)
      (hs : ∀ (a : Addr) (oe : Obj) (cls : Value) (d : Addr) (fs : List (Str × D)) (pn : List (Addr × Obj)), Zc cls (some d) oe → (∃ vs, oe.data = .fields vs) → DSs (X.suite a ((a, oe) :: pn)) WN (b0 :: sui) (tS WN o (B.ex i a d fs) (f cls fs))) (rest : TCl X o B hds l) :
      TCl X o B (.ExceptHandler (some (.Name x p1)) (some n) (b0 :: sui) p2 :: hds) (⟨c, some i, f⟩ :: l)
def tSui (o : List Nat) (B : Bx) (cl : ClT) : Addr → Value → Option Addr → DTS := fun a cls d E r M => match cl.i with
  | none => tS WN o B (cl.f cls []) E r M
  | some i => ∃ fs dd, d = some dd ∧ r[i]? = some (some (.exc a dd fs)) ∧ tS WN o (B.ex i a dd fs) (cl.f cls fs) E r M
theorem TCl.clauses {hds : List ExceptHandler} {l : List ClT} (h : TCl X o B hds l) : Clauses X hds (l.map fun cl => ⟨cl.c, cl.i, tSui o B cl⟩) := by
  induction h with
  | nil => exact .nil
  | bare hc hs _ ih => exact .bare hc (fun a oe cls d pn hz hf => (hs a oe cls d pn hz hf)) ih
  | name hc hi hl ho hs _ ih =>
    refine .name hc hi hl (fun a oe cls d pn hz hf => ⟨fun pins s st H Z r M E I q ⟨fs, dd, ed, er, h⟩ => ?_⟩) ih
    subst ed
    exact (hs a oe cls dd fs pn hz hf).run pins s st H Z r M E I q h
end
end DL
namespace DL
open PySem PySem.Spec PyProof.Rows L2
theorem sS {B : Bx} {i : Nat} (h : i ≠ 0) : ∀ p mo, B.S i p mo := fun p mo => by
  unfold Bx.S
  split
  · trivial
  · exact fun z => absurd z h
def asAny : D → T (List D)
  | .tup ds => .v ds
  | .lst ds => .v ds
  | .scr ns => .v (ns.map .int)
  | .str z => .v (signsOf z)
  | _ => .no
theorem pi_or {X : Cx} {tg e : Expr} {w1 w2 : L2.TI} (h1 : PI X tg e w1) (h2 : PI X tg e w2) : PI X tg e (fun st H R => w1 st H R ∨ w2 st H R) :=
  ⟨fun pins s st H R I h => h.elim (h1.run pins s st H R I) (h2.run pins s st H R I)⟩
theorem di_or {X : Cx} {W : DWX} {tg e : Expr} {t1 t2 : DTI} (h1 : DI X W tg e t1) (h2 : DI X W tg e t2) : DI X W tg e (fun r M Q => t1 r M Q ∨ t2 r M Q) := by
  obtain ⟨w1, a1, b1⟩ := h1.pi
  obtain ⟨w2, a2, b2⟩ := h2.pi
  exact ⟨_, pi_or a1 a2, fun st H Z r M Q R q ht k => ht.imp (fun ht => b1 st H Z r M Q R q ht k) fun ht => b2 st H Z r M Q R q ht k⟩
def fIv (f : FE) : FA := fun l => match f l with
  | .v d => asAny d
  | _ => .no
theorem ti_any {X : Cx} {W : DWX} {o : List Nat} {B : Bx} {tg e : Expr} {f : FE} (h : DE X W e (tE W o B f)) : TI X W tg e o B (fIv f) := ⟨_, di_or (di_lst h) (di_or (di_tup h) (di_str h)), fun r M Q l w k => by
  unfold fIv at k
  cases ef : f l with
  | v d =>
    rw [ef] at k
    have g : ∀ {P : D → Prop}, P d → (f l).go B.m P (fun C fs => W C fs r M) := fun q => by rw [ef]; exact q
    cases d with
    | lst ds => exact .inl ⟨l, w, g k⟩
    | scr ns => exact .inl ⟨l, w, g k⟩
    | tup ds => exact .inr (.inl ⟨l, w, g k⟩)
    | str z => exact .inr (.inr ⟨l, w, g k⟩)
    | _ => exact k.elim
  | _ => rw [ef] at k; exact k.elim⟩
end DL

set_option maxHeartbeats 2000000
namespace DL
open PySem PySem.Spec PyProof.Rows L2
theorem lk_z {d : D} {l : Rho} : lk (some d :: l) 0 = .v d := rfl
theorem lk_s {x : Option D} {l : Rho} {n : Nat} : lk (x :: l) (n + 1) = lk l n := rfl
theorem lkL_z {d : List D} {l : Rho} : lkL (some (.lst d) :: l) 0 = .v d := rfl
theorem lkL_s {x : Option D} {l : Rho} {n : Nat} : lkL (x :: l) (n + 1) = lkL l n := rfl
theorem pSlot_same {C : Addr} {i : Nat} {ds : List D} : pSlot C i (.ins C ds) = ds[i]? := by
  show (match decide (C = C) with | true => ds[i]? | false => none) = _
  rw [decide_eq_true rfl]
theorem lkI_ins {C : Addr} {ds : List D} {l : Rho} : lkI (some (.ins C ds) :: l) C = .v ds := by
  show T.gd (decide (C = C)) (.v ds) = _
  rw [decide_eq_true rfl]; rfl
theorem isSet_tup {ds : List D} : isSet (.tup ds) = true := rfl
theorem szOk_le {n : Nat} (h : n ≤ 1000) : szOk n = true := decide_eq_true (Nat.le_trans h (by decide))
theorem al_dr {α : Type} {p : Addr} {n : Int} {k : Int → T α} {Q : α → Prop} {E : Value → List (Str × D) → Prop} (h0 : 0 < n) (h1 : n.natAbs.log2 < 9000) (h : ∀ m, 0 ≤ m → m < n → (k m).al p Q E) : (T.dr p n k).al p Q E := T.al_drw.mpr ⟨h0, h1, h⟩
theorem forT_nil {g : FG} {fb : FS} {l : Rho} : forT g fb [] l = .v (.nx l) := rfl
def nextT (g : FG) (fb : FS) (xs : List D) (c : Ct) : T Ct := match c with
  | .nx l2 => forT g fb xs l2
  | .ct l2 => forT g fb xs l2
  | .bk l2 => .v (.nx l2)
  | c => .v c
theorem forT_cons {g : FG} {fb : FS} {x : D} {xs : List D} {l : Rho} : forT g fb (x :: xs) l = (T.ofO (g x l)).bind fun l1 => (fb l1).bind (nextT g fb xs) := rfl
theorem forT_al {g : FG} {fb : FS} {p : Addr} {Q : Ct → Prop} {E : Value → List (Str × D) → Prop} (P : List D → Rho → Prop) (hs : ∀ x xs l, P (x :: xs) l → ∃ l1, g x l = some l1 ∧ (fb l1).al p (fun c => match c with
    | .nx l2 => P xs l2
    | .ct l2 => P xs l2
    | .bk l2 => Q (.nx l2)
    | c => Q c) E) (hd : ∀ l, P [] l → Q (.nx l)) : ∀ {ds : List D} {l : Rho}, P ds l → (forT g fb ds l).al p Q E
  | [], l, h => T.al_v.mpr (hd l h)
  | x :: xs, l, h => by
    obtain ⟨l1, e, h1⟩ := hs x xs l h
    show ((T.ofO (g x l)).bind _).al p Q E
    rw [e]
    show ((fb l1).bind (nextT g fb xs)).al p Q E
    refine T.al_bind.mpr (T.al_imp h1 fun c hc => ?_)
    cases c with
    | nx l2 => exact forT_al P hs hd hc
    | ct l2 => exact forT_al P hs hd hc
    | bk l2 => exact T.al_v.mpr hc
    | rt d => exact T.al_v.mpr hc
    | rs C fs l2 => exact T.al_v.mpr hc
theorem fm_cons {g : D → T (Option D)} {a : D} {as : List D} : T.fm g (a :: as) = (g a).bind fun o => (T.fm g as).bind fun ys => .v (match o with | some y => y :: ys | none => ys) := rfl
theorem fm_eq {g : D → T (Option D)} {h : D → Option D} : ∀ {as : List D}, (∀ x ∈ as, g x = .v (h x)) → T.fm g as = .v (as.filterMap h)
  | [], _ => rfl
  | a :: as, e => by
    rw [fm_cons, e a (List.mem_cons_self ..), T.bind_v, fm_eq fun x hx => e x (List.mem_cons_of_mem _ hx), T.bind_v, List.filterMap_cons]
    cases h a <;> rfl
theorem pLen_s {z : Str} (h : szOk z.length = true) : pLen (.str z) = some (.int z.length) := by
  show og (szOk z.length) _ = _
  rw [h]; rfl
theorem pLen_l {ds : List D} : pLen (.lst ds) = some (.int ds.length) := rfl
theorem pIx_t {ds : List D} {i : Int} : pIx (.tup ds) (.int i) = atI ds i := rfl
theorem pIx_l {ds : List D} {i : Int} : pIx (.lst ds) (.int i) = atI ds i := rfl
theorem pIx_s {z : Str} {i : Int} {c : Nat} (h : szOk z.length = true) (e : atI z.cps.toList i = some c) : pIx (.str z) (.int i) = some (.str ⟨#[c]⟩) := by
  show (match atI z.cps.toList i with | some c => og (szOk z.length) (.str ⟨#[c]⟩) | none => none) = _
  rw [e, h]; rfl
section
variable {α : Type} {a b c d e f g h : α} {l : List α}
theorem atI_0 : atI (a :: l) 0 = some a := atI_nat (a :: l) 0 (by simp)
theorem atI_1 : atI (a :: b :: l) 1 = some b := atI_nat (a :: b :: l) 1 (by simp)
theorem atI_2 : atI (a :: b :: c :: l) 2 = some c := atI_nat (a :: b :: c :: l) 2 (by simp)
theorem atI_3 : atI (a :: b :: c :: d :: l) 3 = some d := atI_nat (a :: b :: c :: d :: l) 3 (by simp)
theorem atI_4 : atI (a :: b :: c :: d :: e :: l) 4 = some e := atI_nat (a :: b :: c :: d :: e :: l) 4 (by simp)
end
theorem pIn_sg {c : Nat} {b : Str} : pIn false (.str ⟨#[c]⟩) (.str b) = some (.bl (decide (c ∈ b.cps.toList))) := rfl
theorem pNin_sg {c : Nat} {b : Str} : pIn true (.str ⟨#[c]⟩) (.str b) = some (.bl (!decide (c ∈ b.cps.toList))) := rfl
theorem pAll_b {bs : List Bool} : pAll (.lst (bs.map D.bl)) = some (.bl (bs.all id)) := by
  show ((lsD (.lst (bs.map D.bl))).bind fun es => (blsD es).map fun ns => D.bl (ns.all id)) = _
  show ((blsD (bs.map D.bl)).map fun ns => D.bl (ns.all id)) = _
  rw [blsD_map]; rfl
theorem pEq_ii {i j : Int} : pEq false (.int i) (.int j) = some (.bl (i == j)) := by
  have h1 : SeqAt.shaped (.int i) = true := by simp [SeqAt.shaped, PyData.canLay0, PyData.depth]
  have h2 : SeqAt.shaped (.int j) = true := by simp [SeqAt.shaped, PyData.canLay0, PyData.depth]
  show og (SeqAt.shaped (.int i) && SeqAt.shaped (.int j)) (.bl (PyData.eqv (.int i) (.int j))) = _
  rw [h1, h2]
  simp [og, PyData.eqv]
theorem pNeT_ss {x y : Str} : pEqT true (.str x) (.str y) = some (.bl (!decide (x = y))) := rfl
theorem al_ite {α : Type} {c : Prop} [Decidable c] {t u : T α} {p : Addr} {Q : α → Prop} {E : Value → List (Str × D) → Prop} : (if c then t else u).al p Q E ↔ if c then t.al p Q E else u.al p Q E := by split <;> exact Iff.rfl
theorem pIsN_n {x : D} : pIsN x .non = some (.bl (isNon x)) := rfl
theorem pNotN_n {x : D} : pNotN x .non = some (.bl (!isNon x)) := rfl
theorem isNon_non : isNon .non = true := rfl
theorem isNon_int {i : Int} : isNon (.int i) = false := rfl
theorem pow_6 : pPow (.int (10)) (.int (6)) = some (.int 1000000) := by kernel_rfl
theorem pow_9 : pPow (.int (10)) (.int (9)) = some (.int 1000000000) := by kernel_rfl
theorem pow_12 : pPow (.int (10)) (.int (12)) = some (.int 1000000000000) := by kernel_rfl
theorem pow_20 : pPow (.int (10)) (.int (20)) = some (.int 100000000000000000000) := by kernel_rfl
theorem pow_30 : pPow (.int (10)) (.int (30)) = some (.int 1000000000000000000000000000000) := by kernel_rfl
def drB (n : Int) : Bool := decide (0 < n) && decide (n.natAbs.log2 < 9000)
theorem al_drB {α : Type} {p : Addr} {n : Int} {k : Int → T α} {Q : α → Prop} {E : Value → List (Str × D) → Prop} : (T.dr p n k).al p Q E ↔ drB n = true ∧ ∀ m, 0 ≤ m → m < n → (k m).al p Q E := by
  unfold drB
  rw [Bool.and_eq_true, decide_eq_true_eq, decide_eq_true_eq]
  exact T.al_drw.trans ⟨fun ⟨a, b, c⟩ => ⟨⟨a, b⟩, c⟩, fun ⟨⟨a, b⟩, c⟩ => ⟨a, b, c⟩⟩
theorem al_ix {p : Addr} {ds : List D} {m : Int} {Q : D → Prop} {E : Value → List (Str × D) → Prop} (m0 : 0 ≤ m) (m1 : m < ds.length) (h : ∀ d ∈ ds, Q d) : (T.ofO (atI ds m)).al p Q E := by
  obtain ⟨a, e, hm⟩ := atI_mem m0 m1
  rw [e]; exact T.al_v.mpr (h a hm)
theorem al_chr {p : Addr} {z : Str} {m : Int} {Q : D → Prop} {E : Value → List (Str × D) → Prop} (hz : szOk z.length = true) (m0 : 0 ≤ m) (m1 : m < z.length) (h : ∀ c, z.cps.toList[m.toNat]? = some c → Q (.str ⟨#[c]⟩)) : (T.ofO (pIx (.str z) (.int m))).al p Q E := by
  obtain ⟨n, rfl⟩ := Int.eq_ofNat_of_zero_le m0
  have hl : n < z.cps.toList.length := by
    have : z.cps.toList.length = z.length := by simp [Str.length]
    omega
  have e : atI z.cps.toList (n : Int) = some z.cps.toList[n] := by rw [atI_nat _ _ hl, List.getElem?_eq_getElem hl]
  rw [pIx_s hz e]
  exact T.al_v.mpr (h _ (by rw [show ((n : Int)).toNat = n from rfl, List.getElem?_eq_getElem hl]))
def RtQ (Q : D → Prop) (E : Value → List (Str × D) → Prop) : Ct → Prop
  | .nx _ => Q .non
  | .rt d => Q d
  | .rs C fs _ => E C fs
  | _ => False
theorem runT_al {p : Addr} {t : T Ct} {Q : D → Prop} {E : Value → List (Str × D) → Prop} (h : t.al p (RtQ Q E) noX) : (runT t).al p Q E :=
  T.al_bind.mpr (T.al_nx.mpr (T.al_mono h (fun c hc => by cases c <;> exact ⟨hc⟩) fun _ _ z => z))
theorem for_al {p : Addr} {fi : FA} {g : FG} {fb : FS} {l : Rho} {items : List D} {Q : Ct → Prop} {E : Value → List (Str × D) → Prop} (hi : fi l = .v items) (h : (forT g fb items l).al p Q E) : (fFor fi g fb l).al p Q E := by
  show ((fi l).sx l fun ds => forT g fb ds l).al p Q E
  rw [hi]; exact h
def StepP (P : Rho → Prop) (Q : Ct → Prop) : Ct → Prop
  | .nx l => P l
  | c => Q c
theorem seq_n {p : Addr} {fs gs : FS} {l : Rho} {Q : Ct → Prop} {E : Value → List (Str × D) → Prop} (P : Rho → Prop) (h : (fs l).al p (StepP P Q) E) (k : ∀ l', P l' → (gs l').al p Q E) : (fSeq fs gs l).al p Q E :=
  T.al_bind.mpr (T.al_imp h fun c hc => by
    cases c with
    | nx l' => exact k l' hc
    | rt d => exact T.al_v.mpr hc
    | bk l' => exact T.al_v.mpr hc
    | ct l' => exact T.al_v.mpr hc
    | rs C fs l' => exact T.al_v.mpr hc)
end DL

set_option maxHeartbeats 2000000
namespace DL
open PySem PySem.Spec PyProof.Rows L2
theorem fV_a {i : Nat} {l : Rho} : fV i l = lk l i := rfl
theorem fC_a {d : D} {l : Rho} : fC d l = .v d := rfl
theorem f2_a {g : D → D → Option D} {fa fb : FE} {l : Rho} : f2 g fa fb l = (fa l).bind fun x => (fb l).bind fun y => .ofO (g x y) := rfl
theorem f1_a {g : D → Option D} {fa : FE} {l : Rho} : f1 g fa l = (fa l).bind fun x => .ofO (g x) := rfl
theorem fB_a {f : FE} {l : Rho} : fB f l = (f l).bind tB := rfl
theorem fAnd_a {f g : FT} {l : Rho} : fAnd f g l = (f l).bind fun b => if b = true then g l else .v false := rfl
theorem fOr_a {f g : FT} {l : Rho} : fOr f g l = (f l).bind fun b => if b = true then .v true else g l := rfl
theorem fNot_a {f : FT} {l : Rho} : fNot f l = (f l).bind fun b => .v (!b) := rfl
theorem fAndV_a {f g : FE} {l : Rho} : fAndV f g l = (f l).bind fun d => (tB d).bind fun b => if b = true then g l else .v (.bl false) := rfl
theorem fOrV_a {f g : FE} {l : Rho} : fOrV f g l = (f l).bind fun d => (tB d).bind fun b => if b = true then .v (.bl true) else g l := rfl
theorem fNotV_a {f : FE} {l : Rho} : fNotV f l = (f l).bind fun d => (tB d).bind fun b => .v (.bl (!b)) := rfl
theorem fIf_a {c : FT} {f g : FE} {l : Rho} : fIf c f g l = (c l).bind fun b => if b = true then f l else g l := rfl
theorem fNil_a  {l : Rho} : fNil  l = .v [] := rfl
theorem fCo_a {f : FE} {h : FA} {l : Rho} : fCo f h l = (f l).bind fun x => (h l).bind fun xs => .v (x :: xs) := rfl
theorem fTu_a {h : FA} {l : Rho} : fTu h l = (h l).bind fun xs => .gd (szOk xs.length) (.v (.tup xs)) := rfl
theorem fLs_a {h : FA} {l : Rho} : fLs h l = (h l).bind fun xs => .gd (szOk xs.length) (.v (.lst xs)) := rfl
theorem fCh_a {g g' : D → D → Option D} {fa fb fc : FE} {l : Rho} : fCh g g' fa fb fc l = (fa l).bind fun x => (fb l).bind fun y => (T.ofO (g x y)).bind fun d => (tB d).bind fun k => if k = true then (fc l).bind fun z => .ofO (g' y z) else .v (.bl false) := rfl
theorem fNoP_a  {l : Rho} : fNoP  l = .v none := rfl
theorem fPa_a {f : FE} {l : Rho} : fPa f l = (f l).bind fun d => (toI d).bind fun i => .v (some i) := rfl
theorem fSl_a {f : FE} {fl fh : FO} {l : Rho} : fSl f fl fh l = (f l).bind fun x => (fl l).bind fun lo => (fh l).bind fun hi => .ofO (pSl x lo hi) := rfl
theorem fNext_a  {l : Rho} : fNext  l = .v (.nx l) := rfl
theorem fSeq_a {f g : FS} {l : Rho} : fSeq f g l = (f l).bind fun c => thenC c g := rfl
theorem fRet_a {f : FE} {l : Rho} : fRet f l = (f l).sx l fun d => .v (.rt d) := rfl
theorem fRetO_a {i : Nat} {l : Rho} : fRetO i l = ((lk l i).bind fun d => match d with
  | .lst ds => .v (.rt (.lst ds))
  | _ => .no) := rfl
theorem fIfS_a {g : FT} {fa fb : FS} {l : Rho} : fIfS g fa fb l = (g l).sx l fun b => if b = true then fa l else fb l := rfl
theorem fSet_a {i : Nat} {f : FE} {l : Rho} : fSet i f l = (f l).sx l fun d => .v (.nx (l.set i (some d))) := rfl
theorem fAsg_a {g : FG} {f : FE} {l : Rho} : fAsg g f l = (f l).sx l fun d => (T.ofO (g d l)).bind fun l' => .v (.nx l') := rfl
theorem fPar_a {i j : Nat} {h : FA} {l : Rho} : fPar i j h l = ((h l).sx l fun ds => match ds with
  | [v, w] => .v (.nx ((l.set i (some v)).set j (some w)))
  | _ => .no) := rfl
theorem fApp_a {i : Nat} {f : FE} {l : Rho} : fApp i f l = (lkL l i).bind fun xs => (f l).sx l fun y => .gd (szOk (xs.length + 1)) (.v (.nx (l.set i (some (.lst (xs ++ [y])))))) := rfl
theorem fFor_a {fi : FA} {g : FG} {fb : FS} {l : Rho} : fFor fi g fb l = (fi l).sx l fun ds => forT g fb ds l := rfl
theorem fI_a {a : D → T (List D)} {f : FE} {l : Rho} : fI a f l = (f l).bind a := rfl
theorem fRng1_a {h : FA} {l : Rho} : fRng1 h l = ((h l).bind fun ds => match ds with
  | [.int j] => .gd (smB j) (.v (rngD 0 j))
  | _ => .no) := rfl
theorem fYes_a  {l : Rho} : fYes  l = .v true := rfl
theorem fLc_a {fi : FA} {p : TPat} {ft : FT} {fe : FE} {vs : List Nat} {l : Rho} : fLc fi p ft fe vs l = (fi l).bind fun items => .gd (szOk items.length) ((T.fm (stepC p ft fe (wipeR l vs)) items).bind fun ys => .v (.lst ys)) := rfl
theorem fCB_a {g : List D → Option D} {h : FA} {l : Rho} : fCB g h l = (h l).bind fun ds => .ofO (g ds) := rfl
theorem fCall_a {f : List D → T D} {gD : List D → List D → List D} {h hk : FA} {l : Rho} : fCall f gD h hk l = (h l).bind fun ds => (hk l).bind fun es => f (gD ds es) := rfl
theorem fProp_a {C : Addr} {ff : List D → T D} {f : FE} {l : Rho} : fProp C ff f l = (f l).bind fun x => .gd (isC C x) (ff [x]).nx := rfl
theorem fMake_a {C : Addr} {g : List D → T D} {gT : List D → List D → List D} {h hk : FA} {l : Rho} : fMake C g gT h hk l = (h l).bind fun ds => (hk l).bind fun es => mkT C g (gT ds es) := rfl
theorem fSelfS_a {C : Addr} {i : Nat} {f : FE} {l : Rho} : fSelfS C i f l = (f l).sx l fun y => .gd (isSet y) ((lkI l C).bind fun ds => .v (.nx (l.set 0 (some (.ins C (putI i y ds)))))) := rfl
theorem fRaise_a {C : Addr} {fn : Str} {h : FA} {l : Rho} : fRaise C fn h l = ((h l).sx l fun ds => match ds with
  | [y] => .v (.rs (.ref C) [(fn, y)] l)
  | _ => .no) := rfl
theorem fPar2_a {i j : Nat} {f1 f2 : FE} {l : Rho} : fPar2 i j f1 f2 l = (f1 l).sx l fun v => (f2 l).sx l fun w => .v (.nx ((l.set i (some v)).set j (some w))) := rfl
theorem fPar3_a {i j k : Nat} {h : FA} {l : Rho} : fPar3 i j k h l = ((h l).sx l fun ds => match ds with
  | [u, v, w] => .v (.nx (((l.set i (some u)).set j (some v)).set k (some w)))
  | _ => .no) := rfl
theorem fIv_a {f : FE} {l : Rho} : fIv f l = (match f l with
  | .v d => asAny d
  | _ => .no) := rfl
end DL

set_option maxHeartbeats 2000000
namespace DL
open PySem PySem.Spec PyProof.Rows L2

inductive DJ (X : Cx) (W : DWX) : List Expr → List DTE → Prop
  | nil : DJ X W [] []
  | cons {e : Expr} {t : DTE} {es : List Expr} {ts : List DTE} (h : DE X W e t) (r : DJ X W es ts) : DJ X W (e :: es) (t :: ts)
inductive TJ (X : Cx) (W : DWX) (o : List Nat) (B : Bx) : List Expr → List FE → Prop
  | nil : TJ X W o B [] []
  | cons {e : Expr} {f : FE} {es : List Expr} {fs : List FE} (h : DE X W e (tE W o B f)) (r : TJ X W o B es fs) : TJ X W o B (e :: es) (f :: fs)
section
variable {X : Cx} {W : DWX} {o : List Nat} {B : Bx} {e : Expr} {es : List Expr} {f : FE} {fs : List FE} {pos : Pos}
theorem TJ.dj (h : TJ X W o B es fs) : DJ X W es (fs.map fun f => tE W o B f) := by
  induction h with
  | nil => exact .nil
  | cons h _ ih => exact .cons h ih
end
structure OwnS (K : PySem.W.Frag) (C : Addr) (m : Str) (g : Addr) : Prop where
  at_ : PySem.W.findIn K (.ref C) m = some (some (.ref g))
  fn : PySem.W.isFn K (.ref g) = true
section
open He
variable {x m : Str} {K : PySem.W.Frag}
theorem bOwn_ok (h : bOwn x m K = true) : OwnS K (ga K x) m (ma K (ga K x) m) := by
  obtain ⟨h1, h2⟩ := ba h
  exact ⟨isT_ok h1, h2⟩
end
end DL

set_option maxHeartbeats 2000000
namespace DL
open PySem PySem.Spec PyProof.Rows L2
open PySem.Sem (wp)
open PySem.AutoSeq1 (wpAny_loadPart')

end DL
namespace DL
open PySem PySem.Spec PyProof.Rows L2
theorem sp_of_al {f : List D → T D} {p : Addr} {M : Mh} {Q : QD} {E : DXK} (h : (f [.ref p]).al p (fun d => d = .bl true) noX) (hM : M p = some .pool) (hQ : Q (.bl true) M) : spT 1 f [.ref p] M Q E :=
  ⟨rfl, T.go_mono (T.al_go h hM) (fun _ z => z) (fun d e => e ▸ hQ) fun _ _ z => z.elim⟩
theorem RepL.rev {K : PySem.W.Frag} {F : Hp} : ∀ {v : List V} {d : List D}, RepL K F v d → RepL K F v.reverse d.reverse
  | _, _, .nil => .nil
  | _, _, .cons h r => by
    rw [List.reverse_cons, List.reverse_cons]
    exact r.rev.append (.cons h .nil)
end DL

set_option maxHeartbeats 2000000
namespace DL
open PySem PySem.Spec PyProof.Rows L2

section
variable {X : Cx} {W : DWX} {pins : List (Addr × Obj)} {st : Sg} {H Z : Hp} {s : Shared} {M : Mh} {v : V} {d : D} {u t : Value}
theorem typ_d {M0 : Model} (I : Inv X pins st H s) (m : HR X.K Z M H) (rp : Rep X.K (out Z M H) v d) (ru : RelV v u) (e : tyD M d = some t) : PySem.W.Looks M0 s.heap (typeOf u) t := by
  have fIns : ∀ (a C dx : Addr) xs, u = .ref a → H a = some (.ins C dx xs) → PySem.W.Looks M0 s.heap (typeOf u) (.ref C) := fun a C dx xs eu e => by
    subst eu
    obtain ⟨mA, O, _⟩ := ins_get I.hok e
    obtain ⟨od, J, _⟩ := O.look
    exact J.type
  have fSl : ∀ (a C dx : Addr) xs, u = .ref a → H a = some (SlX.SlO a C dx xs) → H dx = some (.xd []) → PySem.W.Looks M0 s.heap (typeOf u) (.ref C) := fun a C dx xs eu e e' => by
    subst eu
    obtain ⟨sl, od, _, J, _⟩ := SlX.slt_inst I (.inr ⟨e, e'⟩)
    exact J.type
  have at_ : ∀ (a : Addr) (o : Obj) (t : Value), u = .ref a → s.heap.get? a = some o → o.cls = t → PySem.W.Looks M0 s.heap (typeOf u) t := fun a o t eu ho hc => by
    subst eu
    exact fun A Q E s' k q => wpAny_typeOf_ref (k _ _ ho) (by rw [hc]; exact q)
  have fL : ∀ (a : Addr) (xs : List V), SqL X.K H a xs → u = .ref a → PySem.W.Looks M0 s.heap (typeOf u) (.type "list") := fun a xs h e => by
    obtain ⟨its, rv, ⟨o, n, ho, hc, _⟩, _⟩ := I.list h
    exact at_ _ _ _ e ho hc
  have fD : ∀ (a : Addr) (xs : List (Key × V)), Rd H a (.dK xs) → u = .ref a → PySem.W.Looks M0 s.heap (typeOf u) (.type "dict") := fun a xs h e => by
    obtain ⟨_, _, vs, _, o, es, ep, h1, h2, _⟩ := h.ok I.hok
    exact at_ _ _ _ e h1 h2.1
  cases rp with
  | non => cases e; cases (show u = Value.none from ru); exact PySem.W.Looks.of_pure rfl
  | bl y => cases e; cases (show u = Value.bool y from ru); exact PySem.W.Looks.of_pure rfl
  | int i => cases e; obtain ⟨t, q⟩ := (show ∃ t, u = Value.int i t from ru); cases q; exact PySem.W.Looks.of_pure rfl
  | str y => cases e; obtain ⟨t, q⟩ := (show ∃ t, u = Value.str y t from ru); cases q; exact PySem.W.Looks.of_pure rfl
  | ty n => cases e
  | tup h r =>
    cases e
    obtain ⟨its, rv, ⟨o, ho, hc, _⟩, _⟩ := I.tuple (sqT_mono (out_sub _ _ _) h)
    exact at_ _ _ _ ru ho hc
  | lst h r => cases e; exact fL _ _ (SqL.of (out_sub _ _ _ _ _ h)) ru
  | exc h r => cases e
  | fn h r => cases e
  | scr h => cases e; exact fL _ _ (sqL_mono (out_sub _ _ _) h) ru
  | dic h r => cases e; exact fD _ _ (.inr ⟨_, out_sub _ _ _ _ _ h⟩) ru
  | ins h r => cases e; exact fSl _ _ _ _ ru (out_sub _ _ _ _ _ h.1) (out_sub _ _ _ _ _ h.2)
  | obj h r => cases e; exact fIns _ _ _ _ ru (out_sub _ _ _ _ _ h)
  | ref a =>
    have e2 : (match M a with
      | some (.lst _) => some (.type "list")
      | some .pool => some (.type "list")
      | some (.dic _) => some (.type "dict")
      | some (.ins C _ _) => some (.ref C)
      | some (.slt C _ _) => some (.ref C)
      | none => none) = some t := e
    split at e2
    · rename_i em; cases e2; obtain ⟨xs, q, _⟩ := m.mem _ _ em; exact fL _ _ (SqL.of q) ru
    · rename_i em; cases e2; obtain ⟨i, j, k, q, _⟩ := m.mem _ _ em; exact fL _ _ (SqL.of q) ru
    · rename_i em; cases e2; obtain ⟨xs, q, _⟩ := m.mem _ _ em; exact fD _ _ (.inl q) ru
    · rename_i em; cases e2; obtain ⟨xs, q, _⟩ := m.mem _ _ em; exact fIns _ _ _ _ ru q
    · rename_i em; cases e2; obtain ⟨xs, q, q2, _⟩ := m.mem _ _ em; exact fSl _ _ _ _ ru q (out_sub _ _ _ _ _ q2)
    · cases e2
end
section
variable {prog : Program} {w : World} {A : Around} {E : Value → Shared → Prop} {s : Shared} {K : PySem.W.Frag} {x C L f : Addr} {h₀ : Heap} {m : Str → Option Value} {ox : Obj} {od : Option Obj} {b tb : Value}
theorem objNe_own {Q : Fin → Shared → Prop} (hu : A.units < cLine) (X : K.In s.heap) (I : PySem.W.InstAt s.heap x ox C od) (hs : PySem.W.findIn K (.ref C) "__eq__" = some (some (.ref f))) (hf : PySem.W.isFn K (.ref f) = true)
    (h : wpAny (model prog w) A (call (.ref f) [.ref x, b]) (fun v s' => ∃ k, v = .bool k ∧ Q (.done (.ret (.bool (!k)))) s') E s) : wpAny (model prog w) A (Builtin.«object.__ne__» ⟨[.ref x, b], []⟩) Q E s := by
  unfold Builtin.«object.__ne__»
  refine wpAny_bind (wpAny_pure ?_)
  refine wpAny_bind (wpAny_cRoomFor hu ?_)
  refine wpAny_bind (m := callSpecialIfBound? (.ref x) (Str.ofString "__eq__") [b]) (PySem.W.ifBound_K X I hs hf (wpAny_mono h (fun v s' hv => ?_) fun _ _ e => e))
  obtain ⟨k, rfl, hq⟩ := hv
  refine wpAny_bind (m := truthy (.bool k)) (wpAny_truthy_bool ?_)
  exact wpAny_pure hq
theorem ifBound_objNe {args : List Value} {Q : Option Value → Shared → Prop} (X : K.In s.heap) (I : PySem.W.InstAt s.heap x ox C od) (hs : PySem.W.findIn K (.ref C) "__ne__" = some (some (.builtin "object.__ne__")))
    (h : wpAny (model prog w) A (call (.builtin "object.__ne__") (.ref x :: args)) (fun v => Q (some v)) E s) : wpAny (model prog w) A (callSpecialIfBound? (.ref x) "__ne__" args) Q E s := by
  simp only [callSpecialIfBound?, bindSpecialIfBound?]
  refine wpAny_holding (wpAny_bind (wpAny_bind (wpAny_bind (I.type.here ((PySem.W.looks_findIn X hs).here ?_)))))
  refine wpAny_bind (wpAny_askSetting (wpAny_ite ?_))
  have fin : wpAny (model prog w) A (call (.builtin "object.__ne__") ([.ref x] ++ args) >>= fun v => pure (some v)) Q E s := wpAny_bind (wpAny_mono h (fun v s' h' => wpAny_pure h') fun _ _ h' => h')
  split
  · exact wpAny_bind (wpAny_of_eq (F.cmp_object.ne.bind _) (wpAny_pure (by exact fin)))
  · exact wpAny_tryCatch (wpAny_bind (wpAny_of_eq (F.cmp_object.ne.bind _) (wpAny_pure (by exact fin))))
theorem ne_K {Q : Value → Shared → Prop} (hu : A.units < cLine) (hu1 : A.in1.units < cLine) (F0 : Fr h₀ L s.heap m) (X₀ : K.In h₀) (I : PySem.W.InstAt s.heap x ox C od) (hb : PySem.W.Looks (model prog w) s.heap (typeOf b) tb) (hn : PySem.W.notFirst K C tb = true)
    (hm : PySem.W.mroIn K C (.type "object") = some true) (hne : PySem.W.findIn K (.ref C) "__ne__" = some (some (.builtin "object.__ne__"))) (hs : PySem.W.findIn K (.ref C) "__eq__" = some (some (.ref f))) (hf : PySem.W.isFn K (.ref f) = true)
    (h : wpAny (model prog w) A.in1 (call (.ref f) [.ref x, b]) (fun v s' => ∃ k, v = .bool k ∧ Q (.bool (!k)) s') E s) : wpAny (model prog w) A (richCompare .NotEq (.ref x) b) Q E s := by
  have X := X₀.keeps F0.keep
  have one : wpAny (model prog w) A (tryCompare (.ref x) (cmpInfo .NotEq).2.1 b) (fun r s' => ∃ v, r = some v ∧ Q v s') E s := by
    unfold tryCompare
    refine wpAny_bind (ifBound_objNe X I hne (wpAny_call (codeAny_call_builtin F.cmp_object.ne.plain F.cmpEntry_ne (PySem.W.check_slot F.cmpKind_ne F.cmpSplit_ne (I.type.andThen (PySem.W.looks_mroIn X hm)) (F.cmpArgs_ne _ _) (objNe_own hu1 X I hs hf (wpAny_mono h (fun v s' hv => ?_) fun _ _ e => e))))))
    obtain ⟨k, rfl, hq⟩ := hv
    exact ⟨k, rfl, wpAny_pure ⟨_, rfl, hq⟩⟩
  unfold richCompare
  simp only [oneThing_ref]
  refine wpAny_holding (wpAny_bind (wpAny_cRoomFor hu ?_))
  refine wpAny_bind (I.type.here (wpAny_bind (hb.here ?_)))
  split
  · rename_i q
    have e : PySem.W.subIn K tb (.ref C) = some false := by
      rcases Bool.or_eq_true_iff.mp hn with e | e
      · rw [beq_iff_eq.mp e] at q; simp at q
      · exact beq_iff_eq.mp e
    refine wpAny_bind ((PySem.W.looks_subIn X e).here ?_)
    simp only [Bool.false_eq_true, if_false]
    refine wpAny_bind (wpAny_mono one (fun r s' z => ?_) fun _ _ e => e)
    obtain ⟨v, rfl, hq⟩ := z
    exact wpAny_pure hq
  · refine wpAny_bind (wpAny_pure ?_)
    simp only [Bool.false_eq_true, if_false]
    refine wpAny_bind (wpAny_mono one (fun r s' z => ?_) fun _ _ e => e)
    obtain ⟨v, rfl, hq⟩ := z
    exact wpAny_pure hq
open PySem.Sem (wp) in
theorem meets_bool_inst (hs : PySem.W.findIn K (.ref C) "__bool__" = some none) (hl : PySem.W.findIn K (.ref C) "__len__" = some none) :
    Meets (Builtin.«bool.__new__» ⟨[.type "bool", .ref x], []⟩) (fun _ R s => (∃ h₀ L m, Fr h₀ L s.heap m ∧ K.In h₀) ∧ PySem.W.InstAt s.heap x ox C od ∧ R (.ok (.ret (.bool true))) s) :=
  Meets.of_wp fun prog w A R s hs' => by
    obtain ⟨⟨h₀, L, m, F0, X0⟩, hI, hs'⟩ := hs'
    obtain ⟨hp, g, d, tk, os⟩ := s
    have f1 := F.conv_sub_bool
    repeat (any_goals (first | assumption | (with_reducible refine PySem.W.truthy_K0 F0 X0 hI hs hl ?_) | wp_step))
    all_goals first | exact ⟨_, rfl, hs'⟩ | exact hs' | skip
end
structure EqS (K : PySem.W.Frag) (C : Addr) (g : Addr) : Prop where
  ow : OwnS K C "__eq__" g
  ne : PySem.W.findIn K (.ref C) "__ne__" = some (some (.builtin "object.__ne__"))
  hm : PySem.W.mroIn K C (.type "object") = some true
def aEqO (K : PySem.W.Frag) (C : Addr) (neg : Bool) (sp : DSp) : DR2 := fun x y M Q => clsI M x = some C ∧ (∃ t, tyD M y = some t ∧ PySem.W.notFirst K C t = true) ∧ sp [x, y] M (fun d M' => ∃ b, d = .bl b ∧ Q (.bl (if neg then !b else b)) M') fun _ _ _ => False
section
variable {X : Cx} {W : DWX} {k : Nat} {C g : Addr} {fd : FuncData} {ps : List Str} {sp : DSp} {gD : List D → List D → List D}
theorem run_own2 {A : Around} {pins : List (Addr × Obj)} {s : Shared} {st : Sg} {H Z : Hp} {r : Rho} {M : Mh} {Q : QD} {a : Addr} {v2 : V} {u2 : Value} {d d2 : D} {R : Value → Shared → Prop} (F : FnG X.prog X.w X.K X.mg X.base k g fd ps sp) (hr : Rm k A) (e0 : Env0 X.prog X.w X.K X.mg X.base A X.stack s H) (hb : Bd X.K fd ps 2 [] gD) (hg : ∀ x y, gD [x, y] [] = [x, y])
    (I : Inv X pins st H s) (q : SR (kx X W) Z r M st H) (rp : Rep X.K (out Z M H) (.ref a) d) (rv2 : RelV v2 u2) (rp2 : Rep X.K (out Z M H) v2 d2) (h : sp [d, d2] M Q fun _ _ _ => False) (k : ∀ u s', EP X pins st (EQ (kx X W) Z st r (out Z M H) Q) u s' → R u s') :
    wpAny (model X.prog X.w) A (call (.ref g) [.ref a, u2]) R X.xe s := by
  obtain ⟨full, fullV, b1, b2, b3⟩ := hb.to s [.ref a, u2] [] [.ref a, v2] [] [d, d2] [] _ I.kIn rfl rfl (.cons rfl (.cons rv2 .nil)) .nil (.cons rp (.cons rp2 .nil)) .nil
  rw [hg] at b3
  refine wpAny_call (codeAny_mono (F.run A X.stack s H Z M ⟨[.ref a, u2], []⟩ full fullV [d, d2] Q _ hr e0 b1 b2 q.hr b3 h) fun z s' hq => ?_)
  cases z with
  | error er => exact (cx_no hq).elim
  | ok fl =>
    cases fl with
    | ret u =>
      obtain ⟨v, H', I3, rv, d', M', q3, q4, q5, q6⟩ := I.after hq
      exact k u s' ⟨v, H', I3, rv, d', M', q.step q3 q5, q4, q5, q6⟩
    | next => exact False.elim hq
    | brk => exact False.elim hq
    | cont => exact False.elim hq
theorem op_eqO (ow : EqS X.K C g) (F : FnG X.prog X.w X.K X.mg X.base k g fd ps sp) (hr : Rm (k + 1) X.A) (hb : Bd X.K fd ps 2 [] gD) (hg : ∀ x y, gD [x, y] [] = [x, y]) : DOp X W (compareOp .Eq) (aEqO X.K C false sp) := by
  intro pins s st H Z r M x y v u a b Q I q rx ry ra rb ⟨hc, ⟨t, ht, hn⟩, hs⟩
  obtain ⟨ax, ox, od, rfl, J⟩ := inst_at I q.hr ra hc
  obtain rfl : v = Value.ref ax := rx
  obtain ⟨m, hF⟩ := I.fr
  show wpAny _ _ (richCompare .Eq (.ref ax) u) _ _ s
  refine PySem.W.cmp_K (op := .Eq) (hr.room.units0) hF I.ok.mod.kin J (typ_d I q.hr rb ry ht) hn ow.ow.at_ ow.ow.fn (run_own2 F (hr.mono (Nat.le_succ _)) I.env0 hb hg I q ra ry rb hs fun w s' ⟨z, H', I3, rz, d', M', q3, q4, q5, k, ek, q6⟩ => ?_)
  subst ek
  cases q4
  obtain rfl : w = Value.bool k := rz
  exact ⟨.bl k, H', I3, rfl, .bl k, M', q3, .bl k, q5, q6⟩
theorem op_neO (ow : EqS X.K C g) (F : FnG X.prog X.w X.K X.mg X.base k g fd ps sp) (hr : Rm (k + 1) X.A) (hb : Bd X.K fd ps 2 [] gD) (hg : ∀ x y, gD [x, y] [] = [x, y]) : DOp X W (compareOp .NotEq) (aEqO X.K C true sp) := by
  intro pins s st H Z r M x y v u a b Q I q rx ry ra rb ⟨hc, ⟨t, ht, hn⟩, hs⟩
  obtain ⟨ax, ox, od, rfl, J⟩ := inst_at I q.hr ra hc
  obtain rfl : v = Value.ref ax := rx
  obtain ⟨m, hF⟩ := I.fr
  show wpAny _ _ (richCompare .NotEq (.ref ax) u) _ _ s
  refine ne_K (hr.room.units0) (hr.in1.room.units0) hF I.ok.mod.kin J (typ_d I q.hr rb ry ht) hn ow.hm ow.ne ow.ow.at_ ow.ow.fn (run_own2 F hr.in1 I.env0.in1 hb hg I q ra ry rb hs fun w s' ⟨z, H', I3, rz, d', M', q3, q4, q5, k, ek, q6⟩ => ?_)
  subst ek
  cases q4
  obtain rfl : w = Value.bool k := rz
  exact ⟨k, rfl, .bl (!k), H', I3, rfl, .bl (!k), M', q3, .bl (!k), q5, q6⟩
structure TruS (K : PySem.W.Frag) (C : Addr) : Prop where
  b : PySem.W.findIn K (.ref C) "__bool__" = some none
  l : PySem.W.findIn K (.ref C) "__len__" = some none
def aTru (C : Addr) : DRL := fun ds M Q => ∃ x, ds = [x] ∧ clsI M x = some C ∧ Q (.bl true) M
theorem c_boolO (t : TruS X.K C) : DCall X W (.type "bool") (aTru C) := by
  intro pins s st H Z r M xs vs ds Q I q rx ra ⟨x, ed, hc, hs⟩
  subst ed
  cases ra with
  | cons r1 rr =>
    cases rr
    cases rx with
    | cons v1 vr =>
      cases vr
      obtain ⟨a, ox, od, rfl, J⟩ := inst_at I q.hr r1 hc
      cases v1
      obtain ⟨m, hF⟩ := I.fr
      exact call_bool_1 (meets_bool_inst t.b t.l) ⟨⟨_, _, _, hF, I.ok.mod.kin⟩, J, rfl, ⟨.bl true, H, I, rfl, EQ.val q (.bl true) hs⟩⟩
end
def okO (cs : List Addr) (y : D) : Bool := match tyN y with
  | some (.type T) => ["NoneType", "bool", "int", "str", "tuple", "list", "dict"].contains T
  | some (.ref C) => decide (C ∈ cs)
  | _ => false
theorem okO_ok {K : PySem.W.Frag} {C : Addr} {cs : List Addr} (hcs : ∀ C' ∈ cs, PySem.W.notFirst K C (.ref C') = true) {M : Mh} {y : D} (h : okO cs y = true) : ∃ t, tyD M y = some t ∧ PySem.W.notFirst K C t = true := by
  unfold okO at h
  split at h
  · rename_i T e
    have hv : Vw M y y := .inl rfl
    refine ⟨_, hv.ty e, ?_⟩
    have key : ∀ T ∈ ["NoneType", "bool", "int", "str", "tuple", "list", "dict"], PySem.W.notFirst K C (.type T) = true := by
      intro T hT
      have e : ∃ l : List String, fastBuiltinMro T = some (l.map Value.type) := by
        simp only [List.mem_cons, List.mem_nil_iff, or_false] at hT
        rcases hT with rfl | rfl | rfl | rfl | rfl | rfl | rfl
        · exact ⟨["NoneType", "object"], by decide +kernel⟩
        · exact ⟨["bool", "int", "object"], by decide +kernel⟩
        · exact ⟨["int", "object"], by decide +kernel⟩
        · exact ⟨["str", "object"], by decide +kernel⟩
        · exact ⟨["tuple", "object"], by decide +kernel⟩
        · exact ⟨["list", "object"], by decide +kernel⟩
        · exact ⟨["dict", "object"], by decide +kernel⟩
      obtain ⟨l, e⟩ := e
      have e2 : PySem.W.subIn K (.type T) (.ref C) = some false := by
        show (fastBuiltinMro T).map (·.contains (.ref C)) = some false
        rw [e]
        show some _ = some false
        congr 1
        clear e hT
        induction l with
        | nil => rfl
        | cons a l ih =>
          show (Value.type a :: l.map Value.type).contains (.ref C) = false
          rw [List.contains_cons]
          exact (Bool.false_or _).trans ih
      unfold PySem.W.notFirst
      rw [e2]
      exact Bool.or_true _
    exact key T (by simpa using h)
  · rename_i C' e
    have hv : Vw M y y := .inl rfl
    exact ⟨_, hv.ty e, hcs _ (of_decide_eq_true h)⟩
  · cases h
def ngB (neg b : Bool) : Bool := if neg then !b else b
def fEqO (C : Addr) (cs : List Addr) (ff : List D → T D) (neg : Bool) (fa fb : FE) : FE := fun l => (fa l).bind fun x => (fb l).bind fun y => match isC C x with
  | true => .gd (okO cs y) ((ff [x, y]).nx.bind fun d => (tB d).bind fun b => .v (.bl (ngB neg b)))
  | false => .ofO (pEq neg x y)
def fTru (C : Addr) (f : FE) : FE := fun l => (f l).bind fun x => .gd (isC C x) (.v (.bl true))
section
variable {X : Cx} {W : DWX} {o : List Nat} {B : Bx} {e a b : Expr} {f fa fb : FE} {pos : Pos} {C g : Addr}
theorem eqO_go {neg : Bool} {cs : List Addr} {M M' : Mh} {x y : D} {ff : List D → T D} {Q : QD} {j : Nat} {E} (hj : j = 2) (hcs : ∀ C' ∈ cs, PySem.W.notFirst X.K C (.ref C') = true) (hx : isC C x = true) (hp : ∀ p, M' p = some .pool → M p = some .pool)
    (h : (T.gd (okO cs y) ((ff [x, y]).nx.bind fun d => (tB d).bind fun b => .v (.bl (ngB neg b)))).go M' (fun d => Q d M) E) : aEqO X.K C neg (spT j ff) x y M Q := by
  subst hj
  obtain ⟨h1, h2⟩ := T.go_gd.mp h
  refine ⟨isC_ok hx, okO_ok hcs h1, rfl, ?_⟩
  refine T.go_mono (T.go_nx.mp (T.go_imp (T.go_bind.mp h2) fun d hd => ?_ : (ff [x, y]).nx.go M' (fun d => ∃ b, d = .bl b ∧ Q (.bl (if neg then !b else b)) M) E)) hp (fun _ z => z) fun _ _ z => z
  obtain ⟨b, rfl, hb⟩ := tB_go.mp (T.go_bind.mp hd)
  exact ⟨b, rfl, hb⟩
theorem te_eqO {k : Nat} {fd : FuncData} {ps : List Str} {gD : List D → List D → List D} {cs : List Addr} {ff : List D → T D} (ow : EqS X.K C g) (hcs : ∀ C' ∈ cs, PySem.W.notFirst X.K C (.ref C') = true) (F : FnG X.prog X.w X.K X.mg X.base k g fd ps (spT 2 ff)) (hr : Rm (k + 1) X.A) (hb : Bd X.K fd ps 2 [] gD) (hu : X.A.units + 64 < cLine)
    (ha : DE X W a (tE W o B fa)) (hb' : DE X W b (tE W o B fb)) (hm : behindInMarks .Eq b = false) (hg : ∀ x y, gD [x, y] [] = [x, y] := by intro _ _; rfl) : DE X W (.Compare a [.Eq] [b] pos) (tE W o B (fEqO C cs ff false fa fb)) :=
  (de_cmp ((op_eqO ow F hr hb hg).or (op_eq_ hu)) ha hb' hm).imp' fun r M Q ⟨l, w, kk⟩ => ⟨l, w, T.go_imp (T.go_bind.mp kk) fun x kx => ⟨l, w, T.go_imp (T.go_bind.mp kx) fun y q => by
    cases hx : isC C x with
    | true =>
      rw [hx] at q
      exact .inl (eqO_go rfl hcs hx (fun p z => w.less.pool p z) q)
    | false =>
      rw [hx] at q
      obtain ⟨d, e, q⟩ := T.go_ofO.mp q
      refine .inr ?_
      unfold pEq at e
      split at e
      · rename_i p q' e1 e2
        obtain ⟨e3, e4⟩ := og_s.mp e
        rw [Bool.and_eq_true] at e3
        subst e4
        exact ⟨p, q', e1, e2, e3.1, e3.2, q⟩
      · cases e⟩⟩
theorem te_neO {k : Nat} {fd : FuncData} {ps : List Str} {gD : List D → List D → List D} {cs : List Addr} {ff : List D → T D} (ow : EqS X.K C g) (hcs : ∀ C' ∈ cs, PySem.W.notFirst X.K C (.ref C') = true) (F : FnG X.prog X.w X.K X.mg X.base k g fd ps (spT 2 ff)) (hr : Rm (k + 1) X.A) (hb : Bd X.K fd ps 2 [] gD) (hu : X.A.units + 64 < cLine)
    (ha : DE X W a (tE W o B fa)) (hb' : DE X W b (tE W o B fb)) (hm : behindInMarks .NotEq b = false) (hg : ∀ x y, gD [x, y] [] = [x, y] := by intro _ _; rfl) : DE X W (.Compare a [.NotEq] [b] pos) (tE W o B (fEqO C cs ff true fa fb)) :=
  (de_cmp ((op_neO ow F hr hb hg).or (op_ne_ hu)) ha hb' hm).imp' fun r M Q ⟨l, w, kk⟩ => ⟨l, w, T.go_imp (T.go_bind.mp kk) fun x kx => ⟨l, w, T.go_imp (T.go_bind.mp kx) fun y q => by
    cases hx : isC C x with
    | true =>
      rw [hx] at q
      exact .inl (eqO_go rfl hcs hx (fun p z => w.less.pool p z) q)
    | false =>
      rw [hx] at q
      obtain ⟨d, e, q⟩ := T.go_ofO.mp q
      refine .inr ?_
      unfold pEq at e
      split at e
      · rename_i p q' e1 e2
        obtain ⟨e3, e4⟩ := og_s.mp e
        rw [Bool.and_eq_true] at e3
        subst e4
        exact ⟨p, q', e1, e2, e3.1, e3.2, q⟩
      · cases e⟩⟩
theorem te_tru {x : Str} {p : Pos} (t : TruS X.K C) (hg0 : Gl X x) (hm : X.mg x = none) (hv : bootBuiltins x = some (.type "bool")) (he : DE X W e (tE W o B f))
    (hn : x ≠ "__name__" := by decide) (hdb : (x == ("__debug__" : Str)) = false := by decide) (hs : starEach [e] X.env = (false, eval e X.env) :: starEach [] X.env := by rfl) (hpl : (backTo pos (starEach [] X.env)).any (·.1) = false := by rfl) :
    DE X W (.Call (.Name x p) [e] [] pos) (tE W o B (fTru C f)) :=
  (de_callTy (c_boolO t) hg0 hm hv (da_cons he da_nil hs) hn hdb hs hpl).imp' fun r M Q ⟨l, w, kk⟩ => ⟨l, w, T.go_imp (T.go_bind.mp kk) fun x q => by
    obtain ⟨q1, q2⟩ := T.go_gd.mp q
    exact ⟨x, rfl, isC_ok q1, q2⟩⟩
end
section
open He
variable {x y : Str} {K : PySem.W.Frag}
theorem bEqS_ok (h : bEqS x K = true) : EqS K (ga K x) (ma K (ga K x) "__eq__") := by
  obtain ⟨h1, h⟩ := ba h
  obtain ⟨h2, h3⟩ := ba h
  exact ⟨bOwn_ok h1, isT_ok h2, isT_ok h3⟩
theorem bNf_ok (h : bNf x y K = true) : PySem.W.notFirst K (ga K x) (.ref (ga K y)) = true := h
theorem bTru_ok (h : bTru x K = true) : TruS K (ga K x) := by
  obtain ⟨h1, h2⟩ := ba h
  exact ⟨isT_ok h1, isT_ok h2⟩
end
section
variable {l : Rho} {f fa fb : FE} {C : Addr} {cs : List Addr} {ff : List D → T D} {neg : Bool}
theorem fEqO_a : fEqO C cs ff neg fa fb l = (fa l).bind fun x => (fb l).bind fun y => (match isC C x with
  | true => .gd (okO cs y) ((ff [x, y]).nx.bind fun d => (tB d).bind fun b => .v (.bl (ngB neg b)))
  | false => .ofO (pEq neg x y)) := rfl
theorem fTru_a : fTru C f l = (f l).bind fun x => .gd (isC C x) (.v (.bl true)) := rfl
theorem ngB_t {b : Bool} : ngB true b = !b := rfl
theorem ngB_f {b : Bool} : ngB false b = b := rfl
theorem okO_ins {C : Addr} {z : List D} (h : C ∈ cs) : okO cs (.ins C z) = true := decide_eq_true h
end
end DL

set_option maxHeartbeats 2000000
namespace DL
open PySem PySem.Spec PyProof.Rows L2

theorem DpAll.mono {K : PySem.W.Frag} {F F' : Hp} (s : Same F F') : ∀ {vs : List V} {ps : List PyData}, DpAll K F vs ps → DpAll K F' vs ps
  | _, _, .nil => .nil
  | _, _, .cons h r => .cons (Dp.mono s h) (DpAll.mono s r)
end DL

set_option maxHeartbeats 2000000
namespace DL
open PySem PySem.Spec PyProof.Rows L2

def valD (kvs : List (Key × D)) (k : Key) : Option D := (kvs.find? fun kv => decide (kv.1 = k)).map (·.2)
def dropKD (kvs : List (Key × D)) (k : Key) : List (Key × D) := kvs.filter fun kv => decide (kv.1 ≠ k)
section
variable {K : PySem.W.Frag} {F : Hp}
theorem RepK.val {k : Key} : ∀ {v : List (Key × V)} {d : List (Key × D)}, RepK K F v d → (∀ x, valV v k = some x → ∃ y, valD d k = some y ∧ Rep K F x y) ∧ (valV v k = none → valD d k = none)
  | _, _, .nil => ⟨(fun x e => by cases e), fun _ => rfl⟩
  | _, _, .cons (k := k0) (v := v0) (vs := vs) (d := d0) (ds := ds) h r => by
    by_cases e : k0 = k
    · have e1 : valV ((k0, v0) :: vs) k = some v0 := valV_pos e
      have e2 : valD ((k0, d0) :: ds) k = some d0 := by unfold valD; rw [List.find?_cons]; simp [e]
      exact ⟨fun x h' => by rw [e1] at h'; cases h'; exact ⟨d0, e2, h⟩, fun h' => by rw [e1] at h'; cases h'⟩
    · have e1 : valV ((k0, v0) :: vs) k = valV vs k := valV_neg e
      have e2 : valD ((k0, d0) :: ds) k = valD ds k := by unfold valD; rw [List.find?_cons]; simp [e]
      rw [e1, e2]
      exact RepK.val r
theorem RepK.drop {k : Key} : ∀ {v : List (Key × V)} {d : List (Key × D)}, RepK K F v d → RepK K F (dropK v k) (dropKD d k)
  | _, _, .nil => .nil
  | _, _, .cons (k := k0) (v := v0) (vs := vs) (d := d0) (ds := ds) h r => by
    have ih := RepK.drop (k := k) r
    unfold dropK dropKD at ih ⊢
    rw [List.filter_cons, List.filter_cons]
    by_cases e : k0 = k
    · simpa [e] using ih
    · simpa [e] using RepK.cons h ih
end

def putO (acc : List (Key × D)) : Option (Key × D) → List (Key × D)
  | some kz => putKD acc kz.1 kz.2
  | none => acc
def T.fd (g : D → T (Option (Key × D))) : List D → List (Key × D) → T (List (Key × D))
  | [], acc => .v acc
  | a :: as, acc => (g a).bind fun o => T.fd g as (putO acc o)
section
variable {X : Cx} {W : DWX} {o : List Nat} {B : Bx}
def DFK (X : Cx) (W : DWX) (o : List Nat) (B : Bx) (e : Expr) (f : FE) : Prop := ∃ te, DE X W e te ∧ ∀ r M (Q : QD) l, Lw o B r M l → (f l).go B.m (fun d => ∀ ds, d = .dic ds → ∀ p, M p = none → Q (.ref p) (mset M p (.dic ds))) (fun C fs => W C fs r M) → te r M Q
def T.fs (t : Nat) (p : TPat) (ft : FT) (fe : Rho → T (D × List (Key × D))) : Rho → List D → T (List D × Rho)
  | l0, [] => .v ([], l0)
  | l0, a :: as => (T.ofO (asgP p a l0)).bind fun l1 => (ft l1).nx.bind fun b => if b = true then (fe l1).nx.bind fun yv => (T.fs t p ft fe (l0.set t (some (.dic yv.2))) as).bind fun r => .v (yv.1 :: r.1, r.2) else T.fs t p ft fe l0 as
end
end DL
namespace DL
open PySem PySem.Spec PyProof.Rows L2
end DL

set_option maxHeartbeats 2000000
namespace DL
open PySem PySem.Spec PyProof.Rows L2

section
variable {X : Cx} {W : DWX} {o : List Nat} {B : Bx} {e a b c : Expr} {es : List Expr} {f fa fb fc : FE} {g : FT} {h : FA} {pos : Pos} {ta tb : DTE}
theorem DFK.m {e : Expr} {f : FE} (h : DFK X W o B e f) : DFm X W o B e f := by
  obtain ⟨te, d, u⟩ := h
  exact ⟨te, d, fun r M Q l w k => u r M Q l w (T.go_imp k fun d q ds e p hp => q p _ hp (by rw [e]; exact .dic ds))⟩
end
end DL

set_option maxHeartbeats 2000000
namespace DL
open PySem PySem.Spec PyProof.Rows L2

def T.fi (g : D → T (Option D)) : List D → List D → T (List D)
  | [], acc => .v acc
  | a :: as, acc => (g a).bind fun o => match o with
    | some y => .gd (szOk (acc.length + 1)) (T.fi g as (acc ++ [y]))
    | none => T.fi g as acc
def T.f2 (g : D → List D → T (List D)) : List D → List D → T (List D)
  | [], acc => .v acc
  | a :: as, acc => (g a acc).bind (T.f2 g as)
end DL

set_option maxHeartbeats 2000000
namespace DL
open PySem PySem.Spec PyProof.Rows L2

end DL

set_option maxHeartbeats 2000000
namespace DL
open PySem PySem.Spec PyProof.Rows L2

end DL

set_option maxHeartbeats 2000000
namespace DL
open PySem PySem.Spec PyProof.Rows L2

section
variable {X : Cx} {W : DWX}
def aReprQ : DRL := fun ds M Q => aRepr ds M Q ∨ (ds = [.non] ∧ Q (.str "None") M) ∨ (∃ b, ds = [.bl b] ∧ Q (.str (if b then "True" else "False")) M) ∨ ∃ i, ds = [.int i] ∧ i.natAbs.log2 < 1920 ∧ Q (.str (toString i)) M
theorem c_reprQ {k : Nat} (hr : Rm k X.A) (hsy : (X.K.lookup sysModules).isSome = true) : DCall X W (.builtin "repr") aReprQ := by
  intro pins s st H Z r M xs vs ds Q I q rv rp h
  rcases h with h | ⟨rfl, hq⟩ | ⟨b, rfl, hq⟩ | ⟨i, rfl, hi, hq⟩
  · exact c_repr hr hsy pins s st H Z r M xs vs ds Q I q rv rp h
  · cases rp with
    | cons r1 rr =>
      cases rr
      cases r1
      obtain ⟨u, rfl, ru⟩ := vals1 rv
      cases ru
      exact PySem.P.repr_of_none ⟨.str _, H, I.tok _, ⟨_, rfl⟩, EQ.val q (.str _) hq⟩
  · cases rp with
    | cons r1 rr =>
      cases rr
      cases r1
      obtain ⟨u, rfl, ru⟩ := vals1 rv
      cases ru
      exact PySem.P.repr_of_bool ⟨.str _, H, I.tok _, ⟨_, rfl⟩, EQ.val q (.str _) hq⟩
  · cases rp with
    | cons r1 rr =>
      cases rr
      cases r1
      obtain ⟨u, rfl, t, rfl⟩ := vals1 rv
      exact PySem.P.repr_of_int hi ⟨.str _, H, I.tok _, ⟨_, rfl⟩, EQ.val q (.str _) hq⟩
def pReprQ : D → Option D
  | .non => some (.str "None")
  | .bl b => some (.str (if b then "True" else "False"))
  | .int i => og (decide (i.natAbs.log2 < 1920)) (.str (toString i))
  | d => pRepr d
theorem b_reprQ {k : Nat} (hr : Rm k X.A) (hsy : (X.K.lookup sysModules).isSome = true) : OpNs X W (.builtin "repr") (p1 pReprQ) := by
  obtain ⟨o1, h1, h2⟩ := b_repr (W := W) hr hsy
  refine ⟨fun ds M Q => o1 ds M Q ∨ aReprQ ds M Q, ?_, fun M ds d Q e q => ?_⟩
  · intro pins s st H Z r M xs vs ds Q I q rv rp h
    rcases h with h | h
    · exact h1 pins s st H Z r M xs vs ds Q I q rv rp h
    · exact c_reprQ hr hsy pins s st H Z r M xs vs ds Q I q rv rp h
  · unfold p1 at e
    split at e
    · rename_i x
      unfold pReprQ at e
      split at e
      · cases e
        exact .inr (.inr (.inl ⟨rfl, q⟩))
      · cases e
        exact .inr (.inr (.inr (.inl ⟨_, rfl, q⟩)))
      · obtain ⟨e1, e2⟩ := og_s.mp e
        subst e2
        exact .inr (.inr (.inr (.inr ⟨_, rfl, of_decide_eq_true e1, q⟩)))
      · exact .inl (h2 M _ d Q e q)
    · cases e
end
end DL

set_option maxHeartbeats 2000000
namespace DL
open PySem PySem.Spec PyProof.Rows L2

def lettersS : Str := "abcdefghijklmnopqrstuvwxyz"
def digitsS : Str := "0123456789"
def lettersL : List Nat := lettersS.cps.toList
def digitsL : List Nat := digitsS.cps.toList
def nameL (l : List Nat) : Bool := decide (1 ≤ l.length ∧ l.length ≤ 8) && ((match l with | c :: _ => decide (c ∈ lettersL) | [] => false) && l.all fun c => decide (c ∈ lettersL) || decide (c ∈ digitsL))
theorem blsD_rep1 : ∀ m : Nat, blsD (List.replicate m (.bl true)) = some (List.replicate m true)
  | 0 => rfl
  | m + 1 => by
    rw [List.replicate_succ, List.replicate_succ]
    show (blsD (List.replicate m (.bl true))).map _ = _
    rw [blsD_rep1 m]
    rfl
theorem all_rep1 (m : Nat) : (List.replicate m true).all id = true := by
  rw [List.all_eq_true]
  intro x hx
  exact List.eq_of_mem_replicate hx
def signsS : Str := "abcdefghijklmnopqrstuvwxyz0123456789"
theorem sign_ok {i c : Nat} (h : signsS.cps.toList[i]? = some c) : (c ∈ lettersL ∨ c ∈ digitsL) ∧ c < 1114112 := by
  have key : signsS.cps.toList.all (fun c => (decide (c ∈ lettersL) || decide (c ∈ digitsL)) && decide (c < 1114112)) = true := by decide +kernel
  have := List.all_eq_true.mp key c (List.mem_of_getElem? h)
  simpa using this
theorem sign_letter {i c : Nat} (hi : i < 26) (h : signsS.cps.toList[i]? = some c) : c ∈ lettersL := by
  have key : (signsS.cps.toList.take 26).all (fun c => decide (c ∈ lettersL)) = true := by decide +kernel
  have h2 : (signsS.cps.toList.take 26)[i]? = some c := by rw [List.getElem?_take_of_lt hi]; exact h
  simpa using List.all_eq_true.mp key c (List.mem_of_getElem? h2)
structure NameZ (z : Str) (n : Nat) : Prop where
  len : 1 ≤ z.length ∧ z.length ≤ n
  ok : PyData.strOk z = true
  hd : ∃ c l, z.cps.toList = c :: l ∧ c ∈ lettersL
  all : ∀ c ∈ z.cps.toList, c ∈ lettersL ∨ c ∈ digitsL
theorem NameZ.one {c : Nat} (h : c ∈ lettersL) (hc : c < 1114112) : NameZ ⟨#[c]⟩ 1 where
  len := ⟨Nat.le_refl _, Nat.le_refl _⟩
  ok := by show Array.all #[c] _ = true; simpa using hc
  hd := ⟨c, [], rfl, h⟩
  all := fun d hd => by simp at hd; rw [hd]; exact .inl h
theorem NameZ.snoc {z : Str} {n c : Nat} (h : NameZ z n) (h1 : c ∈ lettersL ∨ c ∈ digitsL) (hc : c < 1114112) : NameZ (z ++ ⟨#[c]⟩) (n + 1) := by
  have e : (z ++ (⟨#[c]⟩ : Str)).cps = z.cps ++ #[c] := rfl
  have el : (z ++ (⟨#[c]⟩ : Str)).length = z.length + 1 := by show (z.cps ++ #[c]).size = _; simp [Str.length]
  refine ⟨by rw [el]; have := h.len; omega, ?_, ?_, fun d hd => ?_⟩
  · have := h.ok
    show Array.all (z.cps ++ #[c]) _ = true
    rw [Array.all_append]
    rw [Bool.and_eq_true]
    exact ⟨this, by simpa using hc⟩
  · obtain ⟨c0, l, e0, hl⟩ := h.hd
    exact ⟨c0, l ++ [c], by rw [e]; simp [e0], hl⟩
  · rw [e] at hd
    simp at hd
    rcases hd with hd | rfl
    · exact h.all d (by simpa using hd)
    · exact h1
theorem NameZ.name {z : Str} (h : NameZ z 8) : nameL z.cps.toList = true := by
  have el : z.cps.toList.length = z.length := by simp [Str.length]
  obtain ⟨c, l, e, hc⟩ := h.hd
  have ha := h.all
  unfold nameL
  rw [Bool.and_eq_true, Bool.and_eq_true]
  refine ⟨decide_eq_true (by have := h.len; omega), ?_, List.all_eq_true.mpr fun d hd => by simpa using ha d hd⟩
  rw [e]
  simpa using hc
theorem NameZ.up {z : Str} {n m : Nat} (h : NameZ z n) (hm : n ≤ m) : NameZ z m := ⟨⟨h.len.1, Nat.le_trans h.len.2 hm⟩, h.ok, h.hd, h.all⟩
theorem thing_int {n : Int} (h : n.natAbs.log2 < 200) : Thing (.int n) := ⟨.int n, rfl, decide_eq_true (Nat.lt_of_lt_of_le h (Nat.le_of_ble_eq_true rfl)), by simp only [szP]; omega, Nat.zero_le _⟩
def isCountD : D → Bool
  | .int i => decide (0 ≤ i)
  | _ => false
def kindD : D → Bool
  | .str z => inV (.str z) [.str "beyond", .str "upto", .str "reach"]
  | _ => false
def isNameD : D → Bool
  | .str z => nameL z.cps.toList
  | _ => false
end DL

set_option maxHeartbeats 2000000
namespace DL
open PySem PySem.Spec PyProof.Rows L2 PySem.NumText TL

theorem len_app (a b : Str) : (a ++ b).length = a.length + b.length := by
  rw [len_tl, len_tl, len_tl, tl_append, List.length_append]
theorem strOk_tl {z : Str} : PyData.strOk z = true ↔ ∀ c ∈ tl z, c < 1114112 := by
  have e : PyData.strOk z = z.cps.all (· < 0x110000) := rfl
  rw [e, ← Array.all_toList]
  constructor
  · intro h c hc
    simpa using List.all_eq_true.mp h c hc
  · intro h
    exact List.all_eq_true.mpr fun c hc => by simpa using h c hc
theorem strOk_app {a b : Str} (ha : PyData.strOk a = true) (hb : PyData.strOk b = true) : PyData.strOk (a ++ b) = true := by
  rw [strOk_tl] at *
  intro c hc
  rw [tl_append] at hc
  exact (List.mem_append.mp hc).elim (ha c) (hb c)
structure Tx (n : Nat) (z : Str) : Prop where
  len : z.length ≤ n
  ok : PyData.strOk z = true
theorem Tx.app {n m : Nat} {a b : Str} (h : Tx n a) (k : Tx m b) : Tx (n + m) (a ++ b) := ⟨by rw [len_app]; have := h.len; have := k.len; omega, strOk_app h.ok k.ok⟩
theorem Tx.up {n m : Nat} {a : Str} (h : Tx n a) (hm : n ≤ m) : Tx m a := ⟨Nat.le_trans h.len hm, h.ok⟩
theorem tx_lit {z : Str} (h : decide (z.length ≤ 40) = true := by decide) (hok : PyData.strOk z = true := by decide +kernel) : Tx 40 z := ⟨of_decide_eq_true h, hok⟩
abbrev numS (i : Int) : Str := Str.ofString (toString i)
theorem ts_nat (n : Nat) : tl (numS (n : Int)) = numL n := tl_num n
theorem ts_neg {n : Nat} (h : 0 < n) : tl (numS (-(n : Int))) = 45 :: numL n := by
  obtain ⟨k, rfl⟩ : ∃ k, n = k + 1 := ⟨n - 1, by omega⟩
  have e : (toString (-((k + 1 : Nat) : Int)) : String) = "-" ++ Nat.repr (k + 1) := rfl
  show tl (Str.ofString (toString (-((k + 1 : Nat) : Int)))) = _
  rw [e]
  have e2 : tl (Str.ofString ("-" ++ Nat.repr (k + 1))) = ("-" ++ Nat.repr (k + 1)).toList.map Char.toNat := PyProof.Rows.signs_ofString _
  rw [e2, String.toList_append, List.map_append, Nat.toList_repr]
  rfl
theorem numS_cases (i : Int) : (∃ n : Nat, i = n ∧ tl (numS i) = numL n) ∨ ∃ n : Nat, 0 < n ∧ i = -(n : Int) ∧ tl (numS i) = 45 :: numL n := by
  rcases Int.lt_or_le i 0 with h | h
  · refine .inr ⟨i.natAbs, by omega, by omega, ?_⟩
    have e : i = -(i.natAbs : Int) := by omega
    rw [e]
    have := ts_neg (n := i.natAbs) (by omega)
    simpa using this
  · obtain ⟨n, rfl⟩ := Int.eq_ofNat_of_zero_le h
    exact .inl ⟨n, rfl, ts_nat n⟩
theorem numS_signs {i : Int} {c : Nat} (h : c ∈ tl (numS i)) : c = 45 ∨ (48 ≤ c ∧ c ≤ 57) := by
  rcases numS_cases i with ⟨n, _, e⟩ | ⟨n, _, _, e⟩
  · rw [e] at h; exact .inr (numL_digits n c h)
  · rw [e] at h
    rcases List.mem_cons.mp h with h | h
    · exact .inl h
    · exact .inr (numL_digits n c h)
theorem numL_len40 {n : Nat} (h : n.log2 < 200) : (numL n).length ≤ 70 := by
  refine numL_len (by decide) (Nat.lt_of_lt_of_le (Nat.lt_log2_self (n := n)) ?_)
  refine Nat.le_trans (Nat.pow_le_pow_right (by decide) (by omega : n.log2 + 1 ≤ 200)) ?_
  decide +kernel
theorem numS_tx {i : Int} (h : i.natAbs.log2 < 200) : Tx 80 (numS i) := by
  refine ⟨?_, strOk_tl.mpr fun c hc => by rcases numS_signs hc with h | h <;> omega⟩
  rw [len_tl]
  rcases numS_cases i with ⟨n, e0, e⟩ | ⟨n, _, e0, e⟩
  · rw [e]
    have : i.natAbs = n := by omega
    rw [this] at h
    have := numL_len40 h
    omega
  · rw [e, List.length_cons]
    have : i.natAbs = n := by omega
    rw [this] at h
    have := numL_len40 h
    omega
end DL
namespace DL
open PySem PySem.Spec PyProof.Rows L2 PySem.NumText TL
abbrev PairS := Str × Option Int
structure RowS where
  b : Str
  e : Str
  k : Str
  n : Int
  r : Int
def topD : Option Int → D
  | none => .non
  | some n => .int n
def pairD (p : PairS) : D := .tup [.str p.1, topD p.2]
def rowL (r : RowS) : List D := [.str r.b, .str r.e, .str r.k, .int r.n, .int r.r]
def rowD (r : RowS) : D := .tup (rowL r)
def tagsOf (ps : List PairS) : List Str := ps.map (·.1)
structure PairOk (p : PairS) : Prop where
  nm : NameZ p.1 8
  top : ∀ n, p.2 = some n → 0 ≤ n ∧ n.natAbs.log2 < 200
def kindsS : List Str := ["beyond", "upto", "reach"]
def Bt (k : Nat) (n : Int) : Prop := n.natAbs < 2 ^ k
structure RowOk (ts : List Str) (r : RowS) : Prop where
  ij : ∃ i j : Nat, i ≤ j ∧ ts[i]? = some r.b ∧ ts[j]? = some r.e
  kd : r.k ∈ kindsS
  num : 0 ≤ r.n ∧ r.n.natAbs.log2 < 200
  rate : r.r.natAbs.log2 < 200
  nb : Bt 150 r.n
structure SchOk (ps : List PairS) (rs : List RowS) : Prop where
  days : 1 ≤ ps.length ∧ ps.length ≤ 7
  rules : rs.length ≤ 8
  pair : ∀ p ∈ ps, PairOk p
  row : ∀ r ∈ rs, RowOk (tagsOf ps) r
  nd : (tagsOf ps).Nodup
def dayP (K : PySem.W.Frag) (p : PairS) : D := .ins (He.ga K "Day") [pairD p]
def ruleP (K : PySem.W.Frag) (r : RowS) : D := .ins (He.ga K "Rule") [rowD r]
def dayL (p : PairS) : Str := match p.2 with
  | none => ("day " : Str) ++ p.1 ++ (" any" : Str)
  | some n => ("day " : Str) ++ p.1 ++ (" most " : Str) ++ numS n
def ruleL (r : RowS) : Str := ("rule " : Str) ++ r.b ++ (" to " : Str) ++ r.e ++ (" " : Str) ++ r.k ++ (" " : Str) ++ numS r.n ++ (" pays " : Str) ++ numS r.r
def linesS (ps : List PairS) (rs : List RowS) : List Str := ps.map dayL ++ rs.map ruleL
def textS (ps : List PairS) (rs : List RowS) : Str := Txt.join "\n" (linesS ps rs)
theorem NameZ.tx {z : Str} (h : NameZ z 8) : Tx 8 z := ⟨h.len.2, h.ok⟩
theorem kind_tx {k : Str} (h : k ∈ kindsS) : Tx 40 k := by
  simp only [kindsS, List.mem_cons, List.mem_nil_iff, or_false] at h
  rcases h with rfl | rfl | rfl <;> exact tx_lit
theorem dayL_tx {p : PairS} (h : PairOk p) : Tx 300 (dayL p) := by
  unfold dayL
  cases e : p.2 with
  | none => exact ((Tx.app tx_lit h.nm.tx).app tx_lit).up (by decide)
  | some n => exact (((Tx.app tx_lit h.nm.tx).app tx_lit).app (numS_tx (h.top n e).2)).up (by decide)
theorem ruleL_tx {ts : List Str} {r : RowS} (ht : ∀ t ∈ ts, NameZ t 8) (h : RowOk ts r) : Tx 500 (ruleL r) := by
  obtain ⟨i, j, _, h1, h2⟩ := h.ij
  have b := (ht _ (List.mem_of_getElem? h1)).tx
  have e := (ht _ (List.mem_of_getElem? h2)).tx
  exact ((((((((Tx.app tx_lit b).app tx_lit).app e).app tx_lit).app (kind_tx h.kd)).app tx_lit).app (numS_tx h.num.2)).app tx_lit).app (numS_tx h.rate) |>.up (by decide)
theorem SchOk.tags {ps : List PairS} {rs : List RowS} (h : SchOk ps rs) : ∀ t ∈ tagsOf ps, NameZ t 8 := fun t ht => by
  obtain ⟨p, hp, rfl⟩ := List.mem_map.mp ht
  exact (h.pair p hp).nm
theorem SchOk.lines {ps : List PairS} {rs : List RowS} (h : SchOk ps rs) : ∀ z ∈ linesS ps rs, Tx 500 z := fun z hz => by
  rcases List.mem_append.mp hz with hz | hz
  · obtain ⟨p, hp, rfl⟩ := List.mem_map.mp hz
    exact (dayL_tx (h.pair p hp)).up (by decide)
  · obtain ⟨r, hr, rfl⟩ := List.mem_map.mp hz
    exact ruleL_tx h.tags (h.row r hr)
theorem SchOk.count {ps : List PairS} {rs : List RowS} (h : SchOk ps rs) : (linesS ps rs).length ≤ 15 := by
  unfold linesS
  rw [List.length_append, List.length_map, List.length_map]
  have := h.days.2
  have := h.rules
  omega
theorem join_tx {n : Nat} {sep : Str} (hs : Tx 40 sep) : ∀ {ls : List Str}, (∀ z ∈ ls, Tx n z) → Tx (ls.length * (n + 40)) (Str.join sep ls)
  | [], _ => ⟨Nat.zero_le _, by show PyData.strOk Str.empty = true; decide +kernel⟩
  | [z], h => (h z (List.mem_cons_self ..)).up (by simp)
  | z :: w :: r, h => by
    have i := join_tx hs (ls := w :: r) fun x hx => h x (List.mem_cons_of_mem _ hx)
    have := ((h z (List.mem_cons_self ..)).app hs).app i
    refine Tx.up (a := Str.join sep (z :: w :: r)) this ?_
    rw [List.length_cons (a := z), Nat.succ_mul]
    omega
theorem SchOk.text {ps : List PairS} {rs : List RowS} (h : SchOk ps rs) : Tx 8100 (textS ps rs) := by
  unfold textS
  rw [join_eq]
  refine (join_tx (n := 500) tx_lit h.lines).up ?_
  have := h.count
  omega
end DL

set_option maxHeartbeats 2000000
namespace DL
open PySem PySem.Spec PyProof.Rows L2 PySem.NumText TL

theorem forT_ial {g : FG} {fb : FS} {p : Addr} {Q : Ct → Prop} {E : Value → List (Str × D) → Prop} (P : Nat → Rho → Prop) {ds : List D} {l : Rho} (h0 : P 0 l) (hs : ∀ i x l, ds[i]? = some x → P i l → ∃ l1, g x l = some l1 ∧ (fb l1).al p (StepP (P (i + 1)) Q) E) (hd : ∀ l, P ds.length l → Q (.nx l)) (hc : ∀ l, Q (.ct l) → False) (hb : ∀ l, Q (.bk l) → Q (.nx l)) : (forT g fb ds l).al p Q E := by
  refine forT_al (fun xs l => ∃ k, ds.drop k = xs ∧ k ≤ ds.length ∧ P k l) ?_ ?_ ⟨0, rfl, Nat.zero_le _, h0⟩
  · rintro x xs l ⟨k, e, hk, h⟩
    have hx : ds[k]? = some x := by
      have : (ds.drop k)[0]? = some x := by rw [e]; rfl
      rw [List.getElem?_drop] at this
      simpa using this
    have hlt : k < ds.length := (List.getElem?_eq_some_iff.mp hx).1
    have e' : ds.drop (k + 1) = xs := by
      rw [← List.drop_drop, e]; rfl
    obtain ⟨l1, e1, h1⟩ := hs k x l hx h
    refine ⟨l1, e1, T.al_imp h1 fun c hc' => ?_⟩
    cases c with
    | nx l2 => exact ⟨k + 1, e', hlt, hc'⟩
    | ct l2 => exact (hc _ hc').elim
    | bk l2 => exact hb _ hc'
    | rt d => exact hc'
    | rs C fs l2 => exact hc'
  · rintro l ⟨k, e, hk, h⟩
    refine hd l ?_
    have : ds.length ≤ k := List.drop_eq_nil_iff.mp e
    rw [show ds.length = k by omega]; exact h
theorem map_at {α β : Type} {f : α → β} {xs : List α} {i : Nat} {y : β} (h : (xs.map f)[i]? = some y) : ∃ x, xs[i]? = some x ∧ y = f x := by
  rw [List.getElem?_map] at h
  obtain ⟨x, e, h⟩ := Option.map_eq_some_iff.mp h
  exact ⟨x, e, h.symm⟩
theorem rng_at {n : Nat} {i : Nat} {x : D} (h : (rngD 0 n)[i]? = some x) : i < n ∧ x = .int i := by
  unfold rngD at h
  obtain ⟨k, e, rfl⟩ := map_at h
  have : i < (List.range ((n : Int) - 0).toNat).length := (List.getElem?_eq_some_iff.mp e).1
  rw [List.length_range] at this
  rw [List.getElem?_range this] at e
  cases e
  exact ⟨by omega, by rw [Int.zero_add]⟩
theorem rng_len {n : Nat} : (rngD 0 n).length = n := by unfold rngD; rw [List.length_map, List.length_range]; omega
theorem eqV_s {a b : Str} : eqV (.str a) (.str b) = decide (a = b) := by
  by_cases h : a = b
  · subst h; simp [eqV]
  · simp [eqV, h]
theorem scalL_strs : ∀ ss : List Str, scalL (ss.map D.str) = some (ss.map V.str)
  | [] => rfl
  | s :: ss => by
    show (match scalD (.str s), scalL (ss.map D.str) with | some v, some vs => some (v :: vs) | _, _ => none) = _
    rw [scalL_strs ss]; rfl
theorem inV_strs {z : Str} {ss : List Str} : inV (.str z) (ss.map V.str) = decide (z ∈ ss) := by
  unfold inV
  rw [List.any_map]
  induction ss with
  | nil => simp
  | cons s ss ih =>
    rw [List.any_cons, ih]
    show (eqV (.str s) (.str z) || _) = _
    rw [eqV_s]
    by_cases h : s = z
    · subst h; simp
    · by_cases h2 : z ∈ ss
      · simp [h2]
      · have h3 : ¬ z = s := fun e => h e.symm
        simp [h, h2, h3]
theorem pIn_ls {neg : Bool} {z : Str} {ss : List Str} : pIn neg (.str z) (.lst (ss.map D.str)) = some (.bl (if neg then !decide (z ∈ ss) else decide (z ∈ ss))) := by
  show (match scalD (.str z), scalL (ss.map D.str) with | some w, some vs => some (D.bl (if neg then !inV w vs else inV w vs)) | _, _ => none) = _
  rw [scalL_strs]
  show some (D.bl (if neg then !inV (.str z) (ss.map V.str) else inV (.str z) (ss.map V.str))) = _
  rw [inV_strs]
theorem for_ial {fi : FA} {g : FG} {fb : FS} {l : Rho} {items : List D} {p : Addr} {Q : Ct → Prop} {E : Value → List (Str × D) → Prop} (hi : fi l = .v items) (P : Nat → Rho → Prop) (h0 : P 0 l) (hs : ∀ i x l, items[i]? = some x → P i l → ∃ l1, g x l = some l1 ∧ (fb l1).al p (StepP (P (i + 1)) Q) E) (hd : ∀ l, P items.length l → Q (.nx l)) (hc : ∀ l, Q (.ct l) → False) (hb : ∀ l, Q (.bk l) → Q (.nx l)) : (fFor fi g fb l).al p Q E :=
  for_al hi (forT_ial P h0 hs hd hc hb)
theorem lc_f {fi : FA} {p : TPat} {ft : FT} {fe : FE} {vs : List Nat} {l : Rho} {items : List D} {h : D → Option D} (hi : fi l = .v items) (hl : Nat.ble items.length 100000 = true) (hs : ∀ x ∈ items, stepC p ft fe (wipeR l vs) x = .v (h x)) : fLc fi p ft fe vs l = .v (.lst (items.filterMap h)) := by
  show ((fi l).bind fun items => T.gd (szOk items.length) ((T.fm (stepC p ft fe (wipeR l vs)) items).bind fun ys => T.v (D.lst ys))) = _
  rw [hi, T.bind_v, decide_eq_true (p := items.length ≤ sizeLine) (Nat.le_trans (Nat.le_of_ble_eq_true hl) (by decide)) |> fun e => (show szOk items.length = true from e), T.gd_t, fm_eq hs, T.bind_v]
end DL

set_option maxHeartbeats 2000000
namespace DL
open PySem PySem.Spec PyProof.Rows L2 PySem.NumText TL

def Wd (z : Str) : Prop := ∀ c ∈ tl z, 33 ≤ c
theorem SchOk.ne {ps : List PairS} {rs : List RowS} (h : SchOk ps rs) : linesS ps rs ≠ [] := fun e => by
  have := h.days.1
  have e2 := congrArg List.length e
  unfold linesS at e2
  rw [List.length_append, List.length_map, List.length_nil] at e2
  omega
theorem pSplit_ok {a b : Str} (hb : (b.length == 0) = false) (ha : szOk (a.length + 2) = true) : pSplit (.str a) (.str b) = some (.lst ((Txt.split a b).map D.str)) := by
  show og (!(b.length == 0) && szOk (a.length + 2)) _ = _
  rw [hb, ha]; rfl
theorem Tx.split {n : Nat} {a b : Str} (h : Tx n a) (hn : Nat.ble n 1000000 = true) (hb : (b.length == 0) = false) : pSplit (.str a) (.str b) = some (.lst ((Txt.split a b).map D.str)) :=
  pSplit_ok hb (decide_eq_true (by
    have h1 := h.len
    have h2 := Nat.le_of_ble_eq_true hn
    have := sizeLine_eq
    omega))
end DL

set_option maxHeartbeats 2000000
namespace DL
open PySem PySem.Spec PyProof.Rows L2 TL

theorem Bt.up {j k : Nat} {n : Int} (h : Bt j n) (hk : j ≤ k) : Bt k n := Nat.lt_of_lt_of_le h (Nat.pow_le_pow_right (by decide) hk)
theorem Bt.log {k : Nat} {n : Int} (h : Bt k n) (h0 : 0 < k) : n.natAbs.log2 < k := by
  obtain ⟨j, rfl⟩ : ∃ j, k = j + 1 := ⟨k - 1, by omega⟩
  exact log2_lt h
theorem Bt.zero {k : Nat} : Bt k 0 := Nat.pow_pos (by decide)
theorem Bt.sub {k : Nat} {x y : Int} (hx : Bt k x) (hy : Bt k y) : Bt (k + 1) (x - y) := by
  unfold Bt at *
  rw [Nat.pow_succ]
  omega
theorem Bt.neg {k : Nat} {x : Int} (hx : Bt k x) : Bt k (-x) := by unfold Bt at *; omega
theorem Bt.sumN {k : Nat} : ∀ {l : List Int}, (∀ x ∈ l, Bt k x) → l.sum.natAbs ≤ l.length * 2 ^ k
  | [], _ => Nat.zero_le _
  | x :: l, h => by
    have h1 := h x (List.mem_cons_self ..)
    have h2 := Bt.sumN fun y hy => h y (List.mem_cons_of_mem _ hy)
    have h3 := Int.natAbs_add_le x l.sum
    unfold Bt at h1
    rw [List.sum_cons, List.length_cons, Nat.succ_mul]
    omega
theorem Bt.sum {k j : Nat} {l : List Int} (h : ∀ x ∈ l, Bt k x) (hl : l.length < 2 ^ j) : Bt (k + j) l.sum := by
  have := Bt.sumN h
  unfold Bt
  rw [Nat.pow_add, Nat.mul_comm]
  refine Nat.lt_of_le_of_lt this (Nat.mul_lt_mul_of_pos_right hl (Nat.pow_pos (by decide)))
theorem Bt.thing {k : Nat} {n : Int} (h : Bt k n) (hk : Nat.ble k 1900 = true := by decide) : Thing (.int n) := by
  have hk := Nat.le_of_ble_eq_true hk
  have h2 := (h.up (k := k + 1) (by omega)).log (by omega)
  exact ⟨.int n, rfl, decide_eq_true (by omega), by simp only [szP]; omega, Nat.zero_le _⟩
theorem pSl_t {ds : List D} {lo hi : Option Int} : pSl (.tup ds) lo hi = some (.tup (cutD ds lo hi)) := rfl
end DL

set_option maxHeartbeats 2000000
namespace DL
open PySem PySem.Spec PyProof.Rows L2 TL

def Dt (n k : Nat) (d : D) : Prop := ∃ p, py d = some p ∧ okP p = true ∧ p.canLay0 = true ∧ szP p ≤ n ∧ p.depth ≤ k
theorem Dt.up {n k m j : Nat} {d : D} (h : Dt n k d) (hn : Nat.ble n m = true := by rfl) (hk : Nat.ble k j = true := by rfl) : Dt m j d := by
  obtain ⟨p, e, h1, h2, h3, h4⟩ := h
  exact ⟨p, e, h1, h2, Nat.le_trans h3 (Nat.le_of_ble_eq_true hn), Nat.le_trans h4 (Nat.le_of_ble_eq_true hk)⟩
theorem Dt.str {m : Nat} {z : Str} (h : Tx m z) : Dt (10 * m + 2) 0 (.str z) := ⟨_, rfl, h.ok, h.ok, by simp only [szP]; have := h.len; omega, Nat.zero_le _⟩
theorem Dt.int {n : Int} (h : n.natAbs.log2 < 1900) : Dt 2000 0 (.int n) := ⟨_, rfl, decide_eq_true (by omega), rfl, by simp only [szP]; omega, Nat.zero_le _⟩
theorem Dt.bt {b : Nat} {n : Int} (h : Bt b n) (hb : Nat.ble b 1800 = true := by rfl) : Dt 2000 0 (.int n) := by
  have h1 := Nat.le_of_ble_eq_true hb
  have h2 := (h.up (k := b + 1) (by omega)).log (by omega)
  exact Dt.int (by omega)
theorem Dt.non : Dt 5 0 .non := ⟨_, rfl, rfl, rfl, Nat.le_of_ble_eq_true rfl, Nat.zero_le _⟩
theorem Dt.bl {b : Bool} : Dt 5 0 (.bl b) := ⟨_, rfl, rfl, rfl, Nat.le_of_ble_eq_true rfl, Nat.zero_le _⟩
theorem Dt.all {n k m : Nat} {ds : List D} (h : ∀ d ∈ ds, Dt n k d) (hl : ds.length ≤ m) : ∃ ps, pyL ds = some ps ∧ okA ps = true ∧ PyData.canLayAll0 ps = true ∧ szA ps ≤ m * (n + 2) ∧ PyData.depthAll ps ≤ k := by
  have key : ∀ ds : List D, (∀ d ∈ ds, Dt n k d) → ∃ ps, pyL ds = some ps ∧ okA ps = true ∧ PyData.canLayAll0 ps = true ∧ szA ps ≤ ds.length * (n + 2) ∧ PyData.depthAll ps ≤ k := fun ds => by
    induction ds with
    | nil => intro _; exact ⟨[], rfl, rfl, rfl, Nat.zero_le _, Nat.zero_le _⟩
    | cons d ds ih =>
      intro h
      obtain ⟨p, e, h1, h2, h3, h4⟩ := h d (List.mem_cons_self ..)
      obtain ⟨ps, e2, g1, g2, g3, g4⟩ := ih fun x hx => h x (List.mem_cons_of_mem _ hx)
      refine ⟨p :: ps, pyL_cons e e2, by simp only [okA, h1, g1, Bool.and_self], by simp only [PyData.canLayAll0, h2, g2, Bool.and_self], by simp only [szA, List.length_cons, Nat.succ_mul]; omega, ?_⟩
      simp only [PyData.depthAll]
      omega
  obtain ⟨ps, e, h1, h2, h3, h4⟩ := key ds h
  exact ⟨ps, e, h1, h2, Nat.le_trans h3 (Nat.mul_le_mul_right _ hl), h4⟩
theorem Dt.lst {n k m : Nat} {ds : List D} (h : ∀ d ∈ ds, Dt n k d) (hl : ds.length ≤ m) : Dt (4 + m * (n + 2)) (k + 1) (.lst ds) := by
  obtain ⟨ps, e, h1, h2, h3, h4⟩ := Dt.all h hl
  exact ⟨.list ps, pyL_map e, h1, h2, by simp only [szP]; omega, by simp only [PyData.depth]; omega⟩
theorem Dt.tup {n k m : Nat} {ds : List D} (h : ∀ d ∈ ds, Dt n k d) (hl : ds.length ≤ m) : Dt (4 + m * (n + 2)) (k + 1) (.tup ds) := by
  obtain ⟨ps, e, h1, h2, h3, h4⟩ := Dt.all h hl
  exact ⟨.tuple ps, by show (pyL ds).map _ = _; rw [e]; rfl, h1, h2, by simp only [szP]; omega, by simp only [PyData.depth]; omega⟩
theorem Dt.thing {n k : Nat} {d : D} (h : Dt n k d) (hn : Nat.ble n 100000 = true := by rfl) (hk : Nat.ble k 20 = true := by rfl) : Thing d := by
  obtain ⟨p, e, h1, h2, h3, h4⟩ := h
  exact ⟨p, e, h1, Nat.le_trans h3 (Nat.le_of_ble_eq_true hn), Nat.le_trans h4 (Nat.le_of_ble_eq_true hk)⟩
def reprS (d : D) : Str := match py d with
  | some p => p.shown
  | none => Str.empty
theorem Dt.showB {n k : Nat} {d : D} {p : PyData} (h : Dt n k d) (e : py d = some p) (hn : Nat.ble n 16777216 = true) (hk : Nat.ble k 60 = true) : DL.showB p = true := by
  obtain ⟨p', e', h1, h2, h3, h4⟩ := h
  rw [e] at e'; cases e'
  obtain ⟨s1, s2, s3⟩ := showOk_of h1 (Nat.le_trans h3 (Nat.le_of_ble_eq_true hn)) (Nat.le_trans h4 (Nat.le_of_ble_eq_true hk))
  unfold DL.showB
  rw [Bool.and_eq_true, Bool.and_eq_true]
  exact ⟨s1, decide_eq_true s2, decide_eq_true s3⟩
theorem Dt.repr_l {n k : Nat} {ds : List D} (h : Dt n k (.lst ds)) (hn : Nat.ble n 16777216 = true := by rfl) (hk : Nat.ble k 60 = true := by rfl) : pRepr (.lst ds) = some (.str (reprS (.lst ds))) := by
  obtain ⟨p, e, _⟩ := id h
  unfold pRepr reprS
  simp only [e, h.showB e hn hk]
  rfl
def eqD (x y : D) : Bool := match py x, py y with
  | some p, some q => PyData.eqv p q
  | _, _ => false
theorem Dt.shaped {n k : Nat} {d : D} {p : PyData} (h : Dt n k d) (e : py d = some p) (hk : Nat.ble k 60 = true) : SeqAt.shaped p = true := by
  obtain ⟨p', e', h1, h2, h3, h4⟩ := h
  rw [e] at e'; cases e'
  have := Nat.le_of_ble_eq_true hk
  show (p.canLay0 && decide (p.depth ≤ 64)) = true
  rw [h2, decide_eq_true (by omega)]; rfl
theorem Dt.eq {n k m j : Nat} {x y : D} {neg : Bool} (hx : Dt n k x) (hy : Dt m j y) (hk : Nat.ble k 60 = true := by rfl) (hj : Nat.ble j 60 = true := by rfl) : pEq neg x y = some (.bl (ngB neg (eqD x y))) := by
  obtain ⟨p, e, _⟩ := id hx
  obtain ⟨q, e', _⟩ := id hy
  unfold pEq eqD
  rw [e, e']
  show og (SeqAt.shaped p && SeqAt.shaped q) _ = _
  rw [hx.shaped e hk, hy.shaped e' hj]
  rfl
mutual
theorem eqv_refl : ∀ p : PyData, p.canLay0 = true → PyData.eqv p p = true
  | .none, _ => rfl
  | .bool b, _ => by simp [PyData.eqv]
  | .int b, _ => by simp [PyData.eqv]
  | .str b, _ => by simp [PyData.eqv]
  | .list xs, h => by simp only [PyData.eqv]; exact eqvAll_refl xs (by simpa [PyData.canLay0] using h)
  | .tuple xs, h => by simp only [PyData.eqv]; exact eqvAll_refl xs (by simpa [PyData.canLay0] using h)
  | .dict _, h => by simp [PyData.canLay0] at h
theorem eqvAll_refl : ∀ ps : List PyData, PyData.canLayAll0 ps = true → PyData.eqvAll ps ps = true
  | [], _ => rfl
  | p :: ps, h => by
    have h' : p.canLay0 = true ∧ PyData.canLayAll0 ps = true := by simpa [PyData.canLayAll0] using h
    simp only [PyData.eqvAll, eqv_refl p h'.1, eqvAll_refl ps h'.2, Bool.and_self]
end
theorem Dt.eq_self {n k : Nat} {x : D} (hx : Dt n k x) : eqD x x = true := by
  obtain ⟨p, e, _, h2, _⟩ := hx
  unfold eqD
  rw [e]
  exact eqv_refl p h2
section
variable {ps : List PairS} {rs : List RowS} {ts : List Str} {r : RowS} {q : PairS}
theorem topD_dt {o : Option Int} (h : ∀ n, o = some n → 0 ≤ n ∧ n.natAbs.log2 < 200) : Dt 2000 0 (topD o) := by
  cases o with
  | none => exact Dt.non.up
  | some n => exact Dt.int (Nat.lt_of_lt_of_le (h n rfl).2 (Nat.le_of_ble_eq_true rfl))
theorem pair_dt (h : PairOk q) : Dt 5000 1 (pairD q) := by
  refine (Dt.tup (n := 2000) (k := 0) (m := 2) (ds := [.str q.1, topD q.2]) (fun d hd => ?_) (Nat.le_refl 2)).up
  simp only [List.mem_cons, List.mem_nil_iff, or_false] at hd
  rcases hd with rfl | rfl
  · exact (Dt.str h.nm.tx).up
  · exact topD_dt h.top
theorem row_dt (ht : ∀ t ∈ ts, NameZ t 8) (h : RowOk ts r) : Dt 11000 1 (rowD r) := by
  obtain ⟨i, j, _, h1, h2⟩ := h.ij
  refine (Dt.tup (n := 2000) (k := 0) (m := 5) (ds := rowL r) (fun d hd => ?_) (Nat.le_refl 5)).up
  simp only [rowL, List.mem_cons, List.mem_nil_iff, or_false] at hd
  rcases hd with rfl | rfl | rfl | rfl | rfl
  · exact (Dt.str (ht _ (List.mem_of_getElem? h1)).tx).up
  · exact (Dt.str (ht _ (List.mem_of_getElem? h2)).tx).up
  · exact (Dt.str (kind_tx h.kd)).up
  · exact Dt.int (Nat.lt_of_lt_of_le h.num.2 (Nat.le_of_ble_eq_true rfl))
  · exact Dt.int (Nat.lt_of_lt_of_le h.rate (Nat.le_of_ble_eq_true rfl))
end
end DL

set_option maxHeartbeats 2000000
namespace DL
open PySem PySem.Spec PyProof.Rows L2 PySem.NumText TL

end DL

set_option maxHeartbeats 2000000
namespace DL
open PySem PySem.Spec PyProof.Rows L2

theorem nodup_lt : ∀ (n : Nat) (l : List Nat), l.Nodup → (∀ a ∈ l, a < n) → l.length ≤ n
  | 0, [], _, _ => Nat.le_refl _
  | 0, a :: _, _, h => absurd (h a (List.mem_cons_self ..)) (by omega)
  | n + 1, l, hd, h => by
    by_cases hm : n ∈ l
    · have h1 := List.length_erase_of_mem hm
      have := nodup_lt n (l.erase n) (hd.erase n) fun a ha => by
        have h2 := (hd.mem_erase_iff).mp ha
        have := h a h2.2
        have := h2.1
        omega
      omega
    · have := nodup_lt n l hd fun a ha => by
        have h1 := h a ha
        have h2 : a ≠ n := fun e => hm (e ▸ ha)
        omega
      omega
section
variable {α : Type}
def lkA (l : List (Nat × α)) (k : Nat) : Option α := (l.find? fun kv => decide (kv.1 = k)).map (·.2)
def putA (l : List (Nat × α)) (k : Nat) (y : α) : List (Nat × α) := if (l.any fun kv => decide (kv.1 = k)) = true then l.map (fun kv => if kv.1 = k then (kv.1, y) else kv) else l ++ [(k, y)]
structure KeysA (n : Nat) (l : List (Nat × α)) : Prop where
  nd : (l.map (·.1)).Nodup
  lt : ∀ kv ∈ l, kv.1 < n
theorem KeysA.put {n : Nat} {l : List (Nat × α)} {k : Nat} {y : α} (h : KeysA n l) (hk : k < n) : KeysA n (putA l k y) := by
  unfold putA
  split
  · have e : (l.map fun kv => if kv.1 = k then (kv.1, y) else kv).map (·.1) = l.map (·.1) := by
      rw [List.map_map]
      refine List.map_congr_left fun a _ => ?_
      show (if a.1 = k then (a.1, y) else a).1 = a.1
      split <;> rfl
    refine ⟨by rw [e]; exact h.nd, fun kv hkv => ?_⟩
    obtain ⟨a, ha, rfl⟩ := List.mem_map.mp hkv
    have := h.lt a ha
    show (if a.1 = k then (a.1, y) else a).1 < n
    split <;> exact this
  · rename_i hn
    refine ⟨?_, fun kv hkv => ?_⟩
    · rw [List.map_append, List.map_singleton, List.nodup_append]
      refine ⟨h.nd, by simp, fun a ha b hb e => ?_⟩
      rw [List.mem_singleton] at hb
      subst hb
      obtain ⟨kv, h1, h2⟩ := List.mem_map.mp ha
      refine hn (List.any_eq_true.mpr ⟨kv, h1, ?_⟩)
      rw [h2, e]; simp
    · rcases List.mem_append.mp hkv with h1 | h1
      · exact h.lt _ h1
      · rw [List.mem_singleton] at h1; subst h1; exact hk
theorem KeysA.len {n : Nat} {l : List (Nat × α)} (h : KeysA n l) : l.length ≤ n := by
  have h2 := nodup_lt n (l.map (·.1)) h.nd fun a ha => by
    obtain ⟨kv, h1, rfl⟩ := List.mem_map.mp ha
    exact h.lt kv h1
  rw [List.length_map] at h2
  exact h2
theorem KeysA.nil {n : Nat} : KeysA n ([] : List (Nat × α)) := ⟨List.nodup_nil, fun _ h => by cases h⟩
end
section
variable {ι : Type} (u v : ι → Nat) (w : ι → Int)
variable {u v w}
theorem lkA_mem {α : Type} {l : List (Nat × α)} {k : Nat} {a : α} (h : lkA l k = some a) : (k, a) ∈ l := by
  unfold lkA at h
  obtain ⟨kv, h1, rfl⟩ := Option.map_eq_some_iff.mp h
  have := List.find?_some h1
  have e : kv.1 = k := of_decide_eq_true this
  rw [← e]
  exact List.mem_of_find?_eq_some h1
theorem KeysA.key {α : Type} {n : Nat} {l : List (Nat × α)} (h : KeysA n l) {k : Nat} {a : α} (e : lkA l k = some a) : k < n := h.lt _ (lkA_mem e)
end
end DL

set_option maxHeartbeats 2000000
namespace DL
open PySem PySem.Spec PyProof.Rows L2

inductive Bk (pr : Nat → Option Nat) : Nat → List Nat → Nat → Prop
  | nil {x : Nat} : Bk pr x [] x
  | cons {x y z : Nat} {l : List Nat} : pr x = some y → Bk pr y l z → Bk pr x (x :: l) z
theorem Bk.snoc {pr : Nat → Option Nat} {x y z : Nat} {l : List Nat} (h : Bk pr x l y) (e : pr y = some z) : Bk pr x (l ++ [y]) z := by
  induction h with
  | nil => exact .cons e .nil
  | cons e1 _ ih => exact .cons e1 (ih e)
theorem Bk.ring {pr : Nat → Option Nat} {x z : Nat} {l : List Nat} (h : Bk pr x l z) (hz : z ∈ l) : ∃ p m, l = p ++ z :: m ∧ Bk pr z (z :: m) z := by
  induction h with
  | nil => cases hz
  | @cons x y z l e h ih =>
    by_cases hx : z = x
    · subst hx
      exact ⟨[], l, rfl, .cons e h⟩
    · rcases List.mem_cons.mp hz with q | q
      · exact absurd q hx
      · obtain ⟨p, m, h1, h2⟩ := ih q
        exact ⟨x :: p, m, by rw [h1]; rfl, h2⟩
end DL

set_option maxHeartbeats 2000000
namespace DL
open PySem PySem.Spec PyProof.Rows L2
end DL

set_option maxHeartbeats 2000000
namespace DL
open PySem PySem.Spec PyProof.Rows L2
end DL

set_option maxHeartbeats 2000000
namespace DL
open PySem PySem.Spec PyProof.Rows L2

end DL

set_option maxHeartbeats 2000000
namespace DL
open PySem PySem.Spec PyProof.Rows L2
section
open AutoSeq1 (wpAny_loadPart')
variable {C : Addr} {y : Addr} {dy : Option Addr} {sl : Array (Option Value)}
abbrev slO (C : Addr) (dy : Option Addr) (sl : Array (Option Value)) : Obj := { cls := .ref C, dict := dy, data := .plain, slots := sl }
theorem int_declines_i (b : Int) (u : Tok) : Meets (Builtin.«int.__eq__» ⟨[.int b u, .ref y], []⟩) (fun _ R s => s.heap.get? y = some (slO C dy sl) ∧ R (.ok (.ret .notImplemented)) s) :=
  .of_wp fun prog w A R s h => by obtain ⟨hp, g, d, tk, os⟩ := s; obtain ⟨hl, h⟩ := h; wp_walk using wpAny_loadPart' hl, wpAny_load hl; exact ⟨_, rfl, h⟩
theorem bool_declines_i (b : Bool) : Meets (Builtin.«int.__eq__» ⟨[.bool b, .ref y], []⟩) (fun _ R s => s.heap.get? y = some (slO C dy sl) ∧ R (.ok (.ret .notImplemented)) s) :=
  .of_wp fun prog w A R s h => by obtain ⟨hp, g, d, tk, os⟩ := s; obtain ⟨hl, h⟩ := h; wp_walk using wpAny_loadPart' hl, wpAny_load hl; exact ⟨_, rfl, h⟩
theorem str_declines_i (b : Str) (u : Tok) : Meets (Builtin.«str.__eq__» ⟨[.str b u, .ref y], []⟩) (fun _ R s => s.heap.get? y = some (slO C dy sl) ∧ R (.ok (.ret .notImplemented)) s) :=
  .of_wp fun prog w A R s h => by obtain ⟨hp, g, d, tk, os⟩ := s; obtain ⟨hl, h⟩ := h; wp_walk using wpAny_loadPart' hl, wpAny_load hl; exact ⟨_, rfl, h⟩
def NoInst (y : Addr) (T : String) (s : Shared) : Prop := ∀ (prog : Program) (w : World) (A : Around) (E : Value → Shared → Prop) (Q : Bool → Shared → Prop), Q false s → wpAny (model prog w) A (isInstance (.ref y) (.type T)) Q E s
theorem tuple_declines_i (l : Addr) (items : Array Value) (n : Nat) (dd : Option Addr) (sl : Array (Option Value)) :
    Meets (Builtin.«tuple.__eq__» ⟨[.ref l, .ref y], []⟩) (fun _ R s => NoInst y "tuple" s ∧ s.heap.get? l = some { cls := .type "tuple", dict := dd, data := .seq items n, slots := sl } ∧ R (.ok (.ret .notImplemented)) s) :=
  .of_wp fun prog w A R s h => by
    obtain ⟨hp, g, d, tk, os⟩ := s
    obtain ⟨hn, hl, h⟩ := h
    have hn := hn prog w
    wp_walk using wpAny_loadPart' hl, hn _ _ _
    exact ⟨_, rfl, h⟩
theorem list_declines_i (l : Addr) (items : Array Value) (n : Nat) (dd : Option Addr) (sl : Array (Option Value)) :
    Meets (Builtin.«list.__eq__» ⟨[.ref l, .ref y], []⟩) (fun _ R s => NoInst y "list" s ∧ s.heap.get? l = some { cls := .type "list", dict := dd, data := .seq items n, slots := sl } ∧ R (.ok (.ret .notImplemented)) s) :=
  .of_wp fun prog w A R s h => by
    obtain ⟨hp, g, d, tk, os⟩ := s
    obtain ⟨hn, hl, h⟩ := h
    have hn := hn prog w
    wp_walk using wpAny_loadPart' hl, hn _ _ _
    exact ⟨_, rfl, h⟩
theorem dict_declines_i (l : Addr) :
    Meets (Builtin.«dict.__eq__» ⟨[.ref l, .ref y], []⟩) (fun _ R s => NoInst y "dict" s ∧ s.TypeIs (.ref l) "dict" ∧ R (.ok (.ret .notImplemented)) s) :=
  .of_wp fun prog w A R s h => by
    obtain ⟨hp, g, d, tk, os⟩ := s
    obtain ⟨hn, hl, h⟩ := h
    have hn := hn prog w
    wp_walk using hn _ _ _
    exact ⟨_, rfl, h⟩
end
section
variable {prog : Program} {w : World} {A : Around} {E : Value → Shared → Prop} {s : Shared} {K : PySem.W.Frag} {y C f : Addr} {oy : Obj} {od : Option Obj} {a : Value} {Ta ida : String}
theorem noInst_of (X : K.In s.heap) (I : PySem.W.InstAt s.heap y oy C od) {T : String} (h : PySem.W.subIn K (.ref C) (.type T) = some false) : NoInst y T s := fun prog w A E Q q => by
  have LI : PySem.W.Looks (model prog w) s.heap (isInstance (.ref y) (.type T)) false := I.type.andThen (PySem.W.looks_subIn X h)
  exact LI.here q
theorem rcR {Q : Value → Shared → Prop} (hu : A.units < cLine) (ha : s.TypeIs a Ta) (X : K.In s.heap) (I : PySem.W.InstAt s.heap y oy C od) (hsub : PySem.W.subIn K (.ref C) (.type Ta) = some false) (h1 : Slot Ta "__eq__" ida)
    (hc1 : ∀ Q' : Value → Shared → Prop, Q' .notImplemented s → wpAny (model prog w) A (call (.builtin ida) [a, .ref y]) Q' E s)
    (hs : PySem.W.findIn K (.ref C) "__eq__" = some (some (.ref f))) (hf : PySem.W.isFn K (.ref f) = true)
    (h : wpAny (model prog w) A (call (.ref f) [.ref y, a]) (PySem.W.CmpBack Q) E s) : wpAny (model prog w) A (richCompare .Eq a (.ref y)) Q E s := by
  have one : wpAny (model prog w) A (tryCompare (.ref y) (cmpInfo .Eq).2.2 a) (fun r s' => ∃ v, r = some v ∧ Q v s') E s := by
    unfold tryCompare
    refine wpAny_bind (PySem.W.ifBound_K X I hs hf (wpAny_mono h (fun v s' hv => ?_) fun _ _ e => e))
    cases v <;> first | exact hv.elim | exact wpAny_pure ⟨_, rfl, hv⟩
  rcases hi : cmpInfo CmpOp.Eq with ⟨sym, g, r⟩
  simp only [richCompare, hi, ha.oneThing_none]
  rw [hi] at one
  have e1 : g = "__eq__" := by cases hi; rfl
  refine wpAny_holding (wpAny_bind (wpAny_cRoomFor hu ?_))
  refine wpAny_bind (wpAny_typeOf ha (wpAny_bind (I.type.here ?_)))
  have hne : (Value.type Ta != Value.ref C) = true := rfl
  simp only [hne, if_true]
  refine wpAny_bind ((PySem.W.looks_subIn X hsub).here ?_)
  simp only [Bool.false_eq_true, if_false, Bool.not_false, if_true]
  subst e1
  refine wpAny_bind (m := tryCompare a _ (.ref y)) (wpAny_tryCompare_declines ha h1 (hc1 _ ⟨rfl, ?_⟩))
  refine wpAny_bind (wpAny_mono one (fun r s' z => ?_) fun _ _ e => e)
  obtain ⟨v, rfl, hq⟩ := z
  exact wpAny_pure hq
end
structure NoT (K : PySem.W.Frag) (C : Addr) : Prop where
  non : PySem.W.subIn K (.ref C) (.type "NoneType") = some false
  bl : PySem.W.subIn K (.ref C) (.type "bool") = some false
  int : PySem.W.subIn K (.ref C) (.type "int") = some false
  str : PySem.W.subIn K (.ref C) (.type "str") = some false
  tup : PySem.W.subIn K (.ref C) (.type "tuple") = some false
  lst : PySem.W.subIn K (.ref C) (.type "list") = some false
  dic : PySem.W.subIn K (.ref C) (.type "dict") = some false
def plainL : D → Bool
  | .non => true
  | .bl _ => true
  | .int _ => true
  | .str _ => true
  | .tup _ => true
  | .lst _ => true
  | .dic _ => true
  | _ => false
def isIns (C : Addr) : D → Bool
  | .ins C' _ => decide (C' = C)
  | _ => false
theorem isIns_ok {C : Addr} {y : D} (h : isIns C y = true) : ∃ ds, y = .ins C ds := by
  cases y with
  | ins C' ds => exact ⟨ds, by rw [of_decide_eq_true h]⟩
  | _ => cases h
def aEqR (C : Addr) (sp : DSp) : DR2 := fun x y M Q => plainL x = true ∧ (∃ ds, y = .ins C ds) ∧ sp [y, x] M (fun d M' => ∃ b, d = .bl b ∧ Q (.bl b) M') fun _ _ _ => False
section
variable {X : Cx} {W : DWX} {k : Nat} {C g : Addr} {fd : FuncData} {ps : List Str} {sp : DSp} {gD : List D → List D → List D}
theorem op_eqR (ow : EqS X.K C g) (nt : NoT X.K C) (FG : FnG X.prog X.w X.K X.mg X.base k g fd ps sp) (hr : Rm (k + 1) X.A) (hb : Bd X.K fd ps 2 [] gD) (hg : ∀ x y, gD [x, y] [] = [x, y]) : DOp X W (compareOp .Eq) (aEqR C sp) := by
  intro pins s st H Z r M x y v u a b Q I q rx ry ra rb ⟨hp, ⟨ds, eb⟩, hs⟩
  subst eb
  obtain ⟨ay, dx, sl, od, rfl, J⟩ : ∃ ay dx sl od, y = .ref ay ∧ PySem.W.InstAt s.heap ay (slO C (some dx) sl) C (some od) := by
    cases rb with
    | ins h r =>
      obtain ⟨sl, od, _, J, _⟩ := SlX.slt_inst I (.inr ⟨out_sub _ _ _ _ _ h.1, out_sub _ _ _ _ _ h.2⟩)
      exact ⟨_, _, sl, od, rfl, J⟩
  obtain rfl : u = Value.ref ay := ry
  show wpAny _ _ (richCompare .Eq v (.ref ay)) _ _ s
  have key : ∀ {Ta ida : String}, s.TypeIs v Ta → PySem.W.subIn X.K (.ref C) (.type Ta) = some false → Slot Ta "__eq__" ida → (∀ Q' : Value → Shared → Prop, Q' .notImplemented s → wpAny (model X.prog X.w) X.A (call (.builtin ida) [v, .ref ay]) Q' X.xe s) →
      wpAny (model X.prog X.w) X.A (richCompare .Eq v (.ref ay)) (fun w s' => EP X pins st (EQ (kx X W) Z st r (out Z M H) Q) w s') X.xe s := fun h1 h2 h3 h4 =>
    rcR (hr.room.units0) h1 I.kIn J h2 h3 h4 ow.ow.at_ ow.ow.fn (run_own2 FG (hr.mono (Nat.le_succ _)) I.env0 hb hg I q rb rx ra hs fun w s' ⟨z, H', I3, rz, d', M', q3, q4, q5, k, ek, q6⟩ => by
      subst ek
      cases q4
      obtain rfl : w = Value.bool k := rz
      exact ⟨.bl k, H', I3, rfl, .bl k, M', q3, .bl k, q5, q6⟩)
  have ni : ∀ {T : String}, PySem.W.subIn X.K (.ref C) (.type T) = some false → NoInst ay T s := fun h => noInst_of I.kIn J h
  have fT : ∀ (p : Addr) xs, SqT X.K H p xs → RelV (.ref p) v → wpAny (model X.prog X.w) X.A (richCompare .Eq v (.ref ay)) (fun w s' => EP X pins st (EQ (kx X W) Z st r (out Z M H) Q) w s') X.xe s := fun p xs hT hv => by
    obtain rfl : v = Value.ref p := hv
    obtain ⟨its, _, ⟨⟨cls, dd, data, sl⟩, ho, hc, n, hd⟩, _⟩ := I.tuple hT
    simp only at hc hd
    subst hc hd
    exact key ⟨_, ho, rfl⟩ nt.tup PySem.F.slot_tuple_eq fun Q' q' => call_meets PySem.F.slot_tuple_eq ⟨_, ho, rfl⟩ PySem.F.entry_tuple_eq (PySem.F.args_tuple_eq_2 _ _) (tuple_declines_i p its.toArray n dd sl) ⟨ni nt.tup, ho, q'⟩
  have fL : ∀ (p : Addr) xs, H p = some (.lst xs) → RelV (.ref p) v → wpAny (model X.prog X.w) X.A (richCompare .Eq v (.ref ay)) (fun w s' => EP X pins st (EQ (kx X W) Z st r (out Z M H) Q) w s') X.xe s := fun p xs hT hv => by
    obtain rfl : v = Value.ref p := hv
    obtain ⟨_, its, n, _, ho⟩ := I.hok p _ hT
    exact key ⟨_, ho, rfl⟩ nt.lst PySem.F.slot_list_eq fun Q' q' => call_meets PySem.F.slot_list_eq ⟨_, ho, rfl⟩ PySem.F.entry_list_eq (PySem.F.args_list_eq_2 _ _) (list_declines_i p its.toArray n none #[]) ⟨ni nt.lst, ho, q'⟩
  cases ra with
  | non =>
    obtain rfl : v = Value.none := rx
    exact key (typeIs_none s) nt.non PySem.F.slot_NoneType_eq fun Q' q' => call_gives PySem.F.slot_NoneType_eq rfl PySem.F.entry_NoneType_eq (PySem.F.args_NoneType_eq_2 _ _) (PySem.SeqAt.NoneType___eq___none_ref_0 ay) q'
  | bl b =>
    obtain rfl : v = Value.bool b := rx
    exact key (PySem.typeIs_bool s b) nt.bl PySem.F.slot_bool_eq fun Q' q' => call_meets PySem.F.slot_bool_eq (PySem.typeIs_bool s b) PySem.F.entry_int_eq (PySem.F.args_int_eq_2 _ _) (bool_declines_i b) ⟨J.at_, q'⟩
  | int i =>
    obtain ⟨t, rfl⟩ := rx
    exact key (typeIs_int s i t) nt.int PySem.F.slot_int_eq fun Q' q' => call_meets PySem.F.slot_int_eq (typeIs_int s i t) PySem.F.entry_int_eq (PySem.F.args_int_eq_2 _ _) (int_declines_i i t) ⟨J.at_, q'⟩
  | str z =>
    obtain ⟨t, rfl⟩ := rx
    exact key (typeIs_str s z t) nt.str PySem.F.slot_str_eq fun Q' q' => call_meets PySem.F.slot_str_eq (typeIs_str s z t) PySem.F.entry_str_eq (PySem.F.args_str_eq_2 _ _) (str_declines_i z t) ⟨J.at_, q'⟩
  | tup h1 _ => exact fT _ _ (sqT_mono (out_sub _ _ _) h1) rx
  | lst h1 _ => exact fL _ _ (out_sub _ _ _ _ _ h1) rx
  | @dic p od0 xs ds0 h1 _ =>
    obtain rfl : v = Value.ref p := rx
    obtain ⟨_, _, vs, _, dd⟩ := dk_rd I.hok (.inr ⟨_, out_sub _ _ _ _ _ h1⟩)
    exact key dd.typeIs nt.dic PySem.F.slot_dict_eq fun Q' q' => call_meets PySem.F.slot_dict_eq dd.typeIs PySem.F.entry_dict_eq (PySem.F.args_dict_eq_2 _ _) (dict_declines_i p) ⟨ni nt.dic, dd.typeIs, q'⟩
  | _ => cases hp
end
def fEqR (C1 C2 : Addr) (cs : List Addr) (f1 f2 : List D → T D) (fa fb : FE) : FE := fun l => (fa l).bind fun x => (fb l).bind fun y => match isC C1 x with
  | true => .gd (okO cs y) ((f1 [x, y]).nx.bind fun d => (tB d).bind fun b => .v (.bl b))
  | false => .gd (plainL x && isIns C2 y) ((f2 [y, x]).nx.bind fun d => (tB d).bind fun b => .v (.bl b))
section
variable {X : Cx} {W : DWX} {o : List Nat} {B : Bx} {a b : Expr} {fa fb : FE} {pos : Pos} {C1 C2 g1 g2 : Addr}
theorem te_eqR {k1 k2 : Nat} {fd1 fd2 : FuncData} {ps1 ps2 : List Str} {gD1 gD2 : List D → List D → List D} {cs : List Addr} {f1 f2 : List D → T D} (ow1 : EqS X.K C1 g1) (ow2 : EqS X.K C2 g2) (nt : NoT X.K C2) (hcs : ∀ C' ∈ cs, PySem.W.notFirst X.K C1 (.ref C') = true)
    (F1 : FnG X.prog X.w X.K X.mg X.base k1 g1 fd1 ps1 (spT 2 f1)) (F2 : FnG X.prog X.w X.K X.mg X.base k2 g2 fd2 ps2 (spT 2 f2)) (hr1 : Rm (k1 + 1) X.A) (hr2 : Rm (k2 + 1) X.A) (hb1 : Bd X.K fd1 ps1 2 [] gD1) (hb2 : Bd X.K fd2 ps2 2 [] gD2)
    (ha : DE X W a (tE W o B fa)) (hb' : DE X W b (tE W o B fb)) (hm : behindInMarks .Eq b = false) (hg1 : ∀ x y, gD1 [x, y] [] = [x, y] := by intro _ _; rfl) (hg2 : ∀ x y, gD2 [x, y] [] = [x, y] := by intro _ _; rfl) : DE X W (.Compare a [.Eq] [b] pos) (tE W o B (fEqR C1 C2 cs f1 f2 fa fb)) :=
  (de_cmp ((op_eqO ow1 F1 hr1 hb1 hg1).or (op_eqR ow2 nt F2 hr2 hb2 hg2)) ha hb' hm).imp' fun r M Q ⟨l, w, kk⟩ => ⟨l, w, T.go_imp (T.go_bind.mp kk) fun x kx => ⟨l, w, T.go_imp (T.go_bind.mp kx) fun y q => by
    cases hx : isC C1 x with
    | true =>
      rw [hx] at q
      exact .inl (eqO_go (neg := false) rfl hcs hx (fun p z => w.less.pool p z) q)
    | false =>
      rw [hx] at q
      obtain ⟨h1, h2⟩ := T.go_gd.mp q
      rw [Bool.and_eq_true] at h1
      refine .inr ⟨h1.1, isIns_ok h1.2, rfl, ?_⟩
      refine T.go_mono (T.go_nx.mp (T.go_imp (T.go_bind.mp h2) fun d hd => ?_ : (f2 [y, x]).nx.go B.m (fun d => ∃ b, d = .bl b ∧ Q (.bl b) M) _)) (fun p z => w.less.pool p z) (fun _ z => z) fun _ _ z => z
      obtain ⟨b, rfl, hb⟩ := tB_go.mp (T.go_bind.mp hd)
      exact ⟨b, rfl, hb⟩⟩⟩
theorem fEqR_a {cs : List Addr} {f1 f2 : List D → T D} {l : Rho} : fEqR C1 C2 cs f1 f2 fa fb l = (fa l).bind fun x => (fb l).bind fun y => match isC C1 x with
  | true => .gd (okO cs y) ((f1 [x, y]).nx.bind fun d => (tB d).bind fun b => .v (.bl b))
  | false => .gd (plainL x && isIns C2 y) ((f2 [y, x]).nx.bind fun d => (tB d).bind fun b => .v (.bl b)) := rfl
end
section
open He
variable {x : Str} {K : PySem.W.Frag}
theorem bNoK_ok (h : bNoK x K = true) : NoT K (ga K x) := by
  have k := fun T hT => isT_ok (List.all_eq_true.mp h T hT)
  exact ⟨k _ (by simp), k _ (by simp), k _ (by simp), k _ (by simp), k _ (by simp), k _ (by simp), k _ (by simp)⟩
end
section
variable {K : PySem.W.Frag} {x qual : Str} {params : Arguments} {body : List Stmt} {scope : Scope} {f : Addr} {fd : FuncData} {ps ks : List Str} {dvs : List V} {n : Nat}
theorem Bd.kwE (pick : List (Nat ⊕ Nat)) (F : FunD K x qual params body scope dvs [] f fd) (hd : dvs ≠ []) (es0 : List D) (hr : ∀ Fr, RepL K Fr dvs es0)
    (h : ∀ (T : Addr) (kV doc pm : Value) (an : Option Addr) (cdv ct : Value) (us ws : List Value), us.length = n → ws.length = ks.length → ∃ k : Option (Array Value) → Sem (List (Str × Value)), bindArgs (PySem.W.fnOf x qual params body scope (.ref T) kV doc pm an cdv ct) ⟨us, ks.zip ws⟩ = (seqItems? (.ref T) >>= k) ∧
      ∀ its : List Value, its.length = dvs.length → k (some its.toArray) = pure (ps.zip (gP pick us ws ++ its))) : Bd K fd ps n ks (fun ds es => gP pick ds es ++ es0) := by
  obtain ⟨oc, od, dV, kV, doc, pm, an, cdv, ct, osl, rfl, lk, hcd, hD, hK⟩ := F.ex
  rcases hD with ⟨e, _⟩ | ⟨_, T, o, its, m, rfl, lT, oT, rT⟩
  · exact absurd e hd
  · refine ⟨fun s us ws vs zs ds es Fr X l1 l2 rv rz rp rpz => ?_⟩
    obtain ⟨k, e1, e2⟩ := h T kV doc pm an cdv ct us ws l1 l2
    refine ⟨_, _, BindsTo.of_looks fun M => ?_, (vals_gP rv rz pick).append rT, (repL_gP rp rpz pick).append (hr _)⟩
    rw [e1]
    exact looks_items X lT oT (.of_pure (e2 its rT.length.symm))
end
end DL

--BACK
set_option maxHeartbeats 4000000
namespace DL
open PySem PySem.Spec PyProof.Rows L2
open FR
def CS (K : PySem.W.Frag) : List Addr := [He.ga K "Day", He.ga K "Rule"]
section
variable {K : PySem.W.Frag}
theorem hcs (c : SaysF fa fn K) : ∀ C ∈ CS K, IsiC K C := by
  intro C hC
  simp only [CS, List.mem_cons, List.mem_nil_iff, or_false] at hC
  rcases hC with rfl | rfl
  · exact bIsi_ok (c.fact 60 (f := bIsi "Day"))
  · exact bIsi_ok (c.fact 61 (f := bIsi "Rule"))
theorem kitT_NoneType_Day (c : SaysF fa fn K) : PySem.W.kitOne K (.type "NoneType") (.ref (He.ga K "Day")) = some false := bKitT_ok (c.fact 62 (f := bKitT "NoneType" "Day" false))
theorem kitT_bool_Day (c : SaysF fa fn K) : PySem.W.kitOne K (.type "bool") (.ref (He.ga K "Day")) = some false := bKitT_ok (c.fact 63 (f := bKitT "bool" "Day" false))
theorem kitT_int_Day (c : SaysF fa fn K) : PySem.W.kitOne K (.type "int") (.ref (He.ga K "Day")) = some false := bKitT_ok (c.fact 64 (f := bKitT "int" "Day" false))
theorem kitT_str_Day (c : SaysF fa fn K) : PySem.W.kitOne K (.type "str") (.ref (He.ga K "Day")) = some false := bKitT_ok (c.fact 65 (f := bKitT "str" "Day" false))
theorem kitT_tuple_Day (c : SaysF fa fn K) : PySem.W.kitOne K (.type "tuple") (.ref (He.ga K "Day")) = some false := bKitT_ok (c.fact 66 (f := bKitT "tuple" "Day" false))
theorem kitT_list_Day (c : SaysF fa fn K) : PySem.W.kitOne K (.type "list") (.ref (He.ga K "Day")) = some false := bKitT_ok (c.fact 67 (f := bKitT "list" "Day" false))
theorem kitT_dict_Day (c : SaysF fa fn K) : PySem.W.kitOne K (.type "dict") (.ref (He.ga K "Day")) = some false := bKitT_ok (c.fact 68 (f := bKitT "dict" "Day" false))
theorem kitC_Day_Day (c : SaysF fa fn K) : PySem.W.kitOne K (.ref (He.ga K "Day")) (.ref (He.ga K "Day")) = some true := bKitC_ok (c.fact 69 (f := bKitC "Day" "Day" true))
theorem kitC_Rule_Day (c : SaysF fa fn K) : PySem.W.kitOne K (.ref (He.ga K "Rule")) (.ref (He.ga K "Day")) = some false := bKitC_ok (c.fact 70 (f := bKitC "Rule" "Day" false))
theorem kitT_NoneType_Rule (c : SaysF fa fn K) : PySem.W.kitOne K (.type "NoneType") (.ref (He.ga K "Rule")) = some false := bKitT_ok (c.fact 71 (f := bKitT "NoneType" "Rule" false))
theorem kitT_bool_Rule (c : SaysF fa fn K) : PySem.W.kitOne K (.type "bool") (.ref (He.ga K "Rule")) = some false := bKitT_ok (c.fact 72 (f := bKitT "bool" "Rule" false))
theorem kitT_int_Rule (c : SaysF fa fn K) : PySem.W.kitOne K (.type "int") (.ref (He.ga K "Rule")) = some false := bKitT_ok (c.fact 73 (f := bKitT "int" "Rule" false))
theorem kitT_str_Rule (c : SaysF fa fn K) : PySem.W.kitOne K (.type "str") (.ref (He.ga K "Rule")) = some false := bKitT_ok (c.fact 74 (f := bKitT "str" "Rule" false))
theorem kitT_tuple_Rule (c : SaysF fa fn K) : PySem.W.kitOne K (.type "tuple") (.ref (He.ga K "Rule")) = some false := bKitT_ok (c.fact 75 (f := bKitT "tuple" "Rule" false))
theorem kitT_list_Rule (c : SaysF fa fn K) : PySem.W.kitOne K (.type "list") (.ref (He.ga K "Rule")) = some false := bKitT_ok (c.fact 76 (f := bKitT "list" "Rule" false))
theorem kitT_dict_Rule (c : SaysF fa fn K) : PySem.W.kitOne K (.type "dict") (.ref (He.ga K "Rule")) = some false := bKitT_ok (c.fact 77 (f := bKitT "dict" "Rule" false))
theorem kitC_Day_Rule (c : SaysF fa fn K) : PySem.W.kitOne K (.ref (He.ga K "Day")) (.ref (He.ga K "Rule")) = some false := bKitC_ok (c.fact 78 (f := bKitC "Day" "Rule" false))
theorem kitC_Rule_Rule (c : SaysF fa fn K) : PySem.W.kitOne K (.ref (He.ga K "Rule")) (.ref (He.ga K "Rule")) = some true := bKitC_ok (c.fact 79 (f := bKitC "Rule" "Rule" true))
theorem isi_pl_Day (k : SaysF fa fn K) {d : D} (h : Plain d) : pIsi K (CS K) d (.ref (He.ga K "Day")) = some (.bl false) := by
  unfold pIsi
  cases d with
  | non => first | exact h.elim | (show (match PySem.W.kitOne K (.type "NoneType") (.ref (He.ga K "Day")) with | some b => og true (.bl b) | none => none) = _; rw [kitT_NoneType_Day k]; rfl)
  | bl b => first | exact h.elim | (show (match PySem.W.kitOne K (.type "bool") (.ref (He.ga K "Day")) with | some b => og true (.bl b) | none => none) = _; rw [kitT_bool_Day k]; rfl)
  | int b => first | exact h.elim | (show (match PySem.W.kitOne K (.type "int") (.ref (He.ga K "Day")) with | some b => og true (.bl b) | none => none) = _; rw [kitT_int_Day k]; rfl)
  | str b => first | exact h.elim | (show (match PySem.W.kitOne K (.type "str") (.ref (He.ga K "Day")) with | some b => og true (.bl b) | none => none) = _; rw [kitT_str_Day k]; rfl)
  | tup b => first | exact h.elim | (show (match PySem.W.kitOne K (.type "tuple") (.ref (He.ga K "Day")) with | some b => og true (.bl b) | none => none) = _; rw [kitT_tuple_Day k]; rfl)
  | lst b => first | exact h.elim | (show (match PySem.W.kitOne K (.type "list") (.ref (He.ga K "Day")) with | some b => og true (.bl b) | none => none) = _; rw [kitT_list_Day k]; rfl)
  | scr b => first | exact h.elim | (show (match PySem.W.kitOne K (.type "list") (.ref (He.ga K "Day")) with | some b => og true (.bl b) | none => none) = _; rw [kitT_list_Day k]; rfl)
  | dic b => first | exact h.elim | (show (match PySem.W.kitOne K (.type "dict") (.ref (He.ga K "Day")) with | some b => og true (.bl b) | none => none) = _; rw [kitT_dict_Day k]; rfl)
  | _ => exact h.elim
theorem isi_pl_Rule (k : SaysF fa fn K) {d : D} (h : Plain d) : pIsi K (CS K) d (.ref (He.ga K "Rule")) = some (.bl false) := by
  unfold pIsi
  cases d with
  | non => first | exact h.elim | (show (match PySem.W.kitOne K (.type "NoneType") (.ref (He.ga K "Rule")) with | some b => og true (.bl b) | none => none) = _; rw [kitT_NoneType_Rule k]; rfl)
  | bl b => first | exact h.elim | (show (match PySem.W.kitOne K (.type "bool") (.ref (He.ga K "Rule")) with | some b => og true (.bl b) | none => none) = _; rw [kitT_bool_Rule k]; rfl)
  | int b => first | exact h.elim | (show (match PySem.W.kitOne K (.type "int") (.ref (He.ga K "Rule")) with | some b => og true (.bl b) | none => none) = _; rw [kitT_int_Rule k]; rfl)
  | str b => first | exact h.elim | (show (match PySem.W.kitOne K (.type "str") (.ref (He.ga K "Rule")) with | some b => og true (.bl b) | none => none) = _; rw [kitT_str_Rule k]; rfl)
  | tup b => first | exact h.elim | (show (match PySem.W.kitOne K (.type "tuple") (.ref (He.ga K "Rule")) with | some b => og true (.bl b) | none => none) = _; rw [kitT_tuple_Rule k]; rfl)
  | lst b => first | exact h.elim | (show (match PySem.W.kitOne K (.type "list") (.ref (He.ga K "Rule")) with | some b => og true (.bl b) | none => none) = _; rw [kitT_list_Rule k]; rfl)
  | scr b => first | exact h.elim | (show (match PySem.W.kitOne K (.type "list") (.ref (He.ga K "Rule")) with | some b => og true (.bl b) | none => none) = _; rw [kitT_list_Rule k]; rfl)
  | dic b => first | exact h.elim | (show (match PySem.W.kitOne K (.type "dict") (.ref (He.ga K "Rule")) with | some b => og true (.bl b) | none => none) = _; rw [kitT_dict_Rule k]; rfl)
  | _ => exact h.elim
theorem nfs_Rule (c : SaysF fa fn K) : ∀ C ∈ CS K, PySem.W.notFirst K (He.ga K "Rule") (.ref C) = true := by
  intro C hC
  simp only [CS, List.mem_cons, List.mem_nil_iff, or_false] at hC
  rcases hC with rfl | rfl
  · exact bNf_ok (c.fact 88 (f := bNf "Rule" "Day"))
  · exact bNf_ok (c.fact 89 (f := bNf "Rule" "Rule"))
theorem nfs_Day (c : SaysF fa fn K) : ∀ C ∈ CS K, PySem.W.notFirst K (He.ga K "Day") (.ref C) = true := by
  intro C hC
  simp only [CS, List.mem_cons, List.mem_nil_iff, or_false] at hC
  rcases hC with rfl | rfl
  · exact bNf_ok (c.fact 90 (f := bNf "Day" "Day"))
  · exact bNf_ok (c.fact 91 (f := bNf "Day" "Rule"))
end
def b_is_integer (K : PySem.W.Frag) : FS := (fSeq (fRet (fAndV (fCB (p2 (pIsi K (CS K))) (fCo (fV 0) (fCo (fC (.ty "int")) fNil))) (fNotV (fCB (p2 (pIsi K (CS K))) (fCo (fV 0) (fCo (fC (.ty "bool")) fNil)))))) fNext)
def f_is_integer (K : PySem.W.Frag) : List D → T D := fun ds => runT (b_is_integer K (startD ["value"] ds))
def b_is_count (K : PySem.W.Frag) : FS := (fSeq (fRet (fAndV (fCall (f_is_integer K) (fun ds _ => ds) (fCo (fV 0) fNil) fNil) (f2 pGe (fV 0) (fC (.int (0)))))) fNext)
def f_is_count (K : PySem.W.Frag) : List D → T D := fun ds => runT (b_is_count K (startD ["value"] ds))
def b_is_name (K : PySem.W.Frag) : FS := (fSeq (fIfS (fOr (fNot (fB (fCB (p2 (pIsi K (CS K))) (fCo (fV 0) (fCo (fC (.ty "str")) fNil))))) (fOr (fNot (fB (fCh pLe pLe (fC (.int (1))) (fCB (p1 pLen) (fCo (fV 0) fNil)) (fC (.int (8)))))) (fB (f2 (pIn true) (f2 pIx (fV 0) (fC (.int (0)))) (fC (.str "abcdefghijklmnopqrstuvwxyz")))))) (fSeq (fRet (fC (.bl false))) fNext) fNext) (fSeq (fRet (fCB (p1 pAll) (fCo (fLc (fIv (fV 0)) (.one 1) fYes (fOrV (f2 (pIn false) (fV 1) (fC (.str "abcdefghijklmnopqrstuvwxyz"))) (f2 (pIn false) (fV 1) (fC (.str "0123456789")))) [1]) fNil))) fNext))
def f_is_name (K : PySem.W.Frag) : List D → T D := fun ds => runT (b_is_name K (startD ["value", "sign"] ds))
def b_Day_init (K : PySem.W.Frag) : FS := (fSeq (fIfS (fNot (fB (fCall (f_is_name K) (fun ds _ => ds) (fCo (fV 1) fNil) fNil))) (fSeq (fRaise (He.ga K "InvalidName") "given" (fCo (fV 1) fNil)) fNext) fNext) (fSeq (fIfS (fAnd (fB (f2 pNotN (fV 2) (fC .non))) (fNot (fB (fCall (f_is_count K) (fun ds _ => ds) (fCo (fV 2) fNil) fNil)))) (fSeq (fRaise (He.ga K "InvalidMost") "given" (fCo (fV 2) fNil)) fNext) fNext) (fSeq (fSelfS (He.ga K "Day") 0 (fTu (fCo (fV 1) (fCo (fV 2) fNil)))) fNext)))
def f_Day_init (K : PySem.W.Frag) : List D → T D := fun as => runI (b_Day_init K (startD ["self", "name", "most"] (.ins (He.ga K "Day") [] :: as)))
def b_Day_name (K : PySem.W.Frag) : FS := (fSeq (fRet (f2 pIx (f1 (pSlot (He.ga K "Day") 0) (fV 0)) (fC (.int (0))))) fNext)
def f_Day_name (K : PySem.W.Frag) : List D → T D := fun ds => runT (b_Day_name K (startD ["self"] ds))
def b_Day_most (K : PySem.W.Frag) : FS := (fSeq (fRet (f2 pIx (f1 (pSlot (He.ga K "Day") 0) (fV 0)) (fC (.int (1))))) fNext)
def f_Day_most (K : PySem.W.Frag) : List D → T D := fun ds => runT (b_Day_most K (startD ["self"] ds))
def b_Day_eq (K : PySem.W.Frag) : FS := (fSeq (fRet (fAndV (fCB (p2 (pIsi K (CS K))) (fCo (fV 1) (fCo (fC (.ref (He.ga K "Day"))) fNil))) (f2 (pEq false) (f1 (pSlot (He.ga K "Day") 0) (fV 0)) (f1 (pSlot (He.ga K "Day") 0) (fV 1))))) fNext)
def f_Day_eq (K : PySem.W.Frag) : List D → T D := fun ds => runT (b_Day_eq K (startD ["self", "other"] ds))
def b_Rule_init (K : PySem.W.Frag) : FS := (fSeq (fFor (fI asTup (fTu (fCo (fV 1) (fCo (fV 2) fNil)))) (gN 6) (fSeq (fIfS (fNot (fB (fCall (f_is_name K) (fun ds _ => ds) (fCo (fV 6) fNil) fNil))) (fSeq (fRaise (He.ga K "InvalidName") "given" (fCo (fV 6) fNil)) fNext) fNext) fNext)) (fSeq (fIfS (fOr (fNot (fB (fCB (p2 (pIsi K (CS K))) (fCo (fV 3) (fCo (fC (.ty "str")) fNil))))) (fB (f2 (pIn true) (fV 3) (fC (.tup [(.str "beyond"), (.str "upto"), (.str "reach")]))))) (fSeq (fRaise (He.ga K "InvalidKind") "given" (fCo (fV 3) fNil)) fNext) fNext) (fSeq (fIfS (fNot (fB (fCall (f_is_count K) (fun ds _ => ds) (fCo (fV 4) fNil) fNil))) (fSeq (fRaise (He.ga K "InvalidNumber") "given" (fCo (fV 4) fNil)) fNext) fNext) (fSeq (fIfS (fNot (fB (fCall (f_is_integer K) (fun ds _ => ds) (fCo (fV 5) fNil) fNil))) (fSeq (fRaise (He.ga K "InvalidRate") "given" (fCo (fV 5) fNil)) fNext) fNext) (fSeq (fSelfS (He.ga K "Rule") 0 (fTu (fCo (fV 1) (fCo (fV 2) (fCo (fV 3) (fCo (fV 4) (fCo (fV 5) fNil))))))) fNext)))))
def f_Rule_init (K : PySem.W.Frag) : List D → T D := fun as => runI (b_Rule_init K (startD ["self", "first", "last", "kind", "number", "rate", "name"] (.ins (He.ga K "Rule") [] :: as)))
def b_Rule_first (K : PySem.W.Frag) : FS := (fSeq (fRet (f2 pIx (f1 (pSlot (He.ga K "Rule") 0) (fV 0)) (fC (.int (0))))) fNext)
def f_Rule_first (K : PySem.W.Frag) : List D → T D := fun ds => runT (b_Rule_first K (startD ["self"] ds))
def b_Rule_last (K : PySem.W.Frag) : FS := (fSeq (fRet (f2 pIx (f1 (pSlot (He.ga K "Rule") 0) (fV 0)) (fC (.int (1))))) fNext)
def f_Rule_last (K : PySem.W.Frag) : List D → T D := fun ds => runT (b_Rule_last K (startD ["self"] ds))
def b_Rule_kind (K : PySem.W.Frag) : FS := (fSeq (fRet (f2 pIx (f1 (pSlot (He.ga K "Rule") 0) (fV 0)) (fC (.int (2))))) fNext)
def f_Rule_kind (K : PySem.W.Frag) : List D → T D := fun ds => runT (b_Rule_kind K (startD ["self"] ds))
def b_Rule_number (K : PySem.W.Frag) : FS := (fSeq (fRet (f2 pIx (f1 (pSlot (He.ga K "Rule") 0) (fV 0)) (fC (.int (3))))) fNext)
def f_Rule_number (K : PySem.W.Frag) : List D → T D := fun ds => runT (b_Rule_number K (startD ["self"] ds))
def b_Rule_rate (K : PySem.W.Frag) : FS := (fSeq (fRet (f2 pIx (f1 (pSlot (He.ga K "Rule") 0) (fV 0)) (fC (.int (4))))) fNext)
def f_Rule_rate (K : PySem.W.Frag) : List D → T D := fun ds => runT (b_Rule_rate K (startD ["self"] ds))
def b_Rule_eq (K : PySem.W.Frag) : FS := (fSeq (fRet (fAndV (fCB (p2 (pIsi K (CS K))) (fCo (fV 1) (fCo (fC (.ref (He.ga K "Rule"))) fNil))) (f2 (pEq false) (f1 (pSlot (He.ga K "Rule") 0) (fV 0)) (f1 (pSlot (He.ga K "Rule") 0) (fV 1))))) fNext)
def f_Rule_eq (K : PySem.W.Frag) : List D → T D := fun ds => runT (b_Rule_eq K (startD ["self", "other"] ds))
def sp_l_cell (K : PySem.W.Frag) : DSp := sp2 (fun a b M Q E => ∃ ns i, a = .scr ns ∧ b = .int i ∧ 0 ≤ i ∧ ∀ c, Q (.int c) M)
def sp0_l_pool (K : PySem.W.Frag) : DSp := sp1 (fun a M Q E => ∃ c, a = .int c ∧ ∀ p i j k, M p = none → PoolOk i j k → Q (.ref p) (mset M p (.lst [.int i, .int j, .int k])))
def sp_l_pool (K : PySem.W.Frag) : DSp := sp1 (fun a M Q E => ∃ c, a = .int c ∧ ∀ p, M p = none → Q (.ref p) (mset M p .pool))
def sp0_l_draw (K : PySem.W.Frag) : DSp := sp2 (fun a b M Q E => ∃ p n i j k, a = .ref p ∧ b = .int n ∧ M p = some (.lst [.int i, .int j, .int k]) ∧ PoolOk i j k ∧ 0 < n ∧ n.natAbs.log2 < 9000 ∧
  ∀ m i' j' k', 0 ≤ m → m < n → PoolOk i' j' k' → Q (.int m) (mset M p (.lst [.int i', .int j', .int k'])))
def sp_l_draw (K : PySem.W.Frag) : DSp := sp2 (fun a b M Q E => ∃ p n, a = .ref p ∧ b = .int n ∧ M p = some .pool ∧ 0 < n ∧ n.natAbs.log2 < 9000 ∧ ∀ m, 0 ≤ m → m < n → Q (.int m) M)
def f_l_draw (K : PySem.W.Frag) : List D → T D := fun ds => match ds with
  | [.ref p, .int n] => .dr p n fun m => .v (.int m)
  | _ => .no
def b_l_pick (K : PySem.W.Frag) : FS := (fSeq (fRet (f2 pIx (fV 1) (fCall (f_l_draw K) (fun ds _ => ds) (fCo (fV 0) (fCo (fCB (p1 pLen) (fCo (fV 1) fNil)) fNil)) fNil))) fNext)
def f_l_pick (K : PySem.W.Frag) : List D → T D := fun ds => runT (b_l_pick K (startD ["_law_pool_here", "_law_things"] ds))
def b_l_tag (K : PySem.W.Frag) : FS := (fSeq (fIfS (fB (f2 (pEq false) (fCall (f_l_draw K) (fun ds _ => ds) (fCo (fV 0) (fCo (fC (.int (5))) fNil)) fNil) (fC (.int (0))))) (fSeq (fRet (fCall (f_l_pick K) (fun ds _ => ds) (fCo (fV 0) (fCo (fLs (fCo (fC (.str "day")) (fCo (fC (.str "most")) (fCo (fC (.str "any")) (fCo (fC (.str "rule")) (fCo (fC (.str "to")) (fCo (fC (.str "beyond")) (fCo (fC (.str "upto")) (fCo (fC (.str "reach")) (fCo (fC (.str "pays")) fNil)))))))))) fNil)) fNil)) fNext) fNext) (fSeq (fSet 1 (fC (.str "abcdefghijklmnopqrstuvwxyz0123456789"))) (fSeq (fSet 2 (f2 pIx (fV 1) (fCall (f_l_draw K) (fun ds _ => ds) (fCo (fV 0) (fCo (fC (.int (26))) fNil)) fNil))) (fSeq (fFor (fRng1 (fCo (f2 pIx (fLs (fCo (fC (.int (0))) (fCo (fC (.int (0))) (fCo (fC (.int (1))) (fCo (fC (.int (2))) (fCo (fC (.int (3))) (fCo (fC (.int (5))) (fCo (fC (.int (7))) fNil)))))))) (fCall (f_l_draw K) (fun ds _ => ds) (fCo (fV 0) (fCo (fC (.int (7))) fNil)) fNil)) fNil)) (gN 3) (fSeq (fSet 2 (f2 pAdd (fV 2) (f2 pIx (fV 1) (fCall (f_l_draw K) (fun ds _ => ds) (fCo (fV 0) (fCo (fC (.int (36))) fNil)) fNil)))) fNext)) (fSeq (fRet (fV 2)) fNext)))))
def f_l_tag (K : PySem.W.Frag) : List D → T D := fun ds => runT (b_l_tag K (startD ["_law_pool_here", "_law_signs", "_law_found", "_law_turn"] ds))
def b_l_tags (K : PySem.W.Frag) : FS := (fSeq (fPar2 2 3 (fLs fNil) (fLs (fCo (fC (.str "a")) (fCo (fC (.str "b")) (fCo (fC (.str "c7")) (fCo (fC (.str "d")) (fCo (fC (.str "e")) (fCo (fC (.str "f")) (fCo (fC (.str "g1")) (fCo (fC (.str "h")) (fCo (fC (.str "m")) fNil))))))))))) (fSeq (fFor (fRng1 (fCo (fV 1) fNil)) (gN 4) (fSeq (fSet 5 (fCall (f_l_tag K) (fun ds _ => ds) (fCo (fV 0) fNil) fNil)) (fSeq (fApp 2 (f2 pIx (fLc (fIv (f2 pAdd (fLs (fCo (fV 5) fNil)) (fV 3))) (.one 6) (fB (f2 (pIn true) (fV 6) (fV 2))) (fV 6) [6]) (fC (.int (0))))) fNext))) (fSeq (fRetO 2) fNext)))
def f_l_tags (K : PySem.W.Frag) : List D → T D := fun ds => runT (b_l_tags K (startD ["_law_pool_here", "_law_many", "_law_found", "_law_spare", "_law_turn", "_law_tag_here", "_law_mate"] ds))
def b_l_styles (K : PySem.W.Frag) : FS := (fSeq (fRet (fLs (fCo (fC (.str "beyond")) (fCo (fC (.str "upto")) (fCo (fC (.str "reach")) fNil))))) fNext)
def f_l_styles (K : PySem.W.Frag) : List D → T D := fun ds => runT (b_l_styles K (startD [] ds))
def b_l_bar (K : PySem.W.Frag) : FS := (fSeq (fSet 1 (fCall (f_l_draw K) (fun ds _ => ds) (fCo (fV 0) (fCo (fC (.int (8))) fNil)) fNil)) (fSeq (fIfS (fB (f2 pLt (fV 1) (fC (.int (5))))) (fSeq (fRet (fCall (f_l_draw K) (fun ds _ => ds) (fCo (fV 0) (fCo (fC (.int (13))) fNil)) fNil)) fNext) fNext) (fSeq (fIfS (fB (f2 pLt (fV 1) (fC (.int (7))))) (fSeq (fRet (f2 pIx (fLs (fCo (fC (.int (0))) (fCo (fC (.int (1))) (fCo (fC (.int (2))) (fCo (fC (.int (24))) (fCo (fC (.int (40))) (fCo (fC (.int (99))) (fCo (fC (.int (100))) (fCo (f2 pPow (fC (.int (10))) (fC (.int (6)))) fNil))))))))) (fCall (f_l_draw K) (fun ds _ => ds) (fCo (fV 0) (fCo (fC (.int (8))) fNil)) fNil))) fNext) fNext) (fSeq (fRet (f2 pAdd (f2 pIx (fLs (fCo (f2 pPow (fC (.int (10))) (fC (.int (9)))) (fCo (f2 pPow (fC (.int (10))) (fC (.int (12)))) (fCo (f2 pPow (fC (.int (10))) (fC (.int (20)))) (fCo (f2 pPow (fC (.int (10))) (fC (.int (30)))) fNil))))) (fCall (f_l_draw K) (fun ds _ => ds) (fCo (fV 0) (fCo (fC (.int (4))) fNil)) fNil)) (fCall (f_l_draw K) (fun ds _ => ds) (fCo (fV 0) (fCo (fC (.int (5040))) fNil)) fNil))) fNext))))
def f_l_bar (K : PySem.W.Frag) : List D → T D := fun ds => runT (b_l_bar K (startD ["_law_pool_here", "_law_way"] ds))
def b_l_fee (K : PySem.W.Frag) : FS := (fSeq (fSet 1 (fCall (f_l_draw K) (fun ds _ => ds) (fCo (fV 0) (fCo (fC (.int (8))) fNil)) fNil)) (fSeq (fIfS (fB (f2 pLt (fV 1) (fC (.int (5))))) (fSeq (fRet (f2 pSub (fCall (f_l_draw K) (fun ds _ => ds) (fCo (fV 0) (fCo (fC (.int (41))) fNil)) fNil) (fC (.int (20))))) fNext) fNext) (fSeq (fIfS (fB (f2 pLt (fV 1) (fC (.int (7))))) (fSeq (fRet (f2 pIx (fLs (fCo (fC (.int (0))) (fCo (fC (.int (1))) (fCo (f1 pNeg (fC (.int (1)))) (fCo (fC (.int (5))) (fCo (f1 pNeg (fC (.int (30)))) (fCo (fC (.int (100))) (fCo (fC (.int (999))) (fCo (f1 pNeg (f2 pPow (fC (.int (10))) (fC (.int (6))))) fNil))))))))) (fCall (f_l_draw K) (fun ds _ => ds) (fCo (fV 0) (fCo (fC (.int (8))) fNil)) fNil))) fNext) fNext) (fSeq (fSet 2 (f2 pAdd (f2 pIx (fLs (fCo (f2 pPow (fC (.int (10))) (fC (.int (9)))) (fCo (f2 pPow (fC (.int (10))) (fC (.int (12)))) (fCo (f2 pPow (fC (.int (10))) (fC (.int (20)))) (fCo (f2 pPow (fC (.int (10))) (fC (.int (30)))) fNil))))) (fCall (f_l_draw K) (fun ds _ => ds) (fCo (fV 0) (fCo (fC (.int (4))) fNil)) fNil)) (fCall (f_l_draw K) (fun ds _ => ds) (fCo (fV 0) (fCo (fC (.int (5040))) fNil)) fNil))) (fSeq (fRet (f2 pIx (fLs (fCo (fV 2) (fCo (f2 pSub (fC (.int (0))) (fV 2)) fNil))) (fCall (f_l_draw K) (fun ds _ => ds) (fCo (fV 0) (fCo (fC (.int (2))) fNil)) fNil))) fNext)))))
def f_l_fee (K : PySem.W.Frag) : List D → T D := fun ds => runT (b_l_fee K (startD ["_law_pool_here", "_law_way", "_law_size"] ds))
def b_l_top (K : PySem.W.Frag) : FS := (fSeq (fSet 1 (fCall (f_l_draw K) (fun ds _ => ds) (fCo (fV 0) (fCo (fC (.int (8))) fNil)) fNil)) (fSeq (fIfS (fB (f2 pLt (fV 1) (fC (.int (2))))) (fSeq (fRet (fC .non)) fNext) fNext) (fSeq (fIfS (fB (f2 pLt (fV 1) (fC (.int (5))))) (fSeq (fRet (fCall (f_l_draw K) (fun ds _ => ds) (fCo (fV 0) (fCo (fC (.int (25))) fNil)) fNil)) fNext) fNext) (fSeq (fIfS (fB (f2 pLt (fV 1) (fC (.int (7))))) (fSeq (fRet (f2 pIx (fLs (fCo (fC (.int (0))) (fCo (fC (.int (1))) (fCo (fC (.int (24))) (fCo (fC (.int (8))) (fCo (fC (.int (168))) (fCo (fC (.int (10))) (fCo (fC (.int (0))) (fCo (fC (.int (40))) fNil))))))))) (fCall (f_l_draw K) (fun ds _ => ds) (fCo (fV 0) (fCo (fC (.int (8))) fNil)) fNil))) fNext) fNext) (fSeq (fRet (f2 pAdd (f2 pIx (fLs (fCo (f2 pPow (fC (.int (10))) (fC (.int (9)))) (fCo (f2 pPow (fC (.int (10))) (fC (.int (12)))) (fCo (f2 pPow (fC (.int (10))) (fC (.int (20)))) (fCo (f2 pPow (fC (.int (10))) (fC (.int (30)))) fNil))))) (fCall (f_l_draw K) (fun ds _ => ds) (fCo (fV 0) (fCo (fC (.int (4))) fNil)) fNil)) (fCall (f_l_draw K) (fun ds _ => ds) (fCo (fV 0) (fCo (fC (.int (5040))) fNil)) fNil))) fNext)))))
def f_l_top (K : PySem.W.Frag) : List D → T D := fun ds => runT (b_l_top K (startD ["_law_pool_here", "_law_way"] ds))
def b_l_row (K : PySem.W.Frag) : FS := (fSeq (fSet 2 (fCall (f_l_draw K) (fun ds _ => ds) (fCo (fV 0) (fCo (fCB (p1 pLen) (fCo (fV 1) fNil)) fNil)) fNil)) (fSeq (fSet 3 (f2 pAdd (fV 2) (fCall (f_l_draw K) (fun ds _ => ds) (fCo (fV 0) (fCo (f2 pSub (fCB (p1 pLen) (fCo (fV 1) fNil)) (fV 2)) fNil)) fNil))) (fSeq (fSet 4 (fCall (f_l_pick K) (fun ds _ => ds) (fCo (fV 0) (fCo (fCall (f_l_styles K) (fun ds _ => ds) fNil fNil) fNil)) fNil)) (fSeq (fRet (fTu (fCo (f2 pIx (fV 1) (fV 2)) (fCo (f2 pIx (fV 1) (fV 3)) (fCo (fV 4) (fCo (fCall (f_l_bar K) (fun ds _ => ds) (fCo (fV 0) fNil) fNil) (fCo (fCall (f_l_fee K) (fun ds _ => ds) (fCo (fV 0) fNil) fNil) fNil))))))) fNext))))
def f_l_row (K : PySem.W.Frag) : List D → T D := fun ds => runT (b_l_row K (startD ["_law_pool_here", "_law_tags_here", "_law_begin", "_law_end", "_law_style"] ds))
def b_l_made_rule (K : PySem.W.Frag) : FS := (fSeq (fAsg (gTU 5 (gTC (gN 2) (gTC (gN 3) (gTC (gN 4) (gTC (gN 5) (gTC (gN 6) gTN)))))) (fV 1)) (fSeq (fSet 7 (fCall (f_l_draw K) (fun ds _ => ds) (fCo (fV 0) (fCo (fC (.int (3))) fNil)) fNil)) (fSeq (fIfS (fB (f2 (pEq false) (fV 7) (fC (.int (0))))) (fSeq (fRet (fMake (He.ga K "Rule") (f_Rule_init K) (fun ds _ => ds) (fCo (fV 2) (fCo (fV 3) (fCo (fV 4) (fCo (fV 5) (fCo (fV 6) fNil))))) fNil)) fNext) fNext) (fSeq (fIfS (fB (f2 (pEq false) (fV 7) (fC (.int (1))))) (fSeq (fRet (fMake (He.ga K "Rule") (f_Rule_init K) (gP [.inl 0, .inl 1, .inl 2, .inr 1, .inr 0]) (fCo (fV 2) (fCo (fV 3) (fCo (fV 4) fNil))) (fCo (fV 6) (fCo (fV 5) fNil)))) fNext) fNext) (fSeq (fRet (fMake (He.ga K "Rule") (f_Rule_init K) (gP [.inr 4, .inr 3, .inr 1, .inr 0, .inr 2]) fNil (fCo (fV 5) (fCo (fV 4) (fCo (fV 6) (fCo (fV 3) (fCo (fV 2) fNil))))))) fNext)))))
def f_l_made_rule (K : PySem.W.Frag) : List D → T D := fun ds => runT (b_l_made_rule K (startD ["_law_pool_here", "_law_row_here", "_law_begin", "_law_end", "_law_style", "_law_bar_here", "_law_fee_here", "_law_at"] ds))
def b_l_made_day (K : PySem.W.Frag) : FS := (fSeq (fSet 2 (fCall (f_l_draw K) (fun ds _ => ds) (fCo (fV 0) (fCo (fC (.int (3))) fNil)) fNil)) (fSeq (fIfS (fAnd (fB (f2 (pEq false) (fV 2) (fC (.int (0))))) (fB (f2 pIsN (f2 pIx (fV 1) (fC (.int (1)))) (fC .non)))) (fSeq (fRet (fIf (fB (f2 (pEq false) (fCall (f_l_draw K) (fun ds _ => ds) (fCo (fV 0) (fCo (fC (.int (2))) fNil)) fNil) (fC (.int (0))))) (fMake (He.ga K "Day") (f_Day_init K) (fun ds _ => ds ++ ([.non] : List D)) (fCo (f2 pIx (fV 1) (fC (.int (0)))) fNil) fNil) (fMake (He.ga K "Day") (f_Day_init K) (fun ds es => gP [.inr 0] ds es ++ ([.non] : List D)) fNil (fCo (f2 pIx (fV 1) (fC (.int (0)))) fNil)))) fNext) fNext) (fSeq (fRet (fIf (fB (f2 pLt (fV 2) (fC (.int (2))))) (fMake (He.ga K "Day") (f_Day_init K) (fun ds _ => ds) (fCo (f2 pIx (fV 1) (fC (.int (0)))) (fCo (f2 pIx (fV 1) (fC (.int (1)))) fNil)) fNil) (fMake (He.ga K "Day") (f_Day_init K) (gP [.inr 1, .inr 0]) fNil (fCo (f2 pIx (fV 1) (fC (.int (1)))) (fCo (f2 pIx (fV 1) (fC (.int (0)))) fNil))))) fNext)))
def f_l_made_day (K : PySem.W.Frag) : List D → T D := fun ds => runT (b_l_made_day K (startD ["_law_pool_here", "_law_pair", "_law_at"] ds))
def b_l_shown (K : PySem.W.Frag) : FS := (fSeq (fRet (fTu (fCo (fProp (He.ga K "Rule") (f_Rule_first K) (fV 0)) (fCo (fProp (He.ga K "Rule") (f_Rule_last K) (fV 0)) (fCo (fProp (He.ga K "Rule") (f_Rule_kind K) (fV 0)) (fCo (fProp (He.ga K "Rule") (f_Rule_number K) (fV 0)) (fCo (fProp (He.ga K "Rule") (f_Rule_rate K) (fV 0)) fNil))))))) fNext)
def f_l_shown (K : PySem.W.Frag) : List D → T D := fun ds => runT (b_l_shown K (startD ["_law_thing"] ds))
def b_l_mixed_row (K : PySem.W.Frag) : FS := (fSeq (fSet 2 (fCall (f_l_row K) (fun ds _ => ds) (fCo (fV 0) (fCo (fCall (f_l_tags K) (fun ds _ => ds) (fCo (fV 0) (fCo (fC (.int (2))) fNil)) fNil) fNil)) fNil)) (fSeq (fSet 3 (fCall (f_l_draw K) (fun ds _ => ds) (fCo (fV 0) (fCo (fC (.int (7))) fNil)) fNil)) (fSeq (fRet (fIf (fB (f2 (pEq false) (fV 3) (fC (.int (6))))) (fV 2) (f2 pAdd (f2 pAdd (fSl (fV 1) fNoP (fPa (fV 3))) (fSl (fV 2) (fPa (fV 3)) (fPa (f2 pAdd (fV 3) (fC (.int (1))))))) (fSl (fV 1) (fPa (f2 pAdd (fV 3) (fC (.int (1))))) fNoP)))) fNext)))
def f_l_mixed_row (K : PySem.W.Frag) : List D → T D := fun ds => runT (b_l_mixed_row K (startD ["_law_pool_here", "_law_row_here", "_law_mate", "_law_at"] ds))
def b_l_rules_right (K : PySem.W.Frag) : FS := (fSeq (fSet 1 (fCall (f_l_row K) (fun ds _ => ds) (fCo (fV 0) (fCo (fCall (f_l_tags K) (fun ds _ => ds) (fCo (fV 0) (fCo (fC (.int (2))) fNil)) fNil) fNil)) fNil)) (fSeq (fSet 2 (fCall (f_l_mixed_row K) (fun ds _ => ds) (fCo (fV 0) (fCo (fV 1) fNil)) fNil)) (fSeq (fPar3 3 4 5 (fCo (fCall (f_l_made_rule K) (fun ds _ => ds) (fCo (fV 0) (fCo (fV 1) fNil)) fNil) (fCo (fCall (f_l_made_rule K) (fun ds _ => ds) (fCo (fV 0) (fCo (fV 2) fNil)) fNil) (fCo (fCall (f_l_made_rule K) (fun ds _ => ds) (fCo (fV 0) (fCo (fV 1) fNil)) fNil) fNil)))) (fSeq (fIfS (fB (f2 (pEqT true) (fCB (p1 pReprQ) (fCo (fLs (fCo (fCall (f_l_shown K) (fun ds _ => ds) (fCo (fV 3) fNil) fNil) (fCo (fCall (f_l_shown K) (fun ds _ => ds) (fCo (fV 4) fNil) fNil) (fCo (fCall (f_l_shown K) (fun ds _ => ds) (fCo (fV 3) fNil) fNil) fNil)))) fNil)) (fCB (p1 pReprQ) (fCo (fLs (fCo (fV 1) (fCo (fV 2) (fCo (fV 1) fNil)))) fNil)))) (fSeq (fRet (fC (.bl false))) fNext) fNext) (fSeq (fPar 6 7 (fCo (fLs (fCo (fEqO (He.ga K "Rule") (CS K) (f_Rule_eq K) false (fV 3) (fV 4)) (fCo (fEqO (He.ga K "Rule") (CS K) (f_Rule_eq K) false (fV 4) (fV 3)) (fCo (fEqO (He.ga K "Rule") (CS K) (f_Rule_eq K) true (fV 3) (fV 4)) (fCo (fEqO (He.ga K "Rule") (CS K) (f_Rule_eq K) false (fV 3) (fV 5)) (fCo (fEqO (He.ga K "Rule") (CS K) (f_Rule_eq K) true (fV 3) (fV 5)) fNil)))))) (fCo (f2 (pEq false) (fV 1) (fV 2)) fNil))) (fSeq (fIfS (fB (f2 (pEq true) (fV 6) (fLs (fCo (fV 7) (fCo (fV 7) (fCo (fNotV (fV 7)) (fCo (fC (.bl true)) (fCo (fC (.bl false)) fNil)))))))) (fSeq (fRet (fC (.bl false))) fNext) fNext) (fSeq (fSet 8 (fCall (f_l_pick K) (fun ds _ => ds) (fCo (fV 0) (fCo (fLs (fCo (fV 1) (fCo (f2 pIx (fV 1) (fC (.int (0)))) (fCo (fC .non) (fCo (fC (.int (0))) (fCo (fCB (p1 pList) (fCo (fV 1) fNil)) (fCo (fC (.dic [])) (fCo (fMake (He.ga K "Day") (f_Day_init K) (fun ds _ => ds) (fCo (f2 pIx (fV 1) (fC (.int (0)))) (fCo (fC (.int (1))) fNil)) fNil) fNil)))))))) fNil)) fNil)) (fSeq (fRet (f2 (pEq false) (fLs (fCo (fEqO (He.ga K "Rule") (CS K) (f_Rule_eq K) false (fV 3) (fV 8)) (fCo (fEqO (He.ga K "Rule") (CS K) (f_Rule_eq K) true (fV 3) (fV 8)) (fCo (fEqR (He.ga K "Day") (He.ga K "Rule") (CS K) (f_Day_eq K) (f_Rule_eq K) (fV 8) (fV 3)) (fCo (fTru (He.ga K "Rule") (fV 3)) fNil))))) (fLs (fCo (fC (.bl false)) (fCo (fC (.bl true)) (fCo (fC (.bl false)) (fCo (fC (.bl true)) fNil))))))) fNext))))))))
def f_l_rules_right (K : PySem.W.Frag) : List D → T D := fun ds => runT (b_l_rules_right K (startD ["_law_pool_here", "_law_row_here", "_law_mate", "_law_mine", "_law_twin", "_law_again", "_law_told", "_law_alike", "_law_odd"] ds))
def b_l_days_right (K : PySem.W.Frag) : FS := (fSeq (fPar 1 2 (fCo (fCall (f_l_tags K) (fun ds _ => ds) (fCo (fV 0) (fCo (fC (.int (2))) fNil)) fNil) (fCo (fCall (f_l_top K) (fun ds _ => ds) (fCo (fV 0) fNil) fNil) fNil))) (fSeq (fSet 3 (fTu (fCo (f2 pIx (fV 1) (fC (.int (0)))) (fCo (fV 2) fNil)))) (fSeq (fSet 4 (fTu (fCo (f2 pIx (fV 1) (fCall (f_l_draw K) (fun ds _ => ds) (fCo (fV 0) (fCo (fC (.int (2))) fNil)) fNil)) (fCo (f2 pIx (fLs (fCo (fV 2) (fCo (fCall (f_l_top K) (fun ds _ => ds) (fCo (fV 0) fNil) fNil) (fCo (fC (.int (0))) (fCo (fC .non) fNil))))) (fCall (f_l_draw K) (fun ds _ => ds) (fCo (fV 0) (fCo (fC (.int (4))) fNil)) fNil)) fNil)))) (fSeq (fPar3 5 6 7 (fCo (fCall (f_l_made_day K) (fun ds _ => ds) (fCo (fV 0) (fCo (fV 3) fNil)) fNil) (fCo (fCall (f_l_made_day K) (fun ds _ => ds) (fCo (fV 0) (fCo (fV 4) fNil)) fNil) (fCo (fCall (f_l_made_day K) (fun ds _ => ds) (fCo (fV 0) (fCo (fV 3) fNil)) fNil) fNil)))) (fSeq (fIfS (fB (f2 (pEqT true) (fCB (p1 pReprQ) (fCo (fLs (fCo (fProp (He.ga K "Day") (f_Day_name K) (fV 5)) (fCo (fProp (He.ga K "Day") (f_Day_most K) (fV 5)) (fCo (fProp (He.ga K "Day") (f_Day_name K) (fV 6)) (fCo (fProp (He.ga K "Day") (f_Day_most K) (fV 6)) (fCo (fProp (He.ga K "Day") (f_Day_name K) (fV 5)) (fCo (fProp (He.ga K "Day") (f_Day_most K) (fV 5)) fNil))))))) fNil)) (fCB (p1 pReprQ) (fCo (fCB (p1 pList) (fCo (f2 pAdd (f2 pAdd (fV 3) (fV 4)) (fV 3)) fNil)) fNil)))) (fSeq (fRet (fC (.bl false))) fNext) fNext) (fSeq (fPar 8 9 (fCo (fLs (fCo (fEqO (He.ga K "Day") (CS K) (f_Day_eq K) false (fV 5) (fV 6)) (fCo (fEqO (He.ga K "Day") (CS K) (f_Day_eq K) false (fV 6) (fV 5)) (fCo (fEqO (He.ga K "Day") (CS K) (f_Day_eq K) true (fV 5) (fV 6)) (fCo (fEqO (He.ga K "Day") (CS K) (f_Day_eq K) false (fV 5) (fV 7)) (fCo (fEqO (He.ga K "Day") (CS K) (f_Day_eq K) true (fV 5) (fV 7)) fNil)))))) (fCo (f2 (pEq false) (fV 3) (fV 4)) fNil))) (fSeq (fIfS (fB (f2 (pEq true) (fV 8) (fLs (fCo (fV 9) (fCo (fV 9) (fCo (fNotV (fV 9)) (fCo (fC (.bl true)) (fCo (fC (.bl false)) fNil)))))))) (fSeq (fRet (fC (.bl false))) fNext) fNext) (fSeq (fSet 10 (fCall (f_l_pick K) (fun ds _ => ds) (fCo (fV 0) (fCo (fLs (fCo (fV 3) (fCo (f2 pIx (fV 1) (fC (.int (0)))) (fCo (fC .non) (fCo (fV 2) (fCo (fLs fNil) (fCo (fC (.dic [])) (fCo (fMake (He.ga K "Rule") (f_Rule_init K) (fun ds _ => ds) (fCo (f2 pIx (fV 1) (fC (.int (0)))) (fCo (f2 pIx (fV 1) (fC (.int (0)))) (fCo (fC (.str "upto")) (fCo (fC (.int (1))) (fCo (fC (.int (1))) fNil))))) fNil) fNil)))))))) fNil)) fNil)) (fSeq (fRet (f2 (pEq false) (fLs (fCo (fEqO (He.ga K "Day") (CS K) (f_Day_eq K) false (fV 5) (fV 10)) (fCo (fEqO (He.ga K "Day") (CS K) (f_Day_eq K) true (fV 5) (fV 10)) (fCo (fEqR (He.ga K "Rule") (He.ga K "Day") (CS K) (f_Rule_eq K) (f_Day_eq K) (fV 10) (fV 5)) (fCo (fTru (He.ga K "Day") (fV 5)) fNil))))) (fLs (fCo (fC (.bl false)) (fCo (fC (.bl true)) (fCo (fC (.bl false)) (fCo (fC (.bl true)) fNil))))))) fNext)))))))))
def f_l_days_right (K : PySem.W.Frag) : List D → T D := fun ds => runT (b_l_days_right K (startD ["_law_pool_here", "_law_tags_here", "_law_top_here", "_law_pair", "_law_mate", "_law_mine", "_law_twin", "_law_again", "_law_told", "_law_alike", "_law_odd"] ds))
def s_l_right_0 (K : PySem.W.Frag) : FS := (fIfS (fOr (fNot (fB (fCall (f_l_days_right K) (fun ds _ => ds) (fCo (fV 0) fNil) fNil))) (fNot (fB (fCall (f_l_rules_right K) (fun ds _ => ds) (fCo (fV 0) fNil) fNil)))) (fSeq (fRet (fC (.bl false))) fNext) fNext)
def b_l_right (K : PySem.W.Frag) : FS := (fSeq (fFor (fRng1 (fCo (fC (.int (4))) fNil)) (gN 1) (fSeq (s_l_right_0 K) fNext)) (fSeq (fRet (fC (.bl true))) fNext))
def f_l_right (K : PySem.W.Frag) : List D → T D := fun ds => runT (b_l_right K (startD ["_law_pool_here", "_law_turn"] ds))
theorem sc_InvalidName_init : FnScope ["self", "given"] ["self", "given"] (defScope (inS (topS 2) 0)) := ⟨rfl, rfl, rfl, by decide +kernel, rfl, by decide +kernel, by decide +kernel⟩
theorem okx_InvalidName {P : Program} {w : World} {K : PySem.W.Frag} {mg : Str → Option Value} {base : Heap} (c : SaysF fa fn K) : OkX P w K mg base (He.ga K "InvalidName") (He.ma K (He.ga K "InvalidName") "__init__") "given" "given" := by
  obtain ⟨fd_, FD_⟩ := c.def_ 0 (d := d_InvalidName_init)
  exact okX_of (bExc_ok (c.fact 94 (f := bExc "InvalidName" "given"))) FD_ sc_InvalidName_init rfl fun _ _ _ _ _ _ us hl => match us, hl with | [_, _], _ => rfl
theorem sc_InvalidMost_init : FnScope ["self", "given"] ["self", "given"] (defScope (inS (topS 3) 0)) := ⟨rfl, rfl, rfl, by decide +kernel, rfl, by decide +kernel, by decide +kernel⟩
theorem okx_InvalidMost {P : Program} {w : World} {K : PySem.W.Frag} {mg : Str → Option Value} {base : Heap} (c : SaysF fa fn K) : OkX P w K mg base (He.ga K "InvalidMost") (He.ma K (He.ga K "InvalidMost") "__init__") "given" "given" := by
  obtain ⟨fd_, FD_⟩ := c.def_ 1 (d := d_InvalidMost_init)
  exact okX_of (bExc_ok (c.fact 95 (f := bExc "InvalidMost" "given"))) FD_ sc_InvalidMost_init rfl fun _ _ _ _ _ _ us hl => match us, hl with | [_, _], _ => rfl
theorem sc_InvalidKind_init : FnScope ["self", "given"] ["self", "given"] (defScope (inS (topS 4) 0)) := ⟨rfl, rfl, rfl, by decide +kernel, rfl, by decide +kernel, by decide +kernel⟩
theorem okx_InvalidKind {P : Program} {w : World} {K : PySem.W.Frag} {mg : Str → Option Value} {base : Heap} (c : SaysF fa fn K) : OkX P w K mg base (He.ga K "InvalidKind") (He.ma K (He.ga K "InvalidKind") "__init__") "given" "given" := by
  obtain ⟨fd_, FD_⟩ := c.def_ 2 (d := d_InvalidKind_init)
  exact okX_of (bExc_ok (c.fact 96 (f := bExc "InvalidKind" "given"))) FD_ sc_InvalidKind_init rfl fun _ _ _ _ _ _ us hl => match us, hl with | [_, _], _ => rfl
theorem sc_InvalidNumber_init : FnScope ["self", "given"] ["self", "given"] (defScope (inS (topS 5) 0)) := ⟨rfl, rfl, rfl, by decide +kernel, rfl, by decide +kernel, by decide +kernel⟩
theorem okx_InvalidNumber {P : Program} {w : World} {K : PySem.W.Frag} {mg : Str → Option Value} {base : Heap} (c : SaysF fa fn K) : OkX P w K mg base (He.ga K "InvalidNumber") (He.ma K (He.ga K "InvalidNumber") "__init__") "given" "given" := by
  obtain ⟨fd_, FD_⟩ := c.def_ 3 (d := d_InvalidNumber_init)
  exact okX_of (bExc_ok (c.fact 97 (f := bExc "InvalidNumber" "given"))) FD_ sc_InvalidNumber_init rfl fun _ _ _ _ _ _ us hl => match us, hl with | [_, _], _ => rfl
theorem sc_InvalidRate_init : FnScope ["self", "given"] ["self", "given"] (defScope (inS (topS 6) 0)) := ⟨rfl, rfl, rfl, by decide +kernel, rfl, by decide +kernel, by decide +kernel⟩
theorem okx_InvalidRate {P : Program} {w : World} {K : PySem.W.Frag} {mg : Str → Option Value} {base : Heap} (c : SaysF fa fn K) : OkX P w K mg base (He.ga K "InvalidRate") (He.ma K (He.ga K "InvalidRate") "__init__") "given" "given" := by
  obtain ⟨fd_, FD_⟩ := c.def_ 4 (d := d_InvalidRate_init)
  exact okX_of (bExc_ok (c.fact 98 (f := bExc "InvalidRate" "given"))) FD_ sc_InvalidRate_init rfl fun _ _ _ _ _ _ us hl => match us, hl with | [_, _], _ => rfl
theorem sc_is_integer : FnScope ["value"] ["value"] (defScope (topS 10)) := ⟨rfl, rfl, rfl, by decide +kernel, rfl, by decide +kernel, by decide +kernel⟩
theorem ok_is_integer {P : Program} {w : World} {K : PySem.W.Frag} {mg : Str → Option Value} {base : Heap} (X : K.In base) (G : base.Ns mainGlobals mg) (c : SaysF fa fn K) : OkF P w K mg base 1 d_is_integer ["value"] (spT 1 (f_is_integer K)) := by
  obtain ⟨fd_, FD_⟩ := c.def_ 5 (d := d_is_integer)
  have g_bool := He.free_ok X G (c.fact 0 (f := fun K => (He.Fa.free "bool").ok K))
  have hcs_ := hcs c
  have g_isinstance := He.free_ok X G (c.fact 1 (f := fun K => (He.Fa.free "isinstance").ok K))
  have g_int := He.free_ok X G (c.fact 2 (f := fun K => (He.Fa.free "int").ok K))
  exact ⟨fd_, FD_, t_def (o := []) (fs := b_is_integer K) FD_ sc_is_integer rfl (by decide) (fun cdv A outer s H Z M E E1 hr => (ts_cons (ts_ret (te_and (te_callB (b_isi hcs_) rfl g_isinstance boot_isinstance (tal_cons (lo (te_var 0)) (tal_cons (lo (te_c (de_type rfl g_int boot_int))) tal_nil))) (te_one (te_not (te_callB (b_isi hcs_) rfl g_isinstance boot_isinstance (tal_cons (lo (te_var 0)) (tal_cons (lo (te_c (de_type rfl g_bool boot_bool))) tal_nil))))))) ts_nil)), Bd.all FD_ rfl rfl fun _ _ _ _ _ _ us hl => match us, hl with | [_], _ => rfl⟩
theorem sc_is_count : FnScope ["value"] ["value"] (defScope (topS 11)) := ⟨rfl, rfl, rfl, by decide +kernel, rfl, by decide +kernel, by decide +kernel⟩
theorem ok_is_count {P : Program} {w : World} {K : PySem.W.Frag} {mg : Str → Option Value} {base : Heap} (X : K.In base) (G : base.Ns mainGlobals mg) (c : SaysF fa fn K) : OkF P w K mg base 2 d_is_count ["value"] (spT 1 (f_is_count K)) := by
  obtain ⟨fd_, FD_⟩ := c.def_ 6 (d := d_is_count)
  obtain ⟨fd_is_integer, FD_is_integer, F_is_integer, B_is_integer⟩ := ok_is_integer (P := P) (w := w) X G c
  have K_is_integer := FD_is_integer.kp
  have g_is_integer := He.glo_ok X G (c.fact 3 (f := fun K => (He.Fa.glo "is_integer").ok K))
  exact ⟨fd_, FD_, t_def (o := []) (fs := b_is_count K) FD_ sc_is_count rfl (by decide) (fun cdv A outer s H Z M E E1 hr => (ts_cons (ts_ret (te_and (te_call F_is_integer (hr.mono (by decide)) rfl g_is_integer K_is_integer B_is_integer rfl (fun ds es h1 h2 => match ds, es, h1, h2 with | [_], [], _, _ => rfl) (xa_cons (te_var 0) xa_nil)) (te_one (te_cmp p_ge (lo (te_var 0)) (lo (te_c de_int)) (nomark _))))) ts_nil)), Bd.all FD_ rfl rfl fun _ _ _ _ _ _ us hl => match us, hl with | [_], _ => rfl⟩
theorem sc_is_name : FnScope ["value", "sign"] ["value"] (defScope (topS 12)) := ⟨rfl, rfl, rfl, by decide +kernel, rfl, by decide +kernel, by decide +kernel⟩
theorem ok_is_name {P : Program} {w : World} {K : PySem.W.Frag} {mg : Str → Option Value} {base : Heap} (X : K.In base) (G : base.Ns mainGlobals mg) (c : SaysF fa fn K) : OkF P w K mg base 1 d_is_name ["value"] (spT 1 (f_is_name K)) := by
  obtain ⟨fd_, FD_⟩ := c.def_ 7 (d := d_is_name)
  have i_LETTERS := He.str_ok X G (c.fact 4 (f := fun K => (He.Fa.str "LETTERS" "abcdefghijklmnopqrstuvwxyz").ok K))
  have g_len := He.free_ok X G (c.fact 5 (f := fun K => (He.Fa.free "len").ok K))
  have g_str := He.free_ok X G (c.fact 6 (f := fun K => (He.Fa.free "str").ok K))
  have hcs_ := hcs c
  have g_isinstance := He.free_ok X G (c.fact 1 (f := fun K => (He.Fa.free "isinstance").ok K))
  have i_DIGITS := He.str_ok X G (c.fact 7 (f := fun K => (He.Fa.str "DIGITS" "0123456789").ok K))
  have g_all := He.free_ok X G (c.fact 8 (f := fun K => (He.Fa.free "all").ok K))
  exact ⟨fd_, FD_, t_def (o := []) (fs := b_is_name K) FD_ sc_is_name rfl (by decide) (fun cdv A outer s H Z M E E1 hr => (ts_cons (ts_if (DW.dt (tw_or (tt_not (tt_val (te_callB (b_isi hcs_) rfl g_isinstance boot_isinstance (tal_cons (lo (te_var 0)) (tal_cons (lo (te_c (de_type rfl g_str boot_str))) tal_nil))))) (tw_or (tt_not (tt_chain p_le p_le (lo (te_c de_int)) (lo (te_callB b_len rfl g_len boot_len (tal_cons (lo (te_var 0)) tal_nil))) (lo (te_c de_int)))) (tw_or1 (tt_cmp p_notIn (lo (te_ix (lo (te_var 0)) (lo (te_c de_int)) (by intro _ _; rfl))) (lo (te_c (de_globS rfl i_LETTERS.choose_spec))) rfl))))) (ts_cons (ts_ret (te_c de_bl)) ts_nil) ts_nil) (ts_cons (ts_ret (te_callB (b_all rfl) rfl g_all boot_all (tal_cons (lo (te_lc (p := (.one 1)) (own := [("sign", 1)]) rfl sc_is_name.nd (ti_any (te_var 0)) (blkB_ok (by kernel_rfl)) (by decide) (by decide) (by first | exact fun _ _ _ _ _ => trivial | exact fun i hi => ex_jk (by revert i; decide) | exact fun i hi => ja_jk (by revert i; decide) | exact fun i hi => ex_jkA (by revert i; decide) (by first | exact fun _ _ _ => trivial | exact ja_jk (by revert i; decide))) (fun _ _ _ _ _ => pg_name sc_is_name.nd rfl (.inl rfl)) (fun _ _ _ _ _ => tts_nil) (fun _ _ _ _ _ => (te_or (te_cmp p_in (lo (te_var 1)) (lo (te_c (de_globS rfl i_LETTERS.choose_spec))) rfl) (te_one (te_cmp p_in (lo (te_var 1)) (lo (te_c (de_globS rfl i_DIGITS.choose_spec))) rfl)))))) tal_nil))) ts_nil))), Bd.all FD_ rfl rfl fun _ _ _ _ _ _ us hl => match us, hl with | [_], _ => rfl⟩
theorem sc_Day_init : FnScope ["self", "name", "most"] ["self", "name", "most"] (defScope (inS (topS 15) 1)) := ⟨rfl, rfl, rfl, by decide +kernel, rfl, by decide +kernel, by decide +kernel⟩
theorem ok_Day_init {P : Program} {w : World} {K : PySem.W.Frag} {mg : Str → Option Value} {base : Heap} (X : K.In base) (G : base.Ns mainGlobals mg) (c : SaysF fa fn K) : OkF P w K mg base 3 d_Day_init ["self", "name", "most"] (spI (He.ga K "Day") newS 2 (f_Day_init K)) := by
  obtain ⟨fd_, FD_⟩ := c.def_ 8 (d := d_Day_init)
  obtain ⟨fd_is_name, FD_is_name, F_is_name, B_is_name⟩ := ok_is_name (P := P) (w := w) X G c
  have K_is_name := FD_is_name.kp
  obtain ⟨fd_is_count, FD_is_count, F_is_count, B_is_count⟩ := ok_is_count (P := P) (w := w) X G c
  have K_is_count := FD_is_count.kp
  obtain ⟨fx_InvalidName, X_InvalidName⟩ := okx_InvalidName (P := P) (w := w) (base := base) (mg := mg) c
  obtain ⟨fx_InvalidMost, X_InvalidMost⟩ := okx_InvalidMost (P := P) (w := w) (base := base) (mg := mg) c
  have g_is_name := He.glo_ok X G (c.fact 9 (f := fun K => (He.Fa.glo "is_name").ok K))
  have g_InvalidName := He.glo_ok X G (c.fact 10 (f := fun K => (He.Fa.glo "InvalidName").ok K))
  have g_is_count := He.glo_ok X G (c.fact 11 (f := fun K => (He.Fa.glo "is_count").ok K))
  have g_InvalidMost := He.glo_ok X G (c.fact 12 (f := fun K => (He.Fa.glo "InvalidMost").ok K))
  have s_Day := bScls_ok (c.fact 13 (f := bScls "Day"))
  have s_Day_shape := bSlot_ok (c.fact 14 (f := bSlot "Day" "shape" 0))
  exact ⟨fd_, FD_, t_init (C := He.ga K "Day") (mk := newS) (o := [0]) (fs := b_Day_init K) FD_ sc_Day_init rfl selfS (fun _ _ => rfl) (by decide) (by decide) (fun cdv A outer s H Z m sf E E1 hr => (ts_cons (ts_if (tt_not (tt_val (te_call F_is_name (hr.mono (by decide)) rfl g_is_name K_is_name B_is_name rfl (fun ds es h1 h2 => match ds, es, h1, h2 with | [_], [], _, _ => rfl) (xa_cons (te_var 1) xa_nil)))) (ts_cons (ts_raise rfl X_InvalidName.2.2.1 X_InvalidName.1 (hr.mono (by decide)) X_InvalidName.2.1 rfl g_InvalidName (TA.da (xa_cons (te_var 1) xa_nil))) ts_nil) ts_nil) (ts_cons (ts_if (DW.dt (tw_and (tt_cmp p_notN (lo (te_var 2)) (lo (te_c de_non)) (nomark _)) (tw_and1 (tt_not (tt_val (te_call F_is_count (hr.mono (by decide)) rfl g_is_count K_is_count B_is_count rfl (fun ds es h1 h2 => match ds, es, h1, h2 with | [_], [], _, _ => rfl) (xa_cons (te_var 2) xa_nil))))))) (ts_cons (ts_raise rfl X_InvalidMost.2.2.1 X_InvalidMost.1 (hr.mono (by decide)) X_InvalidMost.2.1 rfl g_InvalidMost (TA.da (xa_cons (te_var 2) xa_nil))) ts_nil) ts_nil) (ts_cons (ts_selfS (by decide) s_Day s_Day_shape (te_tup (TA.da (xa_cons (te_var 1) (xa_cons (te_var 2) xa_nil))))) ts_nil)))), Bd.allD FD_ (by simp [He5.DefA.dvs]) rfl fun _ _ _ _ _ _ _ us hl => match us, hl with | [_, _, _], _ => ⟨_, rfl, fun its hi => match its, hi with | [_], _ => rfl⟩⟩
theorem sc_Day_name : FnScope ["self"] ["self"] (defScope (inS (topS 15) 2)) := ⟨rfl, rfl, rfl, by decide +kernel, rfl, by decide +kernel, by decide +kernel⟩
theorem ok_Day_name {P : Program} {w : World} {K : PySem.W.Frag} {mg : Str → Option Value} {base : Heap} (X : K.In base) (G : base.Ns mainGlobals mg) (c : SaysF fa fn K) : OkF P w K mg base 1 d_Day_name ["self"] (spT 1 (f_Day_name K)) := by
  obtain ⟨fd_, FD_⟩ := c.def_ 9 (d := d_Day_name)
  have s_Day := bScls_ok (c.fact 13 (f := bScls "Day"))
  have s_Day_shape := bSlot_ok (c.fact 14 (f := bSlot "Day" "shape" 0))
  exact ⟨fd_, FD_, t_def (o := []) (fs := b_Day_name K) FD_ sc_Day_name rfl (by decide) (fun cdv A outer s H Z M E E1 hr => (ts_cons (ts_ret (te_ix (lo (te_slot s_Day s_Day_shape (te_var 0))) (lo (te_c de_int)) (by intro _ _; rfl))) ts_nil)), Bd.all FD_ rfl rfl fun _ _ _ _ _ _ us hl => match us, hl with | [_], _ => rfl⟩
theorem sc_Day_most : FnScope ["self"] ["self"] (defScope (inS (topS 15) 3)) := ⟨rfl, rfl, rfl, by decide +kernel, rfl, by decide +kernel, by decide +kernel⟩
theorem ok_Day_most {P : Program} {w : World} {K : PySem.W.Frag} {mg : Str → Option Value} {base : Heap} (X : K.In base) (G : base.Ns mainGlobals mg) (c : SaysF fa fn K) : OkF P w K mg base 1 d_Day_most ["self"] (spT 1 (f_Day_most K)) := by
  obtain ⟨fd_, FD_⟩ := c.def_ 10 (d := d_Day_most)
  have s_Day := bScls_ok (c.fact 13 (f := bScls "Day"))
  have s_Day_shape := bSlot_ok (c.fact 14 (f := bSlot "Day" "shape" 0))
  exact ⟨fd_, FD_, t_def (o := []) (fs := b_Day_most K) FD_ sc_Day_most rfl (by decide) (fun cdv A outer s H Z M E E1 hr => (ts_cons (ts_ret (te_ix (lo (te_slot s_Day s_Day_shape (te_var 0))) (lo (te_c de_int)) (by intro _ _; rfl))) ts_nil)), Bd.all FD_ rfl rfl fun _ _ _ _ _ _ us hl => match us, hl with | [_], _ => rfl⟩
theorem sc_Day_eq : FnScope ["self", "other"] ["self", "other"] (defScope (inS (topS 15) 4)) := ⟨rfl, rfl, rfl, by decide +kernel, rfl, by decide +kernel, by decide +kernel⟩
theorem ok_Day_eq {P : Program} {w : World} {K : PySem.W.Frag} {mg : Str → Option Value} {base : Heap} (X : K.In base) (G : base.Ns mainGlobals mg) (c : SaysF fa fn K) : OkF P w K mg base 1 d_Day_eq ["self", "other"] (spT 2 (f_Day_eq K)) := by
  obtain ⟨fd_, FD_⟩ := c.def_ 11 (d := d_Day_eq)
  have s_Day := bScls_ok (c.fact 13 (f := bScls "Day"))
  have s_Day_shape := bSlot_ok (c.fact 14 (f := bSlot "Day" "shape" 0))
  have g_Day := He.glo_ok X G (c.fact 15 (f := fun K => (He.Fa.glo "Day").ok K))
  have hcs_ := hcs c
  have g_isinstance := He.free_ok X G (c.fact 1 (f := fun K => (He.Fa.free "isinstance").ok K))
  exact ⟨fd_, FD_, t_def (o := []) (fs := b_Day_eq K) FD_ sc_Day_eq rfl (by decide) (fun cdv A outer s H Z M E E1 hr => (ts_cons (ts_ret (te_and (te_callB (b_isi hcs_) rfl g_isinstance boot_isinstance (tal_cons (lo (te_var 1)) (tal_cons (lo (te_c (de_glob rfl g_Day))) tal_nil))) (te_one (te_cmpS (p_eq (rm_u64 hr)) (te_slot s_Day s_Day_shape (te_var 0)) (te_slot s_Day s_Day_shape (te_var 1)) (nomark _))))) ts_nil)), Bd.all FD_ rfl rfl fun _ _ _ _ _ _ us hl => match us, hl with | [_, _], _ => rfl⟩
theorem sc_Rule_init : FnScope ["self", "first", "last", "kind", "number", "rate", "name"] ["self", "first", "last", "kind", "number", "rate"] (defScope (inS (topS 16) 1)) := ⟨rfl, rfl, rfl, by decide +kernel, rfl, by decide +kernel, by decide +kernel⟩
theorem ok_Rule_init {P : Program} {w : World} {K : PySem.W.Frag} {mg : Str → Option Value} {base : Heap} (X : K.In base) (G : base.Ns mainGlobals mg) (c : SaysF fa fn K) : OkF P w K mg base 3 d_Rule_init ["self", "first", "last", "kind", "number", "rate"] (spI (He.ga K "Rule") newS 5 (f_Rule_init K)) := by
  obtain ⟨fd_, FD_⟩ := c.def_ 12 (d := d_Rule_init)
  obtain ⟨fd_is_name, FD_is_name, F_is_name, B_is_name⟩ := ok_is_name (P := P) (w := w) X G c
  have K_is_name := FD_is_name.kp
  obtain ⟨fd_is_count, FD_is_count, F_is_count, B_is_count⟩ := ok_is_count (P := P) (w := w) X G c
  have K_is_count := FD_is_count.kp
  obtain ⟨fd_is_integer, FD_is_integer, F_is_integer, B_is_integer⟩ := ok_is_integer (P := P) (w := w) X G c
  have K_is_integer := FD_is_integer.kp
  obtain ⟨fx_InvalidName, X_InvalidName⟩ := okx_InvalidName (P := P) (w := w) (base := base) (mg := mg) c
  obtain ⟨fx_InvalidKind, X_InvalidKind⟩ := okx_InvalidKind (P := P) (w := w) (base := base) (mg := mg) c
  obtain ⟨fx_InvalidNumber, X_InvalidNumber⟩ := okx_InvalidNumber (P := P) (w := w) (base := base) (mg := mg) c
  obtain ⟨fx_InvalidRate, X_InvalidRate⟩ := okx_InvalidRate (P := P) (w := w) (base := base) (mg := mg) c
  have g_is_name := He.glo_ok X G (c.fact 9 (f := fun K => (He.Fa.glo "is_name").ok K))
  have g_InvalidName := He.glo_ok X G (c.fact 10 (f := fun K => (He.Fa.glo "InvalidName").ok K))
  have g_KINDS := He.glo_ok X G (c.fact 16 (f := fun K => (He.Fa.glo "KINDS").ok K))
  have t_KINDS := fun H => He.tupB_ok (c.fact 17 (f := bTup "KINDS" [.str "beyond", .str "upto", .str "reach"])) H
  have g_str := He.free_ok X G (c.fact 6 (f := fun K => (He.Fa.free "str").ok K))
  have hcs_ := hcs c
  have g_isinstance := He.free_ok X G (c.fact 1 (f := fun K => (He.Fa.free "isinstance").ok K))
  have g_InvalidKind := He.glo_ok X G (c.fact 18 (f := fun K => (He.Fa.glo "InvalidKind").ok K))
  have g_is_count := He.glo_ok X G (c.fact 11 (f := fun K => (He.Fa.glo "is_count").ok K))
  have g_InvalidNumber := He.glo_ok X G (c.fact 19 (f := fun K => (He.Fa.glo "InvalidNumber").ok K))
  have g_is_integer := He.glo_ok X G (c.fact 3 (f := fun K => (He.Fa.glo "is_integer").ok K))
  have g_InvalidRate := He.glo_ok X G (c.fact 20 (f := fun K => (He.Fa.glo "InvalidRate").ok K))
  have s_Rule := bScls_ok (c.fact 21 (f := bScls "Rule"))
  have s_Rule_shape := bSlot_ok (c.fact 22 (f := bSlot "Rule" "shape" 0))
  exact ⟨fd_, FD_, t_init (C := He.ga K "Rule") (mk := newS) (o := [0]) (fs := b_Rule_init K) FD_ sc_Rule_init rfl selfS (fun _ _ => rfl) (by decide) (by decide) (fun cdv A outer s H Z m sf E E1 hr => (ts_cons (ts_for pass_body rfl (ti_tup (te_tup (TA.da (xa_cons (te_var 1) (xa_cons (te_var 2) xa_nil))))) (tg_name (i := 6) sc_Rule_init.nd rfl (by first | exact .inl rfl | exact .inr rfl) (by decide) (fun _ _ _ => trivial)) (ts_cons (ts_if (tt_not (tt_val (te_call F_is_name (hr.mono (by decide)) rfl g_is_name K_is_name B_is_name rfl (fun ds es h1 h2 => match ds, es, h1, h2 with | [_], [], _, _ => rfl) (xa_cons (te_var 6) xa_nil)))) (ts_cons (ts_raise rfl X_InvalidName.2.2.1 X_InvalidName.1 (hr.mono (by decide)) X_InvalidName.2.1 rfl g_InvalidName (TA.da (xa_cons (te_var 6) xa_nil))) ts_nil) ts_nil) ts_nil)) (ts_cons (ts_if (DW.dt (tw_or (tt_not (tt_val (te_callB (b_isi hcs_) rfl g_isinstance boot_isinstance (tal_cons (lo (te_var 3)) (tal_cons (lo (te_c (de_type rfl g_str boot_str))) tal_nil))))) (tw_or1 (tt_cmp p_notIn (lo (te_var 3)) (lo (te_c (de_globT rfl g_KINDS t_KINDS (fun _ => (.cons (.str "beyond") (.cons (.str "upto") (.cons (.str "reach") .nil))))))) rfl)))) (ts_cons (ts_raise rfl X_InvalidKind.2.2.1 X_InvalidKind.1 (hr.mono (by decide)) X_InvalidKind.2.1 rfl g_InvalidKind (TA.da (xa_cons (te_var 3) xa_nil))) ts_nil) ts_nil) (ts_cons (ts_if (tt_not (tt_val (te_call F_is_count (hr.mono (by decide)) rfl g_is_count K_is_count B_is_count rfl (fun ds es h1 h2 => match ds, es, h1, h2 with | [_], [], _, _ => rfl) (xa_cons (te_var 4) xa_nil)))) (ts_cons (ts_raise rfl X_InvalidNumber.2.2.1 X_InvalidNumber.1 (hr.mono (by decide)) X_InvalidNumber.2.1 rfl g_InvalidNumber (TA.da (xa_cons (te_var 4) xa_nil))) ts_nil) ts_nil) (ts_cons (ts_if (tt_not (tt_val (te_call F_is_integer (hr.mono (by decide)) rfl g_is_integer K_is_integer B_is_integer rfl (fun ds es h1 h2 => match ds, es, h1, h2 with | [_], [], _, _ => rfl) (xa_cons (te_var 5) xa_nil)))) (ts_cons (ts_raise rfl X_InvalidRate.2.2.1 X_InvalidRate.1 (hr.mono (by decide)) X_InvalidRate.2.1 rfl g_InvalidRate (TA.da (xa_cons (te_var 5) xa_nil))) ts_nil) ts_nil) (ts_cons (ts_selfS (by decide) s_Rule s_Rule_shape (te_tup (TA.da (xa_cons (te_var 1) (xa_cons (te_var 2) (xa_cons (te_var 3) (xa_cons (te_var 4) (xa_cons (te_var 5) xa_nil)))))))) ts_nil)))))), Bd.all FD_ rfl rfl fun _ _ _ _ _ _ us hl => match us, hl with | [_, _, _, _, _, _], _ => rfl⟩
theorem sc_Rule_first : FnScope ["self"] ["self"] (defScope (inS (topS 16) 2)) := ⟨rfl, rfl, rfl, by decide +kernel, rfl, by decide +kernel, by decide +kernel⟩
theorem ok_Rule_first {P : Program} {w : World} {K : PySem.W.Frag} {mg : Str → Option Value} {base : Heap} (X : K.In base) (G : base.Ns mainGlobals mg) (c : SaysF fa fn K) : OkF P w K mg base 1 d_Rule_first ["self"] (spT 1 (f_Rule_first K)) := by
  obtain ⟨fd_, FD_⟩ := c.def_ 13 (d := d_Rule_first)
  have s_Rule := bScls_ok (c.fact 21 (f := bScls "Rule"))
  have s_Rule_shape := bSlot_ok (c.fact 22 (f := bSlot "Rule" "shape" 0))
  exact ⟨fd_, FD_, t_def (o := []) (fs := b_Rule_first K) FD_ sc_Rule_first rfl (by decide) (fun cdv A outer s H Z M E E1 hr => (ts_cons (ts_ret (te_ix (lo (te_slot s_Rule s_Rule_shape (te_var 0))) (lo (te_c de_int)) (by intro _ _; rfl))) ts_nil)), Bd.all FD_ rfl rfl fun _ _ _ _ _ _ us hl => match us, hl with | [_], _ => rfl⟩
theorem sc_Rule_last : FnScope ["self"] ["self"] (defScope (inS (topS 16) 3)) := ⟨rfl, rfl, rfl, by decide +kernel, rfl, by decide +kernel, by decide +kernel⟩
theorem ok_Rule_last {P : Program} {w : World} {K : PySem.W.Frag} {mg : Str → Option Value} {base : Heap} (X : K.In base) (G : base.Ns mainGlobals mg) (c : SaysF fa fn K) : OkF P w K mg base 1 d_Rule_last ["self"] (spT 1 (f_Rule_last K)) := by
  obtain ⟨fd_, FD_⟩ := c.def_ 14 (d := d_Rule_last)
  have s_Rule := bScls_ok (c.fact 21 (f := bScls "Rule"))
  have s_Rule_shape := bSlot_ok (c.fact 22 (f := bSlot "Rule" "shape" 0))
  exact ⟨fd_, FD_, t_def (o := []) (fs := b_Rule_last K) FD_ sc_Rule_last rfl (by decide) (fun cdv A outer s H Z M E E1 hr => (ts_cons (ts_ret (te_ix (lo (te_slot s_Rule s_Rule_shape (te_var 0))) (lo (te_c de_int)) (by intro _ _; rfl))) ts_nil)), Bd.all FD_ rfl rfl fun _ _ _ _ _ _ us hl => match us, hl with | [_], _ => rfl⟩
theorem sc_Rule_kind : FnScope ["self"] ["self"] (defScope (inS (topS 16) 4)) := ⟨rfl, rfl, rfl, by decide +kernel, rfl, by decide +kernel, by decide +kernel⟩
theorem ok_Rule_kind {P : Program} {w : World} {K : PySem.W.Frag} {mg : Str → Option Value} {base : Heap} (X : K.In base) (G : base.Ns mainGlobals mg) (c : SaysF fa fn K) : OkF P w K mg base 1 d_Rule_kind ["self"] (spT 1 (f_Rule_kind K)) := by
  obtain ⟨fd_, FD_⟩ := c.def_ 15 (d := d_Rule_kind)
  have s_Rule := bScls_ok (c.fact 21 (f := bScls "Rule"))
  have s_Rule_shape := bSlot_ok (c.fact 22 (f := bSlot "Rule" "shape" 0))
  exact ⟨fd_, FD_, t_def (o := []) (fs := b_Rule_kind K) FD_ sc_Rule_kind rfl (by decide) (fun cdv A outer s H Z M E E1 hr => (ts_cons (ts_ret (te_ix (lo (te_slot s_Rule s_Rule_shape (te_var 0))) (lo (te_c de_int)) (by intro _ _; rfl))) ts_nil)), Bd.all FD_ rfl rfl fun _ _ _ _ _ _ us hl => match us, hl with | [_], _ => rfl⟩
theorem sc_Rule_number : FnScope ["self"] ["self"] (defScope (inS (topS 16) 5)) := ⟨rfl, rfl, rfl, by decide +kernel, rfl, by decide +kernel, by decide +kernel⟩
theorem ok_Rule_number {P : Program} {w : World} {K : PySem.W.Frag} {mg : Str → Option Value} {base : Heap} (X : K.In base) (G : base.Ns mainGlobals mg) (c : SaysF fa fn K) : OkF P w K mg base 1 d_Rule_number ["self"] (spT 1 (f_Rule_number K)) := by
  obtain ⟨fd_, FD_⟩ := c.def_ 16 (d := d_Rule_number)
  have s_Rule := bScls_ok (c.fact 21 (f := bScls "Rule"))
  have s_Rule_shape := bSlot_ok (c.fact 22 (f := bSlot "Rule" "shape" 0))
  exact ⟨fd_, FD_, t_def (o := []) (fs := b_Rule_number K) FD_ sc_Rule_number rfl (by decide) (fun cdv A outer s H Z M E E1 hr => (ts_cons (ts_ret (te_ix (lo (te_slot s_Rule s_Rule_shape (te_var 0))) (lo (te_c de_int)) (by intro _ _; rfl))) ts_nil)), Bd.all FD_ rfl rfl fun _ _ _ _ _ _ us hl => match us, hl with | [_], _ => rfl⟩
theorem sc_Rule_rate : FnScope ["self"] ["self"] (defScope (inS (topS 16) 6)) := ⟨rfl, rfl, rfl, by decide +kernel, rfl, by decide +kernel, by decide +kernel⟩
theorem ok_Rule_rate {P : Program} {w : World} {K : PySem.W.Frag} {mg : Str → Option Value} {base : Heap} (X : K.In base) (G : base.Ns mainGlobals mg) (c : SaysF fa fn K) : OkF P w K mg base 1 d_Rule_rate ["self"] (spT 1 (f_Rule_rate K)) := by
  obtain ⟨fd_, FD_⟩ := c.def_ 17 (d := d_Rule_rate)
  have s_Rule := bScls_ok (c.fact 21 (f := bScls "Rule"))
  have s_Rule_shape := bSlot_ok (c.fact 22 (f := bSlot "Rule" "shape" 0))
  exact ⟨fd_, FD_, t_def (o := []) (fs := b_Rule_rate K) FD_ sc_Rule_rate rfl (by decide) (fun cdv A outer s H Z M E E1 hr => (ts_cons (ts_ret (te_ix (lo (te_slot s_Rule s_Rule_shape (te_var 0))) (lo (te_c de_int)) (by intro _ _; rfl))) ts_nil)), Bd.all FD_ rfl rfl fun _ _ _ _ _ _ us hl => match us, hl with | [_], _ => rfl⟩
theorem sc_Rule_eq : FnScope ["self", "other"] ["self", "other"] (defScope (inS (topS 16) 7)) := ⟨rfl, rfl, rfl, by decide +kernel, rfl, by decide +kernel, by decide +kernel⟩
theorem ok_Rule_eq {P : Program} {w : World} {K : PySem.W.Frag} {mg : Str → Option Value} {base : Heap} (X : K.In base) (G : base.Ns mainGlobals mg) (c : SaysF fa fn K) : OkF P w K mg base 1 d_Rule_eq ["self", "other"] (spT 2 (f_Rule_eq K)) := by
  obtain ⟨fd_, FD_⟩ := c.def_ 18 (d := d_Rule_eq)
  have s_Rule := bScls_ok (c.fact 21 (f := bScls "Rule"))
  have s_Rule_shape := bSlot_ok (c.fact 22 (f := bSlot "Rule" "shape" 0))
  have g_Rule := He.glo_ok X G (c.fact 23 (f := fun K => (He.Fa.glo "Rule").ok K))
  have hcs_ := hcs c
  have g_isinstance := He.free_ok X G (c.fact 1 (f := fun K => (He.Fa.free "isinstance").ok K))
  exact ⟨fd_, FD_, t_def (o := []) (fs := b_Rule_eq K) FD_ sc_Rule_eq rfl (by decide) (fun cdv A outer s H Z M E E1 hr => (ts_cons (ts_ret (te_and (te_callB (b_isi hcs_) rfl g_isinstance boot_isinstance (tal_cons (lo (te_var 1)) (tal_cons (lo (te_c (de_glob rfl g_Rule))) tal_nil))) (te_one (te_cmpS (p_eq (rm_u64 hr)) (te_slot s_Rule s_Rule_shape (te_var 0)) (te_slot s_Rule s_Rule_shape (te_var 1)) (nomark _))))) ts_nil)), Bd.all FD_ rfl rfl fun _ _ _ _ _ _ us hl => match us, hl with | [_, _], _ => rfl⟩
theorem sc_l_cell : FnScope ["_law_script", "_law_spot", "_law_state", "_law_cell_here"] ["_law_script", "_law_spot"] (defScope (topS 18)) := ⟨rfl, rfl, rfl, by decide +kernel, rfl, by decide +kernel, by decide +kernel⟩
theorem ok_l_cell {P : Program} {w : World} {K : PySem.W.Frag} {mg : Str → Option Value} {base : Heap} (X : K.In base) (G : base.Ns mainGlobals mg) (c : SaysF fa fn K) : OkF P w K mg base 1 d_l_cell ["_law_script", "_law_spot"] (sp_l_cell K) := by
  obtain ⟨fd_, FD_⟩ := c.def_ 19 (d := d_l_cell)
  have g_int := He.free_ok X G (c.fact 2 (f := fun K => (He.Fa.free "int").ok K))
  have g_len := He.free_ok X G (c.fact 5 (f := fun K => (He.Fa.free "len").ok K))
  refine ⟨fd_, FD_, fng_of FD_ sc_l_cell (fun ds M Q E h => sp2_len h) (fun cdv A outer s H Z ds M Q E E1 hr h => ?_), Bd.all FD_ rfl rfl fun _ _ _ _ _ _ us hl => match us, hl with | [_, _], _ => rfl⟩
  obtain ⟨a, b, rfl, h⟩ := h
  refine ⟨_, (dss_cons (ds_if (dt_cmp op_lt_ (dv 1) (de_callB c_len rfl g_len boot_len (da_cons (dv 0) da_nil)) (nomark _)) (dss_cons (ds_ret (de_ix (dv 0) (dv 1) (by intro _ _; rfl))) dss_nil) dss_nil) (dss_cons (ds_set (i := 2) sc_l_cell.nd rfl (by first | exact .inl rfl | exact .inr rfl) (de_op op_add_ (de_op op_mul_ de_int (de_op op_add_ (dv 1) de_int)) de_int)) (dss_cons (ds_for pass_body rfl (di_lst (de_slice (dv 0) do_none (do_some de_int))) (dg_name (i := 3) sc_l_cell.nd rfl (by first | exact .inl rfl | exact .inr rfl)) (dss_cons (ds_set (i := 2) sc_l_cell.nd rfl (by first | exact .inl rfl | exact .inr rfl) (de_op op_mod_ (de_callTy c_int rfl g_int boot_int (da_cons (de_op op_add_ (de_op op_mul_ (dv 2) de_int) (dv 3)) da_nil)) de_int)) dss_nil)) (dss_cons (ds_ret (dv 2)) dss_nil)))), ?_⟩
  obtain ⟨ns, i, rfl, rfl, hi, h⟩ := h
  simp only [dSeq, dNext, dDrop, dRet, dRetN, dIfS, dAsg, gdName, gdNil, gdCons, gdTup, gdSub, dCB, dCons, dNil, dC, dVar, dOp, dUn, dB, dAnd, dOr, dNot, dAndV, dOrV, dNotV, dIf, dTup, dLst, dChain, startD, List.map, List.replicate, List.length, List.append, List.getElem?_cons_zero, List.getElem?_cons_succ, List.set, Nat.sub, List.cons_append, List.nil_append, Nat.zero_add, Nat.reduceAdd, Nat.reduceSub, dP, fTup, fCons, fLst, fVar, fDic, fKv, aNeg_i, aI1_i, aI2_i, aStrI_i, aMul_ii, id, Option.some.injEq, exists_eq_left', exists_and_left, D.ref.injEq, D.int.injEq, D.bl.injEq, D.lst.injEq, Nat.reduceLeDiff, Nat.zero_le, lstW, seqOf, lstOf, aLen_s, aLen_t, aLen_l, aLen_r, aLt, aLe, aGt, aGe, aCmp_ii, aEq_ii, aNe_ii, aEqT_ss, aNeT_ss, dFor, iTup, iLst, forL, dRaise, dSetSlot, dTry, aAdd_ii, aAdd_ss, aAdd_tt, aAdd_ll, aSub, aInt_ii, aInt0_ii, aMod, aFdiv, aPow, aIsN, aNotN, isStrD, dCall, dBM, m2S, bty, sp0_iff, sp1_iff, sp2_iff, sp3_iff, sp4_iff, sp5_iff, sp6_iff, true_and, and_true, if_true, if_false, Bool.not_true, Bool.not_false, Bool.false_eq_true, reduceIte]
  by_cases hc : i < (ns.length : Int)
  · simp only [decide_eq_true hc, if_true]
    obtain ⟨d, e, hd⟩ := atI_mem (l := ns.map D.int) hi (by simpa using hc)
    obtain ⟨n, _, rfl⟩ := List.mem_map.mp hd
    exact ix_s (ds := ns.map D.int) rfl e (RetQ.here (h _))
  · simp only [decide_eq_false hc, Bool.false_eq_true, if_false]
    refine ⟨CMul.ok (.inl ⟨by decide, by decide⟩), ns.map D.int, rfl, ?_⟩
    refine forL_ind (fun items r M' => M' = M ∧ (∀ x ∈ items, ∃ n, x = D.int n) ∧ ∃ st o, r = [some (D.scr ns), some (D.int i), some (D.int st), o]) ?_ ?_ ⟨rfl, fun x hx => ?_, _, _, rfl⟩
    · rintro x xs r M' ⟨rfl, hx, st, o, rfl⟩ k
      obtain ⟨n, rfl⟩ := hx x (List.mem_cons_self ..)
      refine ⟨CMul.ok (.inr ⟨by decide, by decide⟩), ?_⟩
      refine ⟨(by decide : (0 : Int) < 2147483563), k _ _ ⟨rfl, fun y hy => hx y (List.mem_cons_of_mem _ hy), _, _, rfl⟩⟩
    · rintro r M' ⟨rfl, _, st, o, rfl⟩
      exact RetQ.here (h _)
    · unfold cutD at hx
      obtain ⟨n, _, rfl⟩ := List.mem_map.mp (List.mem_of_mem_drop (List.mem_of_mem_take hx))
      exact ⟨n, rfl⟩
theorem sc_l_pool : FnScope ["_law_cell_here"] ["_law_cell_here"] (defScope (topS 19)) := ⟨rfl, rfl, rfl, by decide +kernel, rfl, by decide +kernel, by decide +kernel⟩
theorem ok0_l_pool {P : Program} {w : World} {K : PySem.W.Frag} {mg : Str → Option Value} {base : Heap} (X : K.In base) (G : base.Ns mainGlobals mg) (c : SaysF fa fn K) : OkF P w K mg base 1 d_l_pool ["_law_cell_here"] (sp0_l_pool K) := by
  obtain ⟨fd_, FD_⟩ := c.def_ 20 (d := d_l_pool)
  have g_abs := He.free_ok X G (c.fact 24 (f := fun K => (He.Fa.free "abs").ok K))
  have g_int := He.free_ok X G (c.fact 2 (f := fun K => (He.Fa.free "int").ok K))
  refine ⟨fd_, FD_, fng_of FD_ sc_l_pool (fun ds M Q E h => sp1_len h) (fun cdv A outer s H Z ds M Q E E1 hr h => ?_), Bd.all FD_ rfl rfl fun _ _ _ _ _ _ us hl => match us, hl with | [_], _ => rfl⟩
  obtain ⟨a, rfl, h⟩ := h
  refine ⟨_, (dss_cons (ds_ret (de_lstM (da_cons (de_op op_mod_ (de_callTy c_int rfl g_int boot_int (da_cons (dv 0) da_nil)) de_int) (da_cons (de_if (dt_cmp op_ge_ (de_callB c_abs rfl g_abs boot_abs (da_cons (dv 0) da_nil)) (de_op op_pow_ de_int de_int) (nomark _)) (de_callB c_abs rfl g_abs boot_abs (da_cons (dv 0) da_nil)) de_int) (da_cons de_int da_nil))))) dss_nil), ?_⟩
  obtain ⟨c, rfl, h⟩ := h
  simp only [dSeq, dNext, dDrop, dRet, dRetN, dIfS, dAsg, gdName, gdNil, gdCons, gdTup, gdSub, dCB, dCons, dNil, dC, dVar, dOp, dUn, dB, dAnd, dOr, dNot, dAndV, dOrV, dNotV, dIf, dTup, dLst, dChain, startD, List.map, List.replicate, List.length, List.append, List.getElem?_cons_zero, List.getElem?_cons_succ, List.set, Nat.sub, List.cons_append, List.nil_append, Nat.zero_add, Nat.reduceAdd, Nat.reduceSub, dP, fTup, fCons, fLst, fVar, fDic, fKv, aNeg_i, aI1_i, aI2_i, aStrI_i, aMul_ii, id, Option.some.injEq, exists_eq_left', exists_and_left, D.ref.injEq, D.int.injEq, D.bl.injEq, D.lst.injEq, Nat.reduceLeDiff, Nat.zero_le, lstW, seqOf, lstOf, aLen_s, aLen_t, aLen_l, aLen_r, aLt, aLe, aGt, aGe, aCmp_ii, aEq_ii, aNe_ii, aEqT_ss, aNeT_ss, dFor, iTup, iLst, forL, dRaise, dSetSlot, dTry, aAdd_ii, aAdd_ss, aAdd_tt, aAdd_ll, aSub, aInt_ii, aInt0_ii, aMod, aFdiv, aPow, aIsN, aNotN, isStrD, dCall, dBM, m2S, bty, sp0_iff, sp1_iff, sp2_iff, sp3_iff, sp4_iff, sp5_iff, sp6_iff, true_and, and_true, if_true, if_false, Bool.not_true, Bool.not_false, Bool.false_eq_true, reduceIte, dLstM]
  have habs : 0 ≤ absI c := by unfold absI; split <;> omega
  have hp : ∀ j, 0 ≤ j → PoolOk (c % 2147483563) j 0 := fun j hj => ⟨Int.emod_nonneg _ (by decide), Int.lt_trans (Int.emod_lt_of_pos _ (by decide)) (by decide), hj, Int.le_refl _⟩
  refine ⟨by decide, ⟨by decide, by decide, by decide⟩, ?_⟩
  by_cases hc : (10 : Int) ^ Int.toNat 18 ≤ absI c
  · simp only [decide_eq_true hc, if_true]
    exact ⟨by decide, fun p em => RetQ.here (h _ _ _ _ em (hp _ habs))⟩
  · simp only [decide_eq_false hc, Bool.false_eq_true, if_false]
    exact ⟨by decide, fun p em => RetQ.here (h _ _ _ _ em (hp _ (Int.le_refl _)))⟩
theorem ok_l_pool {P : Program} {w : World} {K : PySem.W.Frag} {mg : Str → Option Value} {base : Heap} (X : K.In base) (G : base.Ns mainGlobals mg) (c : SaysF fa fn K) : OkF P w K mg base 1 d_l_pool ["_law_cell_here"] (sp_l_pool K) := by
  exact (ok0_l_pool X G c).newPool.imp fun ds M Q E h => by
    obtain ⟨a, rfl, c, rfl, h⟩ := h
    exact ⟨_, rfl, c, rfl, fun p i j k hp po => ⟨p, i, j, k, rfl, hp, po, rfl, h p hp⟩⟩
theorem sc_l_draw : FnScope ["_law_pool_here", "_law_many", "_law_digit", "_law_state"] ["_law_pool_here", "_law_many"] (defScope (topS 20)) := ⟨rfl, rfl, rfl, by decide +kernel, rfl, by decide +kernel, by decide +kernel⟩
theorem ok0_l_draw {P : Program} {w : World} {K : PySem.W.Frag} {mg : Str → Option Value} {base : Heap} (X : K.In base) (G : base.Ns mainGlobals mg) (c : SaysF fa fn K) : OkF P w K mg base 1 d_l_draw ["_law_pool_here", "_law_many"] (sp0_l_draw K) := by
  obtain ⟨fd_, FD_⟩ := c.def_ 21 (d := d_l_draw)
  have g_int := He.free_ok X G (c.fact 2 (f := fun K => (He.Fa.free "int").ok K))
  have g_divmod := He.free_ok X G (c.fact 25 (f := fun K => (He.Fa.free "divmod").ok K))
  refine ⟨fd_, FD_, fng_of FD_ sc_l_draw (fun ds M Q E h => sp2_len h) (fun cdv A outer s H Z ds M Q E E1 hr h => ?_), Bd.all FD_ rfl rfl fun _ _ _ _ _ _ us hl => match us, hl with | [_, _], _ => rfl⟩
  obtain ⟨a, b, rfl, h⟩ := h
  refine ⟨_, (dss_cons (ds_asg (de_op op_add_ (de_ix (dv 0) de_int (by intro _ _; rfl)) de_int) (dg_sub (dv 0) de_int set_l)) (dss_cons (ds_if (dt_cmp op_gt_ (de_ix (dv 0) de_int (by intro _ _; rfl)) de_int (nomark _)) (dss_cons (ds_asg (de_callB c_divmod rfl g_divmod boot_divmod (da_cons (de_ix (dv 0) de_int (by intro _ _; rfl)) (da_cons (dv 1) da_nil))) (dg_tup (n := 2) rfl (dgs_cons (dg_sub (dv 0) de_int set_l) (dgs_cons (dg_name (i := 2) sc_l_draw.nd rfl (by first | exact .inl rfl | exact .inr rfl)) dgs_nil)))) (dss_cons (ds_ret (dv 2)) dss_nil)) dss_nil) (dss_cons (ds_set (i := 3) sc_l_draw.nd rfl (by first | exact .inl rfl | exact .inr rfl) (de_callTy c_int rfl g_int boot_int (da_cons (de_ix (dv 0) de_int (by intro _ _; rfl)) da_nil))) (dss_cons (ds_set (i := 3) sc_l_draw.nd rfl (by first | exact .inl rfl | exact .inr rfl) (de_op op_mod_ (de_callTy c_int rfl g_int boot_int (da_cons (de_op op_add_ (de_op op_add_ (de_op op_mul_ (dv 3) (de_op op_add_ (de_op op_mod_ (de_callTy c_int rfl g_int boot_int (da_cons (dv 3) da_nil)) de_int) de_int)) (de_op op_mul_ de_int (de_ix (dv 0) de_int (by intro _ _; rfl)))) de_int) da_nil)) de_int)) (dss_cons (ds_asg (de_op op_mod_ (de_callTy c_int rfl g_int boot_int (da_cons (de_op op_add_ (de_op op_mul_ (dv 3) de_int) (de_op op_mul_ de_int (de_ix (dv 0) de_int (by intro _ _; rfl)))) da_nil)) de_int) (dg_sub (dv 0) de_int set_l)) (dss_cons (ds_ret (de_op op_mod_ (de_callTy c_int rfl g_int boot_int (da_cons (de_op op_fdiv_ (de_ix (dv 0) de_int (by intro _ _; rfl)) de_int) da_nil)) (dv 1))) dss_nil)))))), ?_⟩
  obtain ⟨p, n, i, j, k, rfl, rfl, em, ⟨i0, i1, j0, k0⟩, hn, hl, h⟩ := h
  have small : ∀ x y : Int, 0 ≤ x → x < 2147483648 → IntMulOk x y := fun x y h1 h2 => CMul.ok (.inl ⟨by omega, by omega⟩)
  have smallR : ∀ x y : Int, 0 ≤ y → y < 2147483648 → IntMulOk x y := fun x y h1 h2 => CMul.ok (.inr ⟨by omega, by omega⟩)
  simp only [dSeq, dNext, dDrop, dRet, dRetN, dIfS, dAsg, gdName, gdNil, gdCons, gdTup, gdSub, dCB, dCons, dNil, dC, dVar, dOp, dUn, dB, dAnd, dOr, dNot, dAndV, dOrV, dNotV, dIf, dTup, dLst, dChain, startD, List.map, List.replicate, List.length, List.append, List.getElem?_cons_zero, List.getElem?_cons_succ, List.set, Nat.sub, List.cons_append, List.nil_append, Nat.zero_add, Nat.reduceAdd, Nat.reduceSub, dP, fTup, fCons, fLst, fVar, fDic, fKv, aNeg_i, aI1_i, aI2_i, aStrI_i, aMul_ii, id, Option.some.injEq, exists_eq_left', exists_and_left, D.ref.injEq, D.int.injEq, D.bl.injEq, D.lst.injEq, Nat.reduceLeDiff, Nat.zero_le, lstW, seqOf, lstOf, aLen_s, aLen_t, aLen_l, aLen_r, aLt, aLe, aGt, aGe, aCmp_ii, aEq_ii, aNe_ii, aEqT_ss, aNeT_ss, dFor, iTup, iLst, forL, dRaise, dSetSlot, dTry, aAdd_ii, aAdd_ss, aAdd_tt, aAdd_ll, aSub, aInt_ii, aInt0_ii, aMod, aFdiv, aPow, aIsN, aNotN, isStrD, dCall, dBM, m2S, bty, sp0_iff, sp1_iff, sp2_iff, sp3_iff, sp4_iff, sp5_iff, sp6_iff, true_and, and_true, if_true, if_false, Bool.not_true, Bool.not_false, Bool.false_eq_true, reduceIte, aMul, aI1, aDivmod, aAdd, aCmp, aInt, aInt0]
  refine ix_m em rfl ?_
  refine set_m em (j := 2) rfl ?_
  have e1 : mset M p (.lst [.int i, .int j, .int (k + 1)]) p = some (.lst [.int i, .int j, .int (k + 1)]) := mset_same
  show aIx _ _ (mset M p (.lst [.int i, .int j, .int (k + 1)])) _
  refine ix_m e1 rfl ?_
  show (if decide (0 < j) = true then _ else _)
  by_cases hj : 0 < j
  · simp only [decide_eq_true hj, if_true]
    refine ix_m e1 rfl ?_
    refine ⟨⟨hn, hl⟩, ?_⟩
    refine set_m e1 (j := 1) rfl ?_
    show RetQ Q (.int (j % n)) (mset (mset M p _) p (.lst [.int i, .int (j / n), .int (k + 1)]))
    rw [mset_mset]
    exact RetQ.here (h _ _ _ _ (Int.emod_nonneg _ (by omega)) (Int.emod_lt_of_pos _ hn) ⟨i0, i1, Int.ediv_nonneg (by omega) (by omega), by omega⟩)
  · simp only [decide_eq_false hj, Bool.false_eq_true, if_false]
    refine ix_m e1 rfl ?_
    refine ⟨by decide, ?_⟩
    show IntMulOk i _ ∧ _
    refine ⟨small _ _ i0 i1, ?_⟩
    refine ix_m e1 rfl ?_
    refine ⟨small _ _ (by decide) (by decide), ?_⟩
    show (0 : Int) < 2147483563 ∧ _
    refine ⟨by decide, ?_⟩
    show IntMulOk _ _ ∧ _
    refine ⟨smallR _ _ (by decide) (by decide), ?_⟩
    refine ix_m e1 rfl ?_
    refine ⟨small _ _ (by decide) (by decide), ?_⟩
    show (0 : Int) < 2147483399 ∧ _
    refine ⟨by decide, ?_⟩
    refine set_m e1 (j := 0) rfl ?_
    rw [mset_mset]
    refine ix_m mset_same rfl ?_
    refine ⟨⟨by decide, by decide⟩, ?_⟩
    show 0 < n ∧ _
    refine ⟨hn, RetQ.here ?_⟩
    refine h _ _ _ _ (Int.emod_nonneg _ (by omega)) (Int.emod_lt_of_pos _ hn) ⟨Int.emod_nonneg _ (by decide), ?_, j0, by omega⟩
    exact Int.lt_trans (Int.emod_lt_of_pos _ (by decide)) (by decide)
theorem ok1_l_draw {P : Program} {w : World} {K : PySem.W.Frag} {mg : Str → Option Value} {base : Heap} (X : K.In base) (G : base.Ns mainGlobals mg) (c : SaysF fa fn K) : OkF P w K mg base 1 d_l_draw ["_law_pool_here", "_law_many"] (sp_l_draw K) := by
  exact (ok0_l_draw X G c).pool.imp fun ds M Q E h => by
    obtain ⟨a, b, rfl, p, n, rfl, rfl, em, hn, hl, h⟩ := h
    exact ⟨p, _, rfl, em, fun i j k po => ⟨_, _, rfl, p, n, i, j, k, rfl, rfl, mset_same, po, hn, hl, fun m i' j' k' h1 h2 po' => ⟨i', j', k', po', by rw [mset_mset], h m h1 h2⟩⟩⟩
theorem ok_l_draw {P : Program} {w : World} {K : PySem.W.Frag} {mg : Str → Option Value} {base : Heap} (X : K.In base) (G : base.Ns mainGlobals mg) (c : SaysF fa fn K) : OkF P w K mg base 1 d_l_draw ["_law_pool_here", "_law_many"] (spT 2 (f_l_draw K)) := by
  refine (ok1_l_draw X G c).imp fun ds M Q E h => ?_
  obtain ⟨_, h⟩ := h
  unfold f_l_draw at h
  split at h
  · exact ⟨_, _, rfl, _, _, rfl, rfl, h.1, h.2.1, h.2.2.1, h.2.2.2⟩
  · exact h.elim
theorem sc_l_pick : FnScope ["_law_pool_here", "_law_things"] ["_law_pool_here", "_law_things"] (defScope (topS 21)) := ⟨rfl, rfl, rfl, by decide +kernel, rfl, by decide +kernel, by decide +kernel⟩
theorem ok_l_pick {P : Program} {w : World} {K : PySem.W.Frag} {mg : Str → Option Value} {base : Heap} (X : K.In base) (G : base.Ns mainGlobals mg) (c : SaysF fa fn K) : OkF P w K mg base 2 d_l_pick ["_law_pool_here", "_law_things"] (spT 2 (f_l_pick K)) := by
  obtain ⟨fd_, FD_⟩ := c.def_ 22 (d := d_l_pick)
  obtain ⟨fd_l_draw, FD_l_draw, F_l_draw, B_l_draw⟩ := ok_l_draw (P := P) (w := w) X G c
  have K_l_draw := FD_l_draw.kp
  have g__law_draw := He.glo_ok X G (c.fact 26 (f := fun K => (He.Fa.glo "_law_draw").ok K))
  have g_len := He.free_ok X G (c.fact 5 (f := fun K => (He.Fa.free "len").ok K))
  exact ⟨fd_, FD_, t_def (o := []) (fs := b_l_pick K) FD_ sc_l_pick rfl (by decide) (fun cdv A outer s H Z M E E1 hr => (ts_cons (ts_ret (te_ix (lo (te_var 1)) (lo (te_call F_l_draw (hr.mono (by decide)) rfl g__law_draw K_l_draw B_l_draw rfl (fun ds es h1 h2 => match ds, es, h1, h2 with | [_, _], [], _, _ => rfl) (xa_cons (te_var 0) (xa_cons (te_callB b_len rfl g_len boot_len (tal_cons (lo (te_var 1)) tal_nil)) xa_nil)))) (by intro _ _; rfl))) ts_nil)), Bd.all FD_ rfl rfl fun _ _ _ _ _ _ us hl => match us, hl with | [_, _], _ => rfl⟩
theorem sc_l_tag : FnScope ["_law_pool_here", "_law_signs", "_law_found", "_law_turn"] ["_law_pool_here"] (defScope (topS 22)) := ⟨rfl, rfl, rfl, by decide +kernel, rfl, by decide +kernel, by decide +kernel⟩
theorem ok_l_tag {P : Program} {w : World} {K : PySem.W.Frag} {mg : Str → Option Value} {base : Heap} (X : K.In base) (G : base.Ns mainGlobals mg) (c : SaysF fa fn K) : OkF P w K mg base 3 d_l_tag ["_law_pool_here"] (spT 1 (f_l_tag K)) := by
  obtain ⟨fd_, FD_⟩ := c.def_ 23 (d := d_l_tag)
  obtain ⟨fd_l_draw, FD_l_draw, F_l_draw, B_l_draw⟩ := ok_l_draw (P := P) (w := w) X G c
  have K_l_draw := FD_l_draw.kp
  obtain ⟨fd_l_pick, FD_l_pick, F_l_pick, B_l_pick⟩ := ok_l_pick (P := P) (w := w) X G c
  have K_l_pick := FD_l_pick.kp
  have g__law_draw := He.glo_ok X G (c.fact 26 (f := fun K => (He.Fa.glo "_law_draw").ok K))
  have g__law_pick := He.glo_ok X G (c.fact 27 (f := fun K => (He.Fa.glo "_law_pick").ok K))
  have g_range := He.free_ok X G (c.fact 28 (f := fun K => (He.Fa.free "range").ok K))
  exact ⟨fd_, FD_, t_def (o := []) (fs := b_l_tag K) FD_ sc_l_tag rfl (by decide) (fun cdv A outer s H Z M E E1 hr => (ts_cons (ts_if (tt_cmpS (p_eq (rm_u64 hr)) (te_call F_l_draw (hr.mono (by decide)) rfl g__law_draw K_l_draw B_l_draw rfl (fun ds es h1 h2 => match ds, es, h1, h2 with | [_, _], [], _, _ => rfl) (xa_cons (te_var 0) (xa_cons (te_c de_int) xa_nil))) (te_c de_int) (nomark _)) (ts_cons (ts_ret (te_call F_l_pick (hr.mono (by decide)) rfl g__law_pick K_l_pick B_l_pick rfl (fun ds es h1 h2 => match ds, es, h1, h2 with | [_, _], [], _, _ => rfl) (xa_cons (te_var 0) (xa_cons (te_lst (TA.da (xa_cons (te_c de_str) (xa_cons (te_c de_str) (xa_cons (te_c de_str) (xa_cons (te_c de_str) (xa_cons (te_c de_str) (xa_cons (te_c de_str) (xa_cons (te_c de_str) (xa_cons (te_c de_str) (xa_cons (te_c de_str) xa_nil))))))))))) xa_nil)))) ts_nil) ts_nil) (ts_cons (ts_set (i := 1) sc_l_tag.nd rfl (by first | exact .inl rfl | exact .inr rfl) (by decide) (fun _ _ _ => trivial) (te_c de_str)) (ts_cons (ts_set (i := 2) sc_l_tag.nd rfl (by first | exact .inl rfl | exact .inr rfl) (by decide) (fun _ _ _ => trivial) (te_ix (lo (te_var 1)) (lo (te_call F_l_draw (hr.mono (by decide)) rfl g__law_draw K_l_draw B_l_draw rfl (fun ds es h1 h2 => match ds, es, h1, h2 with | [_, _], [], _, _ => rfl) (xa_cons (te_var 0) (xa_cons (te_c de_int) xa_nil)))) (by intro _ _; rfl))) (ts_cons (ts_for pass_body rfl (ti_range1 rfl g_range (TA.da (xa_cons (te_ix (lo (te_lst (TA.da (xa_cons (te_c de_int) (xa_cons (te_c de_int) (xa_cons (te_c de_int) (xa_cons (te_c de_int) (xa_cons (te_c de_int) (xa_cons (te_c de_int) (xa_cons (te_c de_int) xa_nil)))))))))) (lo (te_call F_l_draw (hr.mono (by decide)) rfl g__law_draw K_l_draw B_l_draw rfl (fun ds es h1 h2 => match ds, es, h1, h2 with | [_, _], [], _, _ => rfl) (xa_cons (te_var 0) (xa_cons (te_c de_int) xa_nil)))) (by intro _ _; rfl)) xa_nil))) (tg_name (i := 3) sc_l_tag.nd rfl (by first | exact .inl rfl | exact .inr rfl) (by decide) (fun _ _ _ => trivial)) (ts_cons (ts_set (i := 2) sc_l_tag.nd rfl (by first | exact .inl rfl | exact .inr rfl) (by decide) (fun _ _ _ => trivial) (te_op p_add (lo (te_var 2)) (lo (te_ix (lo (te_var 1)) (lo (te_call F_l_draw (hr.mono (by decide)) rfl g__law_draw K_l_draw B_l_draw rfl (fun ds es h1 h2 => match ds, es, h1, h2 with | [_, _], [], _, _ => rfl) (xa_cons (te_var 0) (xa_cons (te_c de_int) xa_nil)))) (by intro _ _; rfl))))) ts_nil)) (ts_cons (ts_ret (te_var 2)) ts_nil)))))), Bd.all FD_ rfl rfl fun _ _ _ _ _ _ us hl => match us, hl with | [_], _ => rfl⟩
theorem sc_l_tags : FnScope ["_law_pool_here", "_law_many", "_law_found", "_law_spare", "_law_turn", "_law_tag_here", "_law_mate"] ["_law_pool_here", "_law_many"] (defScope (topS 23)) := ⟨rfl, rfl, rfl, by decide +kernel, rfl, by decide +kernel, by decide +kernel⟩
theorem ok_l_tags {P : Program} {w : World} {K : PySem.W.Frag} {mg : Str → Option Value} {base : Heap} (X : K.In base) (G : base.Ns mainGlobals mg) (c : SaysF fa fn K) : OkF P w K mg base 4 d_l_tags ["_law_pool_here", "_law_many"] (spT 2 (f_l_tags K)) := by
  obtain ⟨fd_, FD_⟩ := c.def_ 24 (d := d_l_tags)
  obtain ⟨fd_l_tag, FD_l_tag, F_l_tag, B_l_tag⟩ := ok_l_tag (P := P) (w := w) X G c
  have K_l_tag := FD_l_tag.kp
  have g_range := He.free_ok X G (c.fact 28 (f := fun K => (He.Fa.free "range").ok K))
  have g__law_tag := He.glo_ok X G (c.fact 29 (f := fun K => (He.Fa.glo "_law_tag").ok K))
  exact ⟨fd_, FD_, t_def (o := [2]) (fs := b_l_tags K) FD_ sc_l_tags rfl (by decide) (fun cdv A outer s H Z M E E1 hr => (ts_cons (ts_par2n (i := 2) (j := 3) rfl sc_l_tags.nd rfl rfl (by first | exact .inl rfl | exact .inr rfl) (by first | exact .inl rfl | exact .inr rfl) rfl rfl (.new (by decide) (by first | exact fun _ _ => trivial | exact sS (by decide)) (fun _ _ _ => trivial) (TA.da xa_nil)) (.val (by decide) (fun _ _ _ => trivial) (te_lst (TA.da (xa_cons (te_c de_str) (xa_cons (te_c de_str) (xa_cons (te_c de_str) (xa_cons (te_c de_str) (xa_cons (te_c de_str) (xa_cons (te_c de_str) (xa_cons (te_c de_str) (xa_cons (te_c de_str) (xa_cons (te_c de_str) xa_nil)))))))))))) (by kernel_rfl)) (ts_cons (ts_for pass_body rfl (ti_range1 rfl g_range (TA.da (xa_cons (te_var 1) xa_nil))) (tg_name (i := 4) sc_l_tags.nd rfl (by first | exact .inl rfl | exact .inr rfl) (by decide) (fun _ _ _ => trivial)) (ts_cons (ts_set (i := 5) sc_l_tags.nd rfl (by first | exact .inl rfl | exact .inr rfl) (by decide) (fun _ _ _ => trivial) (te_call F_l_tag (hr.mono (by decide)) rfl g__law_tag K_l_tag B_l_tag rfl (fun ds es h1 h2 => match ds, es, h1, h2 with | [_], [], _, _ => rfl) (xa_cons (te_var 0) xa_nil))) (ts_cons (ts_app (i := 2) (by decide) (te_ix (lo (te_lc (p := (.one 6)) (own := [("_law_mate", 6)]) rfl sc_l_tags.nd (ti_any (te_op p_add (lo (te_lst (TA.da (xa_cons (te_var 5) xa_nil)))) (lo (te_var 3)))) (blkB_ok (by kernel_rfl)) (by decide) (by decide) (by first | exact fun _ _ _ _ _ => trivial | exact fun i hi => ex_jk (by revert i; decide) | exact fun i hi => ja_jk (by revert i; decide) | exact fun i hi => ex_jkA (by revert i; decide) (by first | exact fun _ _ _ => trivial | exact ja_jk (by revert i; decide))) (fun _ _ _ _ _ => pg_name sc_l_tags.nd rfl (.inl rfl)) (fun _ _ _ _ _ => (tts_one (tt_cmp p_notIn (lo (te_var 6)) (tl_own 2) rfl))) (fun _ _ _ _ _ => (te_var 6)))) (lo (te_c de_int)) (by intro _ _; rfl))) ts_nil))) (ts_cons (ts_retO 2) ts_nil)))), Bd.all FD_ rfl rfl fun _ _ _ _ _ _ us hl => match us, hl with | [_, _], _ => rfl⟩
theorem sc_l_styles : FnScope [] [] (defScope (topS 24)) := ⟨rfl, rfl, rfl, by decide +kernel, rfl, by decide +kernel, by decide +kernel⟩
theorem ok_l_styles {P : Program} {w : World} {K : PySem.W.Frag} {mg : Str → Option Value} {base : Heap} (X : K.In base) (G : base.Ns mainGlobals mg) (c : SaysF fa fn K) : OkF P w K mg base 1 d_l_styles [] (spT 0 (f_l_styles K)) := by
  obtain ⟨fd_, FD_⟩ := c.def_ 25 (d := d_l_styles)
  exact ⟨fd_, FD_, t_def (o := []) (fs := b_l_styles K) FD_ sc_l_styles rfl (by decide) (fun cdv A outer s H Z M E E1 hr => (ts_cons (ts_ret (te_lst (TA.da (xa_cons (te_c de_str) (xa_cons (te_c de_str) (xa_cons (te_c de_str) xa_nil)))))) ts_nil)), Bd.all FD_ rfl rfl fun _ _ _ _ _ _ us hl => match us, hl with | [], _ => rfl⟩
theorem sc_l_bar : FnScope ["_law_pool_here", "_law_way"] ["_law_pool_here"] (defScope (topS 25)) := ⟨rfl, rfl, rfl, by decide +kernel, rfl, by decide +kernel, by decide +kernel⟩
theorem ok_l_bar {P : Program} {w : World} {K : PySem.W.Frag} {mg : Str → Option Value} {base : Heap} (X : K.In base) (G : base.Ns mainGlobals mg) (c : SaysF fa fn K) : OkF P w K mg base 2 d_l_bar ["_law_pool_here"] (spT 1 (f_l_bar K)) := by
  obtain ⟨fd_, FD_⟩ := c.def_ 26 (d := d_l_bar)
  obtain ⟨fd_l_draw, FD_l_draw, F_l_draw, B_l_draw⟩ := ok_l_draw (P := P) (w := w) X G c
  have K_l_draw := FD_l_draw.kp
  have g__law_draw := He.glo_ok X G (c.fact 26 (f := fun K => (He.Fa.glo "_law_draw").ok K))
  exact ⟨fd_, FD_, t_def (o := []) (fs := b_l_bar K) FD_ sc_l_bar rfl (by decide) (fun cdv A outer s H Z M E E1 hr => (ts_cons (ts_set (i := 1) sc_l_bar.nd rfl (by first | exact .inl rfl | exact .inr rfl) (by decide) (fun _ _ _ => trivial) (te_call F_l_draw (hr.mono (by decide)) rfl g__law_draw K_l_draw B_l_draw rfl (fun ds es h1 h2 => match ds, es, h1, h2 with | [_, _], [], _, _ => rfl) (xa_cons (te_var 0) (xa_cons (te_c de_int) xa_nil)))) (ts_cons (ts_if (tt_cmp p_lt (lo (te_var 1)) (lo (te_c de_int)) (nomark _)) (ts_cons (ts_ret (te_call F_l_draw (hr.mono (by decide)) rfl g__law_draw K_l_draw B_l_draw rfl (fun ds es h1 h2 => match ds, es, h1, h2 with | [_, _], [], _, _ => rfl) (xa_cons (te_var 0) (xa_cons (te_c de_int) xa_nil)))) ts_nil) ts_nil) (ts_cons (ts_if (tt_cmp p_lt (lo (te_var 1)) (lo (te_c de_int)) (nomark _)) (ts_cons (ts_ret (te_ix (lo (te_lst (TA.da (xa_cons (te_c de_int) (xa_cons (te_c de_int) (xa_cons (te_c de_int) (xa_cons (te_c de_int) (xa_cons (te_c de_int) (xa_cons (te_c de_int) (xa_cons (te_c de_int) (xa_cons (te_op p_pow (lo (te_c de_int)) (lo (te_c de_int))) xa_nil))))))))))) (lo (te_call F_l_draw (hr.mono (by decide)) rfl g__law_draw K_l_draw B_l_draw rfl (fun ds es h1 h2 => match ds, es, h1, h2 with | [_, _], [], _, _ => rfl) (xa_cons (te_var 0) (xa_cons (te_c de_int) xa_nil)))) (by intro _ _; rfl))) ts_nil) ts_nil) (ts_cons (ts_ret (te_op p_add (lo (te_ix (lo (te_lst (TA.da (xa_cons (te_op p_pow (lo (te_c de_int)) (lo (te_c de_int))) (xa_cons (te_op p_pow (lo (te_c de_int)) (lo (te_c de_int))) (xa_cons (te_op p_pow (lo (te_c de_int)) (lo (te_c de_int))) (xa_cons (te_op p_pow (lo (te_c de_int)) (lo (te_c de_int))) xa_nil))))))) (lo (te_call F_l_draw (hr.mono (by decide)) rfl g__law_draw K_l_draw B_l_draw rfl (fun ds es h1 h2 => match ds, es, h1, h2 with | [_, _], [], _, _ => rfl) (xa_cons (te_var 0) (xa_cons (te_c de_int) xa_nil)))) (by intro _ _; rfl))) (lo (te_call F_l_draw (hr.mono (by decide)) rfl g__law_draw K_l_draw B_l_draw rfl (fun ds es h1 h2 => match ds, es, h1, h2 with | [_, _], [], _, _ => rfl) (xa_cons (te_var 0) (xa_cons (te_c de_int) xa_nil)))))) ts_nil))))), Bd.all FD_ rfl rfl fun _ _ _ _ _ _ us hl => match us, hl with | [_], _ => rfl⟩
theorem sc_l_fee : FnScope ["_law_pool_here", "_law_way", "_law_size"] ["_law_pool_here"] (defScope (topS 26)) := ⟨rfl, rfl, rfl, by decide +kernel, rfl, by decide +kernel, by decide +kernel⟩
theorem ok_l_fee {P : Program} {w : World} {K : PySem.W.Frag} {mg : Str → Option Value} {base : Heap} (X : K.In base) (G : base.Ns mainGlobals mg) (c : SaysF fa fn K) : OkF P w K mg base 2 d_l_fee ["_law_pool_here"] (spT 1 (f_l_fee K)) := by
  obtain ⟨fd_, FD_⟩ := c.def_ 27 (d := d_l_fee)
  obtain ⟨fd_l_draw, FD_l_draw, F_l_draw, B_l_draw⟩ := ok_l_draw (P := P) (w := w) X G c
  have K_l_draw := FD_l_draw.kp
  have g__law_draw := He.glo_ok X G (c.fact 26 (f := fun K => (He.Fa.glo "_law_draw").ok K))
  exact ⟨fd_, FD_, t_def (o := []) (fs := b_l_fee K) FD_ sc_l_fee rfl (by decide) (fun cdv A outer s H Z M E E1 hr => (ts_cons (ts_set (i := 1) sc_l_fee.nd rfl (by first | exact .inl rfl | exact .inr rfl) (by decide) (fun _ _ _ => trivial) (te_call F_l_draw (hr.mono (by decide)) rfl g__law_draw K_l_draw B_l_draw rfl (fun ds es h1 h2 => match ds, es, h1, h2 with | [_, _], [], _, _ => rfl) (xa_cons (te_var 0) (xa_cons (te_c de_int) xa_nil)))) (ts_cons (ts_if (tt_cmp p_lt (lo (te_var 1)) (lo (te_c de_int)) (nomark _)) (ts_cons (ts_ret (te_op p_sub (lo (te_call F_l_draw (hr.mono (by decide)) rfl g__law_draw K_l_draw B_l_draw rfl (fun ds es h1 h2 => match ds, es, h1, h2 with | [_, _], [], _, _ => rfl) (xa_cons (te_var 0) (xa_cons (te_c de_int) xa_nil)))) (lo (te_c de_int)))) ts_nil) ts_nil) (ts_cons (ts_if (tt_cmp p_lt (lo (te_var 1)) (lo (te_c de_int)) (nomark _)) (ts_cons (ts_ret (te_ix (lo (te_lst (TA.da (xa_cons (te_c de_int) (xa_cons (te_c de_int) (xa_cons (te_un p_neg (lo (te_c de_int))) (xa_cons (te_c de_int) (xa_cons (te_un p_neg (lo (te_c de_int))) (xa_cons (te_c de_int) (xa_cons (te_c de_int) (xa_cons (te_un p_neg (lo (te_op p_pow (lo (te_c de_int)) (lo (te_c de_int))))) xa_nil))))))))))) (lo (te_call F_l_draw (hr.mono (by decide)) rfl g__law_draw K_l_draw B_l_draw rfl (fun ds es h1 h2 => match ds, es, h1, h2 with | [_, _], [], _, _ => rfl) (xa_cons (te_var 0) (xa_cons (te_c de_int) xa_nil)))) (by intro _ _; rfl))) ts_nil) ts_nil) (ts_cons (ts_set (i := 2) sc_l_fee.nd rfl (by first | exact .inl rfl | exact .inr rfl) (by decide) (fun _ _ _ => trivial) (te_op p_add (lo (te_ix (lo (te_lst (TA.da (xa_cons (te_op p_pow (lo (te_c de_int)) (lo (te_c de_int))) (xa_cons (te_op p_pow (lo (te_c de_int)) (lo (te_c de_int))) (xa_cons (te_op p_pow (lo (te_c de_int)) (lo (te_c de_int))) (xa_cons (te_op p_pow (lo (te_c de_int)) (lo (te_c de_int))) xa_nil))))))) (lo (te_call F_l_draw (hr.mono (by decide)) rfl g__law_draw K_l_draw B_l_draw rfl (fun ds es h1 h2 => match ds, es, h1, h2 with | [_, _], [], _, _ => rfl) (xa_cons (te_var 0) (xa_cons (te_c de_int) xa_nil)))) (by intro _ _; rfl))) (lo (te_call F_l_draw (hr.mono (by decide)) rfl g__law_draw K_l_draw B_l_draw rfl (fun ds es h1 h2 => match ds, es, h1, h2 with | [_, _], [], _, _ => rfl) (xa_cons (te_var 0) (xa_cons (te_c de_int) xa_nil)))))) (ts_cons (ts_ret (te_ix (lo (te_lst (TA.da (xa_cons (te_var 2) (xa_cons (te_op p_sub (lo (te_c de_int)) (lo (te_var 2))) xa_nil))))) (lo (te_call F_l_draw (hr.mono (by decide)) rfl g__law_draw K_l_draw B_l_draw rfl (fun ds es h1 h2 => match ds, es, h1, h2 with | [_, _], [], _, _ => rfl) (xa_cons (te_var 0) (xa_cons (te_c de_int) xa_nil)))) (by intro _ _; rfl))) ts_nil)))))), Bd.all FD_ rfl rfl fun _ _ _ _ _ _ us hl => match us, hl with | [_], _ => rfl⟩
theorem sc_l_top : FnScope ["_law_pool_here", "_law_way"] ["_law_pool_here"] (defScope (topS 27)) := ⟨rfl, rfl, rfl, by decide +kernel, rfl, by decide +kernel, by decide +kernel⟩
theorem ok_l_top {P : Program} {w : World} {K : PySem.W.Frag} {mg : Str → Option Value} {base : Heap} (X : K.In base) (G : base.Ns mainGlobals mg) (c : SaysF fa fn K) : OkF P w K mg base 2 d_l_top ["_law_pool_here"] (spT 1 (f_l_top K)) := by
  obtain ⟨fd_, FD_⟩ := c.def_ 28 (d := d_l_top)
  obtain ⟨fd_l_draw, FD_l_draw, F_l_draw, B_l_draw⟩ := ok_l_draw (P := P) (w := w) X G c
  have K_l_draw := FD_l_draw.kp
  have g__law_draw := He.glo_ok X G (c.fact 26 (f := fun K => (He.Fa.glo "_law_draw").ok K))
  exact ⟨fd_, FD_, t_def (o := []) (fs := b_l_top K) FD_ sc_l_top rfl (by decide) (fun cdv A outer s H Z M E E1 hr => (ts_cons (ts_set (i := 1) sc_l_top.nd rfl (by first | exact .inl rfl | exact .inr rfl) (by decide) (fun _ _ _ => trivial) (te_call F_l_draw (hr.mono (by decide)) rfl g__law_draw K_l_draw B_l_draw rfl (fun ds es h1 h2 => match ds, es, h1, h2 with | [_, _], [], _, _ => rfl) (xa_cons (te_var 0) (xa_cons (te_c de_int) xa_nil)))) (ts_cons (ts_if (tt_cmp p_lt (lo (te_var 1)) (lo (te_c de_int)) (nomark _)) (ts_cons (ts_ret (te_c de_non)) ts_nil) ts_nil) (ts_cons (ts_if (tt_cmp p_lt (lo (te_var 1)) (lo (te_c de_int)) (nomark _)) (ts_cons (ts_ret (te_call F_l_draw (hr.mono (by decide)) rfl g__law_draw K_l_draw B_l_draw rfl (fun ds es h1 h2 => match ds, es, h1, h2 with | [_, _], [], _, _ => rfl) (xa_cons (te_var 0) (xa_cons (te_c de_int) xa_nil)))) ts_nil) ts_nil) (ts_cons (ts_if (tt_cmp p_lt (lo (te_var 1)) (lo (te_c de_int)) (nomark _)) (ts_cons (ts_ret (te_ix (lo (te_lst (TA.da (xa_cons (te_c de_int) (xa_cons (te_c de_int) (xa_cons (te_c de_int) (xa_cons (te_c de_int) (xa_cons (te_c de_int) (xa_cons (te_c de_int) (xa_cons (te_c de_int) (xa_cons (te_c de_int) xa_nil))))))))))) (lo (te_call F_l_draw (hr.mono (by decide)) rfl g__law_draw K_l_draw B_l_draw rfl (fun ds es h1 h2 => match ds, es, h1, h2 with | [_, _], [], _, _ => rfl) (xa_cons (te_var 0) (xa_cons (te_c de_int) xa_nil)))) (by intro _ _; rfl))) ts_nil) ts_nil) (ts_cons (ts_ret (te_op p_add (lo (te_ix (lo (te_lst (TA.da (xa_cons (te_op p_pow (lo (te_c de_int)) (lo (te_c de_int))) (xa_cons (te_op p_pow (lo (te_c de_int)) (lo (te_c de_int))) (xa_cons (te_op p_pow (lo (te_c de_int)) (lo (te_c de_int))) (xa_cons (te_op p_pow (lo (te_c de_int)) (lo (te_c de_int))) xa_nil))))))) (lo (te_call F_l_draw (hr.mono (by decide)) rfl g__law_draw K_l_draw B_l_draw rfl (fun ds es h1 h2 => match ds, es, h1, h2 with | [_, _], [], _, _ => rfl) (xa_cons (te_var 0) (xa_cons (te_c de_int) xa_nil)))) (by intro _ _; rfl))) (lo (te_call F_l_draw (hr.mono (by decide)) rfl g__law_draw K_l_draw B_l_draw rfl (fun ds es h1 h2 => match ds, es, h1, h2 with | [_, _], [], _, _ => rfl) (xa_cons (te_var 0) (xa_cons (te_c de_int) xa_nil)))))) ts_nil)))))), Bd.all FD_ rfl rfl fun _ _ _ _ _ _ us hl => match us, hl with | [_], _ => rfl⟩
theorem sc_l_row : FnScope ["_law_pool_here", "_law_tags_here", "_law_begin", "_law_end", "_law_style"] ["_law_pool_here", "_law_tags_here"] (defScope (topS 28)) := ⟨rfl, rfl, rfl, by decide +kernel, rfl, by decide +kernel, by decide +kernel⟩
theorem ok_l_row {P : Program} {w : World} {K : PySem.W.Frag} {mg : Str → Option Value} {base : Heap} (X : K.In base) (G : base.Ns mainGlobals mg) (c : SaysF fa fn K) : OkF P w K mg base 3 d_l_row ["_law_pool_here", "_law_tags_here"] (spT 2 (f_l_row K)) := by
  obtain ⟨fd_, FD_⟩ := c.def_ 29 (d := d_l_row)
  obtain ⟨fd_l_draw, FD_l_draw, F_l_draw, B_l_draw⟩ := ok_l_draw (P := P) (w := w) X G c
  have K_l_draw := FD_l_draw.kp
  obtain ⟨fd_l_pick, FD_l_pick, F_l_pick, B_l_pick⟩ := ok_l_pick (P := P) (w := w) X G c
  have K_l_pick := FD_l_pick.kp
  obtain ⟨fd_l_styles, FD_l_styles, F_l_styles, B_l_styles⟩ := ok_l_styles (P := P) (w := w) X G c
  have K_l_styles := FD_l_styles.kp
  obtain ⟨fd_l_fee, FD_l_fee, F_l_fee, B_l_fee⟩ := ok_l_fee (P := P) (w := w) X G c
  have K_l_fee := FD_l_fee.kp
  obtain ⟨fd_l_bar, FD_l_bar, F_l_bar, B_l_bar⟩ := ok_l_bar (P := P) (w := w) X G c
  have K_l_bar := FD_l_bar.kp
  have g__law_draw := He.glo_ok X G (c.fact 26 (f := fun K => (He.Fa.glo "_law_draw").ok K))
  have g_len := He.free_ok X G (c.fact 5 (f := fun K => (He.Fa.free "len").ok K))
  have g__law_pick := He.glo_ok X G (c.fact 27 (f := fun K => (He.Fa.glo "_law_pick").ok K))
  have g__law_styles := He.glo_ok X G (c.fact 30 (f := fun K => (He.Fa.glo "_law_styles").ok K))
  have g__law_fee := He.glo_ok X G (c.fact 31 (f := fun K => (He.Fa.glo "_law_fee").ok K))
  have g__law_bar := He.glo_ok X G (c.fact 32 (f := fun K => (He.Fa.glo "_law_bar").ok K))
  exact ⟨fd_, FD_, t_def (o := []) (fs := b_l_row K) FD_ sc_l_row rfl (by decide) (fun cdv A outer s H Z M E E1 hr => (ts_cons (ts_set (i := 2) sc_l_row.nd rfl (by first | exact .inl rfl | exact .inr rfl) (by decide) (fun _ _ _ => trivial) (te_call F_l_draw (hr.mono (by decide)) rfl g__law_draw K_l_draw B_l_draw rfl (fun ds es h1 h2 => match ds, es, h1, h2 with | [_, _], [], _, _ => rfl) (xa_cons (te_var 0) (xa_cons (te_callB b_len rfl g_len boot_len (tal_cons (lo (te_var 1)) tal_nil)) xa_nil)))) (ts_cons (ts_set (i := 3) sc_l_row.nd rfl (by first | exact .inl rfl | exact .inr rfl) (by decide) (fun _ _ _ => trivial) (te_op p_add (lo (te_var 2)) (lo (te_call F_l_draw (hr.mono (by decide)) rfl g__law_draw K_l_draw B_l_draw rfl (fun ds es h1 h2 => match ds, es, h1, h2 with | [_, _], [], _, _ => rfl) (xa_cons (te_var 0) (xa_cons (te_op p_sub (lo (te_callB b_len rfl g_len boot_len (tal_cons (lo (te_var 1)) tal_nil))) (lo (te_var 2))) xa_nil)))))) (ts_cons (ts_set (i := 4) sc_l_row.nd rfl (by first | exact .inl rfl | exact .inr rfl) (by decide) (fun _ _ _ => trivial) (te_call F_l_pick (hr.mono (by decide)) rfl g__law_pick K_l_pick B_l_pick rfl (fun ds es h1 h2 => match ds, es, h1, h2 with | [_, _], [], _, _ => rfl) (xa_cons (te_var 0) (xa_cons (te_call0 F_l_styles (hr.mono (by decide)) rfl g__law_styles K_l_styles B_l_styles rfl) xa_nil)))) (ts_cons (ts_ret (te_tup (TA.da (xa_cons (te_ix (lo (te_var 1)) (lo (te_var 2)) (by intro _ _; rfl)) (xa_cons (te_ix (lo (te_var 1)) (lo (te_var 3)) (by intro _ _; rfl)) (xa_cons (te_var 4) (xa_cons (te_call F_l_bar (hr.mono (by decide)) rfl g__law_bar K_l_bar B_l_bar rfl (fun ds es h1 h2 => match ds, es, h1, h2 with | [_], [], _, _ => rfl) (xa_cons (te_var 0) xa_nil)) (xa_cons (te_call F_l_fee (hr.mono (by decide)) rfl g__law_fee K_l_fee B_l_fee rfl (fun ds es h1 h2 => match ds, es, h1, h2 with | [_], [], _, _ => rfl) (xa_cons (te_var 0) xa_nil)) xa_nil)))))))) ts_nil))))), Bd.all FD_ rfl rfl fun _ _ _ _ _ _ us hl => match us, hl with | [_, _], _ => rfl⟩
theorem sc_l_made_rule : FnScope ["_law_pool_here", "_law_row_here", "_law_begin", "_law_end", "_law_style", "_law_bar_here", "_law_fee_here", "_law_at"] ["_law_pool_here", "_law_row_here"] (defScope (topS 29)) := ⟨rfl, rfl, rfl, by decide +kernel, rfl, by decide +kernel, by decide +kernel⟩
theorem ok_l_made_rule {P : Program} {w : World} {K : PySem.W.Frag} {mg : Str → Option Value} {base : Heap} (X : K.In base) (G : base.Ns mainGlobals mg) (c : SaysF fa fn K) : OkF P w K mg base 5 d_l_made_rule ["_law_pool_here", "_law_row_here"] (spT 2 (f_l_made_rule K)) := by
  obtain ⟨fd_, FD_⟩ := c.def_ 30 (d := d_l_made_rule)
  obtain ⟨fd_l_draw, FD_l_draw, F_l_draw, B_l_draw⟩ := ok_l_draw (P := P) (w := w) X G c
  have K_l_draw := FD_l_draw.kp
  obtain ⟨fd_Rule_init, FD_Rule_init, F_Rule_init, B_Rule_init⟩ := ok_Rule_init (P := P) (w := w) X G c
  have K_Rule_init := FD_Rule_init.kp
  have g__law_draw := He.glo_ok X G (c.fact 26 (f := fun K => (He.Fa.glo "_law_draw").ok K))
  have g_Rule := He.glo_ok X G (c.fact 23 (f := fun K => (He.Fa.glo "Rule").ok K))
  have mk_Rule := He.mkr_ok (c.fact 33 (f := fun K => (He.Fa.mkr "Rule").ok K))
  have zK_Rule_init_rate_number := Bd.kw (ps := ["self", "first", "last", "kind", "number", "rate"]) (n := 4) (ks := ["rate", "number"]) [.inl 0, .inl 1, .inl 2, .inl 3, .inr 1, .inr 0] FD_Rule_init rfl fun _ _ _ _ _ _ us ws h1 h2 => match us, ws, h1, h2 with | [_, _, _, _], [_, _], _, _ => rfl
  have zK_Rule_init_number_kind_rate_last_first := Bd.kw (ps := ["self", "first", "last", "kind", "number", "rate"]) (n := 1) (ks := ["number", "kind", "rate", "last", "first"]) [.inl 0, .inr 4, .inr 3, .inr 1, .inr 0, .inr 2] FD_Rule_init rfl fun _ _ _ _ _ _ us ws h1 h2 => match us, ws, h1, h2 with | [_], [_, _, _, _, _], _, _ => rfl
  exact ⟨fd_, FD_, t_def (o := []) (fs := b_l_made_rule K) FD_ sc_l_made_rule rfl (by decide) (fun cdv A outer s H Z M E E1 hr => (ts_cons (ts_asg (te_var 1) (tg_tup (n := 5) rfl (tgs_cons (tg_name (i := 2) sc_l_made_rule.nd rfl (by first | exact .inl rfl | exact .inr rfl) (by decide) (fun _ _ _ => trivial)) (tgs_cons (tg_name (i := 3) sc_l_made_rule.nd rfl (by first | exact .inl rfl | exact .inr rfl) (by decide) (fun _ _ _ => trivial)) (tgs_cons (tg_name (i := 4) sc_l_made_rule.nd rfl (by first | exact .inl rfl | exact .inr rfl) (by decide) (fun _ _ _ => trivial)) (tgs_cons (tg_name (i := 5) sc_l_made_rule.nd rfl (by first | exact .inl rfl | exact .inr rfl) (by decide) (fun _ _ _ => trivial)) (tgs_cons (tg_name (i := 6) sc_l_made_rule.nd rfl (by first | exact .inl rfl | exact .inr rfl) (by decide) (fun _ _ _ => trivial)) tgs_nil))))))) (ts_cons (ts_set (i := 7) sc_l_made_rule.nd rfl (by first | exact .inl rfl | exact .inr rfl) (by decide) (fun _ _ _ => trivial) (te_call F_l_draw (hr.mono (by decide)) rfl g__law_draw K_l_draw B_l_draw rfl (fun ds es h1 h2 => match ds, es, h1, h2 with | [_, _], [], _, _ => rfl) (xa_cons (te_var 0) (xa_cons (te_c de_int) xa_nil)))) (ts_cons (ts_if (tt_cmpS (p_eq (rm_u64 hr)) (te_var 7) (te_c de_int) (nomark _)) (ts_cons (ts_ret (te_make (gT := (fun ds _ => ds)) (C := He.ga K "Rule") mk_Rule F_Rule_init (hr.mono (by decide)) rfl g_Rule B_Rule_init (.inl rfl) rfl (fun _ ds es h1 h2 => match ds, es, h1, h2 with | [_, _, _, _, _], [], _, _ => ⟨rfl, rfl⟩) (xa_cons (te_var 2) (xa_cons (te_var 3) (xa_cons (te_var 4) (xa_cons (te_var 5) (xa_cons (te_var 6) xa_nil))))))) ts_nil) ts_nil) (ts_cons (ts_if (tt_cmpS (p_eq (rm_u64 hr)) (te_var 7) (te_c de_int) (nomark _)) (ts_cons (ts_ret (te_makeK (gT := (gP [.inl 0, .inl 1, .inl 2, .inr 1, .inr 0])) (C := He.ga K "Rule") mk_Rule F_Rule_init (hr.mono (by decide)) rfl g_Rule zK_Rule_init_rate_number (.inl rfl) rfl rfl (fun _ ds es h1 h2 => match ds, es, h1, h2 with | [_, _, _], [_, _], _, _ => ⟨rfl, rfl⟩) (xa_cons (te_var 2) (xa_cons (te_var 3) (xa_cons (te_var 4) xa_nil))) (xk_cons (te_var 6) (xk_cons (te_var 5) xk_nil)))) ts_nil) ts_nil) (ts_cons (ts_ret (te_makeK0 (gT := (gP [.inr 4, .inr 3, .inr 1, .inr 0, .inr 2])) (C := He.ga K "Rule") mk_Rule F_Rule_init (hr.mono (by decide)) rfl g_Rule zK_Rule_init_number_kind_rate_last_first (.inl rfl) rfl (fun _ ds es h1 h2 => match ds, es, h1, h2 with | [], [_, _, _, _, _], _, _ => ⟨rfl, rfl⟩) (xk_cons (te_var 5) (xk_cons (te_var 4) (xk_cons (te_var 6) (xk_cons (te_var 3) (xk_cons (te_var 2) xk_nil))))))) ts_nil)))))), Bd.all FD_ rfl rfl fun _ _ _ _ _ _ us hl => match us, hl with | [_, _], _ => rfl⟩
theorem sc_l_made_day : FnScope ["_law_pool_here", "_law_pair", "_law_at"] ["_law_pool_here", "_law_pair"] (defScope (topS 30)) := ⟨rfl, rfl, rfl, by decide +kernel, rfl, by decide +kernel, by decide +kernel⟩
theorem ok_l_made_day {P : Program} {w : World} {K : PySem.W.Frag} {mg : Str → Option Value} {base : Heap} (X : K.In base) (G : base.Ns mainGlobals mg) (c : SaysF fa fn K) : OkF P w K mg base 5 d_l_made_day ["_law_pool_here", "_law_pair"] (spT 2 (f_l_made_day K)) := by
  obtain ⟨fd_, FD_⟩ := c.def_ 31 (d := d_l_made_day)
  obtain ⟨fd_l_draw, FD_l_draw, F_l_draw, B_l_draw⟩ := ok_l_draw (P := P) (w := w) X G c
  have K_l_draw := FD_l_draw.kp
  obtain ⟨fd_Day_init, FD_Day_init, F_Day_init, B_Day_init⟩ := ok_Day_init (P := P) (w := w) X G c
  have K_Day_init := FD_Day_init.kp
  have g__law_draw := He.glo_ok X G (c.fact 26 (f := fun K => (He.Fa.glo "_law_draw").ok K))
  have g_Day := He.glo_ok X G (c.fact 15 (f := fun K => (He.Fa.glo "Day").ok K))
  have mk_Day := He.mkr_ok (c.fact 34 (f := fun K => (He.Fa.mkr "Day").ok K))
  have zK_Day_init := (Bd.dfl (ps := ["self", "name", "most"]) (n := 2) FD_Day_init (by simp [He5.DefA.dvs]) [.non] (fun _ => (.cons (.non) .nil)) rfl fun _ _ _ _ _ _ _ us hl => match us, hl with | [_, _], _ => ⟨_, rfl, fun its hi => match its, hi with | [_], _ => rfl⟩)
  have zK_Day_init_name_D := Bd.kwE (ps := ["self", "name", "most"]) (n := 1) (ks := ["name"]) [.inl 0, .inr 0] FD_Day_init (by simp [He5.DefA.dvs]) [.non] (fun _ => (.cons (.non) .nil)) fun _ _ _ _ _ _ _ us ws h1 h2 => match us, ws, h1, h2 with | [_], [_], _, _ => ⟨_, rfl, fun its hi => match its, hi with | [_], _ => rfl⟩
  have zK_Day_init_most_name := Bd.kwD (ps := ["self", "name", "most"]) (n := 1) (ks := ["most", "name"]) [.inl 0, .inr 1, .inr 0] FD_Day_init (by simp [He5.DefA.dvs]) fun _ _ _ _ _ _ _ us ws h1 h2 => match us, ws, h1, h2 with | [_], [_, _], _, _ => ⟨_, rfl, fun its hi => match its, hi with | [_], _ => rfl⟩
  exact ⟨fd_, FD_, t_def (o := []) (fs := b_l_made_day K) FD_ sc_l_made_day rfl (by decide) (fun cdv A outer s H Z M E E1 hr => (ts_cons (ts_set (i := 2) sc_l_made_day.nd rfl (by first | exact .inl rfl | exact .inr rfl) (by decide) (fun _ _ _ => trivial) (te_call F_l_draw (hr.mono (by decide)) rfl g__law_draw K_l_draw B_l_draw rfl (fun ds es h1 h2 => match ds, es, h1, h2 with | [_, _], [], _, _ => rfl) (xa_cons (te_var 0) (xa_cons (te_c de_int) xa_nil)))) (ts_cons (ts_if (DW.dt (tw_and (tt_cmpS (p_eq (rm_u64 hr)) (te_var 2) (te_c de_int) (nomark _)) (tw_and1 (tt_cmp p_isN (lo (te_ix (lo (te_var 1)) (lo (te_c de_int)) (by intro _ _; rfl))) (lo (te_c de_non)) (nomark _))))) (ts_cons (ts_ret (te_if (tt_cmpS (p_eq (rm_u64 hr)) (te_call F_l_draw (hr.mono (by decide)) rfl g__law_draw K_l_draw B_l_draw rfl (fun ds es h1 h2 => match ds, es, h1, h2 with | [_, _], [], _, _ => rfl) (xa_cons (te_var 0) (xa_cons (te_c de_int) xa_nil))) (te_c de_int) (nomark _)) (te_make (gT := (fun ds _ => ds ++ ([.non] : List D))) (C := He.ga K "Day") mk_Day F_Day_init (hr.mono (by decide)) rfl g_Day zK_Day_init (.inl rfl) rfl (fun _ ds es h1 h2 => match ds, es, h1, h2 with | [_], [], _, _ => ⟨rfl, rfl⟩) (xa_cons (te_ix (lo (te_var 1)) (lo (te_c de_int)) (by intro _ _; rfl)) xa_nil)) (te_makeK0 (gT := (fun ds es => gP [.inr 0] ds es ++ ([.non] : List D))) (C := He.ga K "Day") mk_Day F_Day_init (hr.mono (by decide)) rfl g_Day zK_Day_init_name_D (.inl rfl) rfl (fun _ ds es h1 h2 => match ds, es, h1, h2 with | [], [_], _, _ => ⟨rfl, rfl⟩) (xk_cons (te_ix (lo (te_var 1)) (lo (te_c de_int)) (by intro _ _; rfl)) xk_nil)))) ts_nil) ts_nil) (ts_cons (ts_ret (te_if (tt_cmp p_lt (lo (te_var 2)) (lo (te_c de_int)) (nomark _)) (te_make (gT := (fun ds _ => ds)) (C := He.ga K "Day") mk_Day F_Day_init (hr.mono (by decide)) rfl g_Day B_Day_init (.inl rfl) rfl (fun _ ds es h1 h2 => match ds, es, h1, h2 with | [_, _], [], _, _ => ⟨rfl, rfl⟩) (xa_cons (te_ix (lo (te_var 1)) (lo (te_c de_int)) (by intro _ _; rfl)) (xa_cons (te_ix (lo (te_var 1)) (lo (te_c de_int)) (by intro _ _; rfl)) xa_nil))) (te_makeK0 (gT := (gP [.inr 1, .inr 0])) (C := He.ga K "Day") mk_Day F_Day_init (hr.mono (by decide)) rfl g_Day zK_Day_init_most_name (.inl rfl) rfl (fun _ ds es h1 h2 => match ds, es, h1, h2 with | [], [_, _], _, _ => ⟨rfl, rfl⟩) (xk_cons (te_ix (lo (te_var 1)) (lo (te_c de_int)) (by intro _ _; rfl)) (xk_cons (te_ix (lo (te_var 1)) (lo (te_c de_int)) (by intro _ _; rfl)) xk_nil))))) ts_nil)))), Bd.all FD_ rfl rfl fun _ _ _ _ _ _ us hl => match us, hl with | [_, _], _ => rfl⟩
theorem sc_l_shown : FnScope ["_law_thing"] ["_law_thing"] (defScope (topS 31)) := ⟨rfl, rfl, rfl, by decide +kernel, rfl, by decide +kernel, by decide +kernel⟩
theorem ok_l_shown {P : Program} {w : World} {K : PySem.W.Frag} {mg : Str → Option Value} {base : Heap} (X : K.In base) (G : base.Ns mainGlobals mg) (c : SaysF fa fn K) : OkF P w K mg base 3 d_l_shown ["_law_thing"] (spT 1 (f_l_shown K)) := by
  obtain ⟨fd_, FD_⟩ := c.def_ 32 (d := d_l_shown)
  obtain ⟨fd_Rule_rate, FD_Rule_rate, F_Rule_rate, B_Rule_rate⟩ := ok_Rule_rate (P := P) (w := w) X G c
  have K_Rule_rate := FD_Rule_rate.kp
  obtain ⟨fd_Rule_number, FD_Rule_number, F_Rule_number, B_Rule_number⟩ := ok_Rule_number (P := P) (w := w) X G c
  have K_Rule_number := FD_Rule_number.kp
  obtain ⟨fd_Rule_kind, FD_Rule_kind, F_Rule_kind, B_Rule_kind⟩ := ok_Rule_kind (P := P) (w := w) X G c
  have K_Rule_kind := FD_Rule_kind.kp
  obtain ⟨fd_Rule_last, FD_Rule_last, F_Rule_last, B_Rule_last⟩ := ok_Rule_last (P := P) (w := w) X G c
  have K_Rule_last := FD_Rule_last.kp
  obtain ⟨fd_Rule_first, FD_Rule_first, F_Rule_first, B_Rule_first⟩ := ok_Rule_first (P := P) (w := w) X G c
  have K_Rule_first := FD_Rule_first.kp
  have p_Rule_rate := bProp_ok (c.fact 35 (f := bProp "Rule" "rate"))
  have p_Rule_number := bProp_ok (c.fact 36 (f := bProp "Rule" "number"))
  have p_Rule_kind := bProp_ok (c.fact 37 (f := bProp "Rule" "kind"))
  have p_Rule_last := bProp_ok (c.fact 38 (f := bProp "Rule" "last"))
  have p_Rule_first := bProp_ok (c.fact 39 (f := bProp "Rule" "first"))
  exact ⟨fd_, FD_, t_def (o := []) (fs := b_l_shown K) FD_ sc_l_shown rfl (by decide) (fun cdv A outer s H Z M E E1 hr => (ts_cons (ts_ret (te_tup (TA.da (xa_cons (te_prop (te_var 0) p_Rule_first F_Rule_first (hr.mono (by decide)) B_Rule_first) (xa_cons (te_prop (te_var 0) p_Rule_last F_Rule_last (hr.mono (by decide)) B_Rule_last) (xa_cons (te_prop (te_var 0) p_Rule_kind F_Rule_kind (hr.mono (by decide)) B_Rule_kind) (xa_cons (te_prop (te_var 0) p_Rule_number F_Rule_number (hr.mono (by decide)) B_Rule_number) (xa_cons (te_prop (te_var 0) p_Rule_rate F_Rule_rate (hr.mono (by decide)) B_Rule_rate) xa_nil)))))))) ts_nil)), Bd.all FD_ rfl rfl fun _ _ _ _ _ _ us hl => match us, hl with | [_], _ => rfl⟩
theorem sc_l_mixed_row : FnScope ["_law_pool_here", "_law_row_here", "_law_mate", "_law_at"] ["_law_pool_here", "_law_row_here"] (defScope (topS 32)) := ⟨rfl, rfl, rfl, by decide +kernel, rfl, by decide +kernel, by decide +kernel⟩
theorem ok_l_mixed_row {P : Program} {w : World} {K : PySem.W.Frag} {mg : Str → Option Value} {base : Heap} (X : K.In base) (G : base.Ns mainGlobals mg) (c : SaysF fa fn K) : OkF P w K mg base 5 d_l_mixed_row ["_law_pool_here", "_law_row_here"] (spT 2 (f_l_mixed_row K)) := by
  obtain ⟨fd_, FD_⟩ := c.def_ 33 (d := d_l_mixed_row)
  obtain ⟨fd_l_row, FD_l_row, F_l_row, B_l_row⟩ := ok_l_row (P := P) (w := w) X G c
  have K_l_row := FD_l_row.kp
  obtain ⟨fd_l_tags, FD_l_tags, F_l_tags, B_l_tags⟩ := ok_l_tags (P := P) (w := w) X G c
  have K_l_tags := FD_l_tags.kp
  obtain ⟨fd_l_draw, FD_l_draw, F_l_draw, B_l_draw⟩ := ok_l_draw (P := P) (w := w) X G c
  have K_l_draw := FD_l_draw.kp
  have g__law_row := He.glo_ok X G (c.fact 40 (f := fun K => (He.Fa.glo "_law_row").ok K))
  have g__law_tags := He.glo_ok X G (c.fact 41 (f := fun K => (He.Fa.glo "_law_tags").ok K))
  have g__law_draw := He.glo_ok X G (c.fact 26 (f := fun K => (He.Fa.glo "_law_draw").ok K))
  exact ⟨fd_, FD_, t_def (o := []) (fs := b_l_mixed_row K) FD_ sc_l_mixed_row rfl (by decide) (fun cdv A outer s H Z M E E1 hr => (ts_cons (ts_set (i := 2) sc_l_mixed_row.nd rfl (by first | exact .inl rfl | exact .inr rfl) (by decide) (fun _ _ _ => trivial) (te_call F_l_row (hr.mono (by decide)) rfl g__law_row K_l_row B_l_row rfl (fun ds es h1 h2 => match ds, es, h1, h2 with | [_, _], [], _, _ => rfl) (xa_cons (te_var 0) (xa_cons (te_call F_l_tags (hr.mono (by decide)) rfl g__law_tags K_l_tags B_l_tags rfl (fun ds es h1 h2 => match ds, es, h1, h2 with | [_, _], [], _, _ => rfl) (xa_cons (te_var 0) (xa_cons (te_c de_int) xa_nil))) xa_nil)))) (ts_cons (ts_set (i := 3) sc_l_mixed_row.nd rfl (by first | exact .inl rfl | exact .inr rfl) (by decide) (fun _ _ _ => trivial) (te_call F_l_draw (hr.mono (by decide)) rfl g__law_draw K_l_draw B_l_draw rfl (fun ds es h1 h2 => match ds, es, h1, h2 with | [_, _], [], _, _ => rfl) (xa_cons (te_var 0) (xa_cons (te_c de_int) xa_nil)))) (ts_cons (ts_ret (te_if (tt_cmpS (p_eq (rm_u64 hr)) (te_var 3) (te_c de_int) (nomark _)) (te_var 2) (te_op p_add (lo (te_op p_add (lo (te_slice (lo (te_var 1)) to_none (to_some (te_var 3)))) (lo (te_slice (lo (te_var 2)) (to_some (te_var 3)) (to_some (te_op p_add (lo (te_var 3)) (lo (te_c de_int)))))))) (lo (te_slice (lo (te_var 1)) (to_some (te_op p_add (lo (te_var 3)) (lo (te_c de_int)))) to_none))))) ts_nil)))), Bd.all FD_ rfl rfl fun _ _ _ _ _ _ us hl => match us, hl with | [_, _], _ => rfl⟩
theorem sc_l_rules_right : FnScope ["_law_pool_here", "_law_row_here", "_law_mate", "_law_mine", "_law_twin", "_law_again", "_law_told", "_law_alike", "_law_odd"] ["_law_pool_here"] (defScope (topS 33)) := ⟨rfl, rfl, rfl, by decide +kernel, rfl, by decide +kernel, by decide +kernel⟩
theorem ok_l_rules_right {P : Program} {w : World} {K : PySem.W.Frag} {mg : Str → Option Value} {base : Heap} (X : K.In base) (G : base.Ns mainGlobals mg) (c : SaysF fa fn K) : OkF P w K mg base 6 d_l_rules_right ["_law_pool_here"] (spT 1 (f_l_rules_right K)) := by
  obtain ⟨fd_, FD_⟩ := c.def_ 34 (d := d_l_rules_right)
  obtain ⟨fd_l_row, FD_l_row, F_l_row, B_l_row⟩ := ok_l_row (P := P) (w := w) X G c
  have K_l_row := FD_l_row.kp
  obtain ⟨fd_l_tags, FD_l_tags, F_l_tags, B_l_tags⟩ := ok_l_tags (P := P) (w := w) X G c
  have K_l_tags := FD_l_tags.kp
  obtain ⟨fd_l_mixed_row, FD_l_mixed_row, F_l_mixed_row, B_l_mixed_row⟩ := ok_l_mixed_row (P := P) (w := w) X G c
  have K_l_mixed_row := FD_l_mixed_row.kp
  obtain ⟨fd_l_made_rule, FD_l_made_rule, F_l_made_rule, B_l_made_rule⟩ := ok_l_made_rule (P := P) (w := w) X G c
  have K_l_made_rule := FD_l_made_rule.kp
  obtain ⟨fd_l_shown, FD_l_shown, F_l_shown, B_l_shown⟩ := ok_l_shown (P := P) (w := w) X G c
  have K_l_shown := FD_l_shown.kp
  obtain ⟨fd_Rule_eq, FD_Rule_eq, F_Rule_eq, B_Rule_eq⟩ := ok_Rule_eq (P := P) (w := w) X G c
  have K_Rule_eq := FD_Rule_eq.kp
  obtain ⟨fd_l_pick, FD_l_pick, F_l_pick, B_l_pick⟩ := ok_l_pick (P := P) (w := w) X G c
  have K_l_pick := FD_l_pick.kp
  obtain ⟨fd_Day_init, FD_Day_init, F_Day_init, B_Day_init⟩ := ok_Day_init (P := P) (w := w) X G c
  have K_Day_init := FD_Day_init.kp
  obtain ⟨fd_Day_eq, FD_Day_eq, F_Day_eq, B_Day_eq⟩ := ok_Day_eq (P := P) (w := w) X G c
  have K_Day_eq := FD_Day_eq.kp
  have g__law_row := He.glo_ok X G (c.fact 40 (f := fun K => (He.Fa.glo "_law_row").ok K))
  have g__law_tags := He.glo_ok X G (c.fact 41 (f := fun K => (He.Fa.glo "_law_tags").ok K))
  have g__law_mixed_row := He.glo_ok X G (c.fact 42 (f := fun K => (He.Fa.glo "_law_mixed_row").ok K))
  have g__law_made_rule := He.glo_ok X G (c.fact 43 (f := fun K => (He.Fa.glo "_law_made_rule").ok K))
  have sys_ := c.fact 44 (f := bSys)
  have g__law_shown := He.glo_ok X G (c.fact 45 (f := fun K => (He.Fa.glo "_law_shown").ok K))
  have g_repr := He.free_ok X G (c.fact 46 (f := fun K => (He.Fa.free "repr").ok K))
  have q_Rule := bEqS_ok (c.fact 47 (f := bEqS "Rule"))
  have g__law_pick := He.glo_ok X G (c.fact 27 (f := fun K => (He.Fa.glo "_law_pick").ok K))
  have g_Day := He.glo_ok X G (c.fact 15 (f := fun K => (He.Fa.glo "Day").ok K))
  have mk_Day := He.mkr_ok (c.fact 34 (f := fun K => (He.Fa.mkr "Day").ok K))
  have g_list := He.free_ok X G (c.fact 48 (f := fun K => (He.Fa.free "list").ok K))
  have u_Rule := bTru_ok (c.fact 49 (f := bTru "Rule"))
  have g_bool := He.free_ok X G (c.fact 0 (f := fun K => (He.Fa.free "bool").ok K))
  have q_Day := bEqS_ok (c.fact 50 (f := bEqS "Day"))
  have nt_Rule := bNoK_ok (c.fact 51 (f := bNoK "Rule"))
  exact ⟨fd_, FD_, t_def (o := []) (fs := b_l_rules_right K) FD_ sc_l_rules_right rfl (by decide) (fun cdv A outer s H Z M E E1 hr => (ts_cons (ts_set (i := 1) sc_l_rules_right.nd rfl (by first | exact .inl rfl | exact .inr rfl) (by decide) (fun _ _ _ => trivial) (te_call F_l_row (hr.mono (by decide)) rfl g__law_row K_l_row B_l_row rfl (fun ds es h1 h2 => match ds, es, h1, h2 with | [_, _], [], _, _ => rfl) (xa_cons (te_var 0) (xa_cons (te_call F_l_tags (hr.mono (by decide)) rfl g__law_tags K_l_tags B_l_tags rfl (fun ds es h1 h2 => match ds, es, h1, h2 with | [_, _], [], _, _ => rfl) (xa_cons (te_var 0) (xa_cons (te_c de_int) xa_nil))) xa_nil)))) (ts_cons (ts_set (i := 2) sc_l_rules_right.nd rfl (by first | exact .inl rfl | exact .inr rfl) (by decide) (fun _ _ _ => trivial) (te_call F_l_mixed_row (hr.mono (by decide)) rfl g__law_mixed_row K_l_mixed_row B_l_mixed_row rfl (fun ds es h1 h2 => match ds, es, h1, h2 with | [_, _], [], _, _ => rfl) (xa_cons (te_var 0) (xa_cons (te_var 1) xa_nil)))) (ts_cons (ts_par3 (i := 3) (j := 4) (l := 5) rfl sc_l_rules_right.nd rfl rfl rfl (by decide) (by decide) (by decide) rfl rfl rfl (by decide) (by decide) (by decide) (fun _ _ _ => trivial) (fun _ _ _ => trivial) (fun _ _ _ => trivial) (TA.da (xa_cons (te_call F_l_made_rule (hr.mono (by decide)) rfl g__law_made_rule K_l_made_rule B_l_made_rule rfl (fun ds es h1 h2 => match ds, es, h1, h2 with | [_, _], [], _, _ => rfl) (xa_cons (te_var 0) (xa_cons (te_var 1) xa_nil))) (xa_cons (te_call F_l_made_rule (hr.mono (by decide)) rfl g__law_made_rule K_l_made_rule B_l_made_rule rfl (fun ds es h1 h2 => match ds, es, h1, h2 with | [_, _], [], _, _ => rfl) (xa_cons (te_var 0) (xa_cons (te_var 2) xa_nil))) (xa_cons (te_call F_l_made_rule (hr.mono (by decide)) rfl g__law_made_rule K_l_made_rule B_l_made_rule rfl (fun ds es h1 h2 => match ds, es, h1, h2 with | [_, _], [], _, _ => rfl) (xa_cons (te_var 0) (xa_cons (te_var 1) xa_nil))) xa_nil)))) rfl) (ts_cons (ts_if (tt_cmpS p_neT (te_callBs (b_reprQ (hr.mono (Nat.zero_le _)) sys_) rfl g_repr boot_repr (TA.da (xa_cons (te_lst (TA.da (xa_cons (te_call F_l_shown (hr.mono (by decide)) rfl g__law_shown K_l_shown B_l_shown rfl (fun ds es h1 h2 => match ds, es, h1, h2 with | [_], [], _, _ => rfl) (xa_cons (te_var 3) xa_nil)) (xa_cons (te_call F_l_shown (hr.mono (by decide)) rfl g__law_shown K_l_shown B_l_shown rfl (fun ds es h1 h2 => match ds, es, h1, h2 with | [_], [], _, _ => rfl) (xa_cons (te_var 4) xa_nil)) (xa_cons (te_call F_l_shown (hr.mono (by decide)) rfl g__law_shown K_l_shown B_l_shown rfl (fun ds es h1 h2 => match ds, es, h1, h2 with | [_], [], _, _ => rfl) (xa_cons (te_var 3) xa_nil)) xa_nil))))) xa_nil))) (te_callBs (b_reprQ (hr.mono (Nat.zero_le _)) sys_) rfl g_repr boot_repr (TA.da (xa_cons (te_lst (TA.da (xa_cons (te_var 1) (xa_cons (te_var 2) (xa_cons (te_var 1) xa_nil))))) xa_nil))) (nomark _)) (ts_cons (ts_ret (te_c de_bl)) ts_nil) ts_nil) (ts_cons (ts_par (i := 6) (j := 7) rfl sc_l_rules_right.nd rfl rfl (by decide) rfl rfl (by decide) (by decide) (fun _ _ _ => trivial) (fun _ _ _ => trivial) (TA.da (xa_cons (te_lst (TA.da (xa_cons (te_eqO q_Rule (nfs_Rule c) F_Rule_eq (hr.mono (by decide)) B_Rule_eq (rm_u64 hr) (te_var 3) (te_var 4) (nomark _)) (xa_cons (te_eqO q_Rule (nfs_Rule c) F_Rule_eq (hr.mono (by decide)) B_Rule_eq (rm_u64 hr) (te_var 4) (te_var 3) (nomark _)) (xa_cons (te_neO q_Rule (nfs_Rule c) F_Rule_eq (hr.mono (by decide)) B_Rule_eq (rm_u64 hr) (te_var 3) (te_var 4) (nomark _)) (xa_cons (te_eqO q_Rule (nfs_Rule c) F_Rule_eq (hr.mono (by decide)) B_Rule_eq (rm_u64 hr) (te_var 3) (te_var 5) (nomark _)) (xa_cons (te_neO q_Rule (nfs_Rule c) F_Rule_eq (hr.mono (by decide)) B_Rule_eq (rm_u64 hr) (te_var 3) (te_var 5) (nomark _)) xa_nil))))))) (xa_cons (te_cmpS (p_eq (rm_u64 hr)) (te_var 1) (te_var 2) (nomark _)) xa_nil))) rfl) (ts_cons (ts_if (tt_cmpS (p_ne (rm_u64 hr)) (te_var 6) (te_lst (TA.da (xa_cons (te_var 7) (xa_cons (te_var 7) (xa_cons (te_not (te_var 7)) (xa_cons (te_c de_bl) (xa_cons (te_c de_bl) xa_nil))))))) (nomark _)) (ts_cons (ts_ret (te_c de_bl)) ts_nil) ts_nil) (ts_cons (ts_set (i := 8) sc_l_rules_right.nd rfl (by first | exact .inl rfl | exact .inr rfl) (by decide) (fun _ _ _ => trivial) (te_call F_l_pick (hr.mono (by decide)) rfl g__law_pick K_l_pick B_l_pick rfl (fun ds es h1 h2 => match ds, es, h1, h2 with | [_, _], [], _, _ => rfl) (xa_cons (te_var 0) (xa_cons (te_lst (TA.da (xa_cons (te_var 1) (xa_cons (te_ix (lo (te_var 1)) (lo (te_c de_int)) (by intro _ _; rfl)) (xa_cons (te_c de_non) (xa_cons (te_c de_int) (xa_cons (te_callTy b_list rfl g_list boot_list (tal_cons (lo (te_var 1)) tal_nil)) (xa_cons (te_c de_disp0) (xa_cons (te_make (gT := (fun ds _ => ds)) (C := He.ga K "Day") mk_Day F_Day_init (hr.mono (by decide)) rfl g_Day B_Day_init (.inl rfl) rfl (fun _ ds es h1 h2 => match ds, es, h1, h2 with | [_, _], [], _, _ => ⟨rfl, rfl⟩) (xa_cons (te_ix (lo (te_var 1)) (lo (te_c de_int)) (by intro _ _; rfl)) (xa_cons (te_c de_int) xa_nil))) xa_nil))))))))) xa_nil)))) (ts_cons (ts_ret (te_cmpS (p_eq (rm_u64 hr)) (te_lst (TA.da (xa_cons (te_eqO q_Rule (nfs_Rule c) F_Rule_eq (hr.mono (by decide)) B_Rule_eq (rm_u64 hr) (te_var 3) (te_var 8) (nomark _)) (xa_cons (te_neO q_Rule (nfs_Rule c) F_Rule_eq (hr.mono (by decide)) B_Rule_eq (rm_u64 hr) (te_var 3) (te_var 8) (nomark _)) (xa_cons (te_eqR q_Day q_Rule nt_Rule (nfs_Day c) F_Day_eq F_Rule_eq (hr.mono (by decide)) (hr.mono (by decide)) B_Day_eq B_Rule_eq (te_var 8) (te_var 3) (nomark _)) (xa_cons (te_tru u_Rule rfl g_bool boot_bool (te_var 3)) xa_nil)))))) (te_lst (TA.da (xa_cons (te_c de_bl) (xa_cons (te_c de_bl) (xa_cons (te_c de_bl) (xa_cons (te_c de_bl) xa_nil)))))) (nomark _))) ts_nil))))))))), Bd.all FD_ rfl rfl fun _ _ _ _ _ _ us hl => match us, hl with | [_], _ => rfl⟩
theorem sc_l_days_right : FnScope ["_law_pool_here", "_law_tags_here", "_law_top_here", "_law_pair", "_law_mate", "_law_mine", "_law_twin", "_law_again", "_law_told", "_law_alike", "_law_odd"] ["_law_pool_here"] (defScope (topS 34)) := ⟨rfl, rfl, rfl, by decide +kernel, rfl, by decide +kernel, by decide +kernel⟩
theorem ok_l_days_right {P : Program} {w : World} {K : PySem.W.Frag} {mg : Str → Option Value} {base : Heap} (X : K.In base) (G : base.Ns mainGlobals mg) (c : SaysF fa fn K) : OkF P w K mg base 6 d_l_days_right ["_law_pool_here"] (spT 1 (f_l_days_right K)) := by
  obtain ⟨fd_, FD_⟩ := c.def_ 35 (d := d_l_days_right)
  obtain ⟨fd_l_top, FD_l_top, F_l_top, B_l_top⟩ := ok_l_top (P := P) (w := w) X G c
  have K_l_top := FD_l_top.kp
  obtain ⟨fd_l_tags, FD_l_tags, F_l_tags, B_l_tags⟩ := ok_l_tags (P := P) (w := w) X G c
  have K_l_tags := FD_l_tags.kp
  obtain ⟨fd_l_draw, FD_l_draw, F_l_draw, B_l_draw⟩ := ok_l_draw (P := P) (w := w) X G c
  have K_l_draw := FD_l_draw.kp
  obtain ⟨fd_l_made_day, FD_l_made_day, F_l_made_day, B_l_made_day⟩ := ok_l_made_day (P := P) (w := w) X G c
  have K_l_made_day := FD_l_made_day.kp
  obtain ⟨fd_Day_most, FD_Day_most, F_Day_most, B_Day_most⟩ := ok_Day_most (P := P) (w := w) X G c
  have K_Day_most := FD_Day_most.kp
  obtain ⟨fd_Day_name, FD_Day_name, F_Day_name, B_Day_name⟩ := ok_Day_name (P := P) (w := w) X G c
  have K_Day_name := FD_Day_name.kp
  obtain ⟨fd_Day_eq, FD_Day_eq, F_Day_eq, B_Day_eq⟩ := ok_Day_eq (P := P) (w := w) X G c
  have K_Day_eq := FD_Day_eq.kp
  obtain ⟨fd_l_pick, FD_l_pick, F_l_pick, B_l_pick⟩ := ok_l_pick (P := P) (w := w) X G c
  have K_l_pick := FD_l_pick.kp
  obtain ⟨fd_Rule_init, FD_Rule_init, F_Rule_init, B_Rule_init⟩ := ok_Rule_init (P := P) (w := w) X G c
  have K_Rule_init := FD_Rule_init.kp
  obtain ⟨fd_Rule_eq, FD_Rule_eq, F_Rule_eq, B_Rule_eq⟩ := ok_Rule_eq (P := P) (w := w) X G c
  have K_Rule_eq := FD_Rule_eq.kp
  have g__law_top := He.glo_ok X G (c.fact 52 (f := fun K => (He.Fa.glo "_law_top").ok K))
  have g__law_tags := He.glo_ok X G (c.fact 41 (f := fun K => (He.Fa.glo "_law_tags").ok K))
  have g__law_draw := He.glo_ok X G (c.fact 26 (f := fun K => (He.Fa.glo "_law_draw").ok K))
  have g__law_made_day := He.glo_ok X G (c.fact 53 (f := fun K => (He.Fa.glo "_law_made_day").ok K))
  have sys_ := c.fact 44 (f := bSys)
  have p_Day_most := bProp_ok (c.fact 54 (f := bProp "Day" "most"))
  have p_Day_name := bProp_ok (c.fact 55 (f := bProp "Day" "name"))
  have g_repr := He.free_ok X G (c.fact 46 (f := fun K => (He.Fa.free "repr").ok K))
  have g_list := He.free_ok X G (c.fact 48 (f := fun K => (He.Fa.free "list").ok K))
  have q_Day := bEqS_ok (c.fact 50 (f := bEqS "Day"))
  have g__law_pick := He.glo_ok X G (c.fact 27 (f := fun K => (He.Fa.glo "_law_pick").ok K))
  have g_Rule := He.glo_ok X G (c.fact 23 (f := fun K => (He.Fa.glo "Rule").ok K))
  have mk_Rule := He.mkr_ok (c.fact 33 (f := fun K => (He.Fa.mkr "Rule").ok K))
  have u_Day := bTru_ok (c.fact 56 (f := bTru "Day"))
  have g_bool := He.free_ok X G (c.fact 0 (f := fun K => (He.Fa.free "bool").ok K))
  have q_Rule := bEqS_ok (c.fact 47 (f := bEqS "Rule"))
  have nt_Day := bNoK_ok (c.fact 57 (f := bNoK "Day"))
  exact ⟨fd_, FD_, t_def (o := []) (fs := b_l_days_right K) FD_ sc_l_days_right rfl (by decide) (fun cdv A outer s H Z M E E1 hr => (ts_cons (ts_par (i := 1) (j := 2) rfl sc_l_days_right.nd rfl rfl (by decide) rfl rfl (by decide) (by decide) (fun _ _ _ => trivial) (fun _ _ _ => trivial) (TA.da (xa_cons (te_call F_l_tags (hr.mono (by decide)) rfl g__law_tags K_l_tags B_l_tags rfl (fun ds es h1 h2 => match ds, es, h1, h2 with | [_, _], [], _, _ => rfl) (xa_cons (te_var 0) (xa_cons (te_c de_int) xa_nil))) (xa_cons (te_call F_l_top (hr.mono (by decide)) rfl g__law_top K_l_top B_l_top rfl (fun ds es h1 h2 => match ds, es, h1, h2 with | [_], [], _, _ => rfl) (xa_cons (te_var 0) xa_nil)) xa_nil))) rfl) (ts_cons (ts_set (i := 3) sc_l_days_right.nd rfl (by first | exact .inl rfl | exact .inr rfl) (by decide) (fun _ _ _ => trivial) (te_tup (TA.da (xa_cons (te_ix (lo (te_var 1)) (lo (te_c de_int)) (by intro _ _; rfl)) (xa_cons (te_var 2) xa_nil))))) (ts_cons (ts_set (i := 4) sc_l_days_right.nd rfl (by first | exact .inl rfl | exact .inr rfl) (by decide) (fun _ _ _ => trivial) (te_tup (TA.da (xa_cons (te_ix (lo (te_var 1)) (lo (te_call F_l_draw (hr.mono (by decide)) rfl g__law_draw K_l_draw B_l_draw rfl (fun ds es h1 h2 => match ds, es, h1, h2 with | [_, _], [], _, _ => rfl) (xa_cons (te_var 0) (xa_cons (te_c de_int) xa_nil)))) (by intro _ _; rfl)) (xa_cons (te_ix (lo (te_lst (TA.da (xa_cons (te_var 2) (xa_cons (te_call F_l_top (hr.mono (by decide)) rfl g__law_top K_l_top B_l_top rfl (fun ds es h1 h2 => match ds, es, h1, h2 with | [_], [], _, _ => rfl) (xa_cons (te_var 0) xa_nil)) (xa_cons (te_c de_int) (xa_cons (te_c de_non) xa_nil))))))) (lo (te_call F_l_draw (hr.mono (by decide)) rfl g__law_draw K_l_draw B_l_draw rfl (fun ds es h1 h2 => match ds, es, h1, h2 with | [_, _], [], _, _ => rfl) (xa_cons (te_var 0) (xa_cons (te_c de_int) xa_nil)))) (by intro _ _; rfl)) xa_nil))))) (ts_cons (ts_par3 (i := 5) (j := 6) (l := 7) rfl sc_l_days_right.nd rfl rfl rfl (by decide) (by decide) (by decide) rfl rfl rfl (by decide) (by decide) (by decide) (fun _ _ _ => trivial) (fun _ _ _ => trivial) (fun _ _ _ => trivial) (TA.da (xa_cons (te_call F_l_made_day (hr.mono (by decide)) rfl g__law_made_day K_l_made_day B_l_made_day rfl (fun ds es h1 h2 => match ds, es, h1, h2 with | [_, _], [], _, _ => rfl) (xa_cons (te_var 0) (xa_cons (te_var 3) xa_nil))) (xa_cons (te_call F_l_made_day (hr.mono (by decide)) rfl g__law_made_day K_l_made_day B_l_made_day rfl (fun ds es h1 h2 => match ds, es, h1, h2 with | [_, _], [], _, _ => rfl) (xa_cons (te_var 0) (xa_cons (te_var 4) xa_nil))) (xa_cons (te_call F_l_made_day (hr.mono (by decide)) rfl g__law_made_day K_l_made_day B_l_made_day rfl (fun ds es h1 h2 => match ds, es, h1, h2 with | [_, _], [], _, _ => rfl) (xa_cons (te_var 0) (xa_cons (te_var 3) xa_nil))) xa_nil)))) rfl) (ts_cons (ts_if (tt_cmpS p_neT (te_callBs (b_reprQ (hr.mono (Nat.zero_le _)) sys_) rfl g_repr boot_repr (TA.da (xa_cons (te_lst (TA.da (xa_cons (te_prop (te_var 5) p_Day_name F_Day_name (hr.mono (by decide)) B_Day_name) (xa_cons (te_prop (te_var 5) p_Day_most F_Day_most (hr.mono (by decide)) B_Day_most) (xa_cons (te_prop (te_var 6) p_Day_name F_Day_name (hr.mono (by decide)) B_Day_name) (xa_cons (te_prop (te_var 6) p_Day_most F_Day_most (hr.mono (by decide)) B_Day_most) (xa_cons (te_prop (te_var 5) p_Day_name F_Day_name (hr.mono (by decide)) B_Day_name) (xa_cons (te_prop (te_var 5) p_Day_most F_Day_most (hr.mono (by decide)) B_Day_most) xa_nil)))))))) xa_nil))) (te_callBs (b_reprQ (hr.mono (Nat.zero_le _)) sys_) rfl g_repr boot_repr (TA.da (xa_cons (te_callTy b_list rfl g_list boot_list (tal_cons (lo (te_op p_add (lo (te_op p_add (lo (te_var 3)) (lo (te_var 4)))) (lo (te_var 3)))) tal_nil)) xa_nil))) (nomark _)) (ts_cons (ts_ret (te_c de_bl)) ts_nil) ts_nil) (ts_cons (ts_par (i := 8) (j := 9) rfl sc_l_days_right.nd rfl rfl (by decide) rfl rfl (by decide) (by decide) (fun _ _ _ => trivial) (fun _ _ _ => trivial) (TA.da (xa_cons (te_lst (TA.da (xa_cons (te_eqO q_Day (nfs_Day c) F_Day_eq (hr.mono (by decide)) B_Day_eq (rm_u64 hr) (te_var 5) (te_var 6) (nomark _)) (xa_cons (te_eqO q_Day (nfs_Day c) F_Day_eq (hr.mono (by decide)) B_Day_eq (rm_u64 hr) (te_var 6) (te_var 5) (nomark _)) (xa_cons (te_neO q_Day (nfs_Day c) F_Day_eq (hr.mono (by decide)) B_Day_eq (rm_u64 hr) (te_var 5) (te_var 6) (nomark _)) (xa_cons (te_eqO q_Day (nfs_Day c) F_Day_eq (hr.mono (by decide)) B_Day_eq (rm_u64 hr) (te_var 5) (te_var 7) (nomark _)) (xa_cons (te_neO q_Day (nfs_Day c) F_Day_eq (hr.mono (by decide)) B_Day_eq (rm_u64 hr) (te_var 5) (te_var 7) (nomark _)) xa_nil))))))) (xa_cons (te_cmpS (p_eq (rm_u64 hr)) (te_var 3) (te_var 4) (nomark _)) xa_nil))) rfl) (ts_cons (ts_if (tt_cmpS (p_ne (rm_u64 hr)) (te_var 8) (te_lst (TA.da (xa_cons (te_var 9) (xa_cons (te_var 9) (xa_cons (te_not (te_var 9)) (xa_cons (te_c de_bl) (xa_cons (te_c de_bl) xa_nil))))))) (nomark _)) (ts_cons (ts_ret (te_c de_bl)) ts_nil) ts_nil) (ts_cons (ts_set (i := 10) sc_l_days_right.nd rfl (by first | exact .inl rfl | exact .inr rfl) (by decide) (fun _ _ _ => trivial) (te_call F_l_pick (hr.mono (by decide)) rfl g__law_pick K_l_pick B_l_pick rfl (fun ds es h1 h2 => match ds, es, h1, h2 with | [_, _], [], _, _ => rfl) (xa_cons (te_var 0) (xa_cons (te_lst (TA.da (xa_cons (te_var 3) (xa_cons (te_ix (lo (te_var 1)) (lo (te_c de_int)) (by intro _ _; rfl)) (xa_cons (te_c de_non) (xa_cons (te_var 2) (xa_cons (te_lst (TA.da xa_nil)) (xa_cons (te_c de_disp0) (xa_cons (te_make (gT := (fun ds _ => ds)) (C := He.ga K "Rule") mk_Rule F_Rule_init (hr.mono (by decide)) rfl g_Rule B_Rule_init (.inl rfl) rfl (fun _ ds es h1 h2 => match ds, es, h1, h2 with | [_, _, _, _, _], [], _, _ => ⟨rfl, rfl⟩) (xa_cons (te_ix (lo (te_var 1)) (lo (te_c de_int)) (by intro _ _; rfl)) (xa_cons (te_ix (lo (te_var 1)) (lo (te_c de_int)) (by intro _ _; rfl)) (xa_cons (te_c de_str) (xa_cons (te_c de_int) (xa_cons (te_c de_int) xa_nil)))))) xa_nil))))))))) xa_nil)))) (ts_cons (ts_ret (te_cmpS (p_eq (rm_u64 hr)) (te_lst (TA.da (xa_cons (te_eqO q_Day (nfs_Day c) F_Day_eq (hr.mono (by decide)) B_Day_eq (rm_u64 hr) (te_var 5) (te_var 10) (nomark _)) (xa_cons (te_neO q_Day (nfs_Day c) F_Day_eq (hr.mono (by decide)) B_Day_eq (rm_u64 hr) (te_var 5) (te_var 10) (nomark _)) (xa_cons (te_eqR q_Rule q_Day nt_Day (nfs_Rule c) F_Rule_eq F_Day_eq (hr.mono (by decide)) (hr.mono (by decide)) B_Rule_eq B_Day_eq (te_var 10) (te_var 5) (nomark _)) (xa_cons (te_tru u_Day rfl g_bool boot_bool (te_var 5)) xa_nil)))))) (te_lst (TA.da (xa_cons (te_c de_bl) (xa_cons (te_c de_bl) (xa_cons (te_c de_bl) (xa_cons (te_c de_bl) xa_nil)))))) (nomark _))) ts_nil)))))))))), Bd.all FD_ rfl rfl fun _ _ _ _ _ _ us hl => match us, hl with | [_], _ => rfl⟩
theorem sc_l_right : FnScope ["_law_pool_here", "_law_turn"] ["_law_pool_here"] (defScope (topS 35)) := ⟨rfl, rfl, rfl, by decide +kernel, rfl, by decide +kernel, by decide +kernel⟩
theorem ok_l_right {P : Program} {w : World} {K : PySem.W.Frag} {mg : Str → Option Value} {base : Heap} (X : K.In base) (G : base.Ns mainGlobals mg) (c : SaysF fa fn K) : OkF P w K mg base 7 d_l_right ["_law_pool_here"] (spT 1 (f_l_right K)) := by
  obtain ⟨fd_, FD_⟩ := c.def_ 36 (d := d_l_right)
  obtain ⟨fd_l_rules_right, FD_l_rules_right, F_l_rules_right, B_l_rules_right⟩ := ok_l_rules_right (P := P) (w := w) X G c
  have K_l_rules_right := FD_l_rules_right.kp
  obtain ⟨fd_l_days_right, FD_l_days_right, F_l_days_right, B_l_days_right⟩ := ok_l_days_right (P := P) (w := w) X G c
  have K_l_days_right := FD_l_days_right.kp
  have g_range := He.free_ok X G (c.fact 28 (f := fun K => (He.Fa.free "range").ok K))
  have g__law_rules_right := He.glo_ok X G (c.fact 58 (f := fun K => (He.Fa.glo "_law_rules_right").ok K))
  have g__law_days_right := He.glo_ok X G (c.fact 59 (f := fun K => (He.Fa.glo "_law_days_right").ok K))
  exact ⟨fd_, FD_, t_def (o := []) (fs := b_l_right K) FD_ sc_l_right rfl (by decide) (fun cdv A outer s H Z M E E1 hr => (ts_cons (ts_for pass_body rfl (ti_range1 rfl g_range (TA.da (xa_cons (te_c de_int) xa_nil))) (tg_name (i := 1) sc_l_right.nd rfl (by first | exact .inl rfl | exact .inr rfl) (by decide) (fun _ _ _ => trivial)) (ts_cons (ts_if (DW.dt (tw_or (tt_not (tt_val (te_call F_l_days_right (hr.mono (by decide)) rfl g__law_days_right K_l_days_right B_l_days_right rfl (fun ds es h1 h2 => match ds, es, h1, h2 with | [_], [], _, _ => rfl) (xa_cons (te_var 0) xa_nil)))) (tw_or1 (tt_not (tt_val (te_call F_l_rules_right (hr.mono (by decide)) rfl g__law_rules_right K_l_rules_right B_l_rules_right rfl (fun ds es h1 h2 => match ds, es, h1, h2 with | [_], [], _, _ => rfl) (xa_cons (te_var 0) xa_nil))))))) (ts_cons (ts_ret (te_c de_bl)) ts_nil) ts_nil) ts_nil)) (ts_cons (ts_ret (te_c de_bl)) ts_nil))), Bd.all FD_ rfl rfl fun _ _ _ _ _ _ us hl => match us, hl with | [_], _ => rfl⟩
section
variable {K : PySem.W.Frag} {p : Addr}
theorem draw_ {n : Int} : f_l_draw K [.ref p, .int n] = .dr p n fun m => .v (.int m) := rfl
theorem is_integer_ {a : D} (h : Plain a) : f_is_integer K [a] = .v (.bl (isIntD a)) := by
  cases a <;> first | exact h.elim | kernel_rfl
theorem is_count_ {a : D} (h : Plain a) : f_is_count K [a] = .v (.bl (isCountD a)) := by
  cases a <;> first | exact h.elim | kernel_rfl
theorem Day_name_ {x y : D} : f_Day_name K [.ins (He.ga K "Day") [.tup [x, y]]] = .v x := by
  unfold f_Day_name b_Day_name
  simp (implicitDefEqProofs := false) only [runT, startD, List.map, List.length, Nat.reduceAdd, Nat.reduceSub, List.replicate, List.cons_append, List.nil_append, fSeq_a, fRet_a, f2_a, f1_a, fV_a, lk_z, T.bind_v, pSlot_same, List.getElem?_cons_zero, T.ofO_s, fC_a, pIx_t, atI_0, T.sx_v, thenC, fNext_a, T.nx_v]
theorem Day_most_ {x y : D} : f_Day_most K [.ins (He.ga K "Day") [.tup [x, y]]] = .v y := by
  unfold f_Day_most b_Day_most
  simp (implicitDefEqProofs := false) only [runT, startD, List.map, List.length, Nat.reduceAdd, Nat.reduceSub, List.replicate, List.cons_append, List.nil_append, fSeq_a, fRet_a, f2_a, f1_a, fV_a, lk_z, T.bind_v, pSlot_same, List.getElem?_cons_zero, T.ofO_s, fC_a, pIx_t, atI_1, T.sx_v, thenC, fNext_a, T.nx_v]
theorem Rule_first_ {a b c d e : D} : f_Rule_first K [.ins (He.ga K "Rule") [.tup [a, b, c, d, e]]] = .v a := by
  unfold f_Rule_first b_Rule_first
  simp (implicitDefEqProofs := false) only [runT, startD, List.map, List.length, Nat.reduceAdd, Nat.reduceSub, List.replicate, List.cons_append, List.nil_append, fSeq_a, fRet_a, f2_a, f1_a, fV_a, lk_z, T.bind_v, pSlot_same, List.getElem?_cons_zero, T.ofO_s, fC_a, pIx_t, atI_0, T.sx_v, thenC, fNext_a, T.nx_v]
theorem Rule_last_ {a b c d e : D} : f_Rule_last K [.ins (He.ga K "Rule") [.tup [a, b, c, d, e]]] = .v b := by
  unfold f_Rule_last b_Rule_last
  simp (implicitDefEqProofs := false) only [runT, startD, List.map, List.length, Nat.reduceAdd, Nat.reduceSub, List.replicate, List.cons_append, List.nil_append, fSeq_a, fRet_a, f2_a, f1_a, fV_a, lk_z, T.bind_v, pSlot_same, List.getElem?_cons_zero, T.ofO_s, fC_a, pIx_t, atI_1, T.sx_v, thenC, fNext_a, T.nx_v]
theorem Rule_kind_ {a b c d e : D} : f_Rule_kind K [.ins (He.ga K "Rule") [.tup [a, b, c, d, e]]] = .v c := by
  unfold f_Rule_kind b_Rule_kind
  simp (implicitDefEqProofs := false) only [runT, startD, List.map, List.length, Nat.reduceAdd, Nat.reduceSub, List.replicate, List.cons_append, List.nil_append, fSeq_a, fRet_a, f2_a, f1_a, fV_a, lk_z, T.bind_v, pSlot_same, List.getElem?_cons_zero, T.ofO_s, fC_a, pIx_t, atI_2, T.sx_v, thenC, fNext_a, T.nx_v]
theorem Rule_number_ {a b c d e : D} : f_Rule_number K [.ins (He.ga K "Rule") [.tup [a, b, c, d, e]]] = .v d := by
  unfold f_Rule_number b_Rule_number
  simp (implicitDefEqProofs := false) only [runT, startD, List.map, List.length, Nat.reduceAdd, Nat.reduceSub, List.replicate, List.cons_append, List.nil_append, fSeq_a, fRet_a, f2_a, f1_a, fV_a, lk_z, T.bind_v, pSlot_same, List.getElem?_cons_zero, T.ofO_s, fC_a, pIx_t, atI_3, T.sx_v, thenC, fNext_a, T.nx_v]
theorem Rule_rate_ {a b c d e : D} : f_Rule_rate K [.ins (He.ga K "Rule") [.tup [a, b, c, d, e]]] = .v e := by
  unfold f_Rule_rate b_Rule_rate
  simp (implicitDefEqProofs := false) only [runT, startD, List.map, List.length, Nat.reduceAdd, Nat.reduceSub, List.replicate, List.cons_append, List.nil_append, fSeq_a, fRet_a, f2_a, f1_a, fV_a, lk_z, T.bind_v, pSlot_same, List.getElem?_cons_zero, T.ofO_s, fC_a, pIx_t, atI_4, T.sx_v, thenC, fNext_a, T.nx_v]
def TextOk (a : D) : Prop := ∀ z, a = .str z → z.length ≤ 10000 ∧ PyData.strOk z = true
theorem signs_all {z : Str} {g : D → T (Option D)} (h : ∀ c ∈ z.cps.toList, g (.str ⟨#[c]⟩) = .v (some (.bl (decide (c ∈ lettersL) || decide (c ∈ digitsL))))) : T.fm g (signsOf z) = .v ((z.cps.toList.map fun c => decide (c ∈ lettersL) || decide (c ∈ digitsL)).map D.bl) := by
  unfold signsOf
  generalize z.cps.toList = m at h
  induction m with
  | nil => rfl
  | cons c m ih =>
    rw [List.map_cons, fm_cons, h c (List.mem_cons_self ..), T.bind_v, ih fun x hx => h x (List.mem_cons_of_mem _ hx)]
    rfl
theorem is_name_s {z : Str} (hz : z.length ≤ 10000) : f_is_name K [.str z] = .v (.bl (nameL z.cps.toList)) := by
  have hs : szOk z.length = true := decide_eq_true (Nat.le_trans hz (by decide))
  have e0 : pIsi K (CS K) (.str z) (.ty "str") = some (.bl true) := by kernel_rfl
  have el : z.length = z.cps.toList.length := by show z.cps.size = _; simp
  unfold f_is_name b_is_name nameL
  by_cases h1 : (1 : Int) ≤ (z.length : Int)
  · by_cases h8 : (z.length : Int) ≤ 8
    · obtain ⟨c0, l, hl⟩ : ∃ c0 l, z.cps.toList = c0 :: l := by
        cases e : z.cps.toList with
        | nil => rw [e] at el; simp at el; omega
        | cons c l => exact ⟨c, l, rfl⟩
      have e1 : pIx (.str z) (.int 0) = some (.str ⟨#[c0]⟩) := pIx_s hs (by rw [hl]; exact atI_0)
      have hlen : decide (1 ≤ z.cps.toList.length ∧ z.cps.toList.length ≤ 8) = true := decide_eq_true (by omega)
      have e2 : decide (c0 ∈ (Str.ofString "abcdefghijklmnopqrstuvwxyz").cps.toList) = decide (c0 ∈ lettersL) := rfl
      simp (implicitDefEqProofs := false) only [runT, pLe, startD, List.map, List.length, Nat.reduceAdd, Nat.reduceSub, List.replicate, List.cons_append, List.nil_append, fSeq_a, fIfS_a, fOr_a, fNot_a, fB_a, fCB_a, fCo_a, fV_a, lk_z, fC_a, fNil_a, T.bind_v, p2, e0, T.ofO_s, tB, Bool.not_true, fCh_a, p1, pLen_s hs, pCmp, decide_eq_true h8, decide_eq_true h1, if_true, f2_a, e1, pNin_sg, e2, Bool.false_eq_true, if_false, fRet_a, T.sx_v, thenC, fNext_a, fLc_a, fIv_a, asAny, hlen, Bool.true_and]
      by_cases hc : c0 ∈ lettersL
      · have hsz : szOk (signsOf z).length = true := szOk_le (by unfold signsOf; rw [List.length_map]; omega)
        simp (implicitDefEqProofs := false) only [decide_eq_true hc, Bool.not_true, Bool.false_eq_true, if_false, T.bind_v, lk_z, hsz, T.gd_t]
        rw [signs_all]
        · simp (implicitDefEqProofs := false) only [T.bind_v, pAll_b, List.all_map, T.ofO_s, T.sx_v, T.nx_v]
          rw [hl]
          simp only [decide_eq_true hc]
          rfl
        · intro c hc'
          by_cases h2 : c ∈ lettersL
          · have e3 : decide (c ∈ (Str.ofString "abcdefghijklmnopqrstuvwxyz").cps.toList) = true := decide_eq_true h2
            simp (implicitDefEqProofs := false) only [stepC, asgP, wipeR, List.set_cons_succ, List.set_cons_zero, T.ofO_s, fYes_a, T.nx_v, fOrV_a, f2_a, fV_a, fC_a, T.bind_v, tB, if_true, lk_s, lk_z, pIn_sg, e3, decide_eq_true h2, Bool.true_or]
          · have e3 : decide (c ∈ (Str.ofString "abcdefghijklmnopqrstuvwxyz").cps.toList) = false := decide_eq_false h2
            simp (implicitDefEqProofs := false) only [stepC, asgP, wipeR, List.set_cons_succ, List.set_cons_zero, T.ofO_s, fYes_a, T.nx_v, fOrV_a, f2_a, fV_a, fC_a, T.bind_v, tB, if_true, lk_s, lk_z, pIn_sg, e3, Bool.false_eq_true, if_false, decide_eq_false h2, Bool.false_or]
            rfl
      · simp (implicitDefEqProofs := false) only [decide_eq_false hc, Bool.not_false, if_true, T.bind_v, T.nx_v]
        rw [hl]
        simp only [decide_eq_false hc, Bool.false_and]
    · have hlen : decide (1 ≤ z.cps.toList.length ∧ z.cps.toList.length ≤ 8) = false := decide_eq_false (by omega)
      simp (implicitDefEqProofs := false) only [runT, pLe, startD, List.map, List.length, Nat.reduceAdd, Nat.reduceSub, List.replicate, List.cons_append, List.nil_append, fSeq_a, fIfS_a, fOr_a, fNot_a, fB_a, fCB_a, fCo_a, fV_a, lk_z, fC_a, fNil_a, T.bind_v, p2, e0, T.ofO_s, tB, Bool.not_true, fCh_a, p1, pLen_s hs, pCmp, decide_eq_false h8, decide_eq_true h1, if_true, Bool.not_false, f2_a, Bool.false_eq_true, if_false, fRet_a, T.sx_v, thenC, fNext_a, fLc_a, fIv_a, asAny, T.nx_v, hlen, Bool.false_and]
  · have hlen : decide (1 ≤ z.cps.toList.length ∧ z.cps.toList.length ≤ 8) = false := decide_eq_false (by omega)
    simp (implicitDefEqProofs := false) only [runT, pLe, startD, List.map, List.length, Nat.reduceAdd, Nat.reduceSub, List.replicate, List.cons_append, List.nil_append, fSeq_a, fIfS_a, fOr_a, fNot_a, fB_a, fCB_a, fCo_a, fV_a, lk_z, fC_a, fNil_a, T.bind_v, p2, e0, T.ofO_s, tB, Bool.not_true, fCh_a, p1, pLen_s hs, pCmp, decide_eq_false h1, Bool.false_eq_true, if_false, Bool.not_false, f2_a, if_true, fRet_a, T.sx_v, thenC, fNext_a, fLc_a, fIv_a, asAny, T.nx_v, hlen, Bool.false_and]
theorem is_name_ {a : D} (h : Plain a) (hz : TextOk a) : f_is_name K [a] = .v (.bl (isNameD a)) := by
  cases a with
  | str z => exact is_name_s (hz z rfl).1
  | _ => first | exact h.elim | kernel_rfl
def dayR (K : PySem.W.Frag) (b c : D) : T D := if isNameD b = true then (if (isNon c || isCountD c) = true then .v (.ins (He.ga K "Day") [.tup [b, c]]) else .x (.ref (He.ga K "InvalidMost")) [("given", c)]) else .x (.ref (He.ga K "InvalidName")) [("given", b)]
theorem Day_init_ {b c : D} (hb : Plain b) (hz : TextOk b) (hc : Plain c) : f_Day_init K [b, c] = dayR K b c := by
  unfold f_Day_init b_Day_init dayR
  cases h1 : isNameD b
  · simp (implicitDefEqProofs := false) only [runI, startD, List.map, List.length, Nat.reduceAdd, Nat.reduceSub, List.replicate, List.cons_append, List.nil_append, fSeq_a, fIfS_a, fNot_a, fB_a, fCall_a, fCo_a, fV_a, lk_s, lk_z, fNil_a, T.bind_v, is_name_ hb hz, h1, tB, Bool.not_false, fRaise_a, T.sx_v, thenC, fNext_a, if_true, fAnd_a, f2_a, fC_a, pNotN_n, T.ofO_s, fSelfS_a, fTu_a, T.nx_v, Bool.false_eq_true, if_false]
  · cases h2 : isNon c
    · cases h3 : isCountD c <;> simp (implicitDefEqProofs := false) only [runI, startD, List.map, List.length, Nat.reduceAdd, Nat.reduceSub, List.replicate, List.cons_append, List.nil_append, fSeq_a, fIfS_a, fNot_a, fB_a, fCall_a, fCo_a, fV_a, lk_s, lk_z, fNil_a, T.bind_v, is_name_ hb hz, h1, tB, Bool.not_true, fRaise_a, T.sx_v, thenC, fNext_a, Bool.false_eq_true, if_false, fAnd_a, f2_a, fC_a, pNotN_n, T.ofO_s, fSelfS_a, fTu_a, putI, h2, Bool.not_false, is_count_ hc, h3, if_true, T.nx_v, Bool.or_self, Nat.reduceLeDiff, szOk_le, T.gd_t, lkI_ins, List.set_cons_zero, isSet_tup, Bool.or_true]
    · simp (implicitDefEqProofs := false) only [runI, startD, List.map, List.length, Nat.reduceAdd, Nat.reduceSub, List.replicate, List.cons_append, List.nil_append, fSeq_a, fIfS_a, fNot_a, fB_a, fCall_a, fCo_a, fV_a, lk_s, lk_z, fNil_a, T.bind_v, is_name_ hb hz, h1, tB, Bool.not_true, fRaise_a, T.sx_v, thenC, fNext_a, Bool.false_eq_true, if_false, fAnd_a, f2_a, fC_a, pNotN_n, T.ofO_s, fSelfS_a, fTu_a, putI, h2, is_count_ hc, Nat.reduceLeDiff, szOk_le, T.gd_t, lkI_ins, List.set_cons_zero, isSet_tup, T.nx_v, Bool.true_or, if_true]
def ruleR (K : PySem.W.Frag) (a b c d e : D) : T D :=
  if isNameD a = true then (if isNameD b = true then (if kindD c = true then (if isCountD d = true then (if isIntD e = true then .v (.ins (He.ga K "Rule") [.tup [a, b, c, d, e]]) else .x (.ref (He.ga K "InvalidRate")) [("given", e)])
    else .x (.ref (He.ga K "InvalidNumber")) [("given", d)]) else .x (.ref (He.ga K "InvalidKind")) [("given", c)]) else .x (.ref (He.ga K "InvalidName")) [("given", b)]) else .x (.ref (He.ga K "InvalidName")) [("given", a)]
theorem kind_not {z : Str} : pIn true (.str z) (.tup [.str "beyond", .str "upto", .str "reach"]) = some (.bl (!kindD (.str z))) := rfl
theorem isi_str_ {a : D} (h : Plain a) : pIsi K (CS K) a (.ty "str") = some (.bl (isStrD a)) := by
  cases a <;> first | exact h.elim | kernel_rfl
theorem Rule_init_ {a b c d e : D} (ha : Plain a) (haz : TextOk a) (hb : Plain b) (hbz : TextOk b) (hc : Plain c) (hd : Plain d) (he : Plain e) : f_Rule_init K [a, b, c, d, e] = ruleR K a b c d e := by
  unfold f_Rule_init b_Rule_init ruleR
  cases h1 : isNameD a
  · simp (implicitDefEqProofs := false) only [runI, startD, List.map, List.length, Nat.reduceAdd, Nat.reduceSub, List.replicate, List.cons_append, List.nil_append, fSeq_a, fFor_a, fI_a, fTu_a, fCo_a, fV_a, lk_s, lk_z, fNil_a, T.bind_v, Nat.reduceLeDiff, szOk_le, T.gd_t, asTup, T.sx_v, forT_cons, gN, List.set_cons_succ, List.set_cons_zero, T.ofO_s, fIfS_a, fNot_a, fB_a, fCall_a, fRaise_a, thenC, fNext_a, is_name_ ha haz, h1, tB, Bool.not_false, if_true, nextT, fOr_a, fCB_a, fC_a, p2, f2_a, fSelfS_a, T.nx_v, Bool.false_eq_true, if_false]
  cases h2 : isNameD b
  · simp (implicitDefEqProofs := false) only [runI, startD, List.map, List.length, Nat.reduceAdd, Nat.reduceSub, List.replicate, List.cons_append, List.nil_append, fSeq_a, fFor_a, fI_a, fTu_a, fCo_a, fV_a, lk_s, lk_z, fNil_a, T.bind_v, Nat.reduceLeDiff, szOk_le, T.gd_t, asTup, T.sx_v, forT_cons, gN, List.set_cons_succ, List.set_cons_zero, T.ofO_s, fIfS_a, fNot_a, fB_a, fCall_a, fRaise_a, thenC, fNext_a, is_name_ ha haz, h1, tB, Bool.not_true, Bool.false_eq_true, if_false, nextT, is_name_ hb hbz, h2, Bool.not_false, if_true, fOr_a, fCB_a, fC_a, p2, f2_a, fSelfS_a, T.nx_v]
  cases h3 : kindD c
  · cases c with
    | str z => simp (implicitDefEqProofs := false) only [runI, startD, List.map, List.length, Nat.reduceAdd, Nat.reduceSub, List.replicate, List.cons_append, List.nil_append, fSeq_a, fFor_a, fI_a, fTu_a, fCo_a, fV_a, lk_s, lk_z, fNil_a, T.bind_v, Nat.reduceLeDiff, szOk_le, T.gd_t, asTup, T.sx_v, forT_cons, gN, List.set_cons_succ, List.set_cons_zero, T.ofO_s, fIfS_a, fNot_a, fB_a, fCall_a, fRaise_a, thenC, fNext_a, is_name_ ha haz, h1, tB, Bool.not_true, Bool.false_eq_true, if_false, nextT, is_name_ hb hbz, h2, forT_nil, fOr_a, fCB_a, fC_a, p2, f2_a, fSelfS_a, isi_str_ hc, isStrD, kind_not, h3, Bool.not_false, if_true, T.nx_v]
    | _ => first | exact hc.elim | simp (implicitDefEqProofs := false) only [runI, startD, List.map, List.length, Nat.reduceAdd, Nat.reduceSub, List.replicate, List.cons_append, List.nil_append, fSeq_a, fFor_a, fI_a, fTu_a, fCo_a, fV_a, lk_s, lk_z, fNil_a, T.bind_v, Nat.reduceLeDiff, szOk_le, T.gd_t, asTup, T.sx_v, forT_cons, gN, List.set_cons_succ, List.set_cons_zero, T.ofO_s, fIfS_a, fNot_a, fB_a, fCall_a, fRaise_a, thenC, fNext_a, is_name_ ha haz, h1, tB, Bool.not_true, Bool.false_eq_true, if_false, nextT, is_name_ hb hbz, h2, forT_nil, fOr_a, fCB_a, fC_a, p2, f2_a, fSelfS_a, isi_str_ hc, isStrD, Bool.not_false, if_true, T.nx_v]
  cases c with
  | str z =>
    cases h4 : isCountD d
    · simp (implicitDefEqProofs := false) only [runI, startD, List.map, List.length, Nat.reduceAdd, Nat.reduceSub, List.replicate, List.cons_append, List.nil_append, fSeq_a, fFor_a, fI_a, fTu_a, fCo_a, fV_a, lk_s, lk_z, fNil_a, T.bind_v, Nat.reduceLeDiff, szOk_le, T.gd_t, asTup, T.sx_v, forT_cons, gN, List.set_cons_succ, List.set_cons_zero, T.ofO_s, fIfS_a, fNot_a, fB_a, fCall_a, fRaise_a, thenC, fNext_a, is_name_ ha haz, h1, tB, Bool.not_true, Bool.false_eq_true, if_false, nextT, is_name_ hb hbz, h2, forT_nil, fOr_a, fCB_a, fC_a, p2, f2_a, fSelfS_a, isi_str_ hc, isStrD, kind_not, h3, is_count_ hd, h4, Bool.not_false, if_true, T.nx_v]
    · cases h5 : isIntD e
      · simp (implicitDefEqProofs := false) only [runI, startD, List.map, List.length, Nat.reduceAdd, Nat.reduceSub, List.replicate, List.cons_append, List.nil_append, fSeq_a, fFor_a, fI_a, fTu_a, fCo_a, fV_a, lk_s, lk_z, fNil_a, T.bind_v, Nat.reduceLeDiff, szOk_le, T.gd_t, asTup, T.sx_v, forT_cons, gN, List.set_cons_succ, List.set_cons_zero, T.ofO_s, fIfS_a, fNot_a, fB_a, fCall_a, fRaise_a, thenC, fNext_a, is_name_ ha haz, h1, tB, Bool.not_true, Bool.false_eq_true, if_false, nextT, is_name_ hb hbz, h2, forT_nil, fOr_a, fCB_a, fC_a, p2, f2_a, fSelfS_a, isi_str_ hc, isStrD, kind_not, h3, is_count_ hd, h4, is_integer_ he, h5, Bool.not_false, if_true, T.nx_v]
      · simp (implicitDefEqProofs := false) only [runI, startD, List.map, List.length, Nat.reduceAdd, Nat.reduceSub, List.replicate, List.cons_append, List.nil_append, fSeq_a, fFor_a, fI_a, fTu_a, fCo_a, fV_a, lk_s, lk_z, fNil_a, T.bind_v, Nat.reduceLeDiff, szOk_le, T.gd_t, asTup, T.sx_v, forT_cons, gN, List.set_cons_succ, List.set_cons_zero, T.ofO_s, fIfS_a, fNot_a, fB_a, fCall_a, fRaise_a, thenC, fNext_a, is_name_ ha haz, h1, tB, Bool.not_true, Bool.false_eq_true, if_false, nextT, is_name_ hb hbz, h2, forT_nil, fOr_a, fCB_a, fC_a, p2, f2_a, fSelfS_a, putI, isi_str_ hc, isStrD, kind_not, h3, is_count_ hd, h4, is_integer_ he, h5, lkI_ins, isSet_tup, T.nx_v, if_true]
  | _ => first | exact hc.elim | cases h3
end

section
variable {K : PySem.W.Frag} {p : Addr}
theorem pick_ {ds : List D} : f_l_pick K [.ref p, .lst ds] = .dr p ds.length fun m => .ofO (atI ds m) := by
  unfold f_l_pick b_l_pick
  simp (implicitDefEqProofs := false) only [runT, startD, List.map, List.length, Nat.reduceAdd, Nat.reduceSub, List.replicate, List.cons_append, List.nil_append, fSeq_a, fRet_a, f2_a, fV_a, lk_s, lk_z, fCall_a, fCo_a, fCB_a, fNil_a, T.bind_v, p1, pLen_l, T.ofO_s, draw_, T.bind_dr, pIx_l, T.sx_dr, thenC, fNext_a, T.nx_dr]
  congr 1
  funext m
  cases atI ds m <;> rfl
theorem pick_al {ds : List D} {Q : D → Prop} {E : Value → List (Str × D) → Prop} (h0 : Nat.blt 0 ds.length = true) (h1 : Nat.ble ds.length 1000 = true) (h : ∀ d ∈ ds, Q d) : (f_l_pick K [.ref p, .lst ds]).al p Q E := by
  rw [pick_]
  have h0 : 0 < ds.length := Nat.le_of_ble_eq_true h0
  have h1 : ds.length ≤ 1000 := Nat.le_of_ble_eq_true h1
  refine al_dr (by omega) ?_ fun m m0 m1 => ?_
  · show (Int.natAbs (ds.length : Int)).log2 < 9000
    rw [Int.natAbs_natCast]
    exact Nat.lt_of_lt_of_le (log2_lt (k := 29) (by omega)) (by decide)
  · obtain ⟨a, e, hm⟩ := atI_mem m0 m1
    rw [e]; exact T.al_v.mpr (h a hm)
end

section
variable {K : PySem.W.Frag} {p : Addr}
theorem l_tag_al : (f_l_tag K [.ref p]).al p (fun d => ∃ z, d = .str z ∧ NameZ z 8) noX := by
  unfold f_l_tag b_l_tag
  simp (implicitDefEqProofs := false) only [runT, startD, List.map, List.length, Nat.reduceAdd, Nat.reduceSub, List.replicate, List.cons_append, List.nil_append, fSeq_a, fIfS_a, fB_a, f2_a, fCall_a, fCo_a, fV_a, lk_z, fC_a, fNil_a, T.bind_v, draw_, T.bind_dr, pEq_ii, T.ofO_s, tB, fRet_a, fLs_a, Nat.reduceLeDiff, szOk_le, T.gd_t, thenC, fNext_a, T.sx_dr, T.sx_v, fSet_a, fFor_a, fRng1_a, T.nx_dr, al_drB, T.al_bind, T.al_nx, al_ite, T.sx_al, T.al_v, T.al_x, List.set_cons_succ, List.set_cons_zero, lk_s, pIx_l]
  refine ⟨by decide, fun m m0 m1 => ?_⟩
  split
  · refine pick_al rfl rfl fun d hd => ?_
    simp only [List.mem_cons, List.mem_nil_iff, or_false] at hd
    rcases hd with rfl | rfl | rfl | rfl | rfl | rfl | rfl | rfl | rfl <;> exact ⟨_, rfl, ⟨by decide, by decide⟩, by decide +kernel, ⟨_, _, rfl, by decide +kernel⟩, by decide +kernel⟩
  · refine ⟨by decide, fun i i0 i1 => ?_⟩
    refine al_chr (by decide +kernel) i0 (Int.lt_trans i1 (by decide +kernel)) fun c hc => ?_
    refine ⟨by decide, fun m m0 m1 => ?_⟩
    refine al_ix m0 m1 fun d hd => ?_
    obtain ⟨n, rfl, hn⟩ : ∃ n : Nat, d = .int n ∧ n ≤ 7 := by
      simp only [List.mem_cons, List.mem_nil_iff, or_false] at hd
      rcases hd with rfl | rfl | rfl | rfl | rfl | rfl | rfl
      all_goals first
        | exact ⟨0, rfl, by decide⟩
        | exact ⟨1, rfl, by decide⟩
        | exact ⟨2, rfl, by decide⟩
        | exact ⟨3, rfl, by decide⟩
        | exact ⟨5, rfl, by decide⟩
        | exact ⟨7, rfl, by decide⟩
    have hb : smB (n : Int) = true := decide_eq_true (by omega)
    have hr : (rngD 0 (n : Int)).length ≤ 7 := by unfold rngD; rw [List.length_map, List.length_range]; omega
    simp (implicitDefEqProofs := false) only [hb, T.gd_t, T.al_v]
    have hz := NameZ.one (sign_letter (by omega : i.toNat < 26) hc) (sign_ok hc).2
    have hsz := sizeLine_eq
    refine forT_al (fun items r => ∃ z o, r = [some (D.ref p), some (D.str signsS), some (D.str z), o] ∧ NameZ z (8 - items.length) ∧ items.length ≤ 7) ?_ ?_ ⟨_, _, rfl, hz.up (by omega), hr⟩
    · rintro x xs r ⟨z, o, rfl, hz, hl⟩
      rw [List.length_cons] at hz hl
      have hzl := hz.len
      refine ⟨_, rfl, ?_⟩
      simp (implicitDefEqProofs := false) only [T.al_bind, T.sx_al, T.al_v, T.al_x, List.set_cons_succ, List.set_cons_zero, fSeq_a, fSet_a, f2_a, fV_a, lk_s, lk_z, fCall_a, fCo_a, fC_a, fNil_a, T.bind_v, draw_, T.bind_dr, pAdd, T.sx_dr, thenC, fNext_a, al_drB]
      refine ⟨by decide, fun m m0 m1 => al_chr (by decide +kernel) m0 (Int.lt_of_lt_of_le m1 (by decide +kernel)) fun c hc => ?_⟩
      have hs : szOk (z.length + Str.length { cps := #[c] }) = true := szOk_le (by show z.length + 1 ≤ _; omega)
      simp (implicitDefEqProofs := false) only [hs, og_t, T.ofO_s, T.al_v]
      exact ⟨_, _, rfl, (hz.snoc (sign_ok hc).1 (sign_ok hc).2).up (by omega), by omega⟩
    · rintro r ⟨z, o, rfl, hz, _⟩
      simp (implicitDefEqProofs := false) only [lk_s, lk_z, T.sx_v, T.bind_v, T.al_v]
      exact ⟨_, rfl, hz⟩
end

def Num0 (d : D) : Prop := ∃ n : Int, d = .int n ∧ 0 ≤ n ∧ n < 10000000000000000000000000000000
def Num1 (d : D) : Prop := ∃ n : Int, d = .int n ∧ -10000000000000000000000000000000 < n ∧ n < 10000000000000000000000000000000
theorem Num1.log {n : Int} (h : -10000000000000000000000000000000 < n) (h1 : n < 10000000000000000000000000000000) : n.natAbs.log2 < 200 := by
  refine Nat.lt_of_lt_of_le (log2_lt (k := 103) ?_) (by decide)
  have e2 : (2 : Nat) ^ 104 = 20282409603651670423947251286016 := by decide +kernel
  rw [e2]
  omega
theorem Num1.bt {n : Int} (h : -10000000000000000000000000000000 < n) (h1 : n < 10000000000000000000000000000000) : Bt 150 n := by
  have e2 : (2 : Nat) ^ 150 = 1427247692705959881058285969449495136382746624 := by decide +kernel
  unfold Bt
  rw [e2]
  omega
def NB : Nat := 104
theorem Num1.bs {n : Int} (h : -10000000000000000000000000000000 < n) (h1 : n < 10000000000000000000000000000000) : Bt NB n := by
  have e2 : (2 : Nat) ^ 104 = 20282409603651670423947251286016 := by decide +kernel
  unfold Bt NB
  rw [e2]
  omega
theorem Num1.thing {d : D} (h : Num1 d) : Thing d := by
  obtain ⟨n, rfl, h0, h1⟩ := h
  exact thing_int (Num1.log h0 h1)
section
variable {K : PySem.W.Frag} {p : Addr}
theorem l_bar_al : (f_l_bar K [.ref p]).al p Num0 noX := by
  unfold f_l_bar b_l_bar
  simp (implicitDefEqProofs := false) only [runT, pLt, startD, List.map, List.length, Nat.reduceAdd, Nat.reduceSub, List.replicate, List.cons_append, List.nil_append, fSeq_a, fSet_a, fCall_a, fCo_a, fV_a, lk_z, fC_a, fNil_a, T.bind_v, draw_, List.set_cons_succ, List.set_cons_zero, T.sx_dr, T.sx_v, thenC, fIfS_a, fB_a, f2_a, pCmp, fRet_a, fNext_a, fLs_a, pow_6, T.ofO_s, Nat.reduceLeDiff, szOk_le, T.gd_t, pow_9, pow_12, pow_20, pow_30, pAdd, T.bind_dr, lk_s, tB, T.nx_dr, al_drB, T.al_bind, T.al_nx, al_ite, T.al_v, pIx_l, T.sx_al, T.al_x]
  refine ⟨by decide, fun m m0 m1 => ?_⟩
  split
  · exact ⟨by decide, fun m m0 m1 => ⟨m, rfl, m0, by omega⟩⟩
  · split
    · refine ⟨by decide, fun m m0 m1 => al_ix m0 m1 fun d hd => ?_⟩
      simp only [List.mem_cons, List.mem_nil_iff, or_false] at hd
      rcases hd with rfl | rfl | rfl | rfl | rfl | rfl | rfl | rfl <;> exact ⟨_, rfl, by decide, by decide⟩
    · refine ⟨by decide, fun m m0 m1 => al_ix m0 m1 fun d hd => ?_⟩
      simp only [List.mem_cons, List.mem_nil_iff, or_false] at hd
      rcases hd with rfl | rfl | rfl | rfl <;> (simp (implicitDefEqProofs := false) only [T.ofO_s, T.al_v]; exact ⟨by decide, fun m m0 m1 => ⟨_, rfl, by omega, by omega⟩⟩)
theorem l_fee_al : (f_l_fee K [.ref p]).al p Num1 noX := by
  unfold f_l_fee b_l_fee
  simp (implicitDefEqProofs := false) only [runT, pLt, pSub, startD, List.map, List.length, Nat.reduceAdd, Nat.reduceSub, List.replicate, List.cons_append, List.nil_append, fSeq_a, fSet_a, fCall_a, fCo_a, fV_a, lk_z, fC_a, fNil_a, T.bind_v, draw_, List.set_cons_succ, List.set_cons_zero, T.sx_dr, T.sx_v, thenC, fIfS_a, fB_a, f2_a, pCmp, fRet_a, pInt, fNext_a, fLs_a, f1_a, pNeg, T.ofO_s, pow_6, Nat.reduceLeDiff, szOk_le, T.gd_t, pow_9, pow_12, pow_20, pow_30, pAdd, T.bind_dr, lk_s, tB, T.nx_dr, al_drB, T.al_bind, T.al_nx, al_ite, T.al_v, pIx_l, T.sx_al, T.al_x]
  refine ⟨by decide, fun m m0 m1 => ?_⟩
  split
  · exact ⟨by decide, fun m m0 m1 => ⟨_, rfl, by omega, by omega⟩⟩
  · split
    · refine ⟨by decide, fun m m0 m1 => al_ix m0 m1 fun d hd => ?_⟩
      simp only [List.mem_cons, List.mem_nil_iff, or_false] at hd
      rcases hd with rfl | rfl | rfl | rfl | rfl | rfl | rfl | rfl <;> exact ⟨_, rfl, by decide, by decide⟩
    · refine ⟨by decide, fun m m0 m1 => al_ix m0 m1 fun d hd => ?_⟩
      simp only [List.mem_cons, List.mem_nil_iff, or_false] at hd
      rcases hd with rfl | rfl | rfl | rfl
      all_goals
        simp (implicitDefEqProofs := false) only [T.ofO_s, T.al_v]
        refine ⟨by decide, fun m m0 m1 => ?_⟩
        refine ⟨by decide, fun i i0 i1 => al_ix i0 i1 fun d hd => ?_⟩
        simp only [List.mem_cons, List.mem_nil_iff, or_false] at hd
        rcases hd with rfl | rfl <;> exact ⟨_, rfl, by omega, by omega⟩
def TopD (d : D) : Prop := d = .non ∨ Num0 d
theorem l_top_al : (f_l_top K [.ref p]).al p TopD noX := by
  unfold f_l_top b_l_top
  simp (implicitDefEqProofs := false) only [runT, pLt, startD, List.map, List.length, Nat.reduceAdd, Nat.reduceSub, List.replicate, List.cons_append, List.nil_append, fSeq_a, fSet_a, fCall_a, fCo_a, fV_a, lk_z, fC_a, fNil_a, T.bind_v, draw_, List.set_cons_succ, List.set_cons_zero, T.sx_dr, T.sx_v, thenC, fIfS_a, fB_a, f2_a, pCmp, fRet_a, fNext_a, fLs_a, Nat.reduceLeDiff, szOk_le, T.gd_t, pow_9, T.ofO_s, pow_12, pow_20, pow_30, pAdd, T.bind_dr, lk_s, tB, T.nx_dr, al_drB, T.al_bind, T.al_nx, al_ite, T.al_v, pIx_l, T.sx_al, T.al_x]
  refine ⟨by decide, fun m m0 m1 => ?_⟩
  split
  · exact .inl rfl
  split
  · exact ⟨by decide, fun m m0 m1 => .inr ⟨m, rfl, m0, by omega⟩⟩
  · split
    · refine ⟨by decide, fun m m0 m1 => al_ix m0 m1 fun d hd => ?_⟩
      simp only [List.mem_cons, List.mem_nil_iff, or_false] at hd
      rcases hd with rfl | rfl | rfl | rfl | rfl | rfl | rfl | rfl <;> exact .inr ⟨_, rfl, by decide, by decide⟩
    · refine ⟨by decide, fun m m0 m1 => al_ix m0 m1 fun d hd => ?_⟩
      simp only [List.mem_cons, List.mem_nil_iff, or_false] at hd
      rcases hd with rfl | rfl | rfl | rfl <;> (simp (implicitDefEqProofs := false) only [T.ofO_s, T.al_v]; exact ⟨by decide, fun m m0 m1 => .inr ⟨_, rfl, by omega, by omega⟩⟩)
end

section
variable {K : PySem.W.Frag} {p : Addr} {ps : List PairS} {rs : List RowS} {a : PairS} {r : RowS}
theorem isC_day : isC (He.ga K "Day") (dayP K a) = true := decide_eq_true rfl
theorem isC_rule : isC (He.ga K "Rule") (ruleP K r) = true := decide_eq_true rfl
theorem day_name_ : f_Day_name K [dayP K a] = .v (.str a.1) := Day_name_
theorem day_most_ : f_Day_most K [dayP K a] = .v (topD a.2) := Day_most_
theorem rule_first_ : f_Rule_first K [ruleP K r] = .v (.str r.b) := Rule_first_
theorem rule_last_ : f_Rule_last K [ruleP K r] = .v (.str r.e) := Rule_last_
theorem rule_kind_ : f_Rule_kind K [ruleP K r] = .v (.str r.k) := Rule_kind_
theorem rule_number_ : f_Rule_number K [ruleP K r] = .v (.int r.n) := Rule_number_
theorem rule_rate_ : f_Rule_rate K [ruleP K r] = .v (.int r.r) := Rule_rate_
theorem isi_day (k : SaysF fa fn K) {ds : List D} : pIsi K (CS K) (.ins (He.ga K "Day") ds) (.ref (He.ga K "Day")) = some (.bl true) := by
  unfold pIsi
  show (match PySem.W.kitOne K (.ref (He.ga K "Day")) (.ref (He.ga K "Day")) with | some b => og (okTy (CS K) (.ref (He.ga K "Day"))) (.bl b) | none => none) = _
  rw [kitC_Day_Day k]
  show og (decide (He.ga K "Day" ∈ CS K)) _ = _
  rw [decide_eq_true (by simp [CS])]; rfl
theorem isi_rule (k : SaysF fa fn K) {ds : List D} : pIsi K (CS K) (.ins (He.ga K "Rule") ds) (.ref (He.ga K "Rule")) = some (.bl true) := by
  unfold pIsi
  show (match PySem.W.kitOne K (.ref (He.ga K "Rule")) (.ref (He.ga K "Rule")) with | some b => og (okTy (CS K) (.ref (He.ga K "Rule"))) (.bl b) | none => none) = _
  rw [kitC_Rule_Rule k]
  show og (decide (He.ga K "Rule" ∈ CS K)) _ = _
  rw [decide_eq_true (by simp [CS])]; rfl
end

section
open TL PySem.NumText
variable {K : PySem.W.Frag} {p : Addr} {ps : List PairS} {rs : List RowS} {a : PairS} {r : RowS}
theorem NameZ.isN {z : Str} (h : NameZ z 8) : isNameD (.str z) = true := h.name
theorem NameZ.to {z : Str} {n : Nat} (h : NameZ z n) (hn : n ≤ 10000 := by decide) : TextOk (.str z) := fun y e => by cases e; exact ⟨Nat.le_trans h.len.2 hn, h.ok⟩
theorem plain_s {z : Str} : Plain (.str z) := trivial
theorem Day_init_z {z : Str} {c : D} (h : NameZ z 8) (hc : Plain c) (hk : (isNon c || isCountD c) = true) : f_Day_init K [.str z, c] = .v (.ins (He.ga K "Day") [.tup [.str z, c]]) := by
  rw [Day_init_ plain_s h.to hc]
  unfold dayR
  rw [h.isN, hk]
  rfl
theorem top_ok (h : PairOk a) : Plain (topD a.2) ∧ (isNon (topD a.2) || isCountD (topD a.2)) = true := by
  cases e : a.2 with
  | none => exact ⟨trivial, rfl⟩
  | some n =>
    have : isCountD (topD (some n)) = true := decide_eq_true (h.top n e).1
    exact ⟨trivial, by rw [this, Bool.or_true]⟩
theorem Day_init_d (h : PairOk a) : f_Day_init K [.str a.1, topD a.2] = .v (dayP K a) := Day_init_z h.nm (top_ok h).1 (top_ok h).2
theorem kind_ok {k : Str} (h : k ∈ kindsS) : kindD (.str k) = true := by
  simp only [kindsS, List.mem_cons, List.mem_nil_iff, or_false] at h
  rcases h with rfl | rfl | rfl <;> decide +kernel
theorem Rule_init_r {ts : List Str} (ht : ∀ t ∈ ts, NameZ t 8) (h : RowOk ts r) : f_Rule_init K [.str r.b, .str r.e, .str r.k, .int r.n, .int r.r] = .v (ruleP K r) := by
  obtain ⟨i, j, _, h1, h2⟩ := h.ij
  have b := ht _ (List.mem_of_getElem? h1)
  have e := ht _ (List.mem_of_getElem? h2)
  rw [Rule_init_ plain_s b.to plain_s e.to plain_s (show Plain (.int r.n) from trivial) (show Plain (.int r.r) from trivial)]
  unfold ruleR
  have hn : isCountD (.int r.n) = true := decide_eq_true h.num.1
  have hr : isIntD (.int r.r) = true := rfl
  rw [b.isN, e.isN, kind_ok h.kd, hn, hr]
  rfl
end

section
open TL
variable {K : PySem.W.Frag} {p : Addr} {ps : List PairS} {rs : List RowS}
theorem l_styles_ : f_l_styles K [] = .v (.lst [.str "beyond", .str "upto", .str "reach"]) := by
  unfold f_l_styles b_l_styles
  simp (implicitDefEqProofs := false) only [runT, startD, List.map, List.length, Nat.reduceSub, List.replicate, List.nil_append, fSeq_a, fRet_a, fLs_a, fCo_a, fC_a, fNil_a, T.bind_v, Nat.reduceAdd, Nat.reduceLeDiff, szOk_le, T.gd_t, T.sx_v, thenC, fNext_a, T.nx_v]
theorem al_len {α : Type} {n : Nat} {k : Int → T α} {Q : α → Prop} {E : Value → List (Str × D) → Prop} (h0 : 0 < n) (h1 : n ≤ 1000) (h : ∀ m : Nat, m < n → (k (m : Int)).al p Q E) : (T.dr p (n : Int) k).al p Q E := by
  refine al_dr (by omega) ?_ fun m m0 m1 => ?_
  · show (Int.natAbs (n : Int)).log2 < 9000
    rw [Int.natAbs_natCast]
    exact Nat.lt_of_lt_of_le (log2_lt (k := 29) (by omega)) (by decide)
  · obtain ⟨j, rfl⟩ := Int.eq_ofNat_of_zero_le m0
    exact h j (by omega)
theorem l_row_al1 {ts : List Str} {n : Nat} (ht : ts.length = n) (h0 : 0 < n) (hn : n ≤ 30) : (f_l_row K [.ref p, .lst (ts.map D.str)]).al p (fun d => ∃ r, d = rowD r ∧ RowOk ts r ∧ Bt 150 r.r ∧ Bt NB r.n ∧ Bt NB r.r) noX := by
  unfold f_l_row b_l_row
  have hl : (ts.map D.str).length = n := by rw [List.length_map, ht]
  refine runT_al (seq_n (fun l => ∃ i : Nat, i < n ∧ l = [some (.ref p), some (.lst (ts.map D.str)), some (.int (i : Int)), none, none]) ?_ ?_)
  · simp (implicitDefEqProofs := false) only [startD, List.map, List.length, Nat.reduceAdd, Nat.reduceSub, List.replicate, List.cons_append, List.nil_append, fSet_a, fCall_a, fCo_a, fV_a, lk_z, fCB_a, lk_s, fNil_a, T.bind_v, p1, pLen_l, hl, T.ofO_s, draw_, List.set_cons_succ, List.set_cons_zero, T.sx_dr, T.sx_v]
    exact al_len h0 (by omega) fun i hi => T.al_v.mpr ⟨i, hi, rfl⟩
  rintro l ⟨i, hi, rfl⟩
  refine seq_n (fun l => ∃ j : Nat, i ≤ j ∧ j < n ∧ l = [some (.ref p), some (.lst (ts.map D.str)), some (.int (i : Int)), some (.int (j : Int)), none]) ?_ ?_
  · have e : (n : Int) - (i : Int) = ((n - i : Nat) : Int) := by omega
    simp (implicitDefEqProofs := false) only [pSub, fSet_a, f2_a, fV_a, lk_s, lk_z, fCall_a, fCo_a, fCB_a, fNil_a, T.bind_v, p1, pLen_l, hl, T.ofO_s, pInt, e, draw_, pAdd, T.bind_dr, List.set_cons_succ, List.set_cons_zero, T.sx_dr, T.sx_v]
    refine al_len (by omega) (by omega) fun j hj => T.al_v.mpr ⟨i + j, by omega, by omega, ?_⟩
    have e2 : (i : Int) + (j : Int) = ((i + j : Nat) : Int) := by omega
    rw [e2]
  rintro l ⟨j, hij, hj, rfl⟩
  refine seq_n (fun l => ∃ s ∈ kindsS, l = [some (.ref p), some (.lst (ts.map D.str)), some (.int (i : Int)), some (.int (j : Int)), some (.str s)]) ?_ ?_
  · simp (implicitDefEqProofs := false) only [fSet_a, fCall_a, fCo_a, fV_a, lk_z, fNil_a, T.bind_v, l_styles_, List.set_cons_succ, List.set_cons_zero, T.sx_al, T.al_v, StepP]
    refine pick_al rfl rfl fun d hd => ?_
    simp only [List.mem_cons, List.mem_nil_iff, or_false] at hd
    rcases hd with rfl | rfl | rfl <;> exact ⟨_, by simp [kindsS], rfl⟩
  rintro l ⟨s, hs, rfl⟩
  have hi' : i < ts.length := by have := ht; omega
  have hj' : j < ts.length := by have := ht; omega
  have e1 : atI (ts.map D.str) (i : Int) = some (.str ts[i]) := by rw [atI_nat _ _ (by rw [hl]; omega), List.getElem?_map, List.getElem?_eq_getElem hi']; rfl
  have e2 : atI (ts.map D.str) (j : Int) = some (.str ts[j]) := by rw [atI_nat _ _ (by rw [hl]; omega), List.getElem?_map, List.getElem?_eq_getElem hj']; rfl
  simp (implicitDefEqProofs := false) only [fSeq_a, fRet_a, fTu_a, fCo_a, f2_a, fV_a, lk_s, lk_z, T.bind_v, pIx_l, e1, T.ofO_s, e2, fCall_a, fNil_a, thenC, fNext_a, T.al_bind, T.sx_al, T.al_v, List.length, Nat.reduceAdd, Nat.reduceLeDiff, szOk_le, T.gd_t]
  refine T.al_mono l_bar_al (fun d h => ?_) fun _ _ h => h.elim
  obtain ⟨b, rfl, b0, b1⟩ := h
  refine T.al_mono l_fee_al (fun d h => ?_) fun _ _ h => h.elim
  obtain ⟨f, rfl, f0, f1⟩ := h
  simp (implicitDefEqProofs := false) only [RtQ]
  exact ⟨⟨ts[i], ts[j], s, b, f⟩, rfl, ⟨⟨i, j, hij, List.getElem?_eq_getElem hi', List.getElem?_eq_getElem hj'⟩, hs, ⟨b0, Num1.log (Int.lt_of_lt_of_le (by decide) b0) b1⟩, Num1.log f0 f1, Num1.bt (Int.lt_of_lt_of_le (by decide) b0) b1⟩, Num1.bt f0 f1, Num1.bs (Int.lt_of_lt_of_le (by decide) b0) b1, Num1.bs f0 f1⟩
theorem l_row_al0 {ts : List Str} {n : Nat} (ht : ts.length = n) (h0 : 0 < n) (hn : n ≤ 30) : (f_l_row K [.ref p, .lst (ts.map D.str)]).al p (fun d => ∃ r, d = rowD r ∧ RowOk ts r ∧ Bt 150 r.r) noX :=
  T.al_mono (l_row_al1 ht h0 hn) (fun d ⟨r, e, h, hb, _⟩ => ⟨r, e, h, hb⟩) fun _ _ h => h.elim
end

section
open TL
variable {K : PySem.W.Frag} {p : Addr} {ps : List PairS} {rs : List RowS}
def spareS : List Str := ["a", "b", "c7", "d", "e", "f", "g1", "h", "m"]
theorem spare_ok : ∀ z ∈ spareS, NameZ z 8 := by
  intro z hz
  simp only [spareS, List.mem_cons, List.mem_nil_iff, or_false] at hz
  rcases hz with rfl | rfl | rfl | rfl | rfl | rfl | rfl | rfl | rfl <;> exact ⟨⟨by decide, by decide⟩, by decide +kernel, ⟨_, _, rfl, by decide +kernel⟩, by decide +kernel⟩
theorem spare_free {ts : List Str} (h : ts.length < 9) : ∃ z ∈ spareS, z ∉ ts := by
  refine Classical.byContradiction fun hc => ?_
  have hs : spareS ⊆ ts := fun z hz => Classical.byContradiction fun hn => hc ⟨z, hz, hn⟩
  have hnd : spareS.Nodup := by decide +kernel
  have h1 := hnd.length_le_of_subset hs
  have h2 : spareS.length = 9 := rfl
  omega
structure TagsR (ts : List Str) (n : Nat) : Prop where
  len : ts.length = n
  nd : ts.Nodup
  nm : ∀ t ∈ ts, NameZ t 8
theorem not_in_fm (ts : List Str) : ∀ m : List Str, (m.map D.str).filterMap (fun x => match x with | .str z => if z ∈ ts then none else some (D.str z) | _ => none) = (m.filter fun z => !decide (z ∈ ts)).map D.str
  | [] => rfl
  | z :: m => by
    rw [List.map_cons, List.filterMap_cons, List.filter_cons, not_in_fm ts m]
    by_cases hm : z ∈ ts <;> simp [hm]
theorem l_tags_al {n : Nat} (hn : n ≤ 9) : (f_l_tags K [.ref p, .int (n : Int)]).al p (fun d => ∃ ts, d = .lst (ts.map D.str) ∧ TagsR ts n) noX := by
  unfold f_l_tags b_l_tags
  refine runT_al (seq_n (fun l => l = [some (.ref p), some (.int (n : Int)), some (.lst []), some (.lst (spareS.map D.str)), none, none, none]) ?_ ?_)
  · simp (implicitDefEqProofs := false) only [startD, List.map, List.length, Nat.reduceAdd, Nat.reduceSub, List.replicate, List.cons_append, List.nil_append, fPar2_a, fLs_a, fNil_a, T.bind_v, Nat.reduceLeDiff, szOk_le, T.gd_t, fCo_a, fC_a, List.set_cons_succ, List.set_cons_zero, T.sx_v, T.al_v, StepP]
    rfl
  rintro l rfl
  refine seq_n (fun l => ∃ ts x y z, l = [some (.ref p), some (.int (n : Int)), some (.lst (ts.map D.str)), some (.lst (spareS.map D.str)), x, y, z] ∧ TagsR ts n) ?_ ?_
  · have hb : smB (n : Int) = true := decide_eq_true (by omega)
    refine for_ial (items := rngD 0 (n : Int)) (by simp (implicitDefEqProofs := false) only [fRng1_a, fCo_a, fV_a, lk_s, lk_z, fNil_a, T.bind_v, hb, T.gd_t]) (fun i l => ∃ ts x y z, l = [some (.ref p), some (.int (n : Int)), some (.lst (ts.map D.str)), some (.lst (spareS.map D.str)), x, y, z] ∧ TagsR ts i) ⟨[], none, none, none, rfl, rfl, List.nodup_nil, fun t ht => by cases ht⟩ ?_ (fun l h => by rw [rng_len] at h; exact h) (fun _ h => h) (fun _ h => h.elim)
    rintro i x l hx ⟨ts, x1, y1, z1, rfl, ht⟩
    obtain ⟨hi, rfl⟩ := rng_at hx
    refine ⟨_, rfl, ?_⟩
    refine seq_n (fun l => ∃ t, l = [some (.ref p), some (.int (n : Int)), some (.lst (ts.map D.str)), some (.lst (spareS.map D.str)), some (.int (i : Int)), some (.str t), z1] ∧ NameZ t 8) ?_ ?_
    · simp (implicitDefEqProofs := false) only [List.set_cons_succ, List.set_cons_zero, fSet_a, fCall_a, fCo_a, fV_a, lk_z, fNil_a, T.bind_v, T.sx_al, T.al_v, StepP]
      refine T.al_mono l_tag_al (fun d h => ?_) fun _ _ h => h.elim
      obtain ⟨z, rfl, hz⟩ := h
      exact ⟨z, rfl, hz⟩
    rintro l ⟨t, rfl, hz⟩
    have hsz : szOk (([D.str t] : List D).length + (spareS.map D.str).length) = true := szOk_le (by simp [spareS])
    have hszz : szOk ((ts.map D.str).length + 1) = true := szOk_le (by rw [List.length_map, ht.len]; omega)
    have el : fLc (fIv (f2 pAdd (fLs (fCo (fV 5) fNil)) (fV 3))) (.one 6) (fB (f2 (pIn true) (fV 6) (fV 2))) (fV 6) [6] [some (.ref p), some (.int (n : Int)), some (.lst (ts.map D.str)), some (.lst (spareS.map D.str)), some (.int (i : Int)), some (.str t), z1] = .v (.lst (((t :: spareS).filter fun z => !decide (z ∈ ts)).map D.str)) := by
      rw [lc_f (items := (t :: spareS).map D.str) (h := fun x => match x with | .str z => if z ∈ ts then none else some (.str z) | _ => none)]
      · exact congrArg (fun x => T.v (D.lst x)) (not_in_fm ts (t :: spareS))
      · simp (implicitDefEqProofs := false) only [fIv_a, f2_a, fLs_a, fCo_a, fV_a, lk_s, lk_z, fNil_a, T.bind_v, List.length, Nat.reduceAdd, Nat.reduceLeDiff, szOk_le, T.gd_t, pAdd, List.cons_append, List.nil_append, asAny, List.map]
        rfl
      · rw [List.length_map]; rfl
      · intro x hx
        obtain ⟨z, _, rfl⟩ := List.mem_map.mp hx
        have e1 : pIn true (.str z) (.lst (ts.map D.str)) = some (.bl (!decide (z ∈ ts))) := pIn_ls
        by_cases hm : z ∈ ts
        · have e2 : decide (z ∈ ts) = true := decide_eq_true hm
          simp (implicitDefEqProofs := false) only [stepC, asgP, wipeR, List.set_cons_succ, List.set_cons_zero, T.ofO_s, fB_a, f2_a, fV_a, T.bind_v, lk_s, lk_z, e1, hm, decide_true, Bool.not_true, tB, T.nx_v, Bool.false_eq_true, if_false, if_true]
        · have e2 : decide (z ∈ ts) = false := decide_eq_false hm
          simp (implicitDefEqProofs := false) only [stepC, asgP, wipeR, List.set_cons_succ, List.set_cons_zero, T.ofO_s, fB_a, f2_a, fV_a, T.bind_v, lk_s, lk_z, e1, hm, decide_false, Bool.not_false, tB, T.nx_v, if_true, if_false]
    obtain ⟨w, r, hw⟩ : ∃ w r, (t :: spareS).filter (fun z => !decide (z ∈ ts)) = w :: r := by
      obtain ⟨z, h1, h2⟩ := spare_free (ts := ts) (by have := ht.len; omega)
      cases e : (t :: spareS).filter fun z => !decide (z ∈ ts) with
      | nil =>
        have : z ∈ (t :: spareS).filter fun z => !decide (z ∈ ts) := List.mem_filter.mpr ⟨List.mem_cons_of_mem _ h1, by simp [h2]⟩
        rw [e] at this
        cases this
      | cons w r => exact ⟨w, r, rfl⟩
    rw [hw] at el
    have hm := List.mem_filter.mp (show w ∈ (t :: spareS).filter fun z => !decide (z ∈ ts) by rw [hw]; exact List.mem_cons_self ..)
    have hwn : w ∉ ts := by simpa using hm.2
    have hwz : NameZ w 8 := by
      rcases List.mem_cons.mp hm.1 with rfl | h
      · exact hz
      · exact spare_ok w h
    simp (implicitDefEqProofs := false) only [fSeq_a, fApp_a, lkL_s, lkL_z, f2_a, el, List.map, fC_a, T.bind_v, pIx_l, atI_0, T.ofO_s, List.set_cons_succ, List.set_cons_zero, T.sx_v, hszz, T.gd_t, thenC, fNext_a, T.al_v, StepP]
    refine ⟨ts ++ [w], _, _, _, by rw [List.map_append]; rfl, ?_, ?_, ?_⟩
    · rw [List.length_append, ht.len]; rfl
    · rw [List.nodup_append]
      refine ⟨ht.nd, by simp, fun a ha b hb e => ?_⟩
      rw [List.mem_singleton] at hb
      subst hb; subst e
      exact hwn ha
    · intro a ha
      rcases List.mem_append.mp ha with ha | ha
      · exact ht.nm a ha
      · rw [List.mem_singleton] at ha
        subst ha; exact hwz
  · rintro l ⟨ts, x, y, z, rfl, ht⟩
    simp (implicitDefEqProofs := false) only [fSeq_a, fRetO_a, lk_s, lk_z, T.bind_v, thenC, fNext_a, T.al_v]
    exact ⟨ts, rfl, ht⟩
theorem l_row_al {ts : List Str} {n : Nat} (ht : TagsR ts n) (h0 : 0 < n) (hn : n ≤ 9) : (f_l_row K [.ref p, .lst (ts.map D.str)]).al p (fun d => ∃ r, d = rowD r ∧ RowOk ts r ∧ Bt 150 r.r) noX := l_row_al0 ht.len h0 (by omega)
end

section
open TL
variable {K : PySem.W.Frag} {p : Addr} {d : D} {ds : List D} {q qa qb : PairS} {r ra rb : RowS} {ts : List Str}
structure RowP (r : RowS) : Prop where
  b : NameZ r.b 8
  e : NameZ r.e 8
  ok : RowOk [r.b, r.e] r
theorem RowP.names (h : RowP r) : ∀ t ∈ [r.b, r.e], NameZ t 8 := fun t ht => by
  simp only [List.mem_cons, List.mem_nil_iff, or_false] at ht
  rcases ht with rfl | rfl
  · exact h.b
  · exact h.e
theorem row_of (hn : ∀ t ∈ ts, NameZ t 8) (h : RowOk ts r) : RowP r := by
  obtain ⟨i, j, _, e1, e2⟩ := h.ij
  exact ⟨hn _ (List.mem_of_getElem? e1), hn _ (List.mem_of_getElem? e2), ⟨⟨0, 1, by omega, rfl, rfl⟩, h.kd, h.num, h.rate, h.nb⟩⟩
theorem RowP.dt (h : RowP r) : Dt 11000 1 (rowD r) := row_dt h.names h.ok
theorem RowP.init (h : RowP r) : f_Rule_init K [.str r.b, .str r.e, .str r.k, .int r.n, .int r.r] = .v (ruleP K r) := Rule_init_r h.names h.ok
theorem l_made_rule_al (h : RowP r) : (f_l_made_rule K [.ref p, rowD r]).al p (fun d => d = ruleP K r) noX := by
  have hi := h.init (K := K)
  have er : rowD r = .tup [.str r.b, .str r.e, .str r.k, .int r.n, .int r.r] := rfl
  have ic : isC (He.ga K "Rule") (ruleP K r) = true := isC_rule
  have as : allSet (ruleP K r) = true := rfl
  unfold f_l_made_rule b_l_made_rule
  rw [er]
  generalize ruleP K r = rp at *
  simp (implicitDefEqProofs := false) only [runT, startD, List.map, List.length, Nat.reduceAdd, Nat.reduceSub, List.replicate, List.cons_append, List.nil_append, fSeq_a, fAsg_a, fV_a, lk_s, lk_z, gTU, gTC, gN, List.set_cons_succ, List.set_cons_zero, Option.bind_some, gTN, T.sx_v, if_true, T.ofO_s, T.bind_v, thenC, fSet_a, fCall_a, fCo_a, fC_a, fNil_a, fIfS_a, fB_a, f2_a, fRet_a, fMake_a, mkT, fNext_a, gP, List.filterMap_cons, List.filterMap_nil, draw_, T.sx_dr, T.bind_dr, pEq_ii, tB, hi, as, ic, Bool.and_true, T.gd_t, T.nx_dr, al_drB, T.al_bind, T.al_nx, al_ite, T.al_v, List.getElem?_cons_succ, List.getElem?_cons_zero]
  refine ⟨by decide, fun m _ _ => ?_⟩
  split
  · trivial
  · split <;> trivial
theorem l_made_day_al (h : PairOk q) : (f_l_made_day K [.ref p, pairD q]).al p (fun d => d = dayP K q) noX := by
  have hi := Day_init_d (K := K) h
  unfold f_l_made_day b_l_made_day
  obtain ⟨z, t⟩ := q
  have er : pairD (z, t) = .tup [.str z, topD t] := rfl
  have hi : f_Day_init K [.str z, topD t] = .v (dayP K (z, t)) := hi
  have ic : isC (He.ga K "Day") (dayP K (z, t)) = true := isC_day
  have as : allSet (dayP K (z, t)) = true := rfl
  rw [er]
  generalize dayP K (z, t) = rp at *
  cases t with
  | none =>
    have hi : f_Day_init K [.str z, .non] = .v rp := hi
    simp (implicitDefEqProofs := false) only [runT, gP, List.filterMap_cons, List.filterMap_nil, pLt, startD, List.map, topD, List.length, Nat.reduceAdd, Nat.reduceSub, List.replicate, List.cons_append, List.nil_append, fSeq_a, fSet_a, fCall_a, fCo_a, fV_a, lk_z, fC_a, fNil_a, T.bind_v, draw_, List.set_cons_succ, List.set_cons_zero, T.sx_dr, T.sx_v, thenC, fIfS_a, fAnd_a, fB_a, f2_a, pIsN_n, T.ofO_s, fRet_a, fIf_a, fMake_a, mkT, fNext_a, pCmp, T.bind_dr, lk_s, pEq_ii, tB, pIx_t, atI_1, isNon_non, atI_0, hi, as, ic, Bool.and_true, T.gd_t, List.getElem?_cons_zero, T.nx_dr, al_drB, T.al_bind, T.al_nx, T.sx_al, al_ite, T.al_v, T.al_x, List.getElem?_cons_succ, if_true, Bool.false_eq_true, if_false]
    refine ⟨by decide, fun m _ _ => ?_⟩
    split
    · refine ⟨by decide, fun m _ _ => ?_⟩
      split <;> trivial
    · split <;> trivial
  | some n =>
    have hi : f_Day_init K [.str z, .int n] = .v rp := hi
    simp (implicitDefEqProofs := false) only [runT, gP, List.filterMap_cons, List.filterMap_nil, pLt, startD, List.map, topD, List.length, Nat.reduceAdd, Nat.reduceSub, List.replicate, List.cons_append, List.nil_append, fSeq_a, fSet_a, fCall_a, fCo_a, fV_a, lk_z, fC_a, fNil_a, T.bind_v, draw_, List.set_cons_succ, List.set_cons_zero, T.sx_dr, T.sx_v, thenC, fIfS_a, fAnd_a, fB_a, f2_a, pIsN_n, T.ofO_s, fRet_a, fIf_a, fMake_a, mkT, fNext_a, pCmp, T.bind_dr, lk_s, pEq_ii, tB, pIx_t, atI_1, isNon_int, atI_0, List.getElem?_cons_zero, T.nx_dr, al_drB, T.al_bind, T.al_nx, T.sx_al, al_ite, T.al_v, T.al_x, hi, as, ic, Bool.and_true, T.gd_t, List.getElem?_cons_succ, Bool.false_eq_true, if_false]
    refine ⟨by decide, fun m _ _ => ?_⟩
    split <;> split <;> trivial
theorem l_shown_ : f_l_shown K [ruleP K r] = .v (rowD r) := by
  unfold f_l_shown b_l_shown
  simp (implicitDefEqProofs := false) only [runT, startD, List.map, List.length, Nat.reduceAdd, Nat.reduceSub, List.replicate, List.cons_append, List.nil_append, fSeq_a, fRet_a, fTu_a, fCo_a, fProp_a, fV_a, lk_z, T.bind_v, isC_rule, rule_first_, T.nx_v, T.gd_t, rule_last_, rule_kind_, rule_number_, rule_rate_, fNil_a, Nat.reduceLeDiff, szOk_le, T.sx_v, thenC, fNext_a]
  rfl
theorem isi_day_rule (k : SaysF fa fn K) {ds : List D} : pIsi K (CS K) (.ins (He.ga K "Day") ds) (.ref (He.ga K "Rule")) = some (.bl false) := by
  unfold pIsi
  show (match PySem.W.kitOne K (.ref (He.ga K "Day")) (.ref (He.ga K "Rule")) with | some b => og (okTy (CS K) (.ref (He.ga K "Day"))) (.bl b) | none => none) = _
  rw [kitC_Day_Rule k]
  show og (decide (He.ga K "Day" ∈ CS K)) _ = _
  rw [decide_eq_true (by simp [CS])]; rfl
theorem isi_rule_day (k : SaysF fa fn K) {ds : List D} : pIsi K (CS K) (.ins (He.ga K "Rule") ds) (.ref (He.ga K "Day")) = some (.bl false) := by
  unfold pIsi
  show (match PySem.W.kitOne K (.ref (He.ga K "Rule")) (.ref (He.ga K "Day")) with | some b => og (okTy (CS K) (.ref (He.ga K "Rule"))) (.bl b) | none => none) = _
  rw [kitC_Rule_Day k]
  show og (decide (He.ga K "Rule" ∈ CS K)) _ = _
  rw [decide_eq_true (by simp [CS])]; rfl
theorem rule_eq (k : SaysF fa fn K) (h1 : RowP ra) (h2 : RowP rb) : f_Rule_eq K [ruleP K ra, ruleP K rb] = .v (.bl (eqD (rowD ra) (rowD rb))) := by
  have e : pEq false (rowD ra) (rowD rb) = some (.bl (eqD (rowD ra) (rowD rb))) := h1.dt.eq h2.dt
  unfold f_Rule_eq b_Rule_eq ruleP
  generalize eqD (rowD ra) (rowD rb) = bb at *
  simp (implicitDefEqProofs := false) only [runT, startD, List.map, List.length, Nat.reduceAdd, Nat.reduceSub, List.replicate, List.cons_append, List.nil_append, fSeq_a, fRet_a, fAndV_a, fCB_a, fCo_a, fV_a, lk_s, lk_z, fC_a, fNil_a, T.bind_v, p2, isi_rule k, T.ofO_s, tB, f2_a, f1_a, pSlot_same, List.getElem?_cons_zero, e, if_true, T.sx_v, thenC, fNext_a, T.nx_v]
theorem day_eq (k : SaysF fa fn K) (h1 : PairOk qa) (h2 : PairOk qb) : f_Day_eq K [dayP K qa, dayP K qb] = .v (.bl (eqD (pairD qa) (pairD qb))) := by
  have e : pEq false (pairD qa) (pairD qb) = some (.bl (eqD (pairD qa) (pairD qb))) := (pair_dt h1).eq (pair_dt h2)
  unfold f_Day_eq b_Day_eq dayP
  generalize eqD (pairD qa) (pairD qb) = bb at *
  simp (implicitDefEqProofs := false) only [runT, startD, List.map, List.length, Nat.reduceAdd, Nat.reduceSub, List.replicate, List.cons_append, List.nil_append, fSeq_a, fRet_a, fAndV_a, fCB_a, fCo_a, fV_a, lk_s, lk_z, fC_a, fNil_a, T.bind_v, p2, isi_day k, T.ofO_s, tB, f2_a, f1_a, pSlot_same, List.getElem?_cons_zero, e, if_true, T.sx_v, thenC, fNext_a, T.nx_v]
theorem rule_ne (x : D) (h : pIsi K (CS K) d (.ref (He.ga K "Rule")) = some (.bl false)) : f_Rule_eq K [x, d] = .v (.bl false) := by
  unfold f_Rule_eq b_Rule_eq
  simp (implicitDefEqProofs := false) only [runT, startD, List.map, List.length, Nat.reduceAdd, Nat.reduceSub, List.replicate, List.cons_append, List.nil_append, fSeq_a, fRet_a, fAndV_a, fCB_a, fCo_a, fV_a, lk_s, lk_z, fC_a, fNil_a, T.bind_v, p2, h, T.ofO_s, tB, f2_a, f1_a, Bool.false_eq_true, if_false, T.sx_v, thenC, fNext_a, T.nx_v]
theorem day_ne (x : D) (h : pIsi K (CS K) d (.ref (He.ga K "Day")) = some (.bl false)) : f_Day_eq K [x, d] = .v (.bl false) := by
  unfold f_Day_eq b_Day_eq
  simp (implicitDefEqProofs := false) only [runT, startD, List.map, List.length, Nat.reduceAdd, Nat.reduceSub, List.replicate, List.cons_append, List.nil_append, fSeq_a, fRet_a, fAndV_a, fCB_a, fCo_a, fV_a, lk_s, lk_z, fC_a, fNil_a, T.bind_v, p2, h, T.ofO_s, tB, f2_a, f1_a, Bool.false_eq_true, if_false, T.sx_v, thenC, fNext_a, T.nx_v]
structure OddR (K : PySem.W.Frag) (d : D) : Prop where
  ok : okO (CS K) d = true
  no : pIsi K (CS K) d (.ref (He.ga K "Rule")) = some (.bl false)
  rev : (plainL d = true ∧ isC (He.ga K "Day") d = false) ∨ isC (He.ga K "Day") d = true
structure OddD (K : PySem.W.Frag) (d : D) : Prop where
  ok : okO (CS K) d = true
  no : pIsi K (CS K) d (.ref (He.ga K "Day")) = some (.bl false)
  rev : (plainL d = true ∧ isC (He.ga K "Rule") d = false) ∨ isC (He.ga K "Rule") d = true
theorem oddR_plain (k : SaysF fa fn K) (hp : Plain d) (h : plainL d = true) : OddR K d := ⟨(by cases d <;> first | rfl | cases h), isi_pl_Rule k hp, .inl ⟨h, (by cases d <;> first | rfl | cases h)⟩⟩
theorem oddD_plain (k : SaysF fa fn K) (hp : Plain d) (h : plainL d = true) : OddD K d := ⟨(by cases d <;> first | rfl | cases h), isi_pl_Day k hp, .inl ⟨h, (by cases d <;> first | rfl | cases h)⟩⟩
theorem oddR_day (k : SaysF fa fn K) : OddR K (dayP K q) := ⟨okO_ins (by simp [CS]), isi_day_rule k, .inr isC_day⟩
theorem oddD_rule (k : SaysF fa fn K) : OddD K (ruleP K r) := ⟨okO_ins (by simp [CS]), isi_rule_day k, .inr isC_rule⟩
theorem OddR.rule (k : SaysF fa fn K) (h : OddR K d) {neg : Bool} {fx fy : FE} {l : Rho} (h1 : fx l = .v (ruleP K r)) (h2 : fy l = .v d) : fEqO (He.ga K "Rule") (CS K) (f_Rule_eq K) neg fx fy l = .v (.bl (ngB neg false)) := by
  have e := rule_ne (ruleP K r) h.no
  rw [fEqO_a, h1, h2]
  show T.bind (.v (ruleP K r)) _ = _
  rw [T.bind_v, T.bind_v, isC_rule, h.ok, e]
  rfl
theorem OddD.day (k : SaysF fa fn K) (h : OddD K d) {neg : Bool} {fx fy : FE} {l : Rho} (h1 : fx l = .v (dayP K q)) (h2 : fy l = .v d) : fEqO (He.ga K "Day") (CS K) (f_Day_eq K) neg fx fy l = .v (.bl (ngB neg false)) := by
  have e := day_ne (dayP K q) h.no
  rw [fEqO_a, h1, h2]
  show T.bind (.v (dayP K q)) _ = _
  rw [T.bind_v, T.bind_v, isC_day, h.ok, e]
  rfl
theorem OddR.rev_ (k : SaysF fa fn K) (h : OddR K d) {fx fy : FE} {l : Rho} (h1 : fx l = .v d) (h2 : fy l = .v (ruleP K r)) : fEqR (He.ga K "Day") (He.ga K "Rule") (CS K) (f_Day_eq K) (f_Rule_eq K) fx fy l = .v (.bl false) := by
  rw [fEqR_a, h1, h2]
  show T.bind (.v d) _ = _
  rw [T.bind_v, T.bind_v]
  rcases h.rev with ⟨hp, hc⟩ | hc
  · have e := rule_ne (ruleP K r) h.no
    have ii : isIns (He.ga K "Rule") (ruleP K r) = true := decide_eq_true rfl
    rw [hc, hp, ii, e]
    rfl
  · have e := day_ne (K := K) d (isi_rule_day k (ds := [rowD r]))
    have e : f_Day_eq K [d, ruleP K r] = .v (.bl false) := e
    have oo : okO (CS K) (ruleP K r) = true := okO_ins (by simp [CS])
    rw [hc, oo, e]
    rfl
theorem OddD.rev_ (k : SaysF fa fn K) (h : OddD K d) {fx fy : FE} {l : Rho} (h1 : fx l = .v d) (h2 : fy l = .v (dayP K q)) : fEqR (He.ga K "Rule") (He.ga K "Day") (CS K) (f_Rule_eq K) (f_Day_eq K) fx fy l = .v (.bl false) := by
  rw [fEqR_a, h1, h2]
  show T.bind (.v d) _ = _
  rw [T.bind_v, T.bind_v]
  rcases h.rev with ⟨hp, hc⟩ | hc
  · have e := day_ne (dayP K q) h.no
    have ii : isIns (He.ga K "Day") (dayP K q) = true := decide_eq_true rfl
    rw [hc, hp, ii, e]
    rfl
  · have e := rule_ne (K := K) d (isi_day_rule k (ds := [pairD q]))
    have e : f_Rule_eq K [d, dayP K q] = .v (.bl false) := e
    have oo : okO (CS K) (dayP K q) = true := okO_ins (by simp [CS])
    rw [hc, oo, e]
    rfl
theorem same_bools (b : Bool) : pEq true (.lst [.bl b, .bl b, .bl (!b), .bl true, .bl false]) (.lst [.bl b, .bl b, .bl (!b), .bl true, .bl false]) = some (.bl false) := by
  cases b <;> kernel_rfl
theorem repr_rows (ha : RowP ra) (hb : RowP rb) : ∃ z : Str, pReprQ (.lst [rowD ra, rowD rb, rowD ra]) = some (.str z) := by
  have dt : Dt (4 + 3 * (11000 + 2)) 2 (.lst [rowD ra, rowD rb, rowD ra]) := Dt.lst (k := 1) (fun x hx => by
    simp only [List.mem_cons, List.mem_nil_iff, or_false] at hx
    rcases hx with rfl | rfl | rfl
    · exact ha.dt
    · exact hb.dt
    · exact ha.dt) (Nat.le_refl 3)
  exact ⟨_, dt.repr_l⟩
theorem l_mixed_row_al (h : RowP r) : (f_l_mixed_row K [.ref p, rowD r]).al p (fun d => ∃ r', d = rowD r' ∧ RowP r') noX := by
  have er : rowD r = .tup [.str r.b, .str r.e, .str r.k, .int r.n, .int r.r] := rfl
  unfold f_l_mixed_row b_l_mixed_row
  refine runT_al (seq_n (fun l => ∃ w, RowP w ∧ l = [some (.ref p), some (rowD r), some (rowD w), none]) ?_ ?_)
  · generalize rowD r = rr at *
    simp (implicitDefEqProofs := false) only [startD, List.map, List.length, Nat.reduceAdd, Nat.reduceSub, List.replicate, List.cons_append, List.nil_append, fSet_a, fCall_a, fCo_a, fV_a, lk_z, fC_a, fNil_a, T.bind_v, List.set_cons_succ, List.set_cons_zero, T.sx_al, T.al_v, StepP, T.al_bind]
    refine T.al_mono (l_tags_al (n := 2) (by decide)) (fun d hd => ?_) fun _ _ h => h.elim
    obtain ⟨ts, rfl, ht⟩ := hd
    refine T.al_mono (l_row_al ht (by decide) (by decide)) (fun d hd => ?_) fun _ _ h => h.elim
    obtain ⟨w, rfl, hw, _⟩ := hd
    exact ⟨w, row_of ht.nm hw, rfl⟩
  rintro l ⟨w, hw, rfl⟩
  refine seq_n (fun l => ∃ j : Int, 0 ≤ j ∧ j < 7 ∧ l = [some (.ref p), some (rowD r), some (rowD w), some (.int j)]) ?_ ?_
  · generalize rowD r = rr at *
    generalize rowD w = ww at *
    simp (implicitDefEqProofs := false) only [fSet_a, fCall_a, fCo_a, fV_a, lk_z, fC_a, fNil_a, T.bind_v, draw_, List.set_cons_succ, List.set_cons_zero, T.sx_dr, T.sx_v, al_drB, T.al_v, StepP]
    exact ⟨by decide, fun j j0 j1 => ⟨j, j0, j1, rfl⟩⟩
  rintro l ⟨j, j0, j1, rfl⟩
  have mk : ∀ (b e k : Str) (n m : Int), NameZ b 8 → NameZ e 8 → k ∈ kindsS → (0 ≤ n ∧ n.natAbs.log2 < 200) → m.natAbs.log2 < 200 → Bt 150 n → ∃ r' : RowS, D.tup [.str b, .str e, .str k, .int n, .int m] = rowD r' ∧ RowP r' := fun b e k n m hb he hk hn hm hB =>
    ⟨⟨b, e, k, n, m⟩, rfl, hb, he, ⟨⟨0, 1, by omega, rfl, rfl⟩, hk, hn, hm, hB⟩⟩
  have ew : rowD w = .tup [.str w.b, .str w.e, .str w.k, .int w.n, .int w.r] := rfl
  have cases7 : j = 0 ∨ j = 1 ∨ j = 2 ∨ j = 3 ∨ j = 4 ∨ j = 5 ∨ j = 6 := by omega
  rw [er, ew]
  rcases cases7 with rfl | rfl | rfl | rfl | rfl | rfl | rfl
  · have c1 : cutD [D.str r.b, D.str r.e, D.str r.k, D.int r.n, D.int r.r] none (some 0) = ([] : List D) := rfl
    have c2 : cutD [D.str w.b, D.str w.e, D.str w.k, D.int w.n, D.int w.r] (some 0) (some 1) = [D.str w.b] := rfl
    have c3 : cutD [D.str r.b, D.str r.e, D.str r.k, D.int r.n, D.int r.r] (some 1) none = [D.str r.e, D.str r.k, D.int r.n, D.int r.r] := rfl
    simp (implicitDefEqProofs := false) only [fSeq_a, fRet_a, fIf_a, fB_a, f2_a, fV_a, lk_s, lk_z, fC_a, T.bind_v, pEq_ii, Int.reduceBEq, T.ofO_s, tB, fSl_a, fNoP_a, fPa_a, toI, pSl_t, c1, pAdd, Int.reduceAdd, c2, List.length, Nat.reduceAdd, Nat.reduceLeDiff, szOk_le, List.nil_append, og_t, c3, List.cons_append, Bool.false_eq_true, if_false, T.sx_v, thenC, fNext_a, T.al_v, RtQ]
    exact mk _ _ _ _ _ hw.b h.e h.ok.kd h.ok.num h.ok.rate h.ok.nb
  · have c1 : cutD [D.str r.b, D.str r.e, D.str r.k, D.int r.n, D.int r.r] none (some 1) = [D.str r.b] := rfl
    have c2 : cutD [D.str w.b, D.str w.e, D.str w.k, D.int w.n, D.int w.r] (some 1) (some 2) = [D.str w.e] := rfl
    have c3 : cutD [D.str r.b, D.str r.e, D.str r.k, D.int r.n, D.int r.r] (some 2) none = [D.str r.k, D.int r.n, D.int r.r] := rfl
    simp (implicitDefEqProofs := false) only [fSeq_a, fRet_a, fIf_a, fB_a, f2_a, fV_a, lk_s, lk_z, fC_a, T.bind_v, pEq_ii, Int.reduceBEq, T.ofO_s, tB, fSl_a, fNoP_a, fPa_a, toI, pSl_t, c1, pAdd, Int.reduceAdd, c2, List.length, Nat.reduceAdd, Nat.reduceLeDiff, szOk_le, List.cons_append, List.nil_append, og_t, c3, Bool.false_eq_true, if_false, T.sx_v, thenC, fNext_a, T.al_v, RtQ]
    exact mk _ _ _ _ _ h.b hw.e h.ok.kd h.ok.num h.ok.rate h.ok.nb
  · have c1 : cutD [D.str r.b, D.str r.e, D.str r.k, D.int r.n, D.int r.r] none (some 2) = [D.str r.b, D.str r.e] := rfl
    have c2 : cutD [D.str w.b, D.str w.e, D.str w.k, D.int w.n, D.int w.r] (some 2) (some 3) = [D.str w.k] := rfl
    have c3 : cutD [D.str r.b, D.str r.e, D.str r.k, D.int r.n, D.int r.r] (some 3) none = [D.int r.n, D.int r.r] := rfl
    simp (implicitDefEqProofs := false) only [fSeq_a, fRet_a, fIf_a, fB_a, f2_a, fV_a, lk_s, lk_z, fC_a, T.bind_v, pEq_ii, Int.reduceBEq, T.ofO_s, tB, fSl_a, fNoP_a, fPa_a, toI, pSl_t, c1, pAdd, Int.reduceAdd, c2, List.length, Nat.reduceAdd, Nat.reduceLeDiff, szOk_le, List.cons_append, List.nil_append, og_t, c3, Bool.false_eq_true, if_false, T.sx_v, thenC, fNext_a, T.al_v, RtQ]
    exact mk _ _ _ _ _ h.b h.e hw.ok.kd h.ok.num h.ok.rate h.ok.nb
  · have c1 : cutD [D.str r.b, D.str r.e, D.str r.k, D.int r.n, D.int r.r] none (some 3) = [D.str r.b, D.str r.e, D.str r.k] := rfl
    have c2 : cutD [D.str w.b, D.str w.e, D.str w.k, D.int w.n, D.int w.r] (some 3) (some 4) = [D.int w.n] := rfl
    have c3 : cutD [D.str r.b, D.str r.e, D.str r.k, D.int r.n, D.int r.r] (some 4) none = [D.int r.r] := rfl
    simp (implicitDefEqProofs := false) only [fSeq_a, fRet_a, fIf_a, fB_a, f2_a, fV_a, lk_s, lk_z, fC_a, T.bind_v, pEq_ii, Int.reduceBEq, T.ofO_s, tB, fSl_a, fNoP_a, fPa_a, toI, pSl_t, c1, pAdd, Int.reduceAdd, c2, List.length, Nat.reduceAdd, Nat.reduceLeDiff, szOk_le, List.cons_append, List.nil_append, og_t, c3, Bool.false_eq_true, if_false, T.sx_v, thenC, fNext_a, T.al_v, RtQ]
    exact mk _ _ _ _ _ h.b h.e h.ok.kd hw.ok.num h.ok.rate hw.ok.nb
  · have c1 : cutD [D.str r.b, D.str r.e, D.str r.k, D.int r.n, D.int r.r] none (some 4) = [D.str r.b, D.str r.e, D.str r.k, D.int r.n] := rfl
    have c2 : cutD [D.str w.b, D.str w.e, D.str w.k, D.int w.n, D.int w.r] (some 4) (some 5) = [D.int w.r] := rfl
    have c3 : cutD [D.str r.b, D.str r.e, D.str r.k, D.int r.n, D.int r.r] (some 5) none = ([] : List D) := rfl
    simp (implicitDefEqProofs := false) only [fSeq_a, fRet_a, fIf_a, fB_a, f2_a, fV_a, lk_s, lk_z, fC_a, T.bind_v, pEq_ii, Int.reduceBEq, T.ofO_s, tB, fSl_a, fNoP_a, fPa_a, toI, pSl_t, c1, pAdd, Int.reduceAdd, c2, List.length, Nat.reduceAdd, Nat.reduceLeDiff, szOk_le, List.cons_append, List.nil_append, og_t, c3, Bool.false_eq_true, if_false, T.sx_v, thenC, fNext_a, T.al_v, RtQ]
    exact mk _ _ _ _ _ h.b h.e h.ok.kd h.ok.num hw.ok.rate h.ok.nb
  · have c1 : cutD [D.str r.b, D.str r.e, D.str r.k, D.int r.n, D.int r.r] none (some 5) = [D.str r.b, D.str r.e, D.str r.k, D.int r.n, D.int r.r] := rfl
    have c2 : cutD [D.str w.b, D.str w.e, D.str w.k, D.int w.n, D.int w.r] (some 5) (some 6) = ([] : List D) := rfl
    have c3 : cutD [D.str r.b, D.str r.e, D.str r.k, D.int r.n, D.int r.r] (some 6) none = ([] : List D) := rfl
    simp (implicitDefEqProofs := false) only [fSeq_a, fRet_a, fIf_a, fB_a, f2_a, fV_a, lk_s, lk_z, fC_a, T.bind_v, pEq_ii, Int.reduceBEq, T.ofO_s, tB, fSl_a, fNoP_a, fPa_a, toI, pSl_t, c1, pAdd, Int.reduceAdd, c2, List.length, Nat.reduceAdd, Nat.reduceLeDiff, szOk_le, List.cons_append, List.nil_append, og_t, c3, Bool.false_eq_true, if_false, T.sx_v, thenC, fNext_a, T.al_v, RtQ]
    exact mk _ _ _ _ _ h.b h.e h.ok.kd h.ok.num h.ok.rate h.ok.nb
  · simp (implicitDefEqProofs := false) only [fSeq_a, fRet_a, fIf_a, fB_a, f2_a, fV_a, lk_s, lk_z, fC_a, T.bind_v, pEq_ii, Int.reduceBEq, T.ofO_s, tB, fSl_a, fNoP_a, fPa_a, toI, pAdd, if_true, T.sx_v, thenC, fNext_a, T.al_v, RtQ]
    exact mk _ _ _ _ _ hw.b hw.e hw.ok.kd hw.ok.num hw.ok.rate hw.ok.nb
theorem beqS (a b : Str) : (a == b) = (b == a) := by rw [Bool.eq_iff_iff, beq_iff_eq, beq_iff_eq]; exact eq_comm
theorem beqI (a b : Int) : (a == b) = (b == a) := by rw [Bool.eq_iff_iff, beq_iff_eq, beq_iff_eq]; exact eq_comm
theorem eqD_row : eqD (rowD ra) (rowD rb) = eqD (rowD rb) (rowD ra) := by
  have e : ∀ x y : RowS, eqD (rowD x) (rowD y) = (x.b == y.b && (x.e == y.e && (x.k == y.k && (x.n == y.n && (x.r == y.r && true))))) := fun _ _ => rfl
  rw [e, e, beqS ra.b, beqS ra.e, beqS ra.k, beqI ra.n, beqI ra.r]
theorem eqD_pair : eqD (pairD qa) (pairD qb) = eqD (pairD qb) (pairD qa) := by
  obtain ⟨z, t⟩ := qa
  obtain ⟨y, u⟩ := qb
  cases t with
  | none =>
    cases u with
    | none =>
      show (z == y && (true && true)) = (y == z && (true && true))
      rw [beqS z]
    | some n =>
      show (z == y && (false && true)) = (y == z && (false && true))
      rw [beqS z]
  | some m =>
    cases u with
    | none =>
      show (z == y && (false && true)) = (y == z && (false && true))
      rw [beqS z]
    | some n =>
      show (z == y && (m == n && true)) = (y == z && (n == m && true))
      rw [beqS z, beqI m]
theorem rules_right_al (k : SaysF fa fn K) : (f_l_rules_right K [.ref p]).al p (fun d => d = .bl true) noX := by
  unfold f_l_rules_right b_l_rules_right
  refine runT_al (seq_n (fun l => ∃ ra, RowP ra ∧ l = [some (.ref p), some (rowD ra), none, none, none, none, none, none, none]) ?_ ?_)
  · simp (implicitDefEqProofs := false) only [startD, List.map, List.length, Nat.reduceAdd, Nat.reduceSub, List.replicate, List.cons_append, List.nil_append, fSet_a, fCall_a, fCo_a, fV_a, lk_z, fC_a, fNil_a, T.bind_v, List.set_cons_succ, List.set_cons_zero, T.sx_al, T.al_v, StepP, T.al_bind]
    refine T.al_mono (l_tags_al (n := 2) (by decide)) (fun d hd => ?_) fun _ _ h => h.elim
    obtain ⟨ts, rfl, ht⟩ := hd
    refine T.al_mono (l_row_al ht (by decide) (by decide)) (fun d hd => ?_) fun _ _ h => h.elim
    obtain ⟨w, rfl, hw, _⟩ := hd
    exact ⟨w, row_of ht.nm hw, rfl⟩
  rintro l ⟨ra, ha, rfl⟩
  refine seq_n (fun l => ∃ rb, RowP rb ∧ l = [some (.ref p), some (rowD ra), some (rowD rb), none, none, none, none, none, none]) ?_ ?_
  · generalize hw : rowD ra = rr at *
    simp (implicitDefEqProofs := false) only [fSet_a, fCall_a, fCo_a, fV_a, lk_z, lk_s, fNil_a, T.bind_v, List.set_cons_succ, List.set_cons_zero, T.sx_al, T.al_v, StepP]
    rw [← hw]
    refine T.al_mono (l_mixed_row_al ha) (fun d hd => ?_) fun _ _ h => h.elim
    obtain ⟨rb, rfl, hb⟩ := hd
    exact ⟨rb, hb, rfl⟩
  rintro l ⟨rb, hb, rfl⟩
  refine seq_n (fun l => l = [some (.ref p), some (rowD ra), some (rowD rb), some (ruleP K ra), some (ruleP K rb), some (ruleP K ra), none, none, none]) ?_ ?_
  · have m1 := l_made_rule_al (K := K) (p := p) ha
    have m2 := l_made_rule_al (K := K) (p := p) hb
    generalize rowD ra = da at *
    generalize rowD rb = db at *
    simp (implicitDefEqProofs := false) only [fPar3_a, fCo_a, fCall_a, fV_a, lk_z, lk_s, fNil_a, T.bind_v, List.set_cons_succ, List.set_cons_zero, T.sx_al, StepP, T.al_bind, T.al_v]
    refine T.al_mono m1 (fun d hd => ?_) fun _ _ h => h.elim
    subst hd
    refine T.al_mono m2 (fun d hd => ?_) fun _ _ h => h.elim
    subst hd
    refine T.al_mono m1 (fun d hd => ?_) fun _ _ h => h.elim
    subst hd
    rfl
  rintro l rfl
  obtain ⟨z, hr⟩ := repr_rows ha hb
  have s1 : f_l_shown K [ruleP K ra] = .v (rowD ra) := l_shown_
  have s2 : f_l_shown K [ruleP K rb] = .v (rowD rb) := l_shown_
  have e0 : pEq false (rowD ra) (rowD rb) = some (.bl (eqD (rowD ra) (rowD rb))) := ha.dt.eq hb.dt
  have e1 := rule_eq k ha hb
  have e2 := rule_eq k hb ha
  have e3 := rule_eq k ha ha
  have c1 : eqD (rowD rb) (rowD ra) = eqD (rowD ra) (rowD rb) := eqD_row
  have c2 : eqD (rowD ra) (rowD ra) = true := ha.dt.eq_self
  rw [c1] at e2
  rw [c2] at e3
  have i1 : isC (He.ga K "Rule") (ruleP K ra) = true := isC_rule
  have i2 : isC (He.ga K "Rule") (ruleP K rb) = true := isC_rule
  have o1 : okO (CS K) (ruleP K ra) = true := okO_ins (by simp [CS])
  have o2 : okO (CS K) (ruleP K rb) = true := okO_ins (by simp [CS])
  have sb := same_bools (eqD (rowD ra) (rowD rb))
  have x0 : pIx (rowD ra) (.int 0) = some (.str ra.b) := rfl
  have xl : pList (rowD ra) = some (.lst (rowL ra)) := rfl
  have dn : f_Day_init K [.str ra.b, .int 1] = .v (dayP K (ra.b, some 1)) := Day_init_z ha.b trivial rfl
  have d1 : isC (He.ga K "Day") (dayP K (ra.b, some 1)) = true := isC_day
  have d2 : allSet (dayP K (ra.b, some 1)) = true := rfl
  have p1_ : OddR K (rowD ra) := oddR_plain k trivial rfl
  have p2_ : OddR K (.str ra.b) := oddR_plain k trivial rfl
  have p3_ : OddR K (.lst (rowL ra)) := oddR_plain k trivial rfl
  have p4_ : OddR K (dayP K (ra.b, some 1)) := oddR_day k
  have n0 : OddR K .non := oddR_plain k trivial rfl
  have n1 : OddR K (.int 0) := oddR_plain k trivial rfl
  have n2 : OddR K (.dic []) := oddR_plain k trivial rfl
  have fin : pEq false (.lst [.bl false, .bl true, .bl false, .bl true]) (.lst [.bl false, .bl true, .bl false, .bl true]) = some (.bl true) := by kernel_rfl
  generalize eqD (rowD ra) (rowD rb) = bb at *
  have last : ∀ d, OddR K d → (∀ fx fy l, fx l = .v (ruleP K ra) → fy l = .v d → fEqO (He.ga K "Rule") (CS K) (f_Rule_eq K) false fx fy l = .v (.bl false)) ∧ (∀ fx fy l, fx l = .v (ruleP K ra) → fy l = .v d → fEqO (He.ga K "Rule") (CS K) (f_Rule_eq K) true fx fy l = .v (.bl true)) ∧ (∀ fx fy l, fx l = .v d → fy l = .v (ruleP K ra) → fEqR (He.ga K "Day") (He.ga K "Rule") (CS K) (f_Day_eq K) (f_Rule_eq K) fx fy l = .v (.bl false)) := fun d hd =>
    ⟨fun fx fy l a b => hd.rule k a b, fun fx fy l a b => hd.rule k a b, fun fx fy l a b => hd.rev_ k a b⟩
  generalize dayP K (ra.b, some 1) = dp at *
  generalize ruleP K ra = pa at *
  generalize ruleP K rb = pb at *
  unfold rowD at *
  generalize rowL ra = xs at *
  generalize rowL rb = ys at *
  refine seq_n (fun l => l = [some (.ref p), some (.tup xs), some (.tup ys), some pa, some pb, some pa, none, none, none]) ?_ ?_
  · simp (implicitDefEqProofs := false) only [fIfS_a, fB_a, f2_a, fCB_a, fCo_a, fLs_a, fCall_a, fV_a, lk_s, lk_z, fNil_a, T.bind_v, s1, s2, List.length, Nat.reduceAdd, Nat.reduceLeDiff, szOk_le, T.gd_t, p1, hr, T.ofO_s, pNeT_ss, decide_true, Bool.not_true, tB, fSeq_a, fRet_a, fC_a, T.sx_v, thenC, fNext_a, Bool.false_eq_true, if_false, T.al_v, StepP]
  rintro l rfl
  refine seq_n (fun l => l = [some (.ref p), some (.tup xs), some (.tup ys), some pa, some pb, some pa, some (.lst [.bl bb, .bl bb, .bl (!bb), .bl true, .bl false]), some (.bl bb), none]) ?_ ?_
  · simp (implicitDefEqProofs := false) only [fPar_a, fCo_a, fLs_a, fEqO_a, fV_a, lk_s, lk_z, tB, ngB_f, T.bind_v, o2, T.gd_t, i1, e1, T.nx_v, o1, i2, e2, ngB_t, e3, Bool.not_true, fNil_a, List.length, Nat.reduceAdd, Nat.reduceLeDiff, szOk_le, f2_a, e0, T.ofO_s, List.set_cons_succ, List.set_cons_zero, T.sx_v, T.al_v, StepP]
  rintro l rfl
  refine seq_n (fun l => l = [some (.ref p), some (.tup xs), some (.tup ys), some pa, some pb, some pa, some (.lst [.bl bb, .bl bb, .bl (!bb), .bl true, .bl false]), some (.bl bb), none]) ?_ ?_
  · simp (implicitDefEqProofs := false) only [fIfS_a, fB_a, f2_a, fV_a, lk_s, lk_z, fLs_a, fCo_a, fNotV_a, tB, T.bind_v, fC_a, fNil_a, List.length, Nat.reduceAdd, Nat.reduceLeDiff, szOk_le, T.gd_t, sb, T.ofO_s, fSeq_a, fRet_a, T.sx_v, thenC, fNext_a, Bool.false_eq_true, if_false, T.al_v, StepP]
  rintro l rfl
  refine seq_n (fun l => ∃ d, OddR K d ∧ l = [some (.ref p), some (.tup xs), some (.tup ys), some pa, some pb, some pa, some (.lst [.bl bb, .bl bb, .bl (!bb), .bl true, .bl false]), some (.bl bb), some d]) ?_ ?_
  · simp (implicitDefEqProofs := false) only [fSet_a, fCall_a, fCo_a, fV_a, lk_z, fLs_a, lk_s, f2_a, fC_a, T.bind_v, x0, T.ofO_s, fCB_a, fNil_a, p1, pList, sq, Option.map_some, fMake_a, mkT, dn, d2, d1, Bool.and_true, T.gd_t, List.length, Nat.reduceAdd, Nat.reduceLeDiff, szOk_le, List.set_cons_succ, List.set_cons_zero, T.sx_al, T.al_v, StepP]
    refine pick_al rfl rfl fun y hy => ?_
    simp only [List.mem_cons, List.mem_nil_iff, or_false] at hy
    rcases hy with rfl | rfl | rfl | rfl | rfl | rfl | rfl
    · exact ⟨_, p1_, rfl⟩
    · exact ⟨_, p2_, rfl⟩
    · exact ⟨_, n0, rfl⟩
    · exact ⟨_, n1, rfl⟩
    · exact ⟨_, p3_, rfl⟩
    · exact ⟨_, n2, rfl⟩
    · exact ⟨_, p4_, rfl⟩
  rintro l ⟨d, hd, rfl⟩
  obtain ⟨l1, l2, l3⟩ := last d hd
  have k1 := l1 (fV 3) (fV 8) [some (.ref p), some (.tup xs), some (.tup ys), some pa, some pb, some pa, some (.lst [.bl bb, .bl bb, .bl (!bb), .bl true, .bl false]), some (.bl bb), some d] (by simp (implicitDefEqProofs := false) only [fV_a, lk_s, lk_z]) (by simp (implicitDefEqProofs := false) only [fV_a, lk_s, lk_z])
  have k2 := l2 (fV 3) (fV 8) [some (.ref p), some (.tup xs), some (.tup ys), some pa, some pb, some pa, some (.lst [.bl bb, .bl bb, .bl (!bb), .bl true, .bl false]), some (.bl bb), some d] (by simp (implicitDefEqProofs := false) only [fV_a, lk_s, lk_z]) (by simp (implicitDefEqProofs := false) only [fV_a, lk_s, lk_z])
  have k3 := l3 (fV 8) (fV 3) [some (.ref p), some (.tup xs), some (.tup ys), some pa, some pb, some pa, some (.lst [.bl bb, .bl bb, .bl (!bb), .bl true, .bl false]), some (.bl bb), some d] (by simp (implicitDefEqProofs := false) only [fV_a, lk_s, lk_z]) (by simp (implicitDefEqProofs := false) only [fV_a, lk_s, lk_z])
  have k4 : fTru (He.ga K "Rule") (fV 3) [some (.ref p), some (.tup xs), some (.tup ys), some pa, some pb, some pa, some (.lst [.bl bb, .bl bb, .bl (!bb), .bl true, .bl false]), some (.bl bb), some d] = .v (.bl true) := by simp (implicitDefEqProofs := false) only [fTru_a, fV_a, lk_s, lk_z, T.bind_v, i1, T.gd_t]
  have ls : fLs (fCo (fEqO (He.ga K "Rule") (CS K) (f_Rule_eq K) false (fV 3) (fV 8)) (fCo (fEqO (He.ga K "Rule") (CS K) (f_Rule_eq K) true (fV 3) (fV 8)) (fCo (fEqR (He.ga K "Day") (He.ga K "Rule") (CS K) (f_Day_eq K) (f_Rule_eq K) (fV 8) (fV 3)) (fCo (fTru (He.ga K "Rule") (fV 3)) fNil)))) [some (.ref p), some (.tup xs), some (.tup ys), some pa, some pb, some pa, some (.lst [.bl bb, .bl bb, .bl (!bb), .bl true, .bl false]), some (.bl bb), some d] = .v (.lst [.bl false, .bl true, .bl false, .bl true]) := by
    rw [fLs_a, fCo_a, fCo_a, fCo_a, fCo_a, fNil_a, k1, k2, k3, k4]
    rfl
  rw [fSeq_a, fRet_a, f2_a, ls]
  simp (implicitDefEqProofs := false) only [fLs_a, fCo_a, fC_a, fNil_a, T.bind_v, List.length, Nat.reduceAdd, Nat.reduceLeDiff, szOk_le, T.gd_t, fin, T.ofO_s, T.sx_v, thenC, fNext_a, T.al_v, RtQ]
theorem top_dt (h : PairOk qa) : Dt 2000 0 (topD qa.2) := by
  cases e : qa.2 with
  | none => exact Dt.non.up
  | some n => exact Dt.int (by have := (h.top n e).2; omega)
theorem repr_days (ha : PairOk qa) (hb : PairOk qb) : ∃ z : Str, pReprQ (.lst [.str qa.1, topD qa.2, .str qb.1, topD qb.2, .str qa.1, topD qa.2]) = some (.str z) := by
  have sa : Dt 2000 0 (.str qa.1) := (Dt.str ha.nm.tx).up
  have sb : Dt 2000 0 (.str qb.1) := (Dt.str hb.nm.tx).up
  have ta := top_dt ha
  have tb := top_dt hb
  have dt : Dt (4 + 6 * (2000 + 2)) 1 (.lst [.str qa.1, topD qa.2, .str qb.1, topD qb.2, .str qa.1, topD qa.2]) := Dt.lst (k := 0) (fun x hx => by
    simp only [List.mem_cons, List.mem_nil_iff, or_false] at hx
    rcases hx with rfl | rfl | rfl | rfl | rfl | rfl
    · exact sa
    · exact ta
    · exact sb
    · exact tb
    · exact sa
    · exact ta) (Nat.le_refl 6)
  exact ⟨_, dt.repr_l⟩
theorem plain_top (t : Option Int) : Plain (topD t) ∧ plainL (topD t) = true := by
  cases t <;> exact ⟨trivial, rfl⟩
def topOk (t : Option Int) : Prop := ∀ n, t = some n → 0 ≤ n ∧ n.natAbs.log2 < 200
theorem top_of (h : TopD d) : ∃ t, d = topD t ∧ topOk t := by
  rcases h with rfl | ⟨n, rfl, h0, h1⟩
  · exact ⟨none, rfl, fun n e => by cases e⟩
  · exact ⟨some n, rfl, fun m e => by cases e; exact ⟨h0, Num1.log (by omega) h1⟩⟩
theorem days_right_al (k : SaysF fa fn K) : (f_l_days_right K [.ref p]).al p (fun d => d = .bl true) noX := by
  unfold f_l_days_right b_l_days_right
  refine runT_al (seq_n (fun l => ∃ (z y : Str) (t : Option Int), NameZ z 8 ∧ NameZ y 8 ∧ topOk t ∧ l = [some (.ref p), some (.lst [.str z, .str y]), some (topD t), none, none, none, none, none, none, none, none]) ?_ ?_)
  · simp (implicitDefEqProofs := false) only [startD, List.map, List.length, Nat.reduceAdd, Nat.reduceSub, List.replicate, List.cons_append, List.nil_append, fPar_a, fCo_a, fCall_a, fV_a, lk_z, fC_a, fNil_a, T.bind_v, List.set_cons_succ, List.set_cons_zero, T.sx_al, StepP, T.al_bind, T.al_v]
    refine T.al_mono (l_tags_al (n := 2) (by decide)) (fun d hd => ?_) fun _ _ h => h.elim
    obtain ⟨ts, rfl, ht⟩ := hd
    obtain ⟨z, y, rfl⟩ : ∃ z y, ts = [z, y] := by
      have := ht.len
      match ts, this with
      | [z, y], _ => exact ⟨z, y, rfl⟩
    refine T.al_mono l_top_al (fun d hd => ?_) fun _ _ h => h.elim
    obtain ⟨t, rfl, hT⟩ := top_of hd
    exact ⟨z, y, t, ht.nm z (by simp), ht.nm y (by simp), hT, rfl⟩
  rintro l ⟨z, y, t, hz, hy, ht, rfl⟩
  refine seq_n (fun l => l = [some (.ref p), some (.lst [.str z, .str y]), some (topD t), some (pairD (z, t)), none, none, none, none, none, none, none]) ?_ ?_
  · have er : pairD (z, t) = .tup [.str z, topD t] := rfl
    rw [er]
    generalize topD t = td at *
    simp (implicitDefEqProofs := false) only [fSet_a, fTu_a, fCo_a, f2_a, fV_a, lk_s, lk_z, fC_a, T.bind_v, pIx_l, atI_0, T.ofO_s, fNil_a, List.length, Nat.reduceAdd, Nat.reduceLeDiff, szOk_le, T.gd_t, List.set_cons_succ, List.set_cons_zero, T.sx_v, T.al_v, StepP]
  rintro l rfl
  refine seq_n (fun l => ∃ q2, PairOk q2 ∧ l = [some (.ref p), some (.lst [.str z, .str y]), some (topD t), some (pairD (z, t)), some (pairD q2), none, none, none, none, none, none]) ?_ ?_
  · have hp : ∀ (w : Str) (u : Option Int), NameZ w 8 → topOk u → ∃ q2, PairOk q2 ∧ D.tup [.str w, topD u] = pairD q2 := fun w u hw hu => ⟨(w, u), ⟨hw, hu⟩, rfl⟩
    have h0 : topOk (some 0) := fun n e => by cases e; exact ⟨by omega, by decide⟩
    have hn : topOk none := fun n e => by cases e
    have i2 : ∀ (j : Int), 0 ≤ j → j < 2 → ∃ w, NameZ w 8 ∧ atI [D.str z, D.str y] j = some (.str w) := fun j j0 j1 => by
      have : j = 0 ∨ j = 1 := by omega
      rcases this with rfl | rfl
      · exact ⟨z, hz, rfl⟩
      · exact ⟨y, hy, rfl⟩
    have i4 : ∀ (v : Option Int) (j : Int), topOk v → 0 ≤ j → j < 4 → ∃ u, topOk u ∧ atI [topD t, topD v, D.int 0, D.non] j = some (topD u) := fun v j hv j0 j1 => by
      have : j = 0 ∨ j = 1 ∨ j = 2 ∨ j = 3 := by omega
      rcases this with rfl | rfl | rfl | rfl
      · exact ⟨t, ht, rfl⟩
      · exact ⟨v, hv, rfl⟩
      · exact ⟨some 0, h0, rfl⟩
      · exact ⟨none, hn, rfl⟩
    generalize pairD (z, t) = pd at *
    generalize topD t = td at *
    simp (implicitDefEqProofs := false) only [fSet_a, fTu_a, fCo_a, f2_a, fV_a, lk_s, lk_z, fCall_a, fC_a, fNil_a, T.bind_v, draw_, T.bind_dr, pIx_l, fLs_a, List.set_cons_succ, List.set_cons_zero, T.sx_dr, al_drB, T.sx_al, T.al_v, StepP, T.al_bind, List.length, Nat.reduceAdd, Nat.reduceLeDiff, szOk_le, T.gd_t]
    refine ⟨by decide, fun j j0 j1 => ?_⟩
    obtain ⟨w, hw, ew⟩ := i2 j j0 j1
    simp (implicitDefEqProofs := false) only [ew, T.ofO_s, T.al_v]
    refine T.al_mono l_top_al (fun d hd => ?_) fun _ _ h => h.elim
    obtain ⟨v, rfl, hv⟩ := top_of hd
    refine ⟨by decide, fun j j0 j1 => ?_⟩
    obtain ⟨u, hu, eu⟩ := i4 v j hv j0 j1
    simp (implicitDefEqProofs := false) only [eu, T.ofO_s, T.al_v]
    obtain ⟨q2, h2, e2⟩ := hp w u hw hu
    exact ⟨q2, h2, by rw [e2]⟩
  rintro l ⟨qb, hb, rfl⟩
  have ha : PairOk (z, t) := ⟨hz, ht⟩
  refine seq_n (fun l => l = [some (.ref p), some (.lst [.str z, .str y]), some (topD t), some (pairD (z, t)), some (pairD qb), some (dayP K (z, t)), some (dayP K qb), some (dayP K (z, t)), none, none, none]) ?_ ?_
  · have m1 := l_made_day_al (K := K) (p := p) ha
    have m2 := l_made_day_al (K := K) (p := p) hb
    generalize pairD (z, t) = da at *
    generalize pairD qb = db at *
    generalize topD t = td at *
    simp (implicitDefEqProofs := false) only [fPar3_a, fCo_a, fCall_a, fV_a, lk_z, lk_s, fNil_a, T.bind_v, List.set_cons_succ, List.set_cons_zero, T.sx_al, StepP, T.al_bind, T.al_v]
    refine T.al_mono m1 (fun d hd => ?_) fun _ _ h => h.elim
    subst hd
    refine T.al_mono m2 (fun d hd => ?_) fun _ _ h => h.elim
    subst hd
    refine T.al_mono m1 (fun d hd => ?_) fun _ _ h => h.elim
    subst hd
    rfl
  rintro l rfl
  obtain ⟨zz, hr⟩ := repr_days ha hb
  have hr : pReprQ (.lst [.str z, topD t, .str qb.1, topD qb.2, .str z, topD t]) = some (.str zz) := hr
  have s1 : f_Day_name K [dayP K (z, t)] = .v (.str z) := day_name_
  have s2 : f_Day_most K [dayP K (z, t)] = .v (topD t) := day_most_
  have s3 : f_Day_name K [dayP K qb] = .v (.str qb.1) := day_name_
  have s4 : f_Day_most K [dayP K qb] = .v (topD qb.2) := day_most_
  have e0 : pEq false (.tup [.str z, topD t]) (.tup [.str qb.1, topD qb.2]) = some (.bl (eqD (pairD (z, t)) (pairD qb))) := (pair_dt ha).eq (pair_dt hb)
  have e1 := day_eq k ha hb
  have e2 := day_eq k hb ha
  have e3 := day_eq k ha ha
  have c1 : eqD (pairD qb) (pairD (z, t)) = eqD (pairD (z, t)) (pairD qb) := eqD_pair
  have c2 : eqD (pairD (z, t)) (pairD (z, t)) = true := (pair_dt ha).eq_self
  rw [c1] at e2
  rw [c2] at e3
  have i1 : isC (He.ga K "Day") (dayP K (z, t)) = true := isC_day
  have i2 : isC (He.ga K "Day") (dayP K qb) = true := isC_day
  have o1 : okO (CS K) (dayP K (z, t)) = true := okO_ins (by simp [CS])
  have o2 : okO (CS K) (dayP K qb) = true := okO_ins (by simp [CS])
  have sb := same_bools (eqD (pairD (z, t)) (pairD qb))
  have hw : RowP ⟨z, z, "upto", 1, 1⟩ := ⟨hz, hz, ⟨⟨0, 1, by omega, rfl, rfl⟩, by simp [kindsS], (show (0 : Int) ≤ 1 ∧ (1 : Int).natAbs.log2 < 200 from ⟨by decide, by decide⟩), (show (1 : Int).natAbs.log2 < 200 by decide), (show (1 : Int).natAbs < 2 ^ 150 by decide)⟩⟩
  have dn : f_Rule_init K [.str z, .str z, .str "upto", .int 1, .int 1] = .v (ruleP K ⟨z, z, "upto", 1, 1⟩) := hw.init
  have d1 : isC (He.ga K "Rule") (ruleP K ⟨z, z, "upto", 1, 1⟩) = true := isC_rule
  have d2 : allSet (ruleP K ⟨z, z, "upto", 1, 1⟩) = true := rfl
  have p1_ : OddD K (.tup [.str z, topD t]) := oddD_plain k trivial rfl
  have p2_ : OddD K (.str z) := oddD_plain k trivial rfl
  have p3_ : OddD K (topD t) := oddD_plain k (plain_top t).1 (plain_top t).2
  have p4_ : OddD K (ruleP K ⟨z, z, "upto", 1, 1⟩) := oddD_rule k
  have n0 : OddD K .non := oddD_plain k trivial rfl
  have n1 : OddD K (.lst []) := oddD_plain k trivial rfl
  have n2 : OddD K (.dic []) := oddD_plain k trivial rfl
  have fin : pEq false (.lst [.bl false, .bl true, .bl false, .bl true]) (.lst [.bl false, .bl true, .bl false, .bl true]) = some (.bl true) := by kernel_rfl
  have last : ∀ d, OddD K d → (∀ fx fy l, fx l = .v (dayP K (z, t)) → fy l = .v d → fEqO (He.ga K "Day") (CS K) (f_Day_eq K) false fx fy l = .v (.bl false)) ∧ (∀ fx fy l, fx l = .v (dayP K (z, t)) → fy l = .v d → fEqO (He.ga K "Day") (CS K) (f_Day_eq K) true fx fy l = .v (.bl true)) ∧ (∀ fx fy l, fx l = .v d → fy l = .v (dayP K (z, t)) → fEqR (He.ga K "Rule") (He.ga K "Day") (CS K) (f_Rule_eq K) (f_Day_eq K) fx fy l = .v (.bl false)) := fun d hd =>
    ⟨fun fx fy l a b => hd.day k a b, fun fx fy l a b => hd.day k a b, fun fx fy l a b => hd.rev_ k a b⟩
  generalize eqD (pairD (z, t)) (pairD qb) = bb at *
  generalize ruleP K ⟨z, z, "upto", 1, 1⟩ = dp at *
  generalize dayP K (z, t) = pa at *
  generalize dayP K qb = pb at *
  have ea : pairD (z, t) = .tup [.str z, topD t] := rfl
  have eb : pairD qb = .tup [.str qb.1, topD qb.2] := rfl
  rw [ea, eb]
  clear ea eb ha hb ht c1 c2
  generalize topD t = td at *
  generalize topD qb.2 = ud at *
  refine seq_n (fun l => l = [some (.ref p), some (.lst [.str z, .str y]), some td, some (.tup [.str z, td]), some (.tup [.str qb.1, ud]), some pa, some pb, some pa, none, none, none]) ?_ ?_
  · simp (implicitDefEqProofs := false) only [fIfS_a, fB_a, f2_a, fCB_a, fCo_a, fLs_a, fProp_a, fV_a, lk_s, lk_z, T.bind_v, i1, s1, T.nx_v, T.gd_t, s2, i2, s3, s4, fNil_a, List.length, Nat.reduceAdd, Nat.reduceLeDiff, szOk_le, p1, hr, T.ofO_s, pAdd, List.cons_append, List.nil_append, og_t, pList, sq, Option.map_some, pNeT_ss, decide_true, Bool.not_true, tB, fSeq_a, fRet_a, fC_a, T.sx_v, thenC, fNext_a, Bool.false_eq_true, if_false, T.al_v, StepP]
  rintro l rfl
  refine seq_n (fun l => l = [some (.ref p), some (.lst [.str z, .str y]), some td, some (.tup [.str z, td]), some (.tup [.str qb.1, ud]), some pa, some pb, some pa, some (.lst [.bl bb, .bl bb, .bl (!bb), .bl true, .bl false]), some (.bl bb), none]) ?_ ?_
  · simp (implicitDefEqProofs := false) only [fPar_a, fCo_a, fLs_a, fEqO_a, fV_a, lk_s, lk_z, tB, ngB_f, T.bind_v, o2, T.gd_t, i1, e1, T.nx_v, o1, i2, e2, ngB_t, e3, Bool.not_true, fNil_a, List.length, Nat.reduceAdd, Nat.reduceLeDiff, szOk_le, f2_a, e0, T.ofO_s, List.set_cons_succ, List.set_cons_zero, T.sx_v, T.al_v, StepP]
  rintro l rfl
  refine seq_n (fun l => l = [some (.ref p), some (.lst [.str z, .str y]), some td, some (.tup [.str z, td]), some (.tup [.str qb.1, ud]), some pa, some pb, some pa, some (.lst [.bl bb, .bl bb, .bl (!bb), .bl true, .bl false]), some (.bl bb), none]) ?_ ?_
  · simp (implicitDefEqProofs := false) only [fIfS_a, fB_a, f2_a, fV_a, lk_s, lk_z, fLs_a, fCo_a, fNotV_a, tB, T.bind_v, fC_a, fNil_a, List.length, Nat.reduceAdd, Nat.reduceLeDiff, szOk_le, T.gd_t, sb, T.ofO_s, fSeq_a, fRet_a, T.sx_v, thenC, fNext_a, Bool.false_eq_true, if_false, T.al_v, StepP]
  rintro l rfl
  refine seq_n (fun l => ∃ d, OddD K d ∧ l = [some (.ref p), some (.lst [.str z, .str y]), some td, some (.tup [.str z, td]), some (.tup [.str qb.1, ud]), some pa, some pb, some pa, some (.lst [.bl bb, .bl bb, .bl (!bb), .bl true, .bl false]), some (.bl bb), some d]) ?_ ?_
  · simp (implicitDefEqProofs := false) only [fSet_a, fCall_a, fCo_a, fV_a, lk_z, fLs_a, lk_s, f2_a, fC_a, T.bind_v, pIx_l, atI_0, T.ofO_s, fNil_a, List.length, Nat.reduceLeDiff, szOk_le, T.gd_t, fMake_a, mkT, dn, d2, d1, Bool.and_true, Nat.reduceAdd, List.set_cons_succ, List.set_cons_zero, T.sx_al, T.al_v, StepP]
    refine pick_al rfl rfl fun y hy => ?_
    simp only [List.mem_cons, List.mem_nil_iff, or_false] at hy
    rcases hy with rfl | rfl | rfl | rfl | rfl | rfl | rfl
    · exact ⟨_, p1_, rfl⟩
    · exact ⟨_, p2_, rfl⟩
    · exact ⟨_, n0, rfl⟩
    · exact ⟨_, p3_, rfl⟩
    · exact ⟨_, n1, rfl⟩
    · exact ⟨_, n2, rfl⟩
    · exact ⟨_, p4_, rfl⟩
  rintro l ⟨d, hd, rfl⟩
  obtain ⟨l1, l2, l3⟩ := last d hd
  generalize hl : [some (.ref p), some (.lst [.str z, .str y]), some td, some (.tup [.str z, td]), some (.tup [.str qb.1, ud]), some pa, some pb, some pa, some (.lst [.bl bb, .bl bb, .bl (!bb), .bl true, .bl false]), some (.bl bb), some d] = L
  have v5 : fV 5 L = .v pa := by rw [← hl]; rfl
  have v10 : fV 10 L = .v d := by rw [← hl]; rfl
  have k1 := l1 (fV 5) (fV 10) L v5 v10
  have k2 := l2 (fV 5) (fV 10) L v5 v10
  have k3 := l3 (fV 10) (fV 5) L v10 v5
  have k4 : fTru (He.ga K "Day") (fV 5) L = .v (.bl true) := by
    rw [fTru_a, v5, T.bind_v, i1]
    rfl
  have ls : fLs (fCo (fEqO (He.ga K "Day") (CS K) (f_Day_eq K) false (fV 5) (fV 10)) (fCo (fEqO (He.ga K "Day") (CS K) (f_Day_eq K) true (fV 5) (fV 10)) (fCo (fEqR (He.ga K "Rule") (He.ga K "Day") (CS K) (f_Rule_eq K) (f_Day_eq K) (fV 10) (fV 5)) (fCo (fTru (He.ga K "Day") (fV 5)) fNil)))) L = .v (.lst [.bl false, .bl true, .bl false, .bl true]) := by
    rw [fLs_a, fCo_a, fCo_a, fCo_a, fCo_a, fNil_a, k1, k2, k3, k4]
    rfl
  rw [fSeq_a, fRet_a, f2_a, ls]
  simp (implicitDefEqProofs := false) only [fLs_a, fCo_a, fC_a, fNil_a, T.bind_v, List.length, Nat.reduceAdd, Nat.reduceLeDiff, szOk_le, T.gd_t, fin, T.ofO_s, T.sx_v, thenC, fNext_a, T.al_v, RtQ]
theorem right_true (k : SaysF fa fn K) (p : Addr) : (f_l_right K [.ref p]).al p (fun d => d = .bl true) noX := by
  unfold f_l_right b_l_right
  refine runT_al (seq_n (fun l => ∃ x, l = [some (.ref p), x]) ?_ ?_)
  · refine for_ial (items := rngD 0 4) (by simp (implicitDefEqProofs := false) only [startD, List.map, List.length, Nat.reduceAdd, Nat.reduceSub, List.replicate, List.cons_append, List.nil_append, fRng1_a, fCo_a, fC_a, fNil_a, T.bind_v]; rfl) (fun _ l => ∃ x, l = [some (.ref p), x]) ⟨none, rfl⟩ ?_ (fun l h => h) (fun _ h => h.elim) (fun _ h => h.elim)
    rintro i d l hi ⟨x, rfl⟩
    refine ⟨[some (.ref p), some d], rfl, ?_⟩
    unfold s_l_right_0
    simp (implicitDefEqProofs := false) only [fSeq_a, fIfS_a, fOr_a, fNot_a, fB_a, fCall_a, fCo_a, fV_a, lk_z, fNil_a, T.bind_v, fRet_a, fC_a, T.sx_v, thenC, fNext_a, T.al_bind, T.sx_al, al_ite, T.al_v, StepP, if_true, tB]
    refine T.al_mono (days_right_al k) (fun d1 hd => ?_) fun _ _ h => h.elim
    subst hd
    simp (implicitDefEqProofs := false) only [T.al_v, Bool.not_true, Bool.false_eq_true, if_false]
    refine T.al_mono (rules_right_al k) (fun d1 hd => ?_) fun _ _ h => h.elim
    subst hd
    simp (implicitDefEqProofs := false) only [T.al_v, Bool.not_true, Bool.false_eq_true, if_false]
    exact ⟨_, rfl⟩
  rintro l ⟨x, rfl⟩
  simp (implicitDefEqProofs := false) only [fSeq_a, fRet_a, fC_a, T.sx_v, thenC, fNext_a, T.bind_v, T.al_v, RtQ]
end

theorem sc_law : FnScope ["_law_script", "_law_spot"] ["_law_script"] (defScope (topS 36)) := ⟨rfl, rfl, rfl, by decide +kernel, rfl, by decide +kernel, by decide +kernel⟩
def sp_law (K : PySem.W.Frag) : DSp := sp1 (fun a M Q E => ∃ ns : List Int, a = .scr ns ∧ ns.length ≤ 63 ∧ (∀ i ∈ ns, Builtin.Int.intBits i ≤ 1048576) ∧ (∀ p, M p = none) ∧ ∀ M', Q (.bl true) M')
theorem ok_law {P : Program} {w : World} {K : PySem.W.Frag} {mg : Str → Option Value} {base : Heap} (X : K.In base) (G : base.Ns mainGlobals mg) (c : SaysF fa fn K) : OkF P w K mg base 8 d_law ["_law_script"] (sp_law K) := by
  obtain ⟨fd_, FD_⟩ := c.def_ 37 (d := d_law)
  obtain ⟨fd_l_right, FD_l_right, F_l_right, B_l_right⟩ := ok_l_right (P := P) (w := w) X G c
  have K_l_right := FD_l_right.kp
  obtain ⟨fd_l_pool, FD_l_pool, F_l_pool, B_l_pool⟩ := ok_l_pool (P := P) (w := w) X G c
  have K_l_pool := FD_l_pool.kp
  obtain ⟨fd_l_cell, FD_l_cell, F_l_cell, B_l_cell⟩ := ok_l_cell (P := P) (w := w) X G c
  have K_l_cell := FD_l_cell.kp
  have g_all := He.free_ok X G (c.fact 8 (f := fun K => (He.Fa.free "all").ok K))
  have g_range := He.free_ok X G (c.fact 28 (f := fun K => (He.Fa.free "range").ok K))
  have g_max := He.free_ok X G (c.fact 99 (f := fun K => (He.Fa.free "max").ok K))
  have g_min := He.free_ok X G (c.fact 100 (f := fun K => (He.Fa.free "min").ok K))
  have g_len := He.free_ok X G (c.fact 5 (f := fun K => (He.Fa.free "len").ok K))
  have g__law_right := He.glo_ok X G (c.fact 101 (f := fun K => (He.Fa.glo "_law_right").ok K))
  have g__law_pool := He.glo_ok X G (c.fact 102 (f := fun K => (He.Fa.glo "_law_pool").ok K))
  have g__law_cell := He.glo_ok X G (c.fact 103 (f := fun K => (He.Fa.glo "_law_cell").ok K))
  refine ⟨fd_, FD_, fng_of FD_ sc_law (fun ds M Q E h => sp1_len h) (fun cdv A outer s H Z ds M Q E E1 hr h => ?_), Bd.all FD_ rfl rfl fun _ _ _ _ _ _ us hl => match us, hl with | [_], _ => rfl⟩
  obtain ⟨a, rfl, h⟩ := h
  refine ⟨_, (dss_cons (ds_ret (de_callB (c_all rfl) rfl g_all boot_all (da_cons (de_lc (p := (.one 1)) (own := [("_law_spot", 1)]) rfl sc_law.nd  (di_range1 rfl g_range (da_cons (de_callB (c_max2 rfl) rfl g_max boot_max (da_cons de_int (da_cons (de_callB (c_min2 rfl) rfl g_min boot_min (da_cons (de_callB c_len rfl g_len boot_len (da_cons (dv 0) da_nil)) (da_cons de_int da_nil))) da_nil))) da_nil)) (blkB_ok (by kernel_rfl)) (by decide) (fun _ _ _ _ _ => pg_name sc_law.nd rfl (.inl rfl)) (fun _ _ _ _ _ => dts_nil) (fun _ _ _ _ _ => (de_call F_l_right (hr.mono (by decide)) rfl g__law_right K_l_right B_l_right (da_cons (de_call F_l_pool (hr.mono (by decide)) rfl g__law_pool K_l_pool B_l_pool (da_cons (de_call F_l_cell (hr.mono (by decide)) rfl g__law_cell K_l_cell B_l_cell (da_cons (dv 0) (da_cons (dv 1) da_nil))) da_nil)) da_nil)))) da_nil))) dss_nil), ?_⟩
  obtain ⟨ns, rfl, hl, hb, hM, h⟩ := h
  simp only [dSeq, dNext, dDrop, dRet, dRetN, dIfS, dAsg, gdName, gdNil, gdCons, gdTup, gdSub, dCB, dCons, dNil, dC, dVar, dOp, dUn, dB, dAnd, dOr, dNot, dAndV, dOrV, dNotV, dIf, dTup, dLst, dChain, startD, List.map, List.replicate, List.length, List.append, List.getElem?_cons_zero, List.getElem?_cons_succ, List.set, Nat.sub, List.cons_append, List.nil_append, Nat.zero_add, Nat.reduceAdd, Nat.reduceSub, dP, fTup, fCons, fLst, fVar, fDic, fKv, aNeg_i, aI1_i, aI2_i, aStrI_i, aMul_ii, id, Option.some.injEq, exists_eq_left', exists_and_left, D.ref.injEq, D.int.injEq, D.bl.injEq, D.lst.injEq, Nat.reduceLeDiff, Nat.zero_le, lstW, seqOf, lstOf, aLen_s, aLen_t, aLen_l, aLen_r, aLt, aLe, aGt, aGe, aCmp_ii, aEq_ii, aNe_ii, aEqT_ss, aNeT_ss, dFor, iTup, iLst, forL, dRaise, dSetSlot, dTry, aAdd_ii, aAdd_ss, aAdd_tt, aAdd_ll, aSub, aInt_ii, aInt0_ii, aMod, aFdiv, aPow, aIsN, aNotN, isStrD, dCall, dBM, m2S, bty, sp0_iff, sp1_iff, sp2_iff, sp3_iff, sp4_iff, sp5_iff, sp6_iff, true_and, and_true, if_true, if_false, Bool.not_true, Bool.not_false, Bool.false_eq_true, reduceIte, spT, sp_l_pool, sp_l_cell, dLc, iRng1']
  obtain ⟨m, em, h12⟩ : ∃ m : Nat, maxI 3 (minI (ns.length : Int) 8) = (m : Int) ∧ m ≤ 63 := by
    refine ⟨(maxI 3 (minI (ns.length : Int) 8)).toNat, ?_⟩
    unfold maxI minI
    split <;> split at * <;> omega
  have hz := sizeLine_eq
  rw [em]
  refine ⟨by omega, by omega, lcL_inv (fun _ => True) (fun _ o => o = some (.bl true)) (fun x hx M1 _ K1 K0 k => ?_) (by rw [List.length_map, List.length_range]; simp only [List.length_nil]; omega) True.intro fun M1 os _ po => ?_⟩
  · obtain ⟨i, _, rfl⟩ := List.mem_map.mp hx
    simp only [dSeq, dNext, dDrop, dRet, dRetN, dIfS, dAsg, gdName, gdNil, gdCons, gdTup, gdSub, dCB, dCons, dNil, dC, dVar, dOp, dUn, dB, dAnd, dOr, dNot, dAndV, dOrV, dNotV, dIf, dTup, dLst, dChain, startD, List.map, List.replicate, List.length, List.append, List.getElem?_cons_zero, List.getElem?_cons_succ, List.set, Nat.sub, List.cons_append, List.nil_append, Nat.zero_add, Nat.reduceAdd, Nat.reduceSub, dP, fTup, fCons, fLst, fVar, fDic, fKv, aNeg_i, aI1_i, aI2_i, aStrI_i, aMul_ii, id, Option.some.injEq, exists_eq_left', exists_and_left, D.ref.injEq, D.int.injEq, D.bl.injEq, D.lst.injEq, Nat.reduceLeDiff, Nat.zero_le, lstW, seqOf, lstOf, aLen_s, aLen_t, aLen_l, aLen_r, aLt, aLe, aGt, aGe, aCmp_ii, aEq_ii, aNe_ii, aEqT_ss, aNeT_ss, dFor, iTup, iLst, forL, dRaise, dSetSlot, dTry, aAdd_ii, aAdd_ss, aAdd_tt, aAdd_ll, aSub, aInt_ii, aInt0_ii, aMod, aFdiv, aPow, aIsN, aNotN, isStrD, dCall, dBM, m2S, bty, sp0_iff, sp1_iff, sp2_iff, sp3_iff, sp4_iff, sp5_iff, sp6_iff, true_and, and_true, if_true, if_false, Bool.not_true, Bool.not_false, Bool.false_eq_true, reduceIte, tpD, dYes, wipeR]
    refine ⟨_, rfl, by omega, fun cc p ep => ?_⟩
    exact sp_of_al (right_true c p) mset_same (k (some (.bl true)) _ rfl True.intro)
  · rw [paired_all po, List.length_map, List.length_range]
    show aAll [D.lst (List.replicate m (.bl true))] M1 (RetQ Q)
    refine ⟨_, List.replicate m true, rfl, blsD_rep1 m, ?_⟩
    rw [all_rep1]
    exact RetQ.here (h _)
theorem funD_uniq {K : PySem.W.Frag} {x qual : Str} {params : Arguments} {body : List Stmt} {scope : Scope} {dvs : List V} {kws : List (Str × V)} {f : Addr} {fd fd' : FuncData} (h : FunD K x qual params body scope dvs kws f fd) (h' : FunD K x qual params body scope dvs kws f fd') : fd = fd' := by
  obtain ⟨oc, od, dV, kV, doc, pm, an, cdv, ct, osl, _, lk, _, _, _⟩ := h.ex
  obtain ⟨oc', od', dV', kV', doc', pm', an', cdv', ct', osl', _, lk', _, _, _⟩ := h'.ex
  rw [lk] at lk'
  injection Option.some.inj lk' with _ _ e _
  injection e
theorem facts {w : World} {K : PySem.W.Frag} {h : Heap} {mg : Str → Option Value} {f : Addr} (X : K.In h) (G : h.Ns mainGlobals mg) (hfa : mg ("law" : Str) = some (.ref f)) (c : SaysF fa fn K) :
    ∃ fd : FuncData, (∀ (s : Shared) (v : Value), BindsTo s fd ⟨[v], []⟩ [("_law_script", v)]) ∧ ∀ base : Heap, K.In base → base.Ns mainGlobals mg → TbB K mg base → FnG (PySem.Challenge.rw_overhours_k03_days_and_rules_made).prog w K mg base 8 f fd ["_law_script"] (LawSp 63) := by
  have e := hfa.symm.trans (He.glo_ok X G (c.fact 92 (f := fun K => (He.Fa.glo "law").ok K)))
  cases e
  obtain ⟨fd, FD⟩ := c.def_ 37 (d := d_law)
  have b := FunD.bindsA (ps := ["_law_script"]) FD fun _ _ _ _ _ _ us hl => match us, hl with | [_], _ => rfl
  refine ⟨fd, fun s v => b s [v] rfl, fun base X' G' Tb => ?_⟩
  obtain ⟨fd', FD', F', _⟩ := ok_law (P := (PySem.Challenge.rw_overhours_k03_days_and_rules_made).prog) (w := w) X' G' c
  rw [funD_uniq FD FD']
  exact F'.imp fun ds M Q E h => by
    obtain ⟨ns, rfl, h1, h2, h3, h4⟩ := h
    exact ⟨_, rfl, ns, rfl, h1, h2, h3, h4⟩
end DL
open PySem PySem.W PySem.Calls PyProof.Rows
theorem PySem.Challenge.cw_overhours_k03_days_and_rules_made_holds : PySem.Challenge.rw_overhours_k03_days_and_rules_made.Holds := by
  w_on; o_law
  refine HandSHeadRun.head_any (r := OpenLaw.row PySem.Challenge.rw_overhours_k03_days_and_rules_made) (q := view (OpenLaw.row PySem.Challenge.rw_overhours_k03_days_and_rules_made).prog [36]) (H := DL.FR.hk) (ob := DL.FR.ob) (M := 20000) (loose := DL.FR.names) (d := HandSHeadRun.topDef (OpenLaw.row PySem.Challenge.rw_overhours_k03_days_and_rules_made).prog 36) (kwd := []) DL.FR.ob_eq
    (by kernel_rfl) (fun s => by kernel_rfl) DL.FR.run (by kernel_rfl) (by kernel_rfl) (by kernel_rfl) (by rfl) (by first | assumption | decide +kernel) (by decide +kernel) ⟨rfl, rfl, rfl, rfl, rfl, by decide +kernel⟩ ?hw ?hc
  case hw => w_witness2
  case hc =>
    refine DL.walk_g (l := PySem.Challenge.rw_overhours_k03_days_and_rules_made) (n := 63) (k := 8) (x := "_law_script") rfl (by decide) (by kernel_rfl) ⟨rfl, by decide, by decide⟩ ?F
    intro w mg fa h Y G hmg0
    obtain ⟨K, KX, c⟩ := Y
    have hmg : mg ("law" : PySem.Str) = some (.ref fa) := by
      have e : (HandSHeadRun.topDef (OpenLaw.row PySem.Challenge.rw_overhours_k03_days_and_rules_made).prog 36).name = ("law" : PySem.Str) := by kernel_rfl
      rw [← e]
      exact hmg0
    obtain ⟨fd, hb, hF⟩ := DL.facts (w := w) KX G hmg c
    exact ⟨K, fd, KX, DL.TabsOk.none (DL.bNoT_ok (c.fact 93 (f := DL.bNoT))), hb, hF⟩
namespace DL
end DL
