import PyProof.Rows.All
import Wide.All
import OpenK.AllK
import Wide.FinOn
import HandS.ForMost
import HandS.Exc
import HandS.Slots
import HandS.SlotsOwn
import HandS.Lambda
import HandS.ExcInit
import HandS.Wide
import HandS.IsInst
import HandS.TupAny
import HandS.Text
import HandS.WordsExc
import HandS.Defaults
import HandS.HeadEnd
import HandS.WideBits
import PyProof.ReprRoads
import HandS.StrMore
import HandS.Replace
import HandS.SetFor
import HandS.Deep
import KE.KExcInit
import HandS.ExcField
import HandS.Iter
import HandS.Zip
import HandS.EndBits
import HandS.HeadNt
import HandS.Head2
import HandS.ExcOwn
import HandS.Star
import HandS.Style
import HandS.FStr
import HandS.ClsMeth
import KE.RegKCallOwn
import KE.KFmtOwn
import PyProof.Draws
import PyProof.EnumMake
import HandS.Zip0
import KE.KTupSum
import HandS.TupMul
import HandS.More
import HandS.Small
import HandS.DictComp
import HandS.Conv
import KE.KStar
import HandS.TupLe
import KE.KExcIs
import HandS.ExcValue
import PySem.Challenge.RW_overhours_k01_constants_and_errors
set_option Elab.async false
set_option linter.all false
set_option maxRecDepth 100000
set_option maxHeartbeats 2000000
theorem Qa {p : Prop} (h : p := by exact ⟨rfl, rfl, rfl, by decide +kernel, rfl, by decide +kernel, by decide +kernel⟩) : p := h
theorem Qb {p : Prop} (h : p := by first | exact .inl rfl | exact .inr rfl) : p := h
theorem Qc {p : Prop} (h : p := by exact fun ds es h1 h2 => match ds, es, h1, h2 with | [_, _, _], [], _, _ => rfl) : p := h
theorem Qd {p : Prop} (h : p := by exact fun _ _ _ _ _ _ us hl => match us, hl with | [_], _ => rfl) : p := h
theorem Qe {p : Prop} (h : p := by exact fun _ _ _ _ _ _ us hl => match us, hl with | [_, _, _], _ => rfl) : p := h
theorem Qf {p : Prop} (h : p := by exact fun _ _ _ => trivial) : p := h
theorem Qg {p : Prop} (h : p := by decide) : p := h
theorem Qh {p : Prop} (h : p := by omega) : p := h
theorem Qi {p : Prop} (h : p := by intro _ _; rfl) : p := h
theorem Qj {p : Prop} (h : p := by decide +kernel) : p := h
theorem Qk {p : Prop} (h : p := by kernel_rfl) : p := h
theorem Ql {p : Prop} (h : p := by revert i; decide) : p := h
/-! DL1: values as trees over the hand layer, the part of the heap that may change, judgements. -/
namespace DL
open PySem PySem.Spec PyProof.Rows L2

abbrev Sg := L2.St
inductive D where
  | non | bl (b : Bool) | int (i : Int) | str (x : Str)
  | tup (ds : List D) | lst (ds : List D) | dic (kvs : List (Key × D))
  | ins (C : Addr) (ds : List D)
  | obj (C : Addr) (fs : List (Str × D))
  | ref (a : Addr) | ty (n : String)
  | scr (ns : List Int)
  | exc (a dd : Addr) (fs : List (Str × D))
  /-- a function that a def made, with what it had caught -/
  | fn (a c : Addr) (q : Str) (env : List (V × D))
  /-- an exception that is held -/
  | exv (C : Addr) (fs : List (Str × D))

inductive MO where
  | lst (ds : List D) | dic (kvs : List (Key × D))
  | ins (C dx : Addr) (fs : List (Str × D))
  | slt (C dx : Addr) (ds : List (Option D))
  | pool
abbrev Mh := Addr → Option MO
def mset (M : Mh) (a : Addr) (o : MO) : Mh := fun b => if b = a then some o else M b
theorem Jbt {M : Mh} {a : Addr} {o : MO} : mset M a o a = some o := if_pos rfl
theorem JcG {M : Mh} {a b : Addr} {o : MO} (h : b ≠ a) : mset M a o b = M b := if_neg h
theorem Jnw {M : Mh} {a : Addr} {o u : MO} : mset (mset M a o) a u = mset M a u := by
  funext b
  unfold mset
  split <;> rfl
theorem Jt7 {M : Mh} {a : Addr} {o : MO} (h : M a = some o) : mset M a o = M := by
  funext b
  unfold mset
  split
  · subst b; exact h.symm
  · rfl
def out (Z : Hp) (M : Mh) (H : Hp) : Hp := fun a => match Z a with
  | some _ => none
  | none => match M a with
    | none => H a
    | some _ => none
theorem Jb4 {Z : Hp} {M : Mh} {H : Hp} {a : Addr} (z : Z a = none) (h : M a = none) : out Z M H a = H a := by unfold out; rw [z, h]
theorem Joe {Z : Hp} {M : Mh} {H : Hp} {a : Addr} {o : MO} (h : M a = some o) : out Z M H a = none := by
  unfold out
  split
  · rfl
  · rw [h]
def SlF (F : Hp) (a C dx : Addr) (vs : List (Option V)) : Prop := F a = some (SlX.SlO a C dx vs) ∧ F dx = some (.xd [])
mutual
inductive Rep (K : PySem.W.Frag) (F : Hp) : V → D → Prop
  | non : Rep K F .non .non
  | bl (b : Bool) : Rep K F (.bl b) (.bl b)
  | int (i : Int) : Rep K F (.int i) (.int i)
  | str (x : Str) : Rep K F (.str x) (.str x)
  | ref (a : Addr) : Rep K F (.ref a) (.ref a)
  | ty (n : String) : Rep K F (.ty n) (.ty n)
  | tup {a : Addr} {xs : List V} {ds : List D} : SqT K F a xs → RepL K F xs ds → Rep K F (.ref a) (.tup ds)
  | lst {a : Addr} {xs : List V} {ds : List D} : F a = some (.lst xs) → RepL K F xs ds → Rep K F (.ref a) (.lst ds)
  | exc {a dd : Addr} {fv : List (Str × V)} {fs : List (Str × D)} : F dd = some (.xd fv) → RepF K F fv fs → Rep K F (.ref a) (.exc a dd fs)
  | scr {a : Addr} {ns : List Int} : SqL K F a (ns.map V.int) → Rep K F (.ref a) (.scr ns)
  | dic {a : Addr} {od : Obj} {xs : List (Key × V)} {ds : List (Key × D)} : F a = some (.frz od (.dK xs)) → RepK K F xs ds → Rep K F (.ref a) (.dic ds)
  | ins {a C dx : Addr} {xs : List V} {ds : List D} : SlF F a C dx (xs.map some) → RepL K F xs ds → Rep K F (.ref a) (.ins C ds)
  | obj {a C dx : Addr} {xs : List (Str × V)} {ds : List (Str × D)} : F a = some (.ins C dx xs) → RepF K F xs ds → Rep K F (.ref a) (.obj C ds)
  | fn {a c : Addr} {q : Str} {env : List (V × D)} : F c = some (LamX.CodeO c q) → RepE K F env → Rep K F (.ref a) (.fn a c q env)
  | exv {a C dx : Addr} {fv : List (Str × V)} {fs : List (Str × D)} : F a = some (exo a C (some dx)) → F dx = some (exd dx fv) → RepF K F fv fs → Rep K F (.ref a) (.exv C fs)
  | exw {a C : Addr} : F a = some (exo a C none) → Rep K F (.ref a) (.exv C [])
inductive RepL (K : PySem.W.Frag) (F : Hp) : List V → List D → Prop
  | nil : RepL K F [] []
  | cons {v : V} {vs : List V} {d : D} {ds : List D} : Rep K F v d → RepL K F vs ds → RepL K F (v :: vs) (d :: ds)
inductive RepK (K : PySem.W.Frag) (F : Hp) : List (Key × V) → List (Key × D) → Prop
  | nil : RepK K F [] []
  | cons {k : Key} {v : V} {vs : List (Key × V)} {d : D} {ds : List (Key × D)} : Rep K F v d → RepK K F vs ds → RepK K F ((k, v) :: vs) ((k, d) :: ds)
inductive RepF (K : PySem.W.Frag) (F : Hp) : List (Str × V) → List (Str × D) → Prop
  | nil : RepF K F [] []
  | cons {k : Str} {v : V} {vs : List (Str × V)} {d : D} {ds : List (Str × D)} : Rep K F v d → RepF K F vs ds → RepF K F ((k, v) :: vs) ((k, d) :: ds)
inductive RepE (K : PySem.W.Frag) (F : Hp) : List (V × D) → Prop
  | nil : RepE K F []
  | cons {v : V} {d : D} {r : List (V × D)} : Rep K F v d → RepE K F r → RepE K F ((v, d) :: r)
end

section
variable {K : PySem.W.Frag} {F F' : Hp}
theorem Rd.mono {a : Addr} {u : HO} (s : Same F F') (h : Rd F a u) : Rd F' a u := by
  rcases h with h | ⟨o, h⟩
  · exact .inl (s _ _ h)
  · exact .inr ⟨o, s _ _ h⟩
theorem Jji {a : Addr} {xs : List V} (s : Same F F') (h : SqL K F a xs) : SqL K F' a xs := s.seq h
theorem Jjj {a : Addr} {xs : List V} (s : Same F F') (h : SqT K F a xs) : SqT K F' a xs := by
  rcases h with h | h
  · exact .inl (Rd.mono s h)
  · exact .inr h
theorem JsF {a C dx : Addr} {vs : List (Option V)} (s : Same F F') (h : SlF F a C dx vs) : SlF F' a C dx vs := ⟨s _ _ h.1, s _ _ h.2⟩
mutual
theorem Rep.mono (s : Same F F') : ∀ {v : V} {d : D}, Rep K F v d → Rep K F' v d
  | _, _, .non => .non
  | _, _, .bl b => .bl b
  | _, _, .int b => .int b
  | _, _, .str b => .str b
  | _, _, .ref b => .ref b
  | _, _, .ty b => .ty b
  | _, _, .tup h r => .tup (Jjj s h) (RepL.mono s r)
  | _, _, .lst h r => .lst (s _ _ h) (RepL.mono s r)
  | _, _, .scr h => .scr (Jji s h)
  | _, _, .exc h r => .exc (s _ _ h) (RepF.mono s r)
  | _, _, .dic h r => .dic (s _ _ h) (RepK.mono s r)
  | _, _, .ins h r => .ins (JsF s h) (RepL.mono s r)
  | _, _, .obj h r => .obj (s _ _ h) (RepF.mono s r)
  | _, _, .fn h r => .fn (s _ _ h) (RepE.mono s r)
  | _, _, .exv h h2 r => .exv (s _ _ h) (s _ _ h2) (RepF.mono s r)
  | _, _, .exw h => .exw (s _ _ h)
theorem RepL.mono (s : Same F F') : ∀ {v : List V} {d : List D}, RepL K F v d → RepL K F' v d
  | _, _, .nil => .nil
  | _, _, .cons h r => .cons (Rep.mono s h) (RepL.mono s r)
theorem RepK.mono (s : Same F F') : ∀ {v : List (Key × V)} {d : List (Key × D)}, RepK K F v d → RepK K F' v d
  | _, _, .nil => .nil
  | _, _, .cons h r => .cons (Rep.mono s h) (RepK.mono s r)
theorem RepF.mono (s : Same F F') : ∀ {v : List (Str × V)} {d : List (Str × D)}, RepF K F v d → RepF K F' v d
  | _, _, .nil => .nil
  | _, _, .cons h r => .cons (Rep.mono s h) (RepF.mono s r)
theorem RepE.mono (s : Same F F') : ∀ {e : List (V × D)}, RepE K F e → RepE K F' e
  | _, .nil => .nil
  | _, .cons h r => .cons (Rep.mono s h) (RepE.mono s r)
end
theorem RepL.length : ∀ {v : List V} {d : List D}, RepL K F v d → v.length = d.length
  | _, _, .nil => rfl
  | _, _, .cons _ r => by rw [List.length_cons, List.length_cons, RepL.length r]
theorem RepL.get : ∀ {v : List V} {d : List D} {i : Nat} {x : D}, RepL K F v d → d[i]? = some x → ∃ y, v[i]? = some y ∧ Rep K F y x
  | _, _, _, _, .nil, e => by simp at e
  | _, _, 0, _, .cons h r, e => by simp at e; subst e; exact ⟨_, rfl, h⟩
  | _, _, i + 1, _, .cons h r, e => by
    obtain ⟨y, e1, e2⟩ := RepL.get (i := i) r (by simpa using e)
    exact ⟨y, by simpa using e1, e2⟩
theorem RepL.take : ∀ {v : List V} {d : List D} (n : Nat), RepL K F v d → RepL K F (v.take n) (d.take n)
  | _, _, 0, _ => .nil
  | _, _, _ + 1, .nil => .nil
  | _, _, n + 1, .cons h r => .cons h (RepL.take n r)
theorem RepL.drop : ∀ {v : List V} {d : List D} (n : Nat), RepL K F v d → RepL K F (v.drop n) (d.drop n)
  | _, _, 0, h => h
  | _, _, _ + 1, .nil => .nil
  | _, _, n + 1, .cons h r => RepL.drop n r
end

def MoR (K : PySem.W.Frag) (F H : Hp) (a : Addr) : MO → Prop
  | .lst ds => ∃ xs, H a = some (.lst xs) ∧ RepL K F xs ds
  | .dic ds => ∃ xs, H a = some (.dK xs) ∧ RepK K F xs ds
  | .ins C dx ds => ∃ xs, H a = some (.ins C dx xs) ∧ RepF K F xs ds
  | .slt C dx ds => ∃ xs, H a = some (SlX.SlO a C dx xs) ∧ F dx = some (.xd []) ∧ xs.length = ds.length ∧ ∀ (i : Nat) d, ds[i]? = some (some d) → ∃ v, xs[i]? = some (some v) ∧ Rep K F v d
  | .pool => ∃ i j k : Int, H a = some (.lst [.int i, .int j, .int k]) ∧ 0 ≤ i ∧ i < 2147483648 ∧ 0 ≤ j ∧ 0 ≤ k
def tblO (q : Str) : HO := .tbl #[.str q default]
def tblQ (ps : Array Value) : Str := match ps.toList with
  | [.str q _] => q
  | _ => Str.empty
def tabK (K : PySem.W.Frag) : List (Addr × Addr × Str) := K.filterMap fun p => match p.2.data with
  | .fields vs => match vs.toList with
    | [.ref P, .str q _, .bool true] => some (p.1, P, q)
    | _ => none
  | _ => none
def HidAt (F H : Hp) (a : Addr) : HO → Prop
  | .tbl p0 => ∃ ps, H a = some (.tbl ps) ∧ TriplesOk ps.toList ∧ ∀ (pos : Pos) (cv : Value), codeAmong pos ps.toList = some cv → ∃ c, cv = .ref c ∧ F c = some (LamX.CodeO c (tblQ p0))
  | o => H a = some o
structure TbOk (K : PySem.W.Frag) (Z H : Hp) : Prop where
  tin : ∀ a ps, H a = some (.tbl ps) → ∃ x ∈ tabK K, x.2.1 = a
  tab : ∀ x ∈ tabK K, Z x.2.1 = some (tblO x.2.2)
  zx : ∀ a φ, Z a ≠ some (.ext φ)
structure HR (K : PySem.W.Frag) (Z : Hp) (M : Mh) (H : Hp) : Prop where
  mem : ∀ a o, M a = some o → MoR K (out Z M H) H a o
  hid : ∀ a o, Z a = some o → HidAt (out Z M H) H a o ∧ M a = none ∧ ∀ x, o ≠ .own x
  tb : TbOk K Z H
structure Kt where
  K : PySem.W.Frag
  T : Hp → Hp → Prop
  mono : ∀ Z F F', Same F F' → T Z F → T Z F'
structure SR (k : Kt) (Z : Hp) (r : List (Option D)) (M : Mh) (st : Sg) (H : Hp) : Prop where
  len : r.length = st.length
  sl : ∀ (i : Nat) d, r[i]? = some (some d) → ∃ v, st[i]? = some (some v) ∧ Rep k.K (out Z M H) v d
  hr : HR k.K Z M H
  tk : k.T Z (out Z M H)

section
variable {K : PySem.W.Frag} {k : Kt} {F F' Z : Hp} {M M' : Mh} {H H' : Hp} {r : List (Option D)} {st : Sg} {p : Addr} {o : HO} {mo : MO}
theorem MoR.some {a : Addr} (h : MoR K F H a mo) : ∃ o, H a = some o := by
  cases mo with
  | lst ds => obtain ⟨_, e, _⟩ := h; exact ⟨_, e⟩
  | dic ds => obtain ⟨_, e, _⟩ := h; exact ⟨_, e⟩
  | ins C dx ds => obtain ⟨_, e, _⟩ := h; exact ⟨_, e⟩
  | slt C dx ds =>
    obtain ⟨_, e, _⟩ := h
    exact ⟨_, e⟩
  | pool => obtain ⟨_, _, _, e, _⟩ := h; exact ⟨_, e⟩
theorem MoR.mono {a : Addr} (s : Same F F') (k : ∀ b u, H b = Option.some u → (b = a ∨ u = .own a) → H' b = Option.some u) (h : MoR K F H a mo) : MoR K F' H' a mo := by
  cases mo with
  | lst ds => obtain ⟨xs, e, q⟩ := h; exact ⟨xs, k _ _ e (.inl rfl), q.mono s⟩
  | dic ds => obtain ⟨xs, e, q⟩ := h; exact ⟨xs, k _ _ e (.inl rfl), q.mono s⟩
  | ins C dx ds => obtain ⟨xs, e, q⟩ := h; exact ⟨xs, k _ _ e (.inl rfl), q.mono s⟩
  | slt C dx ds =>
    obtain ⟨xs, e, e2, l, q⟩ := h
    refine ⟨xs, k _ _ e (.inl rfl), s _ _ e2, l, fun i d z => ?_⟩
    obtain ⟨v, h1, h2⟩ := q i d z
    exact ⟨v, h1, h2.mono s⟩
  | pool => obtain ⟨i, j, l, e, q⟩ := h; exact ⟨i, j, l, k _ _ e (.inl rfl), q⟩
theorem MoR.kind {a : Addr} (h : MoR K F H a mo) : ∀ x, H a ≠ Option.some (.own x) := fun x e => by
  cases mo with
  | lst ds => obtain ⟨_, z, _⟩ := h; rw [e] at z; cases z
  | dic ds => obtain ⟨_, z, _⟩ := h; rw [e] at z; cases z
  | ins C dx ds => obtain ⟨_, z, _⟩ := h; rw [e] at z; cases z
  | slt C dx ds =>
    obtain ⟨_, z, _⟩ := h
    rw [e] at z
    have z' : HO.own x = HO.ext _ := Option.some.inj z
    cases z'
  | pool => obtain ⟨_, _, _, z, _⟩ := h; rw [e] at z; cases z
theorem MoR.notbl {a : Addr} (h : MoR K F H a mo) : ∀ x, H a ≠ Option.some (.tbl x) := fun x e => by
  cases mo with
  | lst ds => obtain ⟨_, z, _⟩ := h; rw [e] at z; cases z
  | dic ds => obtain ⟨_, z, _⟩ := h; rw [e] at z; cases z
  | ins C dx ds => obtain ⟨_, z, _⟩ := h; rw [e] at z; cases z
  | slt C dx ds =>
    obtain ⟨_, z, _⟩ := h
    rw [e] at z
    have z' : HO.tbl x = HO.ext _ := Option.some.inj z
    cases z'
  | pool => obtain ⟨_, _, _, z, _⟩ := h; rw [e] at z; cases z
theorem HidAt.some {a : Addr} (h : HidAt F H a o) : ∃ u, H a = Option.some u := by
  cases o with
  | tbl p0 => obtain ⟨ps, e, _⟩ := h; exact ⟨_, e⟩
  | _ => exact ⟨_, h⟩
theorem HidAt.at_ {a : Addr} (h : HidAt F H a o) (nt : ∀ ps, o ≠ .tbl ps) : H a = Option.some o := by
  cases o with
  | tbl p0 => exact absurd rfl (nt p0)
  | _ => exact h
theorem HidAt.of {a : Addr} (h : H a = Option.some o) (nt : ∀ ps, o ≠ .tbl ps) : HidAt F H a o := by
  cases o with
  | tbl p0 => exact absurd rfl (nt p0)
  | _ => exact h
theorem HidAt.mono {a : Addr} (h : HidAt F H a o) (s : Same F F') (k : ∀ u, H a = Option.some u → H' a = Option.some u) : HidAt F' H' a o := by
  cases o with
  | tbl p0 =>
    obtain ⟨ps, e, t, q⟩ := h
    refine ⟨ps, k _ e, t, fun pos cv hc => ?_⟩
    obtain ⟨c, e1, e2⟩ := q pos cv hc
    exact ⟨c, e1, s _ _ e2⟩
  | _ => exact k _ h
theorem HidAt.notown {a : Addr} (h : HidAt F H a o) (no : ∀ x, o ≠ .own x) : ∀ x, H a ≠ Option.some (.own x) := fun x e => by
  cases o with
  | tbl p0 => obtain ⟨ps, z, _⟩ := h; rw [e] at z; cases z
  | own y => exact absurd rfl (no y)
  | _ => have z := h.symm.trans e; cases z
theorem TbOk.there (t : TbOk K Z H) (m : ∀ a o, Z a = Option.some o → HidAt F H a o) {x : Addr × Addr × Str} (hx : x ∈ tabK K) : ∃ ps, H x.2.1 = Option.some (.tbl ps) := by
  obtain ⟨ps, e, _⟩ := m _ _ (t.tab x hx)
  exact ⟨ps, e⟩
theorem TbOk.upd (t : TbOk K Z H) (h : ∀ b, b ≠ p → H' b = H b) (n : ∀ ps, H' p ≠ Option.some (.tbl ps)) : TbOk K Z H' := ⟨fun a ps e => by
  by_cases ha : a = p
  · subst ha; exact absurd e (n ps)
  · rw [h a ha] at e; exact t.tin a ps e, t.tab, t.zx⟩
theorem HR.own (m : HR K Z M H) {dx a : Addr} (e : H dx = Option.some (.own a)) : M dx = none ∧ Z dx = none := by
  refine ⟨?_, ?_⟩
  · cases q : M dx with
    | none => rfl
    | some u => exact absurd e ((m.mem dx u q).kind a)
  · cases q : Z dx with
    | none => rfl
    | some u =>
      obtain ⟨z1, _, z3⟩ := m.hid dx u q
      exact absurd e (z1.notown z3 a)
theorem HR.fresh (m : HR K Z M H) (h : H p = none) : M p = none ∧ Z p = none := by
  refine ⟨?_, ?_⟩
  · cases e : M p with
    | none => rfl
    | some o =>
      obtain ⟨u, q⟩ := (m.mem p o e).some
      rw [h] at q; cases q
  · cases e : Z p with
    | none => rfl
    | some o =>
      obtain ⟨u, q⟩ := (m.hid p o e).1.some
      rw [h] at q; cases q
theorem Jpo (m : HR K Z M H) (h : H p = none) : out Z M (upd H p o) = upd (out Z M H) p o := by
  funext b
  by_cases hb : b = p
  · subst hb
    rw [Jb4 (m.fresh h).2 (m.fresh h).1, upd_same, upd_same]
  · rw [upd_ne hb]
    unfold out
    rw [upd_ne hb]
theorem Jq4 (h : F p = none) : Same F (upd F p o) := fun b u e => by rw [upd_ne (ne_of_none e h)]; exact e
theorem Jof (h : H p = none) : out Z M H p = none := by
  unfold out
  split
  · rfl
  · split
    · exact h
    · rfl
theorem JmD (m : HR K Z M H) (h : H p = none) : Same (out Z M H) (out Z M (upd H p o)) := by
  rw [Jpo m h]
  exact Jq4 (Jof h)
theorem HR.new (m : HR K Z M H) (h : H p = none) (nt : ∀ ps, o ≠ .tbl ps := by first | nofun | exact fun _ e => nomatch (show HO.ext _ = HO.tbl _ from e) | assumption) : HR K Z M (upd H p o) where
  mem := fun a u e => (m.mem a u e).mono (JmD m h) fun b w z _ => by rw [upd_ne (ne_of_none z h)]; exact z
  hid := fun a u e => by
    obtain ⟨z1, z2, z3⟩ := m.hid a u e
    exact ⟨z1.mono (JmD m h) fun w z => by rw [upd_ne (ne_of_none z h)]; exact z, z2, z3⟩
  tb := m.tb.upd (p := p) (fun b hb => upd_ne hb) fun ps e => by rw [upd_same] at e; exact nt ps (Option.some.inj e)
theorem SR.step (q : SR k Z r M st H) (m : HR k.K Z M' H') (s : Same (out Z M H) (out Z M' H')) : SR k Z r M' st H' :=
  ⟨q.len, fun i d e => let ⟨v, h1, h2⟩ := q.sl i d e; ⟨v, h1, h2.mono s⟩, m, k.mono _ _ _ s q.tk⟩
theorem SR.new (q : SR k Z r M st H) (h : H p = none) (nt : ∀ ps, o ≠ .tbl ps := by first | nofun | exact fun _ e => nomatch (show HO.ext _ = HO.tbl _ from e) | assumption) : SR k Z r M st (upd H p o) := q.step (q.hr.new h nt) (JmD q.hr h)
theorem Jjk (m : HR K Z M H) (h : ∀ b, b ≠ p → H' b = H b) (e : H p = none ∨ M p ≠ none) : out Z (mset M p mo) H' = out Z M H := by
  funext b
  by_cases hb : b = p
  · subst hb
    rw [Joe (Jbt)]
    rcases e with e | e
    · exact (Jof e).symm
    · cases z : M b with
      | none => exact absurd z e
      | some u => exact (Joe z).symm
  · unfold out
    rw [JcG hb, h b hb]
theorem HR.mset (m : HR K Z M H) (h : ∀ b, b ≠ p → H' b = H b) (e : H p = none ∨ M p ≠ none) (q : MoR K (out Z M H) H' p mo) : HR K Z (mset M p mo) H' where
  mem := fun a u z => by
    by_cases ha : a = p
    · subst ha
      rw [Jbt] at z
      cases z
      rw [Jjk m h e]
      exact q
    · rw [JcG ha] at z
      rw [Jjk m h e]
      have y := m.mem a u z
      refine y.mono (Same.refl _) (fun b w k hb => ?_)
      rcases hb with rfl | rfl
      · rw [h _ ha]; exact k
      · have : b ≠ p := by
          rintro rfl
          rcases e with e | e
          · rw [e] at k; cases k
          · exact e (m.own k).1
        rw [h b this]; exact k
  hid := fun a u z => by
    obtain ⟨z1, z2, z3⟩ := m.hid a u z
    have ha : a ≠ p := by
      rintro rfl
      rcases e with e | e
      · obtain ⟨u, z1⟩ := z1.some
        rw [e] at z1; cases z1
      · exact e z2
    exact ⟨z1.mono (by rw [Jjk m h e]; exact Same.refl _) (fun w z => by rw [h a ha]; exact z), by rw [JcG ha]; exact z2, z3⟩
  tb := m.tb.upd h q.notbl
theorem SR.mset (s : SR k Z r M st H) (h : ∀ b, b ≠ p → H' b = H b) (e : H p = none ∨ M p ≠ none) (q : MoR k.K (out Z M H) H' p mo) : SR k Z r (mset M p mo) st H' :=
  s.step (s.hr.mset h e q) (by rw [Jjk s.hr h e]; exact Same.refl _)
def Less (M' M : Mh) : Prop := ∀ a, M' a = M a ∨ M' a = none
theorem Less.refl : Less M M := fun _ => .inl rfl
end

abbrev DXK := Value → List (Str × D) → Mh → Prop
abbrev DWX := Value → List (Str × D) → List (Option D) → Mh → Prop
def ExF (K : PySem.W.Frag) (F : Hp) (dx : Option Addr) (fs : List (Str × D)) : Prop := (dx = none ∧ fs = []) ∨ ∃ d fv, dx = some d ∧ F d = some (.xd fv) ∧ RepF K F fv fs
def XW (K : PySem.W.Frag) (Z F : Hp) (W : DWX) : WX := fun cls dx st H' => ∃ fs r M', ExF K (out Z M' H') dx fs ∧ r.length = st.length ∧ (∀ (i : Nat) d, r[i]? = some (some d) → ∃ v, st[i]? = some (some v) ∧ Rep K (out Z M' H') v d) ∧ HR K Z M' H' ∧ Same F (out Z M' H') ∧ W cls fs r M'
theorem XW.mono {K : PySem.W.Frag} {Z F F' : Hp} {W : DWX} (s : Same F F') {cls : Value} {dx : Option Addr} {st : Sg} {H' : Hp} (h : XW K Z F' W cls dx st H') : XW K Z F W cls dx st H' := by
  obtain ⟨fs, r, M', a, b, c, d, e, f⟩ := h
  exact ⟨fs, r, M', a, b, c, d, s.trans e, f⟩
@[reducible] def kx (X : Cx) (W : DWX) : Kt := ⟨X.K, fun Z F => Takes X (XW X.K Z F W), fun Z F F' s h => h.imp fun c d st H z => z.mono s⟩
abbrev Rho := List (Option D)
abbrev QD := D → Mh → Prop
abbrev DTE := Rho → Mh → QD → Prop
abbrev DTT := Rho → Mh → (Bool → Mh → Prop) → Prop
abbrev DTA := Rho → Mh → (List D → Mh → Prop) → Prop
structure DEnds where
  nx : Rho → Mh → Prop
  rt : QD
  bk : Rho → Mh → Prop := fun _ _ => False
  ct : Rho → Mh → Prop := fun _ _ => False
abbrev DTS := DEnds → Rho → Mh → Prop

def EQ (k : Kt) (Z : Hp) (st : Sg) (r : Rho) (F : Hp) (Q : QD) : VK := fun v H' => ∃ d M', SR k Z r M' st H' ∧ Rep k.K (out Z M' H') v d ∧ Same F (out Z M' H') ∧ Q d M'
def TQ (k : Kt) (Z : Hp) (st : Sg) (r : Rho) (F : Hp) (Q : Bool → Mh → Prop) : Bool → Hp → Prop := fun b H' => ∃ M', SR k Z r M' st H' ∧ Same F (out Z M' H') ∧ Q b M'
def AQ (k : Kt) (Z : Hp) (st : Sg) (r : Rho) (F : Hp) (Q : List D → Mh → Prop) : List V → Hp → Prop := fun vs H' => ∃ ds M', SR k Z r M' st H' ∧ RepL k.K (out Z M' H') vs ds ∧ Same F (out Z M' H') ∧ Q ds M'
def NQ (k : Kt) (Z : Hp) (F : Hp) (Q : Rho → Mh → Prop) : Sg → Hp → Prop := fun st H' => ∃ r M', SR k Z r M' st H' ∧ Same F (out Z M' H') ∧ Q r M'
def RQ (K : PySem.W.Frag) (Z : Hp) (F : Hp) (Q : QD) : VK := fun v H' => ∃ d M', HR K Z M' H' ∧ Rep K (out Z M' H') v d ∧ Same F (out Z M' H') ∧ Q d M'
def SQ (k : Kt) (Z : Hp) (F : Hp) (D : DEnds) : Ends := ⟨NQ k Z F D.nx, RQ k.K Z F D.rt, NQ k Z F D.bk, NQ k Z F D.ct⟩

structure DE (X : Cx) (W : DWX) (e : Expr) (t : DTE) : Prop where
  run : ∀ (pins : List (Addr × Obj)) (s : Shared) (st : Sg) (H Z : Hp) (r : Rho) (M : Mh) (Q : QD), Inv X pins st H s → SR (kx X W) Z r M st H → t r M Q → wpAny (model X.prog X.w) X.A (eval e X.env) (EP X pins st (EQ (kx X W) Z st r (out Z M H) Q)) X.xe s
structure DT (X : Cx) (W : DWX) (e : Expr) (t : DTT) : Prop where
  run : ∀ (pins : List (Addr × Obj)) (s : Shared) (st : Sg) (H Z : Hp) (r : Rho) (M : Mh) (Q : Bool → Mh → Prop), Inv X pins st H s → SR (kx X W) Z r M st H → t r M Q → wpAny (model X.prog X.w) X.A (isTrue e X.env (eval e X.env)) (TP X pins st (TQ (kx X W) Z st r (out Z M H) Q)) X.xe s
structure DW (X : Cx) (W : DWX) (e : Expr) (t : DTT) : Prop where
  run : ∀ (whole : Sem Value) (pins : List (Addr × Obj)) (s : Shared) (st : Sg) (H Z : Hp) (r : Rho) (M : Mh) (Q : Bool → Mh → Prop), Inv X pins st H s → SR (kx X W) Z r M st H → t r M Q → wpAny (model X.prog X.w) X.A (isTrue e X.env whole) (TP X pins st (TQ (kx X W) Z st r (out Z M H) Q)) X.xe s
structure DA (X : Cx) (W : DWX) (es : List Expr) (t : DTA) : Prop where
  run : ∀ (pos : Pos) (pins : List (Addr × Obj)) (s : Shared) (st : Sg) (H Z : Hp) (r : Rho) (M : Mh) (Q : List D → Mh → Prop), Inv X pins st H s → SR (kx X W) Z r M st H → t r M Q → wpAny (model X.prog X.w) X.A (spliced (backTo pos (starEach es X.env))) (AP X pins st (AQ (kx X W) Z st r (out Z M H) Q)) X.xe s
structure DS (X : Cx) (W : DWX) (c : Stmt) (t : DTS) : Prop where
  run : ∀ (pins : List (Addr × Obj)) (s : Shared) (st : Sg) (H Z : Hp) (r : Rho) (M : Mh) (D : DEnds), Inv X pins st H s → SR (kx X W) Z r M st H → t D r M → wpAny (model X.prog X.w) X.A (exec c X.env) (SP X pins (SQ (kx X W) Z (out Z M H) D)) X.xe s
structure DSs (X : Cx) (W : DWX) (c : List Stmt) (t : DTS) : Prop where
  run : ∀ (pins : List (Addr × Obj)) (s : Shared) (st : Sg) (H Z : Hp) (r : Rho) (M : Mh) (D : DEnds), Inv X pins st H s → SR (kx X W) Z r M st H → t D r M → wpAny (model X.prog X.w) X.A (execs c X.env) (SP X pins (SQ (kx X W) Z (out Z M H) D)) X.xe s

def Jt8 (k : Kt) (t : DTS) : TS := fun E st H => ∃ Z r M D, SR k Z r M st H ∧ t D r M ∧ (∀ a b, NQ k Z (out Z M H) D.nx a b → E.nx a b) ∧ (∀ a b, RQ k.K Z (out Z M H) D.rt a b → E.rt a b) ∧ (∀ a b, NQ k Z (out Z M H) D.bk a b → E.bk a b) ∧ (∀ a b, NQ k Z (out Z M H) D.ct a b → E.ct a b)
section
variable {X : Cx} {W : DWX} {e : Expr} {es : List Expr} {c : Stmt} {cs : List Stmt}
theorem JtQ {pins : List (Addr × Obj)} {E E' : Ends} (h1 : ∀ a b, E.nx a b → E'.nx a b) (h2 : ∀ a b, E.rt a b → E'.rt a b) (h3 : ∀ a b, E.bk a b → E'.bk a b) (h4 : ∀ a b, E.ct a b → E'.ct a b) {f : Flow} {s : Shared} (h : SP X pins E f s) : SP X pins E' f s := by
  cases f with
  | next => obtain ⟨a, b, I, q⟩ := h; exact ⟨a, b, I, h1 _ _ q⟩
  | brk => obtain ⟨a, b, I, q⟩ := h; exact ⟨a, b, I, h3 _ _ q⟩
  | cont => obtain ⟨a, b, I, q⟩ := h; exact ⟨a, b, I, h4 _ _ q⟩
  | ret u => obtain ⟨v, a, b, I, rv, q⟩ := h; exact ⟨v, a, b, I, rv, h2 _ _ q⟩
theorem DS.ps {t : DTS} (h : DS X W c t) : PS X c (Jt8 (kx X W) t) := ⟨fun pins s st H E I ⟨Z, r, M, D, q, ht, k1, k2, k3, k4⟩ =>
  thn (h.run pins s st H Z r M D I q ht) fun _ _ z => JtQ k1 k2 k3 k4 z⟩
theorem DE.of {t : DTE} {t0 : TE} (h : PE X e t0) (k : ∀ (st : Sg) (H Z : Hp) (r : Rho) (M : Mh) (Q : QD), SR (kx X W) Z r M st H → t r M Q → t0 st H (EQ (kx X W) Z st r (out Z M H) Q)) : DE X W e t :=
  ⟨fun pins s st H Z r M Q I q ht => h.run pins s st H _ I (k st H Z r M Q q ht)⟩
theorem DT.of {t : DTT} {t0 : TT} (h : PT X e t0) (k : ∀ (st : Sg) (H Z : Hp) (r : Rho) (M : Mh) (Q : Bool → Mh → Prop), SR (kx X W) Z r M st H → t r M Q → t0 st H (TQ (kx X W) Z st r (out Z M H) Q)) : DT X W e t :=
  ⟨fun pins s st H Z r M Q I q ht => h.run pins s st H _ I (k st H Z r M Q q ht)⟩
theorem DW.of {t : DTT} {t0 : TT} (h : PW X e t0) (k : ∀ (st : Sg) (H Z : Hp) (r : Rho) (M : Mh) (Q : Bool → Mh → Prop), SR (kx X W) Z r M st H → t r M Q → t0 st H (TQ (kx X W) Z st r (out Z M H) Q)) : DW X W e t :=
  ⟨fun wh pins s st H Z r M Q I q ht => h.run wh pins s st H _ I (k st H Z r M Q q ht)⟩
theorem DA.of {t : DTA} {t0 : TA} (h : PA X es t0) (k : ∀ (st : Sg) (H Z : Hp) (r : Rho) (M : Mh) (Q : List D → Mh → Prop), SR (kx X W) Z r M st H → t r M Q → t0 st H (AQ (kx X W) Z st r (out Z M H) Q)) : DA X W es t :=
  ⟨fun pos pins s st H Z r M Q I q ht => h.run pos pins s st H _ I (k st H Z r M Q q ht)⟩
theorem DS.of {t : DTS} {t0 : TS} (h : PS X c t0) (k : ∀ (st : Sg) (H Z : Hp) (r : Rho) (M : Mh) (D : DEnds), SR (kx X W) Z r M st H → t D r M → t0 (SQ (kx X W) Z (out Z M H) D) st H) : DS X W c t :=
  ⟨fun pins s st H Z r M D I q ht => h.run pins s st H _ I (k st H Z r M D q ht)⟩
theorem DSs.of {t : DTS} {t0 : TS} (h : PSs X cs t0) (k : ∀ (st : Sg) (H Z : Hp) (r : Rho) (M : Mh) (D : DEnds), SR (kx X W) Z r M st H → t D r M → t0 (SQ (kx X W) Z (out Z M H) D) st H) : DSs X W cs t :=
  ⟨fun pins s st H Z r M D I q ht => h.run pins s st H _ I (k st H Z r M D q ht)⟩
end
end DL

set_option maxHeartbeats 2000000
namespace DL
open PySem PySem.Spec PyProof.Rows L2

section
variable {K : PySem.W.Frag} {k : Kt} {F F' Z : Hp} {M M' : Mh} {H H' : Hp} {r : Rho} {st : Sg} {Q : QD} {v : V} {d : D} {p : Addr}
theorem EQ.val (q : SR k Z r M st H) (h : Rep k.K (out Z M H) v d) (z : Q d M) : EQ k Z st r (out Z M H) Q v H := ⟨d, M, q, h, Same.refl _, z⟩
theorem EQ.mono (s : Same F F') (h : EQ k Z st r F' Q v H) : EQ k Z st r F Q v H := by
  obtain ⟨d, M', q, h, s', z⟩ := h
  exact ⟨d, M', q, h, s.trans s', z⟩
theorem TQ.mono {Q : Bool → Mh → Prop} {b : Bool} (s : Same F F') (h : TQ k Z st r F' Q b H) : TQ k Z st r F Q b H := by
  obtain ⟨M', q, s', z⟩ := h
  exact ⟨M', q, s.trans s', z⟩
theorem NQ.mono {Q : Rho → Mh → Prop} (s : Same F F') (h : NQ k Z F' Q st H) : NQ k Z F Q st H := by
  obtain ⟨r, M', q, s', z⟩ := h
  exact ⟨r, M', q, s.trans s', z⟩
theorem RQ.mono (s : Same F F') (h : RQ K Z F' Q v H) : RQ K Z F Q v H := by
  obtain ⟨d, M', q, h, s', z⟩ := h
  exact ⟨d, M', q, h, s.trans s', z⟩
theorem EQ.new {o : HO} (q : SR k Z r M st H) (hp : H p = none) (h : Rep k.K (upd (out Z M H) p o) (.ref p) d) (z : Q d M) (nt : ∀ ps, o ≠ .tbl ps := by first | nofun | exact fun _ e => nomatch (show HO.ext _ = HO.tbl _ from e) | assumption) : EQ k Z st r (out Z M H) Q (.ref p) (upd H p o) :=
  ⟨d, M, q.new hp nt, by rw [Jpo q.hr hp]; exact h, JmD q.hr hp, z⟩
end

abbrev DR2 := D → D → Mh → QD → Prop
abbrev DR1 := D → Mh → QD → Prop
abbrev DRL := List D → Mh → QD → Prop
def DOp (X : Cx) (W : DWX) (f : Value → Value → Sem Value) (o : DR2) : Prop :=
  ∀ (pins : List (Addr × Obj)) (s : Shared) (st : Sg) (H Z : Hp) (r : Rho) (M : Mh) (x y : V) (v u : Value) (a b : D) (Q : QD), Inv X pins st H s → SR (kx X W) Z r M st H → RelV x v → RelV y u → Rep X.K (out Z M H) x a → Rep X.K (out Z M H) y b → o a b M Q →
    wpAny (model X.prog X.w) X.A (f v u) (EP X pins st (EQ (kx X W) Z st r (out Z M H) Q)) X.xe s
def DUn (X : Cx) (W : DWX) (f : Value → Sem Value) (o : DR1) : Prop :=
  ∀ (pins : List (Addr × Obj)) (s : Shared) (st : Sg) (H Z : Hp) (r : Rho) (M : Mh) (x : V) (v : Value) (a : D) (Q : QD), Inv X pins st H s → SR (kx X W) Z r M st H → RelV x v → Rep X.K (out Z M H) x a → o a M Q →
    wpAny (model X.prog X.w) X.A (f v) (EP X pins st (EQ (kx X W) Z st r (out Z M H) Q)) X.xe s
def DCall (X : Cx) (W : DWX) (f : Value) (o : DRL) : Prop :=
  ∀ (pins : List (Addr × Obj)) (s : Shared) (st : Sg) (H Z : Hp) (r : Rho) (M : Mh) (xs : List V) (vs : List Value) (ds : List D) (Q : QD), Inv X pins st H s → SR (kx X W) Z r M st H → Vals xs vs → RepL X.K (out Z M H) xs ds → o ds M Q →
    wpAny (model X.prog X.w) X.A (call f vs) (EP X pins st (EQ (kx X W) Z st r (out Z M H) Q)) X.xe s
section
variable {X : Cx} {W : DWX} {pos : Pos} {a b c : Expr} {ta tb tc : DTE}
theorem DOp.of {f : Value → Value → Sem Value} {r0 : R2} {o : DR2} (h : OpR X f r0)
    (k : ∀ (st : Sg) (H Z : Hp) (r : Rho) (M : Mh) (x y : V) (da db : D) (Q : QD), SR (kx X W) Z r M st H → Rep X.K (out Z M H) x da → Rep X.K (out Z M H) y db → o da db M Q → r0 x y H (EQ (kx X W) Z st r (out Z M H) Q)) : DOp X W f o :=
  fun pins s st H Z r M x y v u da db Q I q rx ry ra rb ho => h pins s st H x y v u _ I rx ry (k st H Z r M x y da db Q q ra rb ho)
theorem DUn.of {f : Value → Sem Value} {r0 : V → Hp → VK → Prop} {o : DR1} (h : UnR X f r0)
    (k : ∀ (st : Sg) (H Z : Hp) (r : Rho) (M : Mh) (x : V) (da : D) (Q : QD), SR (kx X W) Z r M st H → Rep X.K (out Z M H) x da → o da M Q → r0 x H (EQ (kx X W) Z st r (out Z M H) Q)) : DUn X W f o :=
  fun pins s st H Z r M x v da Q I q rx ra ho => h pins s st H x v _ I rx (k st H Z r M x da Q q ra ho)
theorem DCall.of {f : Value} {r0 : List V → Hp → VK → Prop} {o : DRL} (h : CallR X f r0)
    (k : ∀ (st : Sg) (H Z : Hp) (r : Rho) (M : Mh) (xs : List V) (ds : List D) (Q : QD), SR (kx X W) Z r M st H → RepL X.K (out Z M H) xs ds → o ds M Q → r0 xs H (EQ (kx X W) Z st r (out Z M H) Q)) : DCall X W f o :=
  fun pins s st H Z r M xs vs ds Q I q rx ra ho => h pins s st H xs vs _ I rx (k st H Z r M xs ds Q q ra ho)
theorem DCall.or {f : Value} {o o' : DRL} (h : DCall X W f o) (h' : DCall X W f o') : DCall X W f (fun ds M Q => o ds M Q ∨ o' ds M Q) :=
  fun pins s st H Z r M xs vs ds Q I q rx ra ho => ho.elim (h pins s st H Z r M xs vs ds Q I q rx ra) (h' pins s st H Z r M xs vs ds Q I q rx ra)

end

section
variable {X : Cx} {W : DWX} {pos : Pos} {a b c : Expr} {rest : List Expr} {ta tb : DTE} {tA tB : DTT}
theorem TQ.imp {κ : Kt} {Z F : Hp} {st : Sg} {r : Rho} {Q Q' : Bool → Mh → Prop} {k : Bool} {H : Hp} (h : TQ κ Z st r F Q k H) (hq : ∀ M, Q k M → Q' k M) : TQ κ Z st r F Q' k H := by
  obtain ⟨M', q, sm, h⟩ := h
  exact ⟨M', q, sm, hq _ h⟩
end

end DL

set_option maxHeartbeats 2000000
namespace DL
open PySem PySem.Spec PyProof.Rows L2

def aInt (f : Int → Int → Int) (C : Int → Int → Prop) : DR2 := fun x y M Q => match x, y with
  | .int i, .int j => C i j ∧ Q (.int (f i j)) M
  | _, _ => False
section
variable {X : Cx} {W : DWX}
theorem DOp.or {f : Value → Value → Sem Value} {o o' : DR2} (h : DOp X W f o) (h' : DOp X W f o') : DOp X W f (fun a b M Q => o a b M Q ∨ o' a b M Q) :=
  fun pins s st H Z r M x y v u da db Q I q rx ry ra rb ho => ho.elim (h pins s st H Z r M x y v u da db Q I q rx ry ra rb) (h' pins s st H Z r M x y v u da db Q I q rx ry ra rb)
theorem DOp.imp {f : Value → Value → Sem Value} {o o' : DR2} (h : DOp X W f o) (k : ∀ a b M Q, o' a b M Q → o a b M Q) : DOp X W f o' :=
  fun pins s st H Z r M x y v u da db Q I q rx ry ra rb ho => h pins s st H Z r M x y v u da db Q I q rx ry ra rb (k _ _ _ _ ho)
theorem DOp.int {f : Value → Value → Sem Value} {g : Int → Int → Int} {C : Int → Int → Prop} (h : OpR X f (rI C fun i j => .int (g i j))) : DOp X W f (aInt g C) :=
  .of h fun st H Z r M x y da db Q q ra rb h => by
    unfold aInt at h
    split at h
    · cases ra; cases rb
      exact ⟨_, _, rfl, rfl, h.1, EQ.val q (.int _) h.2⟩
    · exact h.elim
end

/- data without dicts, as == takes it -/
theorem Dp.mono {K : PySem.W.Frag} {F F' : Hp} (s : Same F F') : ∀ {v : V} {p : PyData}, Dp K F v p → Dp K F' v p := by
  intro v p h
  refine Dp.rec (K := K) (H := F) (motive_1 := fun v p _ => Dp K F' v p) (motive_2 := fun vs ps _ => DpAll K F' vs ps) .non (fun b => .bl b) (fun b => .int b) (fun b => .str b) (fun h _ r => .lst (Jji s h) r) (fun h _ r => .tup (Jjj s h) r) .nil (fun _ _ h r => .cons h r) h

abbrev DTO := Rho → Mh → (Option Int → Mh → Prop) → Prop
structure DO (X : Cx) (W : DWX) (e : Option Expr) (t : DTO) : Prop where
  run : ∀ (pins : List (Addr × Obj)) (s : Shared) (st : Sg) (H Z : Hp) (r : Rho) (M : Mh) (Q : Option Int → Mh → Prop), Inv X pins st H s → SR (kx X W) Z r M st H → t r M Q →
    wpAny (model X.prog X.w) X.A (evalPart e X.env) (fun u s' => ∃ o H', Inv X pins st H' s' ∧ IsPart u o ∧ ∃ M', SR (kx X W) Z r M' st H' ∧ Same (out Z M H) (out Z M' H') ∧ Q o M') X.xe s
def JxF (k : Kt) (t : DTO) : TO := fun st H Q => ∃ Z r M DQ, SR k Z r M st H ∧ t r M DQ ∧ ∀ o H', (∃ M', SR k Z r M' st H' ∧ Same (out Z M H) (out Z M' H') ∧ DQ o M') → Q o H'
theorem DO.po {X : Cx} {W : DWX} {e : Option Expr} {t : DTO} (h : DO X W e t) : PO X e (JxF (kx X W) t) := ⟨fun pins s st H Q I ⟨Z, r, M, DQ, q, ht, k⟩ =>
  thn (h.run pins s st H Z r M DQ I q ht) fun _ _ ⟨v, H', I', rv, z⟩ => ⟨v, H', I', rv, k v H' z⟩⟩
end DL

set_option maxHeartbeats 2000000
namespace DL
open PySem PySem.Spec PyProof.Rows L2

abbrev DTG := D → Rho → Mh → (Rho → Mh → Prop) → Prop
structure DG (X : Cx) (W : DWX) (target : Expr) (t : DTG) : Prop where
  run : ∀ (pins : List (Addr × Obj)) (s : Shared) (st : Sg) (H Z : Hp) (r : Rho) (M : Mh) (v : V) (u : Value) (d : D) (Q : Rho → Mh → Prop), Inv X pins st H s → SR (kx X W) Z r M st H → RelV v u → Rep X.K (out Z M H) v d → t d r M Q →
    wpAny (model X.prog X.w) X.A (assign target X.env u) (fun _ s' => ∃ st' H', Inv X pins st' H' s' ∧ NQ (kx X W) Z (out Z M H) Q st' H') X.xe s
def JxH (k : Kt) (t : DTG) : TG := fun v st H Q => ∃ Z r M d DQ, SR k Z r M st H ∧ Rep k.K (out Z M H) v d ∧ t d r M DQ ∧ ∀ st' H', NQ k Z (out Z M H) DQ st' H' → Q st' H'
theorem DG.pg {X : Cx} {W : DWX} {tg : Expr} {t : DTG} (h : DG X W tg t) : PG X tg (JxH (kx X W) t) := ⟨fun pins s st H v u Q I rv ⟨Z, r, M, d, DQ, q, rp, ht, k⟩ =>
  thn (h.run pins s st H Z r M v u d DQ I q rv rp ht) fun _ _ ⟨st', H', I', e⟩ => ⟨st', H', I', k _ _ e⟩⟩

end DL

set_option maxHeartbeats 2000000

set_option maxHeartbeats 2000000
namespace DL
open PySem PySem.Spec PyProof.Rows L2

abbrev DSp := List D → Mh → QD → DXK → Prop
def XQ (K : PySem.W.Frag) (Z F : Hp) (E : DXK) : XK := fun cls dx H' => ∃ fs M', ExF K (out Z M' H') dx fs ∧ HR K Z M' H' ∧ Same F (out Z M' H') ∧ E cls fs M'
structure Rm (k : Nat) (A : Around) : Prop where
  room : Room k A
  gd : A.guards = some []
theorem Rm.mono {j k : Nat} {A : Around} (r : Rm k A) (h : j ≤ k) : Rm j A := ⟨r.room.mono h, r.gd⟩
structure FnG (P : Program) (w : World) (K : PySem.W.Frag) (mg : Str → Option Value) (base : Heap) (k : Nat) (f : Addr) (fd : FuncData) (ps : List Str) (sp : DSp) : Prop where
  len : ∀ ds M Q E, sp ds M Q E → ds.length = ps.length
  run : ∀ (A : Around) (outer : List Env) (s : Shared) (H Z : Hp) (M : Mh) (args : Args) (us : List Value) (vs : List V) (ds : List D) (Q : QD) (E : DXK), Rm k A → Env0 P w K mg base A outer s H → BindsTo s fd args (ps.zip us) → Vals vs us →
    HR K Z M H → RepL K (out Z M H) vs ds → sp ds M Q E → codeAny (model P w) A (.call (.ref f) args) (CR (L2.CX P w) outer P w H s (RQ K Z (out Z M H) Q) (XQ K Z (out Z M H) E)) s
theorem FnG.imp {P : Program} {w : World} {K : PySem.W.Frag} {mg : Str → Option Value} {base : Heap} {k : Nat} {f : Addr} {fd : FuncData} {ps : List Str} {sp sp' : DSp} (F : FnG P w K mg base k f fd ps sp) (h : ∀ ds M Q E, sp' ds M Q E → sp ds M Q E) : FnG P w K mg base k f fd ps sp' :=
  ⟨fun ds M Q E q => F.len ds M Q E (h _ _ _ _ q), fun A outer s H Z M args us vs ds Q E hr he hb hv hh rp hs => F.run A outer s H Z M args us vs ds Q E hr he hb hv hh rp (h _ _ _ _ hs)⟩

structure Bd (K : PySem.W.Frag) (fd : FuncData) (ps : List Str) (n : Nat) (ks : List Str) (gD : List D → List D → List D) : Prop where
  to : ∀ (s : Shared) (us ws : List Value) (vs zs : List V) (ds es : List D) (F : Hp), K.In s.heap → us.length = n → ws.length = ks.length → Vals vs us → Vals zs ws → RepL K F vs ds → RepL K F zs es →
    ∃ full fullV, BindsTo s fd ⟨us, ks.zip ws⟩ (ps.zip full) ∧ Vals fullV full ∧ RepL K F fullV (gD ds es)

def RetQ (Q : QD) : QD := fun d M => ∃ M', Less M' M ∧ (Q d M' ∨ ∃ p ds, d = .ref p ∧ M p = some (.lst ds) ∧ M' p = none ∧ Q (.lst ds) M')
def XLess (E : DXK) : DXK := fun cls fs M => ∃ M', Less M' M ∧ E cls fs M'
theorem XLess.here {E : DXK} {cls : Value} {fs : List (Str × D)} {M : Mh} (h : E cls fs M) : XLess E cls fs M := ⟨M, Less.refl, h⟩
theorem ExF.mono {K : PySem.W.Frag} {F F' : Hp} {dx : Option Addr} {fs : List (Str × D)} (s : Same F F') (h : ExF K F dx fs) : ExF K F' dx fs := h.imp id fun ⟨d, fv, a, b, c⟩ => ⟨d, fv, a, s _ _ b, c.mono s⟩
theorem Jp0 {M : Mh} {p : Addr} {o : MO} (h : M p = none) : Less M (mset M p o) := fun a => by
  by_cases e : a = p
  · subst e; exact .inr h
  · rw [JcG e]; exact .inl rfl
theorem RetQ.here {Q : QD} {d : D} {M : Mh} (h : Q d M) : RetQ Q d M := ⟨M, Less.refl, .inl h⟩
theorem RetQ.lst {Q : QD} {p : Addr} {ds : List D} {M : Mh} (hp : M p = none) (h : Q (.lst ds) M) : RetQ Q (.ref p) (mset M p (.lst ds)) := ⟨M, Jp0 hp, .inr ⟨p, ds, rfl, Jbt, hp, h⟩⟩
theorem Bd.all {K : PySem.W.Frag} {x qual : Str} {params : Arguments} {body : List Stmt} {scope : Scope} {f : Addr} {fd : FuncData} {ps : List Str} {dvs : List V} {kws : List (Str × V)} {n : Nat} (F : FunD K x qual params body scope dvs kws f fd) (hd : dvs = []) (hn : n = ps.length)
    (h : ∀ (kV doc pm : Value) (an : Option Addr) (cdv ct : Value) (us : List Value), us.length = ps.length → bindArgs (PySem.W.fnOf x qual params body scope .none kV doc pm an cdv ct) ⟨us, []⟩ = pure (ps.zip us)) : Bd K fd ps n [] (fun ds _ => ds) := by
  obtain ⟨oc, od, dV, kV, doc, pm, an, cdv, ct, osl, rfl, lk, hcd, hD, hK⟩ := F.ex
  rcases hD with ⟨_, rfl⟩ | ⟨e, _⟩
  · refine ⟨fun s us ws vs zs ds es Fr X l1 l2 rv rz rp rpz => ⟨us, vs, ?_, rv, rp⟩⟩
    cases rz with
    | nil => exact .of_eq (h kV doc pm an cdv ct us (l1.trans hn))
    | cons _ _ => simp at l2
  · exact absurd hd e
end DL

set_option maxHeartbeats 2000000
namespace DL
open PySem PySem.Spec PyProof.Rows L2

section
variable {X : Cx} {W : DWX}
theorem DCall.imp {f : Value} {o o' : DRL} (h : DCall X W f o) (k : ∀ ds M Q, o' ds M Q → o ds M Q) : DCall X W f o' :=
  fun pins s st H Z r M xs vs ds Q I q rx ra ho => h pins s st H Z r M xs vs ds Q I q rx ra (k _ _ _ ho)
end

end DL

set_option maxHeartbeats 2000000
namespace DL
open PySem PySem.Spec PyProof.Rows L2

abbrev DRM := D → List D → Mh → QD → Prop
def DMt (X : Cx) (W : DWX) (id : String) (o : DRM) : Prop :=
  ∀ (pins : List (Addr × Obj)) (s : Shared) (st : Sg) (H Z : Hp) (r : Rho) (M : Mh) (x : V) (xs : List V) (v : Value) (vs : List Value) (d : D) (ds : List D) (Q : QD), Inv X pins st H s → SR (kx X W) Z r M st H → RelV x v → Vals xs vs → Rep X.K (out Z M H) x d → RepL X.K (out Z M H) xs ds → o d ds M Q →
    wpAny (model X.prog X.w) X.A (call (.builtin id) (v :: vs)) (EP X pins st (EQ (kx X W) Z st r (out Z M H) Q)) X.xe s
section
variable {X : Cx} {W : DWX}
theorem DMt.of {id : String} {r0 : V → List V → Hp → VK → Prop} {o : DRM} (h : MtR X id r0)
    (k : ∀ (st : Sg) (H Z : Hp) (r : Rho) (M : Mh) (x : V) (xs : List V) (d : D) (ds : List D) (Q : QD), SR (kx X W) Z r M st H → Rep X.K (out Z M H) x d → RepL X.K (out Z M H) xs ds → o d ds M Q → r0 x xs H (EQ (kx X W) Z st r (out Z M H) Q)) : DMt X W id o :=
  fun pins s st H Z r M x xs v vs d ds Q I q rx rxs ra rb ho => h pins s st H x xs v vs _ I rx rxs (k st H Z r M x xs d ds Q q ra rb ho)
theorem DMt.or {id : String} {o o' : DRM} (h : DMt X W id o) (h' : DMt X W id o') : DMt X W id (fun d ds M Q => o d ds M Q ∨ o' d ds M Q) :=
  fun pins s st H Z r M x xs v vs d ds Q I q rx rxs ra rb ho => ho.elim (h pins s st H Z r M x xs v vs d ds Q I q rx rxs ra rb) (h' pins s st H Z r M x xs v vs d ds Q I q rx rxs ra rb)
end
end DL

set_option maxHeartbeats 2000000
namespace DL
open PySem PySem.Spec PyProof.Rows L2

structure ICls (K : PySem.W.Frag) (C : Addr) : Prop where
  pg : PySem.W.plainGet K C Str.empty = true
  ic : PySem.W.isClsIn K C = true
theorem ICls.get {K : PySem.W.Frag} {C : Addr} (c : ICls K C) (f : Str) : PySem.W.plainGet K C f = true := c.pg

end DL

set_option maxHeartbeats 2000000
namespace DL
open PySem PySem.Spec PyProof.Rows L2

def offX : List Value → List Value
  | .ref _ :: r => offX r
  | l => l
end DL

set_option maxHeartbeats 2000000

set_option maxHeartbeats 2000000
namespace DL
open PySem PySem.Spec PyProof.Rows L2

section
variable {K : PySem.W.Frag} {F : Hp}
theorem RepK.any {k : Key} : ∀ {v : List (Key × V)} {d : List (Key × D)}, RepK K F v d → (v.any fun kv => decide (kv.1 = k)) = (d.any fun kv => decide (kv.1 = k))
  | _, _, .nil => rfl
  | _, _, .cons h r => by rw [List.any_cons, List.any_cons, RepK.any r]
theorem RepK.length : ∀ {v : List (Key × V)} {d : List (Key × D)}, RepK K F v d → v.length = d.length
  | _, _, .nil => rfl
  | _, _, .cons _ r => congrArg (· + 1) (RepK.length r)
end
end DL

set_option maxHeartbeats 2000000
namespace DL
open PySem PySem.Spec PyProof.Rows L2

def Jny (i j k : Int) : Prop := 0 ≤ i ∧ i < 2147483648 ∧ 0 ≤ j ∧ 0 ≤ k
theorem JrT {K : PySem.W.Frag} {Z : Hp} {M : Mh} {H : Hp} {p : Addr} {o u : MO} (m : HR K Z M H) (e : M p = some o) (h : MoR K (out Z M H) H p u) : HR K Z (mset M p u) H ∧ out Z (mset M p u) H = out Z M H := by
  have eo : out Z (mset M p u) H = out Z M H := Jjk m (fun _ _ => rfl) (.inr (by rw [e]; exact fun z => nomatch z))
  exact ⟨m.mset (fun _ _ => rfl) (.inr (by rw [e]; exact fun z => nomatch z)) h, eo⟩
theorem JrU {K : PySem.W.Frag} {Z : Hp} {M : Mh} {H : Hp} {p : Addr} (m : HR K Z M H) (e : M p = some .pool) :
    ∃ i j k, Jny i j k ∧ HR K Z (mset M p (.lst [.int i, .int j, .int k])) H ∧ out Z (mset M p (.lst [.int i, .int j, .int k])) H = out Z M H := by
  obtain ⟨i, j, k, e1, h1, h2, h3, h4⟩ := m.mem _ _ e
  exact ⟨i, j, k, ⟨h1, h2, h3, h4⟩, JrT m e ⟨_, e1, .cons (.int i) (.cons (.int j) (.cons (.int k) .nil))⟩⟩
theorem Jp6 {K : PySem.W.Frag} {Z : Hp} {M : Mh} {H : Hp} {p : Addr} {i j k : Int} (m : HR K Z (mset M p (.lst [.int i, .int j, .int k])) H) (h : Jny i j k) :
    HR K Z (mset M p .pool) H ∧ out Z (mset M p .pool) H = out Z (mset M p (.lst [.int i, .int j, .int k])) H := by
  obtain ⟨xs, e1, e2⟩ := m.mem p _ Jbt
  have ex : xs = [.int i, .int j, .int k] := by
    cases e2 with
    | cons a b => cases a; cases b with
      | cons a b => cases a; cases b with
        | cons a b => cases a; cases b; rfl
  subst ex
  have q := JrT m Jbt (u := .pool) ⟨i, j, k, e1, h⟩
  rw [Jnw] at q
  exact q
def Jwb (sp : DSp) : DSp := fun ds M Q E => ∃ p ds', ds = .ref p :: ds' ∧ M p = some .pool ∧ ∀ i j k, Jny i j k →
  sp ds (mset M p (.lst [.int i, .int j, .int k])) (fun d M' => ∃ i' j' k', Jny i' j' k' ∧ M' = mset M p (.lst [.int i', .int j', .int k']) ∧ Q d M) (fun _ _ _ => False)
theorem JtX {K : PySem.W.Frag} {Z F : Hp} {Q Q' : QD} {v : V} {H : Hp} (k : ∀ d M, HR K Z M H → Rep K (out Z M H) v d → Q d M → ∃ d' M', HR K Z M' H ∧ Rep K (out Z M' H) v d' ∧ Same (out Z M H) (out Z M' H) ∧ Q' d' M') (h : RQ K Z F Q v H) : RQ K Z F Q' v H := by
  obtain ⟨d, M, m, rp, sm, h⟩ := h
  obtain ⟨d', M', m', rp', sm', h'⟩ := k d M m rp h
  exact ⟨d', M', m', rp', sm.trans sm', h'⟩
theorem JtY {P : Program} {w : World} {outer : List Env} {H : Hp} {s : Shared} {Q Q' : VK} {E E' : XK} {z : Result} {s' : Shared} (k : ∀ v H', Q v H' → Q' v H') (ke : ∀ c d H', E c d H' → E' c d H') (h : CR (L2.CX P w) outer P w H s Q E z s') : CR (L2.CX P w) outer P w H s Q' E' z s' := by
  cases z with
  | error e =>
    obtain ⟨a, B, H', c, d, x1, x2, x3, x4, x5, x6, x7, x8⟩ := h
    exact ⟨a, B, H', c, d, x1, x2, x3, x4, x5, x6, x7, ke _ _ _ x8⟩
  | ok fl =>
    cases fl with
    | ret u =>
      obtain ⟨v, H', a, b, c, d, e, q⟩ := h
      exact ⟨v, H', a, b, c, d, e, k _ _ q⟩
    | next => exact h
    | brk => exact h
    | cont => exact h
theorem JsT {P : Program} {w : World} {K : PySem.W.Frag} {mg : Str → Option Value} {base : Heap} {k : Nat} {f : Addr} {fd : FuncData} {ps : List Str} {sp : DSp} (F : FnG P w K mg base k f fd ps sp) : FnG P w K mg base k f fd ps (Jwb sp) where
  len := fun ds M Q E ⟨p, ds', e, em, h⟩ => F.len _ _ _ _ (h 0 0 0 ⟨Int.le_refl _, by decide, Int.le_refl _, Int.le_refl _⟩)
  run := fun A outer s H Z M args us vs ds Q E hr e0 hb rv hh rp ⟨p, ds', ed, em, h⟩ => by
    obtain ⟨i, j, k, po, m1, eo⟩ := JrU hh em
    have r := F.run A outer s H Z _ args us vs ds _ _ hr e0 hb rv m1 (by rw [eo]; exact rp) (h i j k po)
    refine codeAny_mono r fun z s' q => JtY (fun v H' q => ?_) (fun c d H' q => ?_) q
    · rw [eo] at q
      refine JtX (fun d M' m' rp' hq => ?_) q
      obtain ⟨i', j', k', po', eM, hQ⟩ := hq
      subst eM
      obtain ⟨m2, eo2⟩ := Jp6 m' po'
      rw [Jt7 em] at m2 eo2
      exact ⟨d, M, m2, by rw [eo2]; exact rp', by rw [eo2]; exact Same.refl _, hQ⟩
    · obtain ⟨_, _, _, _, _, z⟩ := q
      exact z.elim
structure TabsOk (K : PySem.W.Frag) (h : Heap) : Prop where
  at_ : ∀ x ∈ tabK K, h.get? x.2.1 = some { cls := .none, data := .fields #[] }
  no : ∀ x ∈ tabK K, K.lookup x.2.1 = none
  code : ∀ x ∈ tabK K, PySem.W.CodeHd h x.1 x.2.1
  uq : ∀ x ∈ tabK K, ∀ y ∈ tabK K, x.2.1 = y.2.1 → x.2.2 = y.2.2
theorem TabsOk.none {K : PySem.W.Frag} {h : Heap} (e : tabK K = []) : TabsOk K h := by
  refine ⟨?_, ?_, ?_, ?_⟩ <;> rw [e] <;> intro x hx <;> cases hx
end DL

set_option maxHeartbeats 2000000
namespace DL
open PySem PySem.Spec PyProof.Rows L2 He

abbrev Fc := PySem.W.Frag → Bool
def obsF (fa : List Fc) (fn : List He5.DefA) (K : PySem.W.Frag) : AlD := ((fa.all fun f => f K) && fn.all fun d => d.ok K, fn.map fun d => He5.fnA K (d.at_ K))
def valF (fn : List He5.DefA) : AlD := (true, fn.map He5.DefA.val)
def SaysF (fa : List Fc) (fn : List He5.DefA) (K : PySem.W.Frag) : Prop := obsF fa fn K = valF fn
def JxR (m a : Nat) : Bool := Nat.testBit m a
def addB : Nat → List Addr → List Addr → Nat × List Addr
  | m, [], acc => (m, acc)
  | m, a :: as, acc => match JxR m a with
    | true => addB m as acc
    | false => addB (m ||| (1 <<< a)) as (a :: acc)
def Jwc (g : Addr → Option Obj) : Nat → Nat → List Addr → List Addr → List Addr
  | 0, _, _, acc => acc
  | n + 1, m, fr, acc => match addB m (fr.flatMap fun a => match g a with
      | some o => refsD o
      | none => []) [] with
    | (m', new) => Jwc g n m' new (acc ++ new)
def asB (g : Addr → Option Obj) (n : Nat) : List Addr := Jwc g n (1 <<< mainGlobals) [mainGlobals] [mainGlobals]
def asF (g : Addr → Option Obj) (n : Nat) : List Addr := asB g n ++ [cStatics, sysModules]
def JsU (n : Nat) (fa : List Fc) (fn : List He5.DefA) (g : Addr → Option Obj) : AlD := obsF fa fn (frG g (asF g n))
def Juy (n : Nat) (fa : List Fc) (fn : List He5.DefA) : PySem.W.Hook where
  α := AlD
  obs := fun s => JsU n fa fn s.heap.get?
  val := fun _ => valF fn
  says := fun _ h => ∃ K : PySem.W.Frag, K.In h ∧ SaysF fa fn K
  of := fun _ _ e => ⟨_, frG_in, e⟩
  keeps := fun _ _ _ ⟨K, hK, c⟩ k => ⟨K, hK.keeps k, c⟩
def isT {α : Type} [DecidableEq α] (a b : α) : Bool := decide (a = b)
section
variable {K : PySem.W.Frag} {x f m : Str} {i : Nat}
def Jah (T : String) (x : Str) (b : Bool) : Fc := fun K => isT (PySem.W.kitOne K (.type T) (.ref (ga K x))) (some b)
def bNoT : Fc := fun K => (tabK K).isEmpty
def bSys : Fc := fun K => (K.lookup sysModules).isSome
end
end DL

set_option maxHeartbeats 2000000
namespace DL
open PySem PySem.Spec PyProof.Rows L2

def OkF (P : Program) (w : World) (K : PySem.W.Frag) (mg : Str → Option Value) (base : Heap) (k : Nat) (d : He5.DefA) (ps : List Str) (sp : DSp) : Prop :=
  ∃ fd, FunD K d.name d.qual d.params d.body d.scope (d.dvs K) (d.kws K) (d.at_ K) fd ∧ FnG P w K mg base k (d.at_ K) fd ps sp ∧ Bd K fd ps ps.length [] (fun ds _ => ds)
theorem OkF.imp {P : Program} {w : World} {K : PySem.W.Frag} {mg : Str → Option Value} {base : Heap} {k : Nat} {d : He5.DefA} {ps : List Str} {sp sp' : DSp} (F : OkF P w K mg base k d ps sp) (h : ∀ ds M Q E, sp' ds M Q E → sp ds M Q E) : OkF P w K mg base k d ps sp' := by
  obtain ⟨fd, a, b, c⟩ := F
  exact ⟨fd, a, b.imp h, c⟩
theorem OkF.pool {P : Program} {w : World} {K : PySem.W.Frag} {mg : Str → Option Value} {base : Heap} {k : Nat} {d : He5.DefA} {ps : List Str} {sp : DSp} (F : OkF P w K mg base k d ps sp) : OkF P w K mg base k d ps (Jwb sp) := by
  obtain ⟨fd, a, b, c⟩ := F
  exact ⟨fd, a, JsT b, c⟩
def inS (s : Stmt) (j : Nat) : Stmt := match s with
  | .ClassDef _ _ _ b _ _ _ _ _ _ _ => b.getD j (.Pass ⟨0, 0, 0, 0⟩)
  | _ => .Pass ⟨0, 0, 0, 0⟩
end DL

namespace DL
open PySem PySem.Spec PyProof.Rows L2 He
def bIsE (x : Str) : Fc := fun K => (PySem.W.clsIn K (ga K x)).isSome && (isT (PySem.W.findIn K (.ref (ga K x)) "__getattribute__") (some (some (.builtin "BaseException.__getattribute__"))) && (isT (PySem.W.findIn K (.ref (ga K x)) "__getattr__") (some none) && (isT (PySem.W.subIn K (.ref (ga K x)) (.type "BaseException")) (some true) &&
  (isT (PySem.W.findIn K (.ref (ga K x)) "__class__") (some (some (.builtin "object.__class__"))) && isT (PySem.W.mroIn K (ga K x) (.type "object")) (some true)))))
def baB (n : String) (bm : List Value) : Bool := (decide (n = "ValueError.__new__") && decide (offX bm = [.type "ValueError", .type "Exception", .type "BaseException", .type "object"])) ||
  ((decide (n = "LookupError.__new__") && decide (offX bm = [.type "LookupError", .type "Exception", .type "BaseException", .type "object"])) ||
  (decide (n = "ArithmeticError.__new__") && decide (offX bm = [.type "ArithmeticError", .type "Exception", .type "BaseException", .type "object"])))
def oxB (K : PySem.W.Frag) (C : Addr) : Bool := match K.lookup C with
  | some ⟨.type "type", _, .cls cd, sl⟩ => (match cd.mro, sl.toList with
    | .ref C' :: bm, [_, _, _, _, some (.builtin n), _] => decide (C' = C) && (baB n bm && (!cd.hasDel && cd.hasDict))
    | _, _ => false)
  | _ => false
def Ja8 (x f : Str) : Fc := fun K => oxB K (ga K x) && (isT (PySem.W.findIn K (.ref (ga K x)) "__setattr__") (some (some (.builtin "object.__setattr__"))) && (isT (PySem.W.subIn K (.ref (ga K x)) (.type "BaseException")) (some true) &&
  (isT (PySem.W.typeIn K (.ref (ga K x))) (some (.type "type")) && (PySem.W.keepIn K (.ref (ga K x)) && (isT (PySem.W.findIn K (.ref (ga K x)) "__init__") (some (some (.ref (ma K (ga K x) "__init__")))) && (isT (PySem.W.typeIn K (.ref (ma K (ga K x) "__init__"))) (some (.type "function")) &&
  (isT (PySem.W.findIn K (.ref (ga K x)) f) (some none) && xfB K (ga K x))))))))
def ex0B (K : PySem.W.Frag) (C : Addr) : Bool := PySem.W.excIn K C [.type "ValueError", .type "Exception", .type "BaseException", .type "object"] "ValueError.__new__" ||
  (PySem.W.excIn K C [.type "LookupError", .type "Exception", .type "BaseException", .type "object"] "LookupError.__new__" || PySem.W.excIn K C [.type "ArithmeticError", .type "Exception", .type "BaseException", .type "object"] "ArithmeticError.__new__")
def Juz (x : Str) : Fc := fun K => ex0B K (ga K x) && (isT (PySem.W.subIn K (.ref (ga K x)) (.type "BaseException")) (some true) && (isT (PySem.W.typeIn K (.ref (ga K x))) (some (.type "type")) && PySem.W.keepIn K (.ref (ga K x))))
def Jbu (ps : List (Str × Str × Bool)) : Fc := fun K => ps.all fun p => isT (PySem.W.kitOne K (.ref (ga K p.1)) (.ref (ga K p.2.1))) (some p.2.2)
def Jbv (ps : List (Str × String × Bool)) : Fc := fun K => ps.all fun p => isT (PySem.W.kitOne K (.ref (ga K p.1)) (.type p.2.1)) (some p.2.2)
end DL
--FRONT
set_option maxHeartbeats 4000000
namespace DL.FR
open DL PySem PySem.Spec PyProof.Rows L2
def topS (i : Nat) : Stmt := PySem.Challenge.pw_overhours_k01_constants_and_errors.main.body.getD i (.Pass ⟨0, 0, 0, 0⟩)
abbrev Jjl : He5.DefA := ⟨fun K => He.ma K (He.ga K "InvalidName") "__init__", "__init__", "InvalidName.__init__", defArgs (inS (topS 2) 0), defBody (inS (topS 2) 0), defScope (inS (topS 2) 0), [], []⟩
abbrev Jjm : He5.DefA := ⟨fun K => He.ma K (He.ga K "InvalidMost") "__init__", "__init__", "InvalidMost.__init__", defArgs (inS (topS 3) 0), defBody (inS (topS 3) 0), defScope (inS (topS 3) 0), [], []⟩
abbrev Jjn : He5.DefA := ⟨fun K => He.ma K (He.ga K "InvalidKind") "__init__", "__init__", "InvalidKind.__init__", defArgs (inS (topS 4) 0), defBody (inS (topS 4) 0), defScope (inS (topS 4) 0), [], []⟩
abbrev JdD : He5.DefA := ⟨fun K => He.ma K (He.ga K "InvalidNumber") "__init__", "__init__", "InvalidNumber.__init__", defArgs (inS (topS 5) 0), defBody (inS (topS 5) 0), defScope (inS (topS 5) 0), [], []⟩
abbrev Jjo : He5.DefA := ⟨fun K => He.ma K (He.ga K "InvalidRate") "__init__", "__init__", "InvalidRate.__init__", defArgs (inS (topS 6) 0), defBody (inS (topS 6) 0), defScope (inS (topS 6) 0), [], []⟩
abbrev Jjp : He5.DefA := ⟨fun K => He.ma K (He.ga K "InvalidText") "__init__", "__init__", "InvalidText.__init__", defArgs (inS (topS 7) 0), defBody (inS (topS 7) 0), defScope (inS (topS 7) 0), [], []⟩
abbrev Jfh : He5.DefA := ⟨fun K => He.ma K (He.ga K "InvalidSheet") "__init__", "__init__", "InvalidSheet.__init__", defArgs (inS (topS 8) 0), defBody (inS (topS 8) 0), defScope (inS (topS 8) 0), [], []⟩
abbrev Jfi : He5.DefA := ⟨fun K => He.ma K (He.ga K "InvalidTotal") "__init__", "__init__", "InvalidTotal.__init__", defArgs (inS (topS 9) 0), defBody (inS (topS 9) 0), defScope (inS (topS 9) 0), [], []⟩
abbrev Jfj : He5.DefA := ⟨fun K => He.ma K (He.ga K "InvalidHours") "__init__", "__init__", "InvalidHours.__init__", defArgs (inS (topS 10) 0), defBody (inS (topS 10) 0), defScope (inS (topS 10) 0), [], []⟩
abbrev Jjq : He5.DefA := ⟨fun K => He.ma K (He.ga K "InvalidWish") "__init__", "__init__", "InvalidWish.__init__", defArgs (inS (topS 11) 0), defBody (inS (topS 11) 0), defScope (inS (topS 11) 0), [], []⟩
abbrev Jfk : He5.DefA := ⟨fun K => He.ma K (He.ga K "InvalidIndex") "__init__", "__init__", "InvalidIndex.__init__", defArgs (inS (topS 12) 0), defBody (inS (topS 12) 0), defScope (inS (topS 12) 0), [], []⟩
abbrev Jnb : He5.DefA := ⟨fun K => He.ma K (He.ga K "NotPlan") "__init__", "__init__", "NotPlan.__init__", defArgs (inS (topS 13) 0), defBody (inS (topS 13) 0), defScope (inS (topS 13) 0), [], []⟩
abbrev Jjr : He5.DefA := ⟨fun K => He.ma K (He.ga K "UnknownName") "__init__", "__init__", "UnknownName.__init__", defArgs (inS (topS 19) 0), defBody (inS (topS 19) 0), defScope (inS (topS 19) 0), [], []⟩
abbrev Jlk : He5.DefA := ⟨fun K => He.ma K (He.ga K "OtherDays") "__init__", "__init__", "OtherDays.__init__", defArgs (inS (topS 22) 0), defBody (inS (topS 22) 0), defScope (inS (topS 22) 0), [], []⟩
abbrev Jjs : He5.DefA := ⟨fun K => He.ma K (He.ga K "OutOfBounds") "__init__", "__init__", "OutOfBounds.__init__", defArgs (inS (topS 23) 0), defBody (inS (topS 23) 0), defScope (inS (topS 23) 0), [], []⟩
abbrev Jjt : He5.DefA := ⟨fun K => He.ma K (He.ga K "InvalidDays") "__init__", "__init__", "InvalidDays.__init__", defArgs (inS (topS 14) 0), defBody (inS (topS 14) 0), defScope (inS (topS 14) 0), [], []⟩
abbrev Jfl : He5.DefA := ⟨fun K => He.ma K (He.ga K "InvalidRules") "__init__", "__init__", "InvalidRules.__init__", defArgs (inS (topS 15) 0), defBody (inS (topS 15) 0), defScope (inS (topS 15) 0), [], []⟩
abbrev Jcc : He5.DefA := ⟨fun K => He.ma K (He.ga K "InvalidChanges") "__init__", "__init__", "InvalidChanges.__init__", defArgs (inS (topS 16) 0), defBody (inS (topS 16) 0), defScope (inS (topS 16) 0), [], []⟩
abbrev JdE : He5.DefA := ⟨fun K => He.ma K (He.ga K "InvalidWishes") "__init__", "__init__", "InvalidWishes.__init__", defArgs (inS (topS 17) 0), defBody (inS (topS 17) 0), defScope (inS (topS 17) 0), [], []⟩
abbrev Jn3 : He5.DefA := ⟨fun K => He.ma K (He.ga K "InUse") "__init__", "__init__", "InUse.__init__", defArgs (inS (topS 20) 0), defBody (inS (topS 20) 0), defScope (inS (topS 20) 0), [], []⟩
abbrev Jnz : He5.DefA := ⟨fun K => He.ma K (He.ga K "Broken") "__init__", "__init__", "Broken.__init__", defArgs (inS (topS 25) 0), defBody (inS (topS 25) 0), defScope (inS (topS 25) 0), [], []⟩
abbrev Jpu : He5.DefA := ⟨fun K => He.ga K "_law_cell", "_law_cell", "_law_cell", defArgs (topS 30), defBody (topS 30), defScope (topS 30), [], []⟩
abbrev Joi : He5.DefA := ⟨fun K => He.ga K "_law_pool", "_law_pool", "_law_pool", defArgs (topS 31), defBody (topS 31), defScope (topS 31), [], []⟩
abbrev JnA : He5.DefA := ⟨fun K => He.ga K "_law_draw", "_law_draw", "_law_draw", defArgs (topS 32), defBody (topS 32), defScope (topS 32), [], []⟩
abbrev Jpv : He5.DefA := ⟨fun K => He.ga K "_law_pick", "_law_pick", "_law_pick", defArgs (topS 33), defBody (topS 33), defScope (topS 33), [], []⟩
abbrev JqJ : He5.DefA := ⟨fun K => He.ga K "_law_odd", "_law_odd", "_law_odd", defArgs (topS 34), defBody (topS 34), defScope (topS 34), [], []⟩
abbrev JnO : He5.DefA := ⟨fun K => He.ga K "_law_valued", "_law_valued", "_law_valued", defArgs (topS 35), defBody (topS 35), defScope (topS 35), [], []⟩
abbrev Jne : He5.DefA := ⟨fun K => He.ga K "_law_further", "_law_further", "_law_further", defArgs (topS 36), defBody (topS 36), defScope (topS 36), [], []⟩
abbrev Jnf : He5.DefA := ⟨fun K => He.ga K "_law_indexed", "_law_indexed", "_law_indexed", defArgs (topS 37), defBody (topS 37), defScope (topS 37), [], []⟩
abbrev Jor : He5.DefA := ⟨fun K => He.ga K "_law_sorts", "_law_sorts", "_law_sorts", defArgs (topS 38), defBody (topS 38), defScope (topS 38), [], []⟩
abbrev Jos : He5.DefA := ⟨fun K => He.ga K "_law_bases", "_law_bases", "_law_bases", defArgs (topS 39), defBody (topS 39), defScope (topS 39), [], []⟩
abbrev JlZ : He5.DefA := ⟨fun K => He.ga K "_law_is_right", "_law_is_right", "_law_is_right", defArgs (topS 40), defBody (topS 40), defScope (topS 40), [], []⟩
abbrev Jot : He5.DefA := ⟨fun K => He.ga K "_law_right", "_law_right", "_law_right", defArgs (topS 41), defBody (topS 41), defScope (topS 41), [], []⟩
abbrev JsW : He5.DefA := ⟨fun K => He.ga K "law", "law", "law", defArgs (topS 42), defBody (topS 42), defScope (topS 42), [], []⟩
def fn : List He5.DefA := [Jjl, Jjm, Jjn, JdD, Jjo, Jjp, Jfh, Jfi, Jfj, Jjq, Jfk, Jnb, Jjr, Jlk, Jjs, Jjt, Jfl, Jcc, JdE, Jn3, Jnz, Jpu, Joi, JnA, Jpv, JqJ, JnO, Jne, Jnf, Jor, Jos, JlZ, Jot, JsW]
def fa : List Fc := [
  fun K => (He.Fa.free "int").ok K,
  fun K => (He.Fa.free "len").ok K,
  fun K => (He.Fa.free "abs").ok K,
  fun K => (He.Fa.free "divmod").ok K,
  fun K => (He.Fa.glo "_law_draw").ok K,
  fun K => (He.Fa.free "str").ok K,
  fun K => (He.Fa.glo "_law_pick").ok K,
  fun K => (He.Fa.glo "InvalidName").ok K,
  fun K => (He.Fa.glo "InvalidMost").ok K,
  fun K => (He.Fa.glo "InvalidKind").ok K,
  fun K => (He.Fa.glo "InvalidNumber").ok K,
  fun K => (He.Fa.glo "InvalidRate").ok K,
  fun K => (He.Fa.glo "InvalidText").ok K,
  fun K => (He.Fa.glo "InvalidSheet").ok K,
  fun K => (He.Fa.glo "InvalidTotal").ok K,
  fun K => (He.Fa.glo "InvalidHours").ok K,
  fun K => (He.Fa.glo "InvalidWish").ok K,
  fun K => (He.Fa.glo "InvalidIndex").ok K,
  fun K => (He.Fa.glo "NotPlan").ok K,
  fun K => (He.Fa.glo "UnknownName").ok K,
  fun K => (He.Fa.glo "OtherDays").ok K,
  fun K => (He.Fa.glo "OutOfBounds").ok K,
  fun K => (He.Fa.glo "InvalidDays").ok K,
  fun K => (He.Fa.glo "InvalidRules").ok K,
  fun K => (He.Fa.glo "InvalidChanges").ok K,
  fun K => (He.Fa.glo "InvalidWishes").ok K,
  fun K => (He.Fa.glo "InUse").ok K,
  fun K => (He.Fa.glo "NothingToUndo").ok K,
  Juz "NothingToUndo",
  fun K => (He.Fa.glo "Broken").ok K,
  fun K => (He.Fa.free "isinstance").ok K,
  fun K => (He.Fa.glo "NotPossible").ok K,
  fun K => (He.Fa.glo "WrongName").ok K,
  fun K => (He.Fa.glo "WrongValue").ok K,
  fun K => (He.Fa.free "ArithmeticError").ok K,
  fun K => (He.Fa.free "LookupError").ok K,
  fun K => (He.Fa.free "ValueError").ok K,
  fun K => (He.Fa.glo "_law_valued").ok K,
  fun K => (He.Fa.glo "_law_further").ok K,
  fun K => (He.Fa.glo "_law_indexed").ok K,
  fun K => (He.Fa.glo "_law_sorts").ok K,
  fun K => (He.Fa.free "range").ok K,
  fun K => (He.Fa.glo "_law_bases").ok K,
  bSys,
  fun K => (He.Fa.free "repr").ok K,
  fun K => (He.Fa.glo "_law_odd").ok K,
  fun K => (He.Fa.glo "_law_is_right").ok K,
  Jah "NoneType" "Broken" false,
  Jah "bool" "Broken" false,
  Jah "int" "Broken" false,
  Jah "str" "Broken" false,
  Jah "tuple" "Broken" false,
  Jah "list" "Broken" false,
  Jah "dict" "Broken" false,
  Jah "NoneType" "InUse" false,
  Jah "bool" "InUse" false,
  Jah "int" "InUse" false,
  Jah "str" "InUse" false,
  Jah "tuple" "InUse" false,
  Jah "list" "InUse" false,
  Jah "dict" "InUse" false,
  Jah "NoneType" "InvalidChanges" false,
  Jah "bool" "InvalidChanges" false,
  Jah "int" "InvalidChanges" false,
  Jah "str" "InvalidChanges" false,
  Jah "tuple" "InvalidChanges" false,
  Jah "list" "InvalidChanges" false,
  Jah "dict" "InvalidChanges" false,
  Jah "NoneType" "InvalidDays" false,
  Jah "bool" "InvalidDays" false,
  Jah "int" "InvalidDays" false,
  Jah "str" "InvalidDays" false,
  Jah "tuple" "InvalidDays" false,
  Jah "list" "InvalidDays" false,
  Jah "dict" "InvalidDays" false,
  Jah "NoneType" "InvalidHours" false,
  Jah "bool" "InvalidHours" false,
  Jah "int" "InvalidHours" false,
  Jah "str" "InvalidHours" false,
  Jah "tuple" "InvalidHours" false,
  Jah "list" "InvalidHours" false,
  Jah "dict" "InvalidHours" false,
  Jah "NoneType" "InvalidIndex" false,
  Jah "bool" "InvalidIndex" false,
  Jah "int" "InvalidIndex" false,
  Jah "str" "InvalidIndex" false,
  Jah "tuple" "InvalidIndex" false,
  Jah "list" "InvalidIndex" false,
  Jah "dict" "InvalidIndex" false,
  Jah "NoneType" "InvalidKind" false,
  Jah "bool" "InvalidKind" false,
  Jah "int" "InvalidKind" false,
  Jah "str" "InvalidKind" false,
  Jah "tuple" "InvalidKind" false,
  Jah "list" "InvalidKind" false,
  Jah "dict" "InvalidKind" false,
  Jah "NoneType" "InvalidMost" false,
  Jah "bool" "InvalidMost" false,
  Jah "int" "InvalidMost" false,
  Jah "str" "InvalidMost" false,
  Jah "tuple" "InvalidMost" false,
  Jah "list" "InvalidMost" false,
  Jah "dict" "InvalidMost" false,
  Jah "NoneType" "InvalidName" false,
  Jah "bool" "InvalidName" false,
  Jah "int" "InvalidName" false,
  Jah "str" "InvalidName" false,
  Jah "tuple" "InvalidName" false,
  Jah "list" "InvalidName" false,
  Jah "dict" "InvalidName" false,
  Jah "NoneType" "InvalidNumber" false,
  Jah "bool" "InvalidNumber" false,
  Jah "int" "InvalidNumber" false,
  Jah "str" "InvalidNumber" false,
  Jah "tuple" "InvalidNumber" false,
  Jah "list" "InvalidNumber" false,
  Jah "dict" "InvalidNumber" false,
  Jah "NoneType" "InvalidRate" false,
  Jah "bool" "InvalidRate" false,
  Jah "int" "InvalidRate" false,
  Jah "str" "InvalidRate" false,
  Jah "tuple" "InvalidRate" false,
  Jah "list" "InvalidRate" false,
  Jah "dict" "InvalidRate" false,
  Jah "NoneType" "InvalidRules" false,
  Jah "bool" "InvalidRules" false,
  Jah "int" "InvalidRules" false,
  Jah "str" "InvalidRules" false,
  Jah "tuple" "InvalidRules" false,
  Jah "list" "InvalidRules" false,
  Jah "dict" "InvalidRules" false,
  Jah "NoneType" "InvalidSheet" false,
  Jah "bool" "InvalidSheet" false,
  Jah "int" "InvalidSheet" false,
  Jah "str" "InvalidSheet" false,
  Jah "tuple" "InvalidSheet" false,
  Jah "list" "InvalidSheet" false,
  Jah "dict" "InvalidSheet" false,
  Jah "NoneType" "InvalidText" false,
  Jah "bool" "InvalidText" false,
  Jah "int" "InvalidText" false,
  Jah "str" "InvalidText" false,
  Jah "tuple" "InvalidText" false,
  Jah "list" "InvalidText" false,
  Jah "dict" "InvalidText" false,
  Jah "NoneType" "InvalidTotal" false,
  Jah "bool" "InvalidTotal" false,
  Jah "int" "InvalidTotal" false,
  Jah "str" "InvalidTotal" false,
  Jah "tuple" "InvalidTotal" false,
  Jah "list" "InvalidTotal" false,
  Jah "dict" "InvalidTotal" false,
  Jah "NoneType" "InvalidWish" false,
  Jah "bool" "InvalidWish" false,
  Jah "int" "InvalidWish" false,
  Jah "str" "InvalidWish" false,
  Jah "tuple" "InvalidWish" false,
  Jah "list" "InvalidWish" false,
  Jah "dict" "InvalidWish" false,
  Jah "NoneType" "InvalidWishes" false,
  Jah "bool" "InvalidWishes" false,
  Jah "int" "InvalidWishes" false,
  Jah "str" "InvalidWishes" false,
  Jah "tuple" "InvalidWishes" false,
  Jah "list" "InvalidWishes" false,
  Jah "dict" "InvalidWishes" false,
  Jah "NoneType" "NotPlan" false,
  Jah "bool" "NotPlan" false,
  Jah "int" "NotPlan" false,
  Jah "str" "NotPlan" false,
  Jah "tuple" "NotPlan" false,
  Jah "list" "NotPlan" false,
  Jah "dict" "NotPlan" false,
  Jah "NoneType" "NotPossible" false,
  Jah "bool" "NotPossible" false,
  Jah "int" "NotPossible" false,
  Jah "str" "NotPossible" false,
  Jah "tuple" "NotPossible" false,
  Jah "list" "NotPossible" false,
  Jah "dict" "NotPossible" false,
  Jah "NoneType" "NothingToUndo" false,
  Jah "bool" "NothingToUndo" false,
  Jah "int" "NothingToUndo" false,
  Jah "str" "NothingToUndo" false,
  Jah "tuple" "NothingToUndo" false,
  Jah "list" "NothingToUndo" false,
  Jah "dict" "NothingToUndo" false,
  Jah "NoneType" "OtherDays" false,
  Jah "bool" "OtherDays" false,
  Jah "int" "OtherDays" false,
  Jah "str" "OtherDays" false,
  Jah "tuple" "OtherDays" false,
  Jah "list" "OtherDays" false,
  Jah "dict" "OtherDays" false,
  Jah "NoneType" "OutOfBounds" false,
  Jah "bool" "OutOfBounds" false,
  Jah "int" "OutOfBounds" false,
  Jah "str" "OutOfBounds" false,
  Jah "tuple" "OutOfBounds" false,
  Jah "list" "OutOfBounds" false,
  Jah "dict" "OutOfBounds" false,
  Jah "NoneType" "UnknownName" false,
  Jah "bool" "UnknownName" false,
  Jah "int" "UnknownName" false,
  Jah "str" "UnknownName" false,
  Jah "tuple" "UnknownName" false,
  Jah "list" "UnknownName" false,
  Jah "dict" "UnknownName" false,
  Jah "NoneType" "WrongName" false,
  Jah "bool" "WrongName" false,
  Jah "int" "WrongName" false,
  Jah "str" "WrongName" false,
  Jah "tuple" "WrongName" false,
  Jah "list" "WrongName" false,
  Jah "dict" "WrongName" false,
  Jah "NoneType" "WrongValue" false,
  Jah "bool" "WrongValue" false,
  Jah "int" "WrongValue" false,
  Jah "str" "WrongValue" false,
  Jah "tuple" "WrongValue" false,
  Jah "list" "WrongValue" false,
  Jah "dict" "WrongValue" false,
  bIsE "InvalidName",
  bIsE "InvalidMost",
  bIsE "InvalidKind",
  bIsE "InvalidNumber",
  bIsE "InvalidRate",
  bIsE "InvalidText",
  bIsE "InvalidSheet",
  bIsE "InvalidTotal",
  bIsE "InvalidHours",
  bIsE "InvalidWish",
  bIsE "InvalidIndex",
  bIsE "NotPlan",
  bIsE "UnknownName",
  bIsE "OtherDays",
  bIsE "OutOfBounds",
  bIsE "InvalidDays",
  bIsE "InvalidRules",
  bIsE "InvalidChanges",
  bIsE "InvalidWishes",
  bIsE "InUse",
  bIsE "Broken",
  bIsE "NothingToUndo",
  Jbu [("InvalidName", "WrongValue", true), ("InvalidName", "InvalidName", true), ("InvalidName", "InvalidMost", false), ("InvalidName", "InvalidKind", false), ("InvalidName", "InvalidNumber", false), ("InvalidName", "InvalidRate", false), ("InvalidName", "InvalidText", false), ("InvalidName", "InvalidSheet", false), ("InvalidName", "InvalidTotal", false), ("InvalidName", "InvalidHours", false), ("InvalidName", "InvalidWish", false), ("InvalidName", "InvalidIndex", false), ("InvalidName", "NotPlan", false), ("InvalidName", "InvalidDays", false), ("InvalidName", "InvalidRules", false), ("InvalidName", "InvalidChanges", false), ("InvalidName", "InvalidWishes", false), ("InvalidName", "WrongName", false), ("InvalidName", "UnknownName", false), ("InvalidName", "InUse", false), ("InvalidName", "NotPossible", false), ("InvalidName", "OtherDays", false), ("InvalidName", "OutOfBounds", false), ("InvalidName", "NothingToUndo", false), ("InvalidName", "Broken", false)],
  Jbv [("InvalidName", "ValueError", true), ("InvalidName", "LookupError", false), ("InvalidName", "ArithmeticError", false)],
  Jbu [("InvalidMost", "WrongValue", true), ("InvalidMost", "InvalidName", false), ("InvalidMost", "InvalidMost", true), ("InvalidMost", "InvalidKind", false), ("InvalidMost", "InvalidNumber", false), ("InvalidMost", "InvalidRate", false), ("InvalidMost", "InvalidText", false), ("InvalidMost", "InvalidSheet", false), ("InvalidMost", "InvalidTotal", false), ("InvalidMost", "InvalidHours", false), ("InvalidMost", "InvalidWish", false), ("InvalidMost", "InvalidIndex", false), ("InvalidMost", "NotPlan", false), ("InvalidMost", "InvalidDays", false), ("InvalidMost", "InvalidRules", false), ("InvalidMost", "InvalidChanges", false), ("InvalidMost", "InvalidWishes", false), ("InvalidMost", "WrongName", false), ("InvalidMost", "UnknownName", false), ("InvalidMost", "InUse", false), ("InvalidMost", "NotPossible", false), ("InvalidMost", "OtherDays", false), ("InvalidMost", "OutOfBounds", false), ("InvalidMost", "NothingToUndo", false), ("InvalidMost", "Broken", false)],
  Jbv [("InvalidMost", "ValueError", true), ("InvalidMost", "LookupError", false), ("InvalidMost", "ArithmeticError", false)],
  Jbu [("InvalidKind", "WrongValue", true), ("InvalidKind", "InvalidName", false), ("InvalidKind", "InvalidMost", false), ("InvalidKind", "InvalidKind", true), ("InvalidKind", "InvalidNumber", false), ("InvalidKind", "InvalidRate", false), ("InvalidKind", "InvalidText", false), ("InvalidKind", "InvalidSheet", false), ("InvalidKind", "InvalidTotal", false), ("InvalidKind", "InvalidHours", false), ("InvalidKind", "InvalidWish", false), ("InvalidKind", "InvalidIndex", false), ("InvalidKind", "NotPlan", false), ("InvalidKind", "InvalidDays", false), ("InvalidKind", "InvalidRules", false), ("InvalidKind", "InvalidChanges", false), ("InvalidKind", "InvalidWishes", false), ("InvalidKind", "WrongName", false), ("InvalidKind", "UnknownName", false), ("InvalidKind", "InUse", false), ("InvalidKind", "NotPossible", false), ("InvalidKind", "OtherDays", false), ("InvalidKind", "OutOfBounds", false), ("InvalidKind", "NothingToUndo", false), ("InvalidKind", "Broken", false)],
  Jbv [("InvalidKind", "ValueError", true), ("InvalidKind", "LookupError", false), ("InvalidKind", "ArithmeticError", false)],
  Jbu [("InvalidNumber", "WrongValue", true), ("InvalidNumber", "InvalidName", false), ("InvalidNumber", "InvalidMost", false), ("InvalidNumber", "InvalidKind", false), ("InvalidNumber", "InvalidNumber", true), ("InvalidNumber", "InvalidRate", false), ("InvalidNumber", "InvalidText", false), ("InvalidNumber", "InvalidSheet", false), ("InvalidNumber", "InvalidTotal", false), ("InvalidNumber", "InvalidHours", false), ("InvalidNumber", "InvalidWish", false), ("InvalidNumber", "InvalidIndex", false), ("InvalidNumber", "NotPlan", false), ("InvalidNumber", "InvalidDays", false), ("InvalidNumber", "InvalidRules", false), ("InvalidNumber", "InvalidChanges", false), ("InvalidNumber", "InvalidWishes", false), ("InvalidNumber", "WrongName", false), ("InvalidNumber", "UnknownName", false), ("InvalidNumber", "InUse", false), ("InvalidNumber", "NotPossible", false), ("InvalidNumber", "OtherDays", false), ("InvalidNumber", "OutOfBounds", false), ("InvalidNumber", "NothingToUndo", false), ("InvalidNumber", "Broken", false)],
  Jbv [("InvalidNumber", "ValueError", true), ("InvalidNumber", "LookupError", false), ("InvalidNumber", "ArithmeticError", false)],
  Jbu [("InvalidRate", "WrongValue", true), ("InvalidRate", "InvalidName", false), ("InvalidRate", "InvalidMost", false), ("InvalidRate", "InvalidKind", false), ("InvalidRate", "InvalidNumber", false), ("InvalidRate", "InvalidRate", true), ("InvalidRate", "InvalidText", false), ("InvalidRate", "InvalidSheet", false), ("InvalidRate", "InvalidTotal", false), ("InvalidRate", "InvalidHours", false), ("InvalidRate", "InvalidWish", false), ("InvalidRate", "InvalidIndex", false), ("InvalidRate", "NotPlan", false), ("InvalidRate", "InvalidDays", false), ("InvalidRate", "InvalidRules", false), ("InvalidRate", "InvalidChanges", false), ("InvalidRate", "InvalidWishes", false), ("InvalidRate", "WrongName", false), ("InvalidRate", "UnknownName", false), ("InvalidRate", "InUse", false), ("InvalidRate", "NotPossible", false), ("InvalidRate", "OtherDays", false), ("InvalidRate", "OutOfBounds", false), ("InvalidRate", "NothingToUndo", false), ("InvalidRate", "Broken", false)],
  Jbv [("InvalidRate", "ValueError", true), ("InvalidRate", "LookupError", false), ("InvalidRate", "ArithmeticError", false)],
  Jbu [("InvalidText", "WrongValue", true), ("InvalidText", "InvalidName", false), ("InvalidText", "InvalidMost", false), ("InvalidText", "InvalidKind", false), ("InvalidText", "InvalidNumber", false), ("InvalidText", "InvalidRate", false), ("InvalidText", "InvalidText", true), ("InvalidText", "InvalidSheet", false), ("InvalidText", "InvalidTotal", false), ("InvalidText", "InvalidHours", false), ("InvalidText", "InvalidWish", false), ("InvalidText", "InvalidIndex", false), ("InvalidText", "NotPlan", false), ("InvalidText", "InvalidDays", false), ("InvalidText", "InvalidRules", false), ("InvalidText", "InvalidChanges", false), ("InvalidText", "InvalidWishes", false), ("InvalidText", "WrongName", false), ("InvalidText", "UnknownName", false), ("InvalidText", "InUse", false), ("InvalidText", "NotPossible", false), ("InvalidText", "OtherDays", false), ("InvalidText", "OutOfBounds", false), ("InvalidText", "NothingToUndo", false), ("InvalidText", "Broken", false)],
  Jbv [("InvalidText", "ValueError", true), ("InvalidText", "LookupError", false), ("InvalidText", "ArithmeticError", false)],
  Jbu [("InvalidSheet", "WrongValue", true), ("InvalidSheet", "InvalidName", false), ("InvalidSheet", "InvalidMost", false), ("InvalidSheet", "InvalidKind", false), ("InvalidSheet", "InvalidNumber", false), ("InvalidSheet", "InvalidRate", false), ("InvalidSheet", "InvalidText", false), ("InvalidSheet", "InvalidSheet", true), ("InvalidSheet", "InvalidTotal", false), ("InvalidSheet", "InvalidHours", false), ("InvalidSheet", "InvalidWish", false), ("InvalidSheet", "InvalidIndex", false), ("InvalidSheet", "NotPlan", false), ("InvalidSheet", "InvalidDays", false), ("InvalidSheet", "InvalidRules", false), ("InvalidSheet", "InvalidChanges", false), ("InvalidSheet", "InvalidWishes", false), ("InvalidSheet", "WrongName", false), ("InvalidSheet", "UnknownName", false), ("InvalidSheet", "InUse", false), ("InvalidSheet", "NotPossible", false), ("InvalidSheet", "OtherDays", false), ("InvalidSheet", "OutOfBounds", false), ("InvalidSheet", "NothingToUndo", false), ("InvalidSheet", "Broken", false)],
  Jbv [("InvalidSheet", "ValueError", true), ("InvalidSheet", "LookupError", false), ("InvalidSheet", "ArithmeticError", false)],
  Jbu [("InvalidTotal", "WrongValue", true), ("InvalidTotal", "InvalidName", false), ("InvalidTotal", "InvalidMost", false), ("InvalidTotal", "InvalidKind", false), ("InvalidTotal", "InvalidNumber", false), ("InvalidTotal", "InvalidRate", false), ("InvalidTotal", "InvalidText", false), ("InvalidTotal", "InvalidSheet", false), ("InvalidTotal", "InvalidTotal", true), ("InvalidTotal", "InvalidHours", false), ("InvalidTotal", "InvalidWish", false), ("InvalidTotal", "InvalidIndex", false), ("InvalidTotal", "NotPlan", false), ("InvalidTotal", "InvalidDays", false), ("InvalidTotal", "InvalidRules", false), ("InvalidTotal", "InvalidChanges", false), ("InvalidTotal", "InvalidWishes", false), ("InvalidTotal", "WrongName", false), ("InvalidTotal", "UnknownName", false), ("InvalidTotal", "InUse", false), ("InvalidTotal", "NotPossible", false), ("InvalidTotal", "OtherDays", false), ("InvalidTotal", "OutOfBounds", false), ("InvalidTotal", "NothingToUndo", false), ("InvalidTotal", "Broken", false)],
  Jbv [("InvalidTotal", "ValueError", true), ("InvalidTotal", "LookupError", false), ("InvalidTotal", "ArithmeticError", false)],
  Jbu [("InvalidHours", "WrongValue", true), ("InvalidHours", "InvalidName", false), ("InvalidHours", "InvalidMost", false), ("InvalidHours", "InvalidKind", false), ("InvalidHours", "InvalidNumber", false), ("InvalidHours", "InvalidRate", false), ("InvalidHours", "InvalidText", false), ("InvalidHours", "InvalidSheet", false), ("InvalidHours", "InvalidTotal", false), ("InvalidHours", "InvalidHours", true), ("InvalidHours", "InvalidWish", false), ("InvalidHours", "InvalidIndex", false), ("InvalidHours", "NotPlan", false), ("InvalidHours", "InvalidDays", false), ("InvalidHours", "InvalidRules", false), ("InvalidHours", "InvalidChanges", false), ("InvalidHours", "InvalidWishes", false), ("InvalidHours", "WrongName", false), ("InvalidHours", "UnknownName", false), ("InvalidHours", "InUse", false), ("InvalidHours", "NotPossible", false), ("InvalidHours", "OtherDays", false), ("InvalidHours", "OutOfBounds", false), ("InvalidHours", "NothingToUndo", false), ("InvalidHours", "Broken", false)],
  Jbv [("InvalidHours", "ValueError", true), ("InvalidHours", "LookupError", false), ("InvalidHours", "ArithmeticError", false)],
  Jbu [("InvalidWish", "WrongValue", true), ("InvalidWish", "InvalidName", false), ("InvalidWish", "InvalidMost", false), ("InvalidWish", "InvalidKind", false), ("InvalidWish", "InvalidNumber", false), ("InvalidWish", "InvalidRate", false), ("InvalidWish", "InvalidText", false), ("InvalidWish", "InvalidSheet", false), ("InvalidWish", "InvalidTotal", false), ("InvalidWish", "InvalidHours", false), ("InvalidWish", "InvalidWish", true), ("InvalidWish", "InvalidIndex", false), ("InvalidWish", "NotPlan", false), ("InvalidWish", "InvalidDays", false), ("InvalidWish", "InvalidRules", false), ("InvalidWish", "InvalidChanges", false), ("InvalidWish", "InvalidWishes", false), ("InvalidWish", "WrongName", false), ("InvalidWish", "UnknownName", false), ("InvalidWish", "InUse", false), ("InvalidWish", "NotPossible", false), ("InvalidWish", "OtherDays", false), ("InvalidWish", "OutOfBounds", false), ("InvalidWish", "NothingToUndo", false), ("InvalidWish", "Broken", false)],
  Jbv [("InvalidWish", "ValueError", true), ("InvalidWish", "LookupError", false), ("InvalidWish", "ArithmeticError", false)],
  Jbu [("InvalidIndex", "WrongValue", true), ("InvalidIndex", "InvalidName", false), ("InvalidIndex", "InvalidMost", false), ("InvalidIndex", "InvalidKind", false), ("InvalidIndex", "InvalidNumber", false), ("InvalidIndex", "InvalidRate", false), ("InvalidIndex", "InvalidText", false), ("InvalidIndex", "InvalidSheet", false), ("InvalidIndex", "InvalidTotal", false), ("InvalidIndex", "InvalidHours", false), ("InvalidIndex", "InvalidWish", false), ("InvalidIndex", "InvalidIndex", true), ("InvalidIndex", "NotPlan", false), ("InvalidIndex", "InvalidDays", false), ("InvalidIndex", "InvalidRules", false), ("InvalidIndex", "InvalidChanges", false), ("InvalidIndex", "InvalidWishes", false), ("InvalidIndex", "WrongName", false), ("InvalidIndex", "UnknownName", false), ("InvalidIndex", "InUse", false), ("InvalidIndex", "NotPossible", false), ("InvalidIndex", "OtherDays", false), ("InvalidIndex", "OutOfBounds", false), ("InvalidIndex", "NothingToUndo", false), ("InvalidIndex", "Broken", false)],
  Jbv [("InvalidIndex", "ValueError", true), ("InvalidIndex", "LookupError", false), ("InvalidIndex", "ArithmeticError", false)],
  Jbu [("NotPlan", "WrongValue", true), ("NotPlan", "InvalidName", false), ("NotPlan", "InvalidMost", false), ("NotPlan", "InvalidKind", false), ("NotPlan", "InvalidNumber", false), ("NotPlan", "InvalidRate", false), ("NotPlan", "InvalidText", false), ("NotPlan", "InvalidSheet", false), ("NotPlan", "InvalidTotal", false), ("NotPlan", "InvalidHours", false), ("NotPlan", "InvalidWish", false), ("NotPlan", "InvalidIndex", false), ("NotPlan", "NotPlan", true), ("NotPlan", "InvalidDays", false), ("NotPlan", "InvalidRules", false), ("NotPlan", "InvalidChanges", false), ("NotPlan", "InvalidWishes", false), ("NotPlan", "WrongName", false), ("NotPlan", "UnknownName", false), ("NotPlan", "InUse", false), ("NotPlan", "NotPossible", false), ("NotPlan", "OtherDays", false), ("NotPlan", "OutOfBounds", false), ("NotPlan", "NothingToUndo", false), ("NotPlan", "Broken", false)],
  Jbv [("NotPlan", "ValueError", true), ("NotPlan", "LookupError", false), ("NotPlan", "ArithmeticError", false)],
  Jbu [("UnknownName", "WrongValue", false), ("UnknownName", "InvalidName", false), ("UnknownName", "InvalidMost", false), ("UnknownName", "InvalidKind", false), ("UnknownName", "InvalidNumber", false), ("UnknownName", "InvalidRate", false), ("UnknownName", "InvalidText", false), ("UnknownName", "InvalidSheet", false), ("UnknownName", "InvalidTotal", false), ("UnknownName", "InvalidHours", false), ("UnknownName", "InvalidWish", false), ("UnknownName", "InvalidIndex", false), ("UnknownName", "NotPlan", false), ("UnknownName", "InvalidDays", false), ("UnknownName", "InvalidRules", false), ("UnknownName", "InvalidChanges", false), ("UnknownName", "InvalidWishes", false), ("UnknownName", "WrongName", true), ("UnknownName", "UnknownName", true), ("UnknownName", "InUse", false), ("UnknownName", "NotPossible", false), ("UnknownName", "OtherDays", false), ("UnknownName", "OutOfBounds", false), ("UnknownName", "NothingToUndo", false), ("UnknownName", "Broken", false)],
  Jbv [("UnknownName", "ValueError", false), ("UnknownName", "LookupError", true), ("UnknownName", "ArithmeticError", false)],
  Jbu [("OtherDays", "WrongValue", false), ("OtherDays", "InvalidName", false), ("OtherDays", "InvalidMost", false), ("OtherDays", "InvalidKind", false), ("OtherDays", "InvalidNumber", false), ("OtherDays", "InvalidRate", false), ("OtherDays", "InvalidText", false), ("OtherDays", "InvalidSheet", false), ("OtherDays", "InvalidTotal", false), ("OtherDays", "InvalidHours", false), ("OtherDays", "InvalidWish", false), ("OtherDays", "InvalidIndex", false), ("OtherDays", "NotPlan", false), ("OtherDays", "InvalidDays", false), ("OtherDays", "InvalidRules", false), ("OtherDays", "InvalidChanges", false), ("OtherDays", "InvalidWishes", false), ("OtherDays", "WrongName", false), ("OtherDays", "UnknownName", false), ("OtherDays", "InUse", false), ("OtherDays", "NotPossible", true), ("OtherDays", "OtherDays", true), ("OtherDays", "OutOfBounds", false), ("OtherDays", "NothingToUndo", false), ("OtherDays", "Broken", false)],
  Jbv [("OtherDays", "ValueError", false), ("OtherDays", "LookupError", false), ("OtherDays", "ArithmeticError", true)],
  Jbu [("OutOfBounds", "WrongValue", false), ("OutOfBounds", "InvalidName", false), ("OutOfBounds", "InvalidMost", false), ("OutOfBounds", "InvalidKind", false), ("OutOfBounds", "InvalidNumber", false), ("OutOfBounds", "InvalidRate", false), ("OutOfBounds", "InvalidText", false), ("OutOfBounds", "InvalidSheet", false), ("OutOfBounds", "InvalidTotal", false), ("OutOfBounds", "InvalidHours", false), ("OutOfBounds", "InvalidWish", false), ("OutOfBounds", "InvalidIndex", false), ("OutOfBounds", "NotPlan", false), ("OutOfBounds", "InvalidDays", false), ("OutOfBounds", "InvalidRules", false), ("OutOfBounds", "InvalidChanges", false), ("OutOfBounds", "InvalidWishes", false), ("OutOfBounds", "WrongName", false), ("OutOfBounds", "UnknownName", false), ("OutOfBounds", "InUse", false), ("OutOfBounds", "NotPossible", true), ("OutOfBounds", "OtherDays", false), ("OutOfBounds", "OutOfBounds", true), ("OutOfBounds", "NothingToUndo", false), ("OutOfBounds", "Broken", false)],
  Jbv [("OutOfBounds", "ValueError", false), ("OutOfBounds", "LookupError", false), ("OutOfBounds", "ArithmeticError", true)],
  Jbu [("InvalidDays", "WrongValue", true), ("InvalidDays", "InvalidName", false), ("InvalidDays", "InvalidMost", false), ("InvalidDays", "InvalidKind", false), ("InvalidDays", "InvalidNumber", false), ("InvalidDays", "InvalidRate", false), ("InvalidDays", "InvalidText", false), ("InvalidDays", "InvalidSheet", false), ("InvalidDays", "InvalidTotal", false), ("InvalidDays", "InvalidHours", false), ("InvalidDays", "InvalidWish", false), ("InvalidDays", "InvalidIndex", false), ("InvalidDays", "NotPlan", false), ("InvalidDays", "InvalidDays", true), ("InvalidDays", "InvalidRules", false), ("InvalidDays", "InvalidChanges", false), ("InvalidDays", "InvalidWishes", false), ("InvalidDays", "WrongName", false), ("InvalidDays", "UnknownName", false), ("InvalidDays", "InUse", false), ("InvalidDays", "NotPossible", false), ("InvalidDays", "OtherDays", false), ("InvalidDays", "OutOfBounds", false), ("InvalidDays", "NothingToUndo", false), ("InvalidDays", "Broken", false)],
  Jbv [("InvalidDays", "ValueError", true), ("InvalidDays", "LookupError", false), ("InvalidDays", "ArithmeticError", false)],
  Jbu [("InvalidRules", "WrongValue", true), ("InvalidRules", "InvalidName", false), ("InvalidRules", "InvalidMost", false), ("InvalidRules", "InvalidKind", false), ("InvalidRules", "InvalidNumber", false), ("InvalidRules", "InvalidRate", false), ("InvalidRules", "InvalidText", false), ("InvalidRules", "InvalidSheet", false), ("InvalidRules", "InvalidTotal", false), ("InvalidRules", "InvalidHours", false), ("InvalidRules", "InvalidWish", false), ("InvalidRules", "InvalidIndex", false), ("InvalidRules", "NotPlan", false), ("InvalidRules", "InvalidDays", false), ("InvalidRules", "InvalidRules", true), ("InvalidRules", "InvalidChanges", false), ("InvalidRules", "InvalidWishes", false), ("InvalidRules", "WrongName", false), ("InvalidRules", "UnknownName", false), ("InvalidRules", "InUse", false), ("InvalidRules", "NotPossible", false), ("InvalidRules", "OtherDays", false), ("InvalidRules", "OutOfBounds", false), ("InvalidRules", "NothingToUndo", false), ("InvalidRules", "Broken", false)],
  Jbv [("InvalidRules", "ValueError", true), ("InvalidRules", "LookupError", false), ("InvalidRules", "ArithmeticError", false)],
  Jbu [("InvalidChanges", "WrongValue", true), ("InvalidChanges", "InvalidName", false), ("InvalidChanges", "InvalidMost", false), ("InvalidChanges", "InvalidKind", false), ("InvalidChanges", "InvalidNumber", false), ("InvalidChanges", "InvalidRate", false), ("InvalidChanges", "InvalidText", false), ("InvalidChanges", "InvalidSheet", false), ("InvalidChanges", "InvalidTotal", false), ("InvalidChanges", "InvalidHours", false), ("InvalidChanges", "InvalidWish", false), ("InvalidChanges", "InvalidIndex", false), ("InvalidChanges", "NotPlan", false), ("InvalidChanges", "InvalidDays", false), ("InvalidChanges", "InvalidRules", false), ("InvalidChanges", "InvalidChanges", true), ("InvalidChanges", "InvalidWishes", false), ("InvalidChanges", "WrongName", false), ("InvalidChanges", "UnknownName", false), ("InvalidChanges", "InUse", false), ("InvalidChanges", "NotPossible", false), ("InvalidChanges", "OtherDays", false), ("InvalidChanges", "OutOfBounds", false), ("InvalidChanges", "NothingToUndo", false), ("InvalidChanges", "Broken", false)],
  Jbv [("InvalidChanges", "ValueError", true), ("InvalidChanges", "LookupError", false), ("InvalidChanges", "ArithmeticError", false)],
  Jbu [("InvalidWishes", "WrongValue", true), ("InvalidWishes", "InvalidName", false), ("InvalidWishes", "InvalidMost", false), ("InvalidWishes", "InvalidKind", false), ("InvalidWishes", "InvalidNumber", false), ("InvalidWishes", "InvalidRate", false), ("InvalidWishes", "InvalidText", false), ("InvalidWishes", "InvalidSheet", false), ("InvalidWishes", "InvalidTotal", false), ("InvalidWishes", "InvalidHours", false), ("InvalidWishes", "InvalidWish", false), ("InvalidWishes", "InvalidIndex", false), ("InvalidWishes", "NotPlan", false), ("InvalidWishes", "InvalidDays", false), ("InvalidWishes", "InvalidRules", false), ("InvalidWishes", "InvalidChanges", false), ("InvalidWishes", "InvalidWishes", true), ("InvalidWishes", "WrongName", false), ("InvalidWishes", "UnknownName", false), ("InvalidWishes", "InUse", false), ("InvalidWishes", "NotPossible", false), ("InvalidWishes", "OtherDays", false), ("InvalidWishes", "OutOfBounds", false), ("InvalidWishes", "NothingToUndo", false), ("InvalidWishes", "Broken", false)],
  Jbv [("InvalidWishes", "ValueError", true), ("InvalidWishes", "LookupError", false), ("InvalidWishes", "ArithmeticError", false)],
  Jbu [("InUse", "WrongValue", false), ("InUse", "InvalidName", false), ("InUse", "InvalidMost", false), ("InUse", "InvalidKind", false), ("InUse", "InvalidNumber", false), ("InUse", "InvalidRate", false), ("InUse", "InvalidText", false), ("InUse", "InvalidSheet", false), ("InUse", "InvalidTotal", false), ("InUse", "InvalidHours", false), ("InUse", "InvalidWish", false), ("InUse", "InvalidIndex", false), ("InUse", "NotPlan", false), ("InUse", "InvalidDays", false), ("InUse", "InvalidRules", false), ("InUse", "InvalidChanges", false), ("InUse", "InvalidWishes", false), ("InUse", "WrongName", true), ("InUse", "UnknownName", false), ("InUse", "InUse", true), ("InUse", "NotPossible", false), ("InUse", "OtherDays", false), ("InUse", "OutOfBounds", false), ("InUse", "NothingToUndo", false), ("InUse", "Broken", false)],
  Jbv [("InUse", "ValueError", false), ("InUse", "LookupError", true), ("InUse", "ArithmeticError", false)],
  Jbu [("Broken", "WrongValue", false), ("Broken", "InvalidName", false), ("Broken", "InvalidMost", false), ("Broken", "InvalidKind", false), ("Broken", "InvalidNumber", false), ("Broken", "InvalidRate", false), ("Broken", "InvalidText", false), ("Broken", "InvalidSheet", false), ("Broken", "InvalidTotal", false), ("Broken", "InvalidHours", false), ("Broken", "InvalidWish", false), ("Broken", "InvalidIndex", false), ("Broken", "NotPlan", false), ("Broken", "InvalidDays", false), ("Broken", "InvalidRules", false), ("Broken", "InvalidChanges", false), ("Broken", "InvalidWishes", false), ("Broken", "WrongName", false), ("Broken", "UnknownName", false), ("Broken", "InUse", false), ("Broken", "NotPossible", true), ("Broken", "OtherDays", false), ("Broken", "OutOfBounds", false), ("Broken", "NothingToUndo", false), ("Broken", "Broken", true)],
  Jbv [("Broken", "ValueError", false), ("Broken", "LookupError", false), ("Broken", "ArithmeticError", true)],
  Jbu [("NothingToUndo", "WrongValue", false), ("NothingToUndo", "InvalidName", false), ("NothingToUndo", "InvalidMost", false), ("NothingToUndo", "InvalidKind", false), ("NothingToUndo", "InvalidNumber", false), ("NothingToUndo", "InvalidRate", false), ("NothingToUndo", "InvalidText", false), ("NothingToUndo", "InvalidSheet", false), ("NothingToUndo", "InvalidTotal", false), ("NothingToUndo", "InvalidHours", false), ("NothingToUndo", "InvalidWish", false), ("NothingToUndo", "InvalidIndex", false), ("NothingToUndo", "NotPlan", false), ("NothingToUndo", "InvalidDays", false), ("NothingToUndo", "InvalidRules", false), ("NothingToUndo", "InvalidChanges", false), ("NothingToUndo", "InvalidWishes", false), ("NothingToUndo", "WrongName", false), ("NothingToUndo", "UnknownName", false), ("NothingToUndo", "InUse", false), ("NothingToUndo", "NotPossible", true), ("NothingToUndo", "OtherDays", false), ("NothingToUndo", "OutOfBounds", false), ("NothingToUndo", "NothingToUndo", true), ("NothingToUndo", "Broken", false)],
  Jbv [("NothingToUndo", "ValueError", false), ("NothingToUndo", "LookupError", false), ("NothingToUndo", "ArithmeticError", true)],
  fun K => (He.Fa.glo "law").ok K,
  bNoT,
  Ja8 "InvalidName" "given",
  Ja8 "InvalidMost" "given",
  Ja8 "InvalidKind" "given",
  Ja8 "InvalidNumber" "given",
  Ja8 "InvalidRate" "given",
  Ja8 "InvalidText" "given",
  Ja8 "InvalidSheet" "given",
  Ja8 "InvalidTotal" "given",
  Ja8 "InvalidHours" "given",
  Ja8 "InvalidWish" "given",
  Ja8 "InvalidIndex" "given",
  Ja8 "NotPlan" "given",
  Ja8 "UnknownName" "given",
  Ja8 "OtherDays" "given",
  Ja8 "OutOfBounds" "given",
  Ja8 "InvalidDays" "index",
  Ja8 "InvalidRules" "index",
  Ja8 "InvalidChanges" "index",
  Ja8 "InvalidWishes" "index",
  Ja8 "InUse" "index",
  Ja8 "Broken" "index",
  fun K => (He.Fa.free "all").ok K,
  fun K => (He.Fa.free "max").ok K,
  fun K => (He.Fa.free "min").ok K,
  fun K => (He.Fa.glo "_law_right").ok K,
  fun K => (He.Fa.glo "_law_pool").ok K,
  fun K => (He.Fa.glo "_law_cell").ok K,
  fun K => (He.Fa.int "MOST_CHANGES" (6)).ok K,
  fun K => (He.Fa.int "MOST_RULES" (8)).ok K,
  fun K => (He.Fa.int "MOST_DAYS" (7)).ok K]
def Jwd : List PySem.Str := [PySem.Str.ofString "WrongValue", PySem.Str.ofString "InvalidName", PySem.Str.ofString "InvalidMost", PySem.Str.ofString "InvalidKind", PySem.Str.ofString "InvalidNumber", PySem.Str.ofString "InvalidRate", PySem.Str.ofString "InvalidText", PySem.Str.ofString "InvalidSheet", PySem.Str.ofString "InvalidTotal", PySem.Str.ofString "InvalidHours", PySem.Str.ofString "InvalidWish", PySem.Str.ofString "InvalidIndex", PySem.Str.ofString "NotPlan", PySem.Str.ofString "InvalidDays", PySem.Str.ofString "InvalidRules", PySem.Str.ofString "InvalidChanges", PySem.Str.ofString "InvalidWishes", PySem.Str.ofString "WrongName", PySem.Str.ofString "UnknownName", PySem.Str.ofString "InUse", PySem.Str.ofString "NotPossible", PySem.Str.ofString "OtherDays", PySem.Str.ofString "OutOfBounds", PySem.Str.ofString "NothingToUndo", PySem.Str.ofString "Broken", PySem.Str.ofString "MOST_DAYS", PySem.Str.ofString "MOST_RULES", PySem.Str.ofString "MOST_CHANGES", PySem.Str.ofString "_law_cell", PySem.Str.ofString "_law_pool", PySem.Str.ofString "_law_draw", PySem.Str.ofString "_law_pick", PySem.Str.ofString "_law_odd", PySem.Str.ofString "_law_valued", PySem.Str.ofString "_law_further", PySem.Str.ofString "_law_indexed", PySem.Str.ofString "_law_sorts", PySem.Str.ofString "_law_bases", PySem.Str.ofString "_law_is_right", PySem.Str.ofString "_law_right"]
def names : List PySem.Str := Jwd
abbrev RO : PySem.W.OpenRow := PySem.W.OpenLaw.row PySem.Challenge.rw_overhours_k01_constants_and_errors
abbrev hk : PySem.W.Hook := Juy 6 fa fn
def ob (s : PySem.W.SharedT) : He.AlD := JsU 6 fa fn (HandSHeadRun.getT s)
section
open PySem.W PySem.Calls PyProof.Rows
theorem JxS {σ α β γ δ : Type} {x : Option σ} {f : σ → α} {g : σ → β} {h : σ → γ × δ} {a : α} {b : β} {c : γ × δ} (h1 : x.map f = some a) (h2 : x.map g = some b) (h3 : x.map (fun s => (h s).1) = some c.1) (h4 : x.map (fun s => (h s).2) = some c.2) : x.map (fun s => (f s, g s, h s)) = some (a, b, c) := by
  cases x with
  | none => cases h1
  | some s =>
    have e1 : f s = a := Option.some.inj h1
    have e2 : g s = b := Option.some.inj h2
    have e3 : (h s).1 = c.1 := Option.some.inj h3
    have e4 : (h s).2 = c.2 := Option.some.inj h4
    show some (f s, g s, h s) = _
    rw [e1, e2, show h s = c from Prod.ext e3 e4]
theorem JxT (w : World) (os : OsState) : (HandSHeadRun.endF (HandSHeadRun.stepQ (HandSHeadRun.denQ HandSHeadRun.tabQ) RO.prog w) 20000 RO.prog w os).map (fun s => HandSHeadRun.looksF RO.prog (boot_heap w.params) s.abs) = some true := by
  kernel_rfl
theorem tri {σ α β γ : Type} {x : Option σ} {h : σ → α × β × γ} {c : α × β × γ} (h1 : x.map (fun s => (h s).1) = some c.1) (h2 : x.map (fun s => (h s).2.1) = some c.2.1) (h3 : x.map (fun s => (h s).2.2) = some c.2.2) : x.map h = some c := by
  cases x with
  | none => cases h1
  | some s => exact congrArg some (Prod.ext (Option.some.inj h1) (Prod.ext (Option.some.inj h2) (Option.some.inj h3)))
noncomputable def sQ (s : PySem.W.SharedT) := HandSHeadRun.seenQ (PySem.W.view RO.prog [42]) names (importedModules RO.prog.main.body) (fun s => xlAt (PySem.W.view RO.prog [42]) [] s && recOk RO.toRowW.records s) s.abs
theorem Jwe (w : World) (os : OsState) : (HandSHeadRun.endF (HandSHeadRun.stepQ (HandSHeadRun.denQ HandSHeadRun.tabQ) RO.prog w) 20000 RO.prog w os).map (fun s => (sQ s).1) = some (openGood (PySem.W.view RO.prog [42]) names).1 := by
  kernel_rfl
theorem Jwf (w : World) (os : OsState) : (HandSHeadRun.endF (HandSHeadRun.stepQ (HandSHeadRun.denQ HandSHeadRun.tabQ) RO.prog w) 20000 RO.prog w os).map (fun s => (sQ s).2.1) = some (openGood (PySem.W.view RO.prog [42]) names).2.1 := by
  kernel_rfl
theorem Jwg (w : World) (os : OsState) : (HandSHeadRun.endF (HandSHeadRun.stepQ (HandSHeadRun.denQ HandSHeadRun.tabQ) RO.prog w) 20000 RO.prog w os).map (fun s => (sQ s).2.2) = some (openGood (PySem.W.view RO.prog [42]) names).2.2 := by
  kernel_rfl
theorem JxU (w : World) (os : OsState) : (HandSHeadRun.endF (HandSHeadRun.stepQ (HandSHeadRun.denQ HandSHeadRun.tabQ) RO.prog w) 20000 RO.prog w os).map sQ = some (openGood (PySem.W.view RO.prog [42]) names) := tri (Jwe w os) (Jwf w os) (Jwg w os)
theorem JnP {α : Type} (f : α → Bool) (c : Nat) : ∀ (m : Nat) (l : List α), l.length ≤ c * m → (∀ i, i < m → ((l.drop (c * i)).take c).all f = true) → l.all f = true
  | 0, l, hl, _ => by
    have e : l = [] := List.length_eq_zero_iff.mp Qh
    rw [e]; rfl
  | m + 1, l, hl, h => by
    rw [← List.take_append_drop c l, List.all_append, Bool.and_eq_true]
    refine ⟨by simpa using h 0 (Nat.succ_pos m), JnP f c m (l.drop c) ?_ fun i hi => ?_⟩
    · rw [List.length_drop, Nat.mul_succ] at *
      omega
    · have z := h (i + 1) (Nat.succ_lt_succ hi)
      rw [List.drop_drop]
      rw [Nat.mul_succ, Nat.add_comm] at z
      exact z
theorem Jb5 {σ : Type} {x : Option σ} {h : σ → Bool} (e : x.map h = some true) {s : σ} (hs : x = some s) : h s = true := by
  rw [hs] at e
  exact Option.some.inj e
theorem some_of {σ α : Type} {x : Option σ} {h : σ → α} {a : α} (n : x.isSome = true) (k : ∀ s, x = some s → h s = a) : x.map h = some a := by
  cases x with
  | none => cases n
  | some s => exact congrArg some (k s rfl)
theorem obs1 {n : Nat} {fa : List Fc} {fn : List He5.DefA} {g : Addr → Option Obj} {w : World} (h : ((fa.all fun f => f (He.frG g (asF g n))) && (fn.all fun d => d.ok (He.frG g (asF g n)))) = true) : (JsU n fa fn g).1 = ((Juy n fa fn).val w).1 := h
theorem isS {σ α : Type} {x : Option σ} {h : σ → α} {a : α} (e : x.map h = some a) : x.isSome = true := by
  cases x with
  | none => cases e
  | some s => rfl
theorem Jwh (w : World) (os : OsState) : (HandSHeadRun.endF (HandSHeadRun.stepQ (HandSHeadRun.denQ HandSHeadRun.tabQ) RO.prog w) 20000 RO.prog w os).map (fun s => ((fa.drop (70 * 0)).take 70).all fun f => f (He.frG (HandSHeadRun.getT s) (asF (HandSHeadRun.getT s) 6))) = some true := by
  kernel_rfl
theorem Jwi (w : World) (os : OsState) : (HandSHeadRun.endF (HandSHeadRun.stepQ (HandSHeadRun.denQ HandSHeadRun.tabQ) RO.prog w) 20000 RO.prog w os).map (fun s => ((fa.drop (70 * 1)).take 70).all fun f => f (He.frG (HandSHeadRun.getT s) (asF (HandSHeadRun.getT s) 6))) = some true := by
  kernel_rfl
theorem Jwj (w : World) (os : OsState) : (HandSHeadRun.endF (HandSHeadRun.stepQ (HandSHeadRun.denQ HandSHeadRun.tabQ) RO.prog w) 20000 RO.prog w os).map (fun s => ((fa.drop (70 * 2)).take 70).all fun f => f (He.frG (HandSHeadRun.getT s) (asF (HandSHeadRun.getT s) 6))) = some true := by
  kernel_rfl
theorem Jwk (w : World) (os : OsState) : (HandSHeadRun.endF (HandSHeadRun.stepQ (HandSHeadRun.denQ HandSHeadRun.tabQ) RO.prog w) 20000 RO.prog w os).map (fun s => ((fa.drop (70 * 3)).take 70).all fun f => f (He.frG (HandSHeadRun.getT s) (asF (HandSHeadRun.getT s) 6))) = some true := by
  kernel_rfl
theorem Jwl (w : World) (os : OsState) : (HandSHeadRun.endF (HandSHeadRun.stepQ (HandSHeadRun.denQ HandSHeadRun.tabQ) RO.prog w) 20000 RO.prog w os).map (fun s => ((fa.drop (70 * 4)).take 70).all fun f => f (He.frG (HandSHeadRun.getT s) (asF (HandSHeadRun.getT s) 6))) = some true := by
  kernel_rfl
theorem JtZ (w : World) (os : OsState) : (HandSHeadRun.endF (HandSHeadRun.stepQ (HandSHeadRun.denQ HandSHeadRun.tabQ) RO.prog w) 20000 RO.prog w os).map (fun s => ((fn.drop (30 * 0)).take 30).all fun d => d.ok (He.frG (HandSHeadRun.getT s) (asF (HandSHeadRun.getT s) 6))) = some true := by
  kernel_rfl
theorem Jwm (w : World) (os : OsState) : (HandSHeadRun.endF (HandSHeadRun.stepQ (HandSHeadRun.denQ HandSHeadRun.tabQ) RO.prog w) 20000 RO.prog w os).map (fun s => ((fn.drop (30 * 1)).take 30).all fun d => d.ok (He.frG (HandSHeadRun.getT s) (asF (HandSHeadRun.getT s) 6))) = some true := by
  kernel_rfl
theorem Jwn (w : World) (os : OsState) : (HandSHeadRun.endF (HandSHeadRun.stepQ (HandSHeadRun.denQ HandSHeadRun.tabQ) RO.prog w) 20000 RO.prog w os).map (fun s => ((fn.drop (30 * 2)).take 30).all fun d => d.ok (He.frG (HandSHeadRun.getT s) (asF (HandSHeadRun.getT s) 6))) = some true := by
  kernel_rfl
theorem Jwo (w : World) (os : OsState) : (HandSHeadRun.endF (HandSHeadRun.stepQ (HandSHeadRun.denQ HandSHeadRun.tabQ) RO.prog w) 20000 RO.prog w os).map (fun s => ((fn.drop (30 * 3)).take 30).all fun d => d.ok (He.frG (HandSHeadRun.getT s) (asF (HandSHeadRun.getT s) 6))) = some true := by
  kernel_rfl
theorem Jwp (w : World) (os : OsState) : (HandSHeadRun.endF (HandSHeadRun.stepQ (HandSHeadRun.denQ HandSHeadRun.tabQ) RO.prog w) 20000 RO.prog w os).map (fun s => ((fn.drop (30 * 4)).take 30).all fun d => d.ok (He.frG (HandSHeadRun.getT s) (asF (HandSHeadRun.getT s) 6))) = some true := by
  kernel_rfl
theorem JxV (w : World) (os : OsState) : (HandSHeadRun.endF (HandSHeadRun.stepQ (HandSHeadRun.denQ HandSHeadRun.tabQ) RO.prog w) 20000 RO.prog w os).map (fun s => (ob s).1) = some (hk.val w).1 := by
  refine some_of (isS (JtZ w os)) fun s hs => ?_
  have a1 : (fa.all fun f => f (He.frG (HandSHeadRun.getT s) (asF (HandSHeadRun.getT s) 6))) = true := JnP _ 70 5 fa Qg fun i hi => by
    match i, hi with
    | 0, _ => exact Jb5 (Jwh w os) hs
    | 1, _ => exact Jb5 (Jwi w os) hs
    | 2, _ => exact Jb5 (Jwj w os) hs
    | 3, _ => exact Jb5 (Jwk w os) hs
    | 4, _ => exact Jb5 (Jwl w os) hs
    | n + 5, h => exact absurd h Qh
  have a2 : (fn.all fun d => d.ok (He.frG (HandSHeadRun.getT s) (asF (HandSHeadRun.getT s) 6))) = true := JnP _ 30 5 fn Qg fun i hi => by
    match i, hi with
    | 0, _ => exact Jb5 (JtZ w os) hs
    | 1, _ => exact Jb5 (Jwm w os) hs
    | 2, _ => exact Jb5 (Jwn w os) hs
    | 3, _ => exact Jb5 (Jwo w os) hs
    | 4, _ => exact Jb5 (Jwp w os) hs
    | n + 5, h => exact absurd h Qh
  exact obs1 (by rw [a1, a2]; rfl)
theorem Jwq (w : World) (os : OsState) : (HandSHeadRun.endF (HandSHeadRun.stepQ (HandSHeadRun.denQ HandSHeadRun.tabQ) RO.prog w) 20000 RO.prog w os).map (fun s => (ob s).2) = some ((fn).map He5.DefA.val) := by
  kernel_rfl
theorem JxW (w : World) (os : OsState) : (HandSHeadRun.endF (HandSHeadRun.stepQ (HandSHeadRun.denQ HandSHeadRun.tabQ) RO.prog w) 20000 RO.prog w os).map (fun s => (ob s).2) = some (hk.val w).2 := by
  rw [show (hk.val w).2 = fn.map He5.DefA.val from rfl]
  exact (Jwq w os).trans (by simp only [List.map_drop])
theorem run (w : World) : HandSHeadRun.RunEq RO (PySem.W.view RO.prog [42]) hk ob 20000 names w := by
  intro os
  exact JxS (JxT w os) (JxU w os) (JxV w os) (JxW w os)
end
end DL.FR
namespace DL
open PySem PySem.Spec PyProof.Rows L2

def mdel (M : Mh) (a : Addr) : Mh := fun b => if b = a then none else M b
theorem JpO {M : Mh} {a : Addr} : mdel M a a = none := if_pos rfl
theorem Jqx {M : Mh} {a b : Addr} (h : b ≠ a) : mdel M a b = M b := if_neg h
theorem JpP {M : Mh} {a : Addr} {o : MO} (h : M a = none) : mdel (mset M a o) a = M := by
  funext b
  unfold mdel mset
  split
  · subst b; exact h.symm
  · rfl
theorem Jok {Z : Hp} {M : Mh} {H : Hp} {a : Addr} {o : HO} (h : Z a = some o) : out Z M H a = none := by unfold out; rw [h]
theorem Jq3 {Z : Hp} {M : Mh} {H : Hp} {a : Addr} {o : HO} (h : out Z M H a = some o) : Z a = none ∧ M a = none ∧ H a = some o := by
  cases z : Z a with
  | some u => rw [Jok z] at h; cases h
  | none =>
    cases e : M a with
    | none => rw [Jb4 z e] at h; exact ⟨rfl, rfl, h⟩
    | some u => rw [Joe e] at h; cases h
theorem Jbp (Z : Hp) (M : Mh) (H : Hp) : Same (out Z M H) H := fun a o h => (Jq3 h).2.2

section
variable {K : PySem.W.Frag} {F F' : Hp}
theorem RepL.append : ∀ {v w : List V} {d e : List D}, RepL K F v d → RepL K F w e → RepL K F (v ++ w) (d ++ e)
  | _, _, _, _, .nil, s => s
  | _, _, _, _, .cons h r, s => .cons h (RepL.append r s)
theorem RepL.getV : ∀ {v : List V} {d : List D} {i : Nat} {y : V}, RepL K F v d → v[i]? = some y → ∃ x, d[i]? = some x ∧ Rep K F y x
  | _, _, _, _, .nil, e => by simp at e
  | _, _, 0, _, .cons h r, e => by simp at e; subst e; exact ⟨_, rfl, h⟩
  | _, _, i + 1, _, .cons h r, e => by
    obtain ⟨y, e1, e2⟩ := RepL.getV (i := i) r (by simpa using e)
    exact ⟨y, by simpa using e1, e2⟩
theorem RepL.set {x : D} {y : V} (h : Rep K F y x) : ∀ {v : List V} {d : List D} (i : Nat), RepL K F v d → RepL K F (v.set i y) (d.set i x)
  | _, _, _, .nil => .nil
  | _, _, 0, .cons _ r => .cons h r
  | _, _, i + 1, .cons q r => .cons q (RepL.set h i r)
end

section
variable {K : PySem.W.Frag} {k : Kt} {F F' Z : Hp} {M M' : Mh} {H H' : Hp} {r : List (Option D)} {st : Sg} {p : Addr} {o : HO} {mo : MO}
theorem HR.hidL (m : HR K Z M H) (e : Z p = Option.some o) (nt : ∀ ps, o ≠ .tbl ps := by nofun) : H p = Option.some o := (m.hid p o e).1.at_ nt
theorem TbOk.hide (t : TbOk K Z H) (m : ∀ a o, Z a = Option.some o → HidAt F H a o) (h : ∀ b, b ≠ p → H' b = H b) (n : ∀ ps, H p ≠ Option.some (.tbl ps)) (nt : ∀ ps, H' p ≠ Option.some (.tbl ps)) (no : ∀ φ, o ≠ .ext φ) : TbOk K (L2.upd Z p o) H' := ⟨(t.upd h nt).tin, fun x hx => by
  obtain ⟨ps, e⟩ := t.there m hx
  have ne : x.2.1 ≠ p := fun z => n ps (by rw [← z]; exact e)
  rw [upd_ne ne]
  exact t.tab x hx, fun a φ e => by
  by_cases ha : a = p
  · subst ha; rw [upd_same] at e; exact no φ (Option.some.inj e)
  · rw [upd_ne ha] at e; exact t.zx a φ e⟩
theorem TbOk.show_ (t : TbOk K (L2.upd Z p o) H) (hz : Z p = none) (nt : ∀ ps, o ≠ .tbl ps) : TbOk K Z H := ⟨t.tin, fun x hx => by
  have e := t.tab x hx
  have ne : x.2.1 ≠ p := fun z => by
    rw [z, upd_same] at e
    exact nt _ (Option.some.inj e)
  rw [upd_ne ne] at e
  exact e, fun a φ e => by
  have ne : a ≠ p := fun z => by rw [z, hz] at e; cases e
  exact t.zx a φ (by rw [upd_ne ne]; exact e)⟩
theorem Less.same (l : Less M' M) : Same (out Z M H) (out Z M' H) := fun a o e => by
  obtain ⟨z1, z2, z3⟩ := Jq3 e
  rw [Jb4 z1]
  · exact z3
  · rcases l a with z | z
    · exact z.trans z2
    · exact z
theorem HR.less (m : HR K Z M H) (l : Less M' M) : HR K Z M' H where
  mem := fun a u e => by
    have e' : M a = some u := by
      rcases l a with z | z
      · rw [← z]; exact e
      · rw [z] at e; cases e
    exact (m.mem a u e').mono l.same (fun _ _ k _ => k)
  hid := fun a u e => by
    obtain ⟨z1, z2, z3⟩ := m.hid a u e
    refine ⟨z1.mono l.same fun _ z => z, ?_, z3⟩
    rcases l a with z | z
    · exact z.trans z2
    · exact z
  tb := m.tb
theorem SR.less (s : SR k Z r M st H) (l : Less M' M) : SR k Z r M' st H := s.step (s.hr.less l) l.same
theorem SR.set (s : SR k Z r M st H) {v : V} {d : D} (h : Rep k.K (out Z M H) v d) (i : Nat) : SR k Z (r.set i (some d)) M (st.set i (some v)) H where
  len := by rw [List.length_set, List.length_set, s.len]
  hr := s.hr
  tk := s.tk
  sl := fun j e z => by
    by_cases hj : i = j
    · subst hj
      rw [List.getElem?_set] at z
      split at z
      · split at z
        · cases z
          refine ⟨v, ?_, h⟩
          rw [List.getElem?_set]
          rename_i _ hl
          rw [if_pos rfl, if_pos (by rw [← s.len]; exact hl)]
        · cases z
      · rename_i n; exact absurd rfl n
    · rw [List.getElem?_set_ne hj] at z
      obtain ⟨y, h1, h2⟩ := s.sl j e z
      exact ⟨y, by rw [List.getElem?_set_ne hj]; exact h1, h2⟩
theorem HR.hide (m : HR K Z M H) (h : H p = none) (ho : ∀ x, o ≠ .own x) (hw : ∀ φ, o ≠ .ext φ := by nofun) (nt : ∀ ps, o ≠ .tbl ps := by nofun) : HR K (upd Z p o) M (upd H p o) ∧ out (upd Z p o) M (upd H p o) = out Z M H := by
  have eo : out (upd Z p o) M (upd H p o) = out Z M H := by
    funext b
    by_cases hb : b = p
    · subst hb
      rw [Jok upd_same, Jof h]
    · unfold out
      rw [upd_ne hb, upd_ne hb]
  refine ⟨⟨fun a u e => ?_, fun a u e => ?_, m.tb.hide (fun a o z => (m.hid a o z).1) (fun b hb => upd_ne hb) (fun ps z => by rw [h] at z; cases z) (fun ps z => by rw [upd_same] at z; exact nt ps (Option.some.inj z)) hw⟩, eo⟩
  · rw [eo]
    exact (m.mem a u e).mono (Same.refl _) fun b w z _ => by rw [upd_ne (ne_of_none z h)]; exact z
  · by_cases ha : a = p
    · subst ha
      rw [upd_same] at e
      cases e
      exact ⟨.of upd_same nt, (m.fresh h).1, ho⟩
    · rw [upd_ne ha] at e
      obtain ⟨z1, z2, z3⟩ := m.hid a u e
      exact ⟨z1.mono (by rw [eo]; exact Same.refl _) fun w z => by rw [upd_ne ha]; exact z, z2, z3⟩
theorem HR.rehide {o' : HO} (m : HR K (upd Z p o) M H) (ho : ∀ x, o' ≠ .own x) (hw : ∀ φ, o' ≠ .ext φ := by nofun) (nt : ∀ ps, o' ≠ .tbl ps := by nofun) (nt0 : ∀ ps, o ≠ .tbl ps := by nofun) : HR K (upd Z p o') M (upd H p o') ∧ out (upd Z p o') M (upd H p o') = out (upd Z p o) M H := by
  have eo : out (upd Z p o') M (upd H p o') = out (upd Z p o) M H := by
    funext b
    by_cases hb : b = p
    · subst hb
      rw [Jok upd_same, Jok upd_same]
    · unfold out
      rw [upd_ne hb, upd_ne hb, upd_ne hb]
  have hp := m.hid p o upd_same
  have hpa := hp.1.at_ nt0
  refine ⟨⟨fun a u e => ?_, fun a u e => ?_, ?_⟩, eo⟩
  · rw [eo]
    refine (m.mem a u e).mono (Same.refl _) fun b w z hb => ?_
    have nb : b ≠ p := by
      rintro rfl
      rcases hb with rfl | rfl
      · rw [hp.2.1] at e; cases e
      · rw [hpa] at z; exact hp.2.2 _ (Option.some.inj z)
    rw [upd_ne nb]; exact z
  · by_cases ha : a = p
    · subst ha
      rw [upd_same] at e
      cases e
      exact ⟨.of upd_same nt, hp.2.1, ho⟩
    · rw [upd_ne ha] at e
      obtain ⟨z1, z2, z3⟩ := m.hid a u (by rw [upd_ne ha]; exact e)
      exact ⟨z1.mono (by rw [eo]; exact Same.refl _) fun w z => by rw [upd_ne ha]; exact z, z2, z3⟩
  · have q := m.tb.hide (p := p) (o := o') (H' := L2.upd H p o') (fun a o z => (m.hid a o z).1) (fun b hb => upd_ne hb) (fun ps z => by rw [hpa] at z; exact nt0 ps (Option.some.inj z)) (fun ps z => by rw [upd_same] at z; exact nt ps (Option.some.inj z)) hw
    rw [upd_upd] at q
    exact q
theorem HR.show_ (m : HR K (upd Z p o) M H) (hz : Z p = none) (nt : ∀ ps, o ≠ .tbl ps := by nofun) : HR K Z M H ∧ Same (out (upd Z p o) M H) (out Z M H) ∧ out Z M H p = Option.some o := by
  have hp := m.hid p o upd_same
  have sm : Same (out (upd Z p o) M H) (out Z M H) := fun a u e => by
    obtain ⟨z1, z2, z3⟩ := Jq3 e
    have ha : a ≠ p := by
      rintro rfl
      rw [upd_same] at z1; cases z1
    rw [upd_ne ha] at z1
    rw [Jb4 z1 z2]; exact z3
  refine ⟨⟨fun a u e => (m.mem a u e).mono sm fun _ _ z _ => z, fun a u e => ?_, m.tb.show_ hz nt⟩, sm, by rw [Jb4 hz hp.2.1]; exact hp.1.at_ nt⟩
  have ha : a ≠ p := by
    rintro rfl
    rw [hz] at e; cases e
  obtain ⟨z1, z2, z3⟩ := m.hid a u (by rw [upd_ne ha]; exact e)
  exact ⟨z1.mono sm fun _ z => z, z2, z3⟩
end

abbrev WN : DWX := fun _ _ _ _ => False
def Jpp (k : Kt) (t : DTE) : TE := fun st H Q => ∃ Z r M DQ, SR k Z r M st H ∧ t r M DQ ∧ ∀ v H', EQ k Z st r (out Z M H) DQ v H' → Q v H'
def Jqy (k : Kt) (t : DTT) : TT := fun st H Q => ∃ Z r M DQ, SR k Z r M st H ∧ t r M DQ ∧ ∀ v H', TQ k Z st r (out Z M H) DQ v H' → Q v H'
def JxC (k : Kt) (t : DTA) : TA := fun st H Q => ∃ Z r M DQ, SR k Z r M st H ∧ t r M DQ ∧ ∀ v H', AQ k Z st r (out Z M H) DQ v H' → Q v H'
section
variable {X : Cx} {W : DWX} {e : Expr} {es : List Expr} {c : Stmt} {cs : List Stmt}
theorem DE.pe {t : DTE} (h : DE X W e t) : PE X e (Jpp (kx X W) t) := ⟨fun pins s st H Q I ⟨Z, r, M, DQ, q, ht, k⟩ =>
  thn (h.run pins s st H Z r M DQ I q ht) fun _ _ ⟨v, H', I', rv, z⟩ => ⟨v, H', I', rv, k v H' z⟩⟩
theorem DT.pt {t : DTT} (h : DT X W e t) : PT X e (Jqy (kx X W) t) := ⟨fun pins s st H Q I ⟨Z, r, M, DQ, q, ht, k⟩ =>
  thn (h.run pins s st H Z r M DQ I q ht) fun _ _ ⟨H', I', z⟩ => ⟨H', I', k _ H' z⟩⟩
theorem DW.pw {t : DTT} (h : DW X W e t) : PW X e (Jqy (kx X W) t) := ⟨fun wh pins s st H Q I ⟨Z, r, M, DQ, q, ht, k⟩ =>
  thn (h.run wh pins s st H Z r M DQ I q ht) fun _ _ ⟨H', I', z⟩ => ⟨H', I', k _ H' z⟩⟩
theorem DW.dt {t : DTT} (h : DW X W e t) : DT X W e t := ⟨h.run _⟩
theorem DA.pa {t : DTA} (h : DA X W es t) : PA X es (JxC (kx X W) t) := ⟨fun pos pins s st H Q I ⟨Z, r, M, DQ, q, ht, k⟩ =>
  thn (h.run pos pins s st H Z r M DQ I q ht) fun _ _ ⟨v, H', I', rv, z⟩ => ⟨v, H', I', rv, k v H' z⟩⟩
theorem DSs.pss {t : DTS} (h : DSs X W cs t) : PSs X cs (Jt8 (kx X W) t) := ⟨fun pins s st H E I ⟨Z, r, M, D, q, ht, k1, k2, k3, k4⟩ =>
  thn (h.run pins s st H Z r M D I q ht) fun _ _ z => JtQ k1 k2 k3 k4 z⟩
end
end DL

set_option maxHeartbeats 2000000
namespace DL
open PySem PySem.Spec PyProof.Rows L2

section
variable {K : PySem.W.Frag} {k : Kt} {F F' Z : Hp} {M M' : Mh} {H H' : Hp} {r : Rho} {st : Sg} {Q : QD} {v : V} {d : D} {p : Addr}
theorem Jq5 {o : HO} {xs : List V} {ds : List D} (hp : H p = none) (h : RepL K (out Z M H) xs ds) : RepL K (upd (out Z M H) p o) xs ds := h.mono (Jq4 (Jof hp))
theorem EQ.newLst {xs : List V} {ds : List D} (q : SR k Z r M st H) (hp : H p = none) (h : RepL k.K (out Z M H) xs ds) (z : Q (.lst ds) M) : EQ k Z st r (out Z M H) Q (.ref p) (upd H p (.lst xs)) :=
  EQ.new q hp (.lst upd_same (Jq5 hp h)) z
theorem EQ.newTup {xs : List V} {ds : List D} (q : SR k Z r M st H) (hp : H p = none) (h : RepL k.K (out Z M H) xs ds) (z : Q (.tup ds) M) : EQ k Z st r (out Z M H) Q (.ref p) (upd H p (.tup xs)) :=
  EQ.new q hp (.tup (.inl (.inl upd_same)) (Jq5 hp h)) z
end

theorem JsG {K : PySem.W.Frag} {Z : Hp} {M : Mh} {H : Hp} {p : Addr} {od : Obj} {xs : List (Key × V)} {kvs : List (Key × D)} (m : HR K Z M H) (e : M p = some (.dic kvs)) (h : H p = some (.dK xs)) (rk : RepK K (out Z M H) xs kvs) :
    HR K Z (mdel M p) (upd H p (.frz od (.dK xs))) ∧ Same (out Z M H) (out Z (mdel M p) (upd H p (.frz od (.dK xs)))) ∧ Rep K (out Z (mdel M p) (upd H p (.frz od (.dK xs)))) (.ref p) (.dic kvs) := by
  have z : Z p = none := by
    cases q : Z p with
    | none => rfl
    | some u => have := (m.hid p u q).2.1; rw [e] at this; cases this
  have sm : Same (out Z M H) (out Z (mdel M p) (upd H p (.frz od (.dK xs)))) := fun b o q => by
    obtain ⟨z1, z2, z3⟩ := Jq3 q
    have hb : b ≠ p := fun w => by rw [w, e] at z2; cases z2
    rw [Jb4 z1 (by rw [Jqx hb]; exact z2), upd_ne hb]
    exact z3
  refine ⟨⟨fun a u q => ?_, fun a u q => ?_, m.tb.upd (p := p) (fun b hb => upd_ne hb) fun ps z => by rw [upd_same] at z; cases z⟩, sm, .dic (od := od) (xs := xs) (by rw [Jb4 z JpO, upd_same]) (rk.mono sm)⟩
  · have ha : a ≠ p := fun w => by rw [w, JpO] at q; cases q
    rw [Jqx ha] at q
    refine (m.mem a u q).mono sm fun b w hb hc => ?_
    have hbp : b ≠ p := by
      rcases hc with rfl | rfl
      · exact ha
      · rintro rfl
        rw [h] at hb; cases hb
    rw [upd_ne hbp]
    exact hb
  · obtain ⟨z1, z2, z3⟩ := m.hid a u q
    have ha : a ≠ p := fun w => by rw [w, z] at q; cases q
    exact ⟨z1.mono sm fun w y => by rw [upd_ne ha]; exact y, by rw [Jqx ha]; exact z2, z3⟩
def dVar (i : Nat) : DTE := fun r M Q => match r[i]? with
  | some (some d) => Q d M
  | _ => False
def dC (d : D) : DTE := fun _ M Q => Q d M
section
variable {X : Cx} {W : DWX} {pos : Pos}
theorem JvJ {i : Nat} {x : Str} (hN : X.N[i]? = some x) (hv : Vis X.env.scope x) (hd : (x == ("__debug__" : Str)) = false := by decide) (hcd : (x == ("__classdict__" : Str)) = false := by decide) : DE X W (.Name x pos) (dVar i) :=
  DE.of (pe_var hN hv hd hcd) fun st H Z r M Q q h => by
    unfold dVar at h
    split at h
    · rename_i d e
      obtain ⟨v, e1, rv⟩ := q.sl i d e
      exact ⟨v, e1, EQ.val q rv h⟩
    · exact h.elim
theorem dv (i : Nat) {x : Str} (hN : X.N[i]? = some x := by rfl) (hv : Vis X.env.scope x := by first | exact Or.inl rfl | exact Or.inr (Or.inl rfl) | exact Or.inr (Or.inr rfl)) (hd : (x == ("__debug__" : Str)) = false := by decide)
    (hcd : (x == ("__classdict__" : Str)) = false := by decide) : DE X W (.Name x pos) (dVar i) := JvJ hN hv hd hcd
theorem de_int {i j} : DE X W (.Constant (.int i) j pos) (dC (.int i)) := DE.of pe_int fun st H Z r M Q q h => EQ.val q (.int i) h
theorem Jo8 {b j} : DE X W (.Constant (.bool b) j pos) (dC (.bl b)) := DE.of pe_bl fun st H Z r M Q q h => EQ.val q (.bl b) h
theorem JrA {j} : DE X W (.Constant .none j pos) (dC .non) := DE.of pe_non fun st H Z r M Q q h => EQ.val q .non h
theorem Jn0 {x j} : DE X W (.Constant (.str x) j pos) (dC (.str x)) := DE.of pe_str fun st H Z r M Q q h => EQ.val q (.str x) h
theorem Jbo {x : Str} {a : Addr} (hg : Gl X x) (hm : X.mg x = some (.ref a)) (hd : (x == ("__debug__" : Str)) = false := by decide) : DE X W (.Name x pos) (dC (.ref a)) :=
  DE.of (pe_glob (v := .ref a) hg hm rfl hd) fun st H Z r M Q q h => EQ.val q (.ref a) h
theorem Jpq {x : Str} {i : Int} {t : Tok} (hg : Gl X x) (hm : X.mg x = some (.int i t)) (hd : (x == ("__debug__" : Str)) = false := by decide) : DE X W (.Name x pos) (dC (.int i)) :=
  DE.of (pe_glob (v := .int i) hg hm ⟨t, rfl⟩ hd) fun st H Z r M Q q h => EQ.val q (.int i) h
theorem Jqz {x : Str} {n : String} (hg : Gl X x) (hm : X.mg x = none) (hv : bootBuiltins x = some (.type n)) (hn : x ≠ "__name__" := by decide) (hd : (x == ("__debug__" : Str)) = false := by decide) : DE X W (.Name x pos) (dC (.ty n)) :=
  DE.of (pe_bltn (v := .ty n) hg hm hv rfl hn hd) fun st H Z r M Q q h => EQ.val q (.ty n) h
end

section
variable {X : Cx} {W : DWX} {pos : Pos} {a b c : Expr} {ta tb tc : DTE}
def dOp (o : DR2) (ta tb : DTE) : DTE := fun r M Q => ta r M fun x M1 => tb r M1 fun y M2 => o x y M2 Q
def dUn (o : DR1) (ta : DTE) : DTE := fun r M Q => ta r M fun x M1 => o x M1 Q
theorem two (ha : DE X W a ta) (hb : DE X W b tb) {f : Value → Value → Sem Value} {o : DR2} (ho : DOp X W f o) {pins : List (Addr × Obj)} {s : Shared} {st : Sg} {H Z : Hp} {r : Rho} {M : Mh} {Q : QD} (I : Inv X pins st H s) (q : SR (kx X W) Z r M st H) (h : dOp o ta tb r M Q) :
    wpAny (model X.prog X.w) X.A (eval a X.env) (fun v s1 => wpAny (model X.prog X.w) X.A (eval b X.env) (fun u s2 => wpAny (model X.prog X.w) X.A (f v u) (EP X pins st (EQ (kx X W) Z st r (out Z M H) Q)) X.xe s2) X.xe s1) X.xe s := by
  refine thn (ha.run pins s st H Z r M _ I q h) fun v s1 ⟨x, H1, I1, rx, dx, M1, q1, rpx, sm1, h1⟩ => ?_
  refine thn (hb.run pins s1 st H1 Z r M1 _ I1 q1 h1) fun u s2 ⟨y, H2, I2, ry, dy, M2, q2, rpy, sm2, h2⟩ => ?_
  refine thn (ho pins s2 st H2 Z r M2 x y v u dx dy Q I2 q2 rx ry (rpx.mono sm2) rpy h2) fun w s3 ⟨z, H3, I3, rz, e⟩ => ⟨z, H3, I3, rz, e.mono (sm1.trans sm2)⟩
theorem Jff {op : Operator} {o : DR2} (ho : DOp X W (binaryOp op) o) (ha : DE X W a ta) (hb : DE X W b tb) : DE X W (.BinOp a op b pos) (dOp o ta tb) :=
  ⟨fun pins s st H Z r M Q I q h => wpAny_BinOp (two ha hb ho I q h)⟩
theorem JxD {op : UnaryOp} {o : DR1} (ho : DUn X W (unaryOp op) o) (ha : DE X W a ta) : DE X W (.UnaryOp op a pos) (dUn o ta) :=
  ⟨fun pins s st H Z r M Q I q h => UnaryOp_ (thn (ha.run pins s st H Z r M _ I q h) fun v s1 ⟨x, H1, I1, rx, dx, M1, q1, rpx, sm1, h1⟩ =>
    thn (ho pins s1 st H1 Z r M1 x v dx Q I1 q1 rx rpx h1) fun w s2 ⟨z, H2, I2, rz, e⟩ => ⟨z, H2, I2, rz, e.mono sm1⟩)⟩
theorem JvK {op : CmpOp} {o : DR2} (ho : DOp X W (compareOp op) o) (ha : DE X W a ta) (hb : DE X W b tb) (hm : behindInMarks op b = false) : DE X W (.Compare a [op] [b] pos) (dOp o ta tb) :=
  ⟨fun pins s st H Z r M Q I q h => wpAny_Compare1 (two ha hb ho I q h) hm⟩
def dB (t : DTE) : DTT := fun r M Q => t r M fun x M1 => match x with
  | .bl k => Q k M1
  | _ => False
theorem Jq6 {k : Kt} {Z F : Hp} {st : Sg} {r : Rho} {Q : Bool → Mh → Prop} {v : V} {H : Hp} (h : EQ k Z st r F (fun x M1 => match x with | .bl k => Q k M1 | _ => False) v H) : ∃ b, v = .bl b ∧ TQ k Z st r F Q b H := by
  obtain ⟨d, M', q, rp, sm, h⟩ := h
  cases rp with
  | bl k => exact ⟨k, rfl, M', q, sm, h⟩
  | _ => exact h.elim
theorem JvL {e : Expr} {t : DTE} (h : DE X W e t) (he : ∀ whole, isTrue e X.env whole = (do let v ← whole; standAt e.pos; holding [v] (truthy v)) := by intro _; rfl) : DT X W e (dB t) :=
  DT.of (pt_val h.pe he) fun st H Z r M Q q ht => ⟨Z, r, M, _, q, ht, fun v H' e => Jq6 e⟩
theorem Jpf {op : CmpOp} {o : DR2} (ho : DOp X W (compareOp op) o) (ha : DE X W a ta) (hb : DE X W b tb) (hm : behindInMarks op b = false) : DT X W (.Compare a [op] [b] pos) (dB (dOp o ta tb)) :=
  ⟨fun pins s st H Z r M Q I q h => wpAny_isTrue_Compare1 (thn (two ha hb ho I q h) fun v s1 h1 => thn h1 fun u s2 h2 => thn h2 fun w s3 ⟨z, H3, I3, rz, e⟩ => by
    obtain ⟨k, rfl, e2⟩ := Jq6 e
    cases rz
    exact wpAny_truthy_bool ⟨H3, I3, e2⟩) hm⟩
end

def dAnd (t u : DTT) : DTT := fun r M Q => t r M fun c M1 => if c = true then u r M1 Q else Q false M1
def dOr (t u : DTT) : DTT := fun r M Q => t r M fun c M1 => if c = true then Q true M1 else u r M1 Q
def dNot (t : DTT) : DTT := fun r M Q => t r M fun c M1 => Q (!c) M1
def JrB (ta tb : DTE) : DTE := fun r M Q => ta r M fun x M1 => match x with
  | .bl c => if c = true then tb r M1 Q else Q (.bl false) M1
  | _ => False
def dOrV (ta tb : DTE) : DTE := fun r M Q => ta r M fun x M1 => match x with
  | .bl c => if c = true then Q (.bl true) M1 else tb r M1 Q
  | _ => False
def JrC (ta : DTE) : DTE := fun r M Q => ta r M fun x M1 => match x with
  | .bl c => Q (.bl (!c)) M1
  | _ => False
def dIf (t : DTT) (ta tb : DTE) : DTE := fun r M Q => t r M fun c M1 => if c = true then ta r M1 Q else tb r M1 Q
section
variable {X : Cx} {W : DWX} {pos : Pos} {a b c : Expr} {rest : List Expr} {ta tb : DTE} {tA tB : DTT}
theorem JvM (ha : DT X W a tA) : DW X W (.BoolOp .Or [a] pos) tA := DW.of (pw_or1 ha.pt) fun st H Z r M Q q h => ⟨Z, r, M, Q, q, h, fun _ _ e => e⟩
theorem JxE (ha : DT X W a tA) (hb : DW X W (.BoolOp .Or (b :: rest) pos) tB) : DW X W (.BoolOp .Or (a :: b :: rest) pos) (dOr tA tB) :=
  DW.of (pw_or ha.pt hb.pw) fun st H Z r M Q q h => ⟨Z, r, M, _, q, h, fun k H1 ⟨M1, q1, sm, e⟩ => by
    cases k with
    | false => exact ⟨Z, r, M1, Q, q1, e, fun k H2 z => z.mono sm⟩
    | true => exact ⟨M1, q1, sm, e⟩⟩
theorem JvN (ha : DT X W a tA) : DT X W (.UnaryOp .Not a pos) (dNot tA) :=
  DT.of (pt_not ha.pt) fun st H Z r M Q q h => ⟨Z, r, M, _, q, h, fun k H1 ⟨M1, q1, sm, e⟩ => ⟨M1, q1, sm, e⟩⟩
theorem JvO (hc : DT X W c tA) (ha : DE X W a ta) (hb : DE X W b tb) : DE X W (.IfExp c a b pos) (dIf tA ta tb) :=
  DE.of (pe_ifExp hc.pt ha.pe hb.pe) fun st H Z r M Q q h => ⟨Z, r, M, _, q, h, fun k H1 ⟨M1, q1, sm, e⟩ => by
    cases k with
    | true => exact ⟨Z, r, M1, Q, q1, e, fun k H2 z => z.mono sm⟩
    | false => exact ⟨Z, r, M1, Q, q1, e, fun k H2 z => z.mono sm⟩⟩
end

def dNil : DTA := fun _ M Q => Q [] M
def JqA (ta : DTE) (tr : DTA) : DTA := fun r M Q => ta r M fun x M1 => tr r M1 fun xs M2 => Q (x :: xs) M2
def dTup (t : DTA) : DTE := fun r M Q => t r M fun xs M1 => xs.length ≤ sizeLine ∧ Q (.tup xs) M1
def dLst (t : DTA) : DTE := fun r M Q => t r M fun xs M1 => xs.length ≤ sizeLine ∧ Q (.lst xs) M1
def JvP (t : DTA) : DTE := fun r M Q => t r M fun xs M1 => xs.length ≤ sizeLine ∧ ∀ p, M1 p = none → Q (.ref p) (mset M1 p (.lst xs))
section
variable {X : Cx} {W : DWX} {pos : Pos} {e : Expr} {es : List Expr} {te : DTE} {t : DTA}
theorem da_nil : DA X W [] dNil := DA.of pa_nil fun st H Z r M Q q h => ⟨[], M, q, .nil, Same.refl _, h⟩
theorem Jbk (ha : DE X W e te) (hr : DA X W es t) (hs : starEach (e :: es) X.env = (false, eval e X.env) :: starEach es X.env := by rfl) : DA X W (e :: es) (JqA te t) :=
  DA.of (pa_cons ha.pe hr.pa hs) fun st H Z r M Q q h => ⟨Z, r, M, _, q, h, fun v H1 ⟨d, M1, q1, rp, sm, e⟩ => ⟨Z, r, M1, _, q1, e, fun vs H2 ⟨ds, M2, q2, rps, sm2, e2⟩ => ⟨d :: ds, M2, q2, .cons (rp.mono sm2) rps, sm.trans sm2, e2⟩⟩⟩
theorem JvQ {x1} (h : DA X W es t) : DE X W (.Tuple es x1 pos) (dTup t) :=
  DE.of (pe_tup h.pa) fun st H Z r M Q q ht => ⟨Z, r, M, _, q, ht, fun vs H1 ⟨ds, M1, q1, rps, sm, hl, e⟩ => ⟨by rw [rps.length]; exact hl, fun p hp => (EQ.newTup q1 hp rps e).mono sm⟩⟩
theorem JtR (h : DA X W es t) : DE X W (.List es pos) (dLst t) :=
  DE.of (pe_lst h.pa) fun st H Z r M Q q ht => ⟨Z, r, M, _, q, ht, fun vs H1 ⟨ds, M1, q1, rps, sm, hl, e⟩ => ⟨by rw [rps.length]; exact hl, fun p hp => (EQ.newLst q1 hp rps e).mono sm⟩⟩
theorem Jt9 (h : DA X W es t) : DE X W (.List es pos) (JvP t) :=
  DE.of (pe_lst h.pa) fun st H Z r M Q q ht => ⟨Z, r, M, _, q, ht, fun vs H1 ⟨ds, M1, q1, rps, sm, hl, e⟩ => ⟨by rw [rps.length]; exact hl, fun p hp => by
    have he : ∀ b, b ≠ p → upd H1 p (.lst vs) b = H1 b := fun b hb => upd_ne hb
    have q2 := q1.mset (mo := .lst ds) he (.inl hp) ⟨vs, upd_same, rps⟩
    exact ⟨.ref p, _, q2, .ref p, by rw [Jjk q1.hr he (.inl hp)]; exact sm, e p (q1.hr.fresh hp).1⟩⟩⟩
end
end DL

set_option maxHeartbeats 2000000
namespace DL
open PySem PySem.Spec PyProof.Rows L2

def Jpr (M : Mh) : D → Option (List D)
  | .lst ds => some ds
  | .scr ns => some (ns.map .int)
  | .ref a => match M a with
    | some (.lst ds) => some ds
    | _ => none
  | _ => none
def seqOf (M : Mh) : D → Option (List D)
  | .tup ds => some ds
  | d => Jpr M d
def lstW (M : Mh) : D → Option (List D)
  | .lst ds => some ds
  | .ref a => match M a with
    | some (.lst ds) => some ds
    | _ => none
  | _ => none
section
variable {K : PySem.W.Frag} {F Z : Hp} {M : Mh} {H : Hp} {v : V} {d : D} {ds : List D} {p : Addr}
theorem Jol : ∀ ns : List Int, RepL K F (ns.map V.int) (ns.map D.int)
  | [] => .nil
  | n :: ns => .cons (.int n) (Jol ns)
theorem Jog (m : HR K Z M H) (h : lstW M d = some ds) (rp : Rep K (out Z M H) v d) : ∃ a xs, v = .ref a ∧ H a = some (.lst xs) ∧ RepL K (out Z M H) xs ds := by
  cases rp with
  | lst e r =>
    have h' := Option.some.inj h
    subst h'
    exact ⟨_, _, rfl, Jbp _ _ _ _ _ e, r⟩
  | ref a =>
    have h2 : (match M a with | some (.lst ds) => some ds | _ => none) = some ds := h
    split at h2
    · rename_i ds' hm
      cases h2
      obtain ⟨xs, h1, h2⟩ := m.mem a _ hm
      exact ⟨a, xs, rfl, h1, h2⟩
    · cases h2
  | _ => cases h
theorem JlY (m : HR K Z M H) (h : Jpr M d = some ds) (rp : Rep K (out Z M H) v d) : ∃ a xs, v = .ref a ∧ SqL K H a xs ∧ RepL K (out Z M H) xs ds := by
  cases rp with
  | scr e =>
    have h' := Option.some.inj h
    subst h'
    exact ⟨_, _, rfl, Jji (Jbp _ _ _) e, Jol _⟩
  | lst e r =>
    have h' := Option.some.inj h
    subst h'
    exact ⟨_, _, rfl, .inl (.inl (Jbp _ _ _ _ _ e)), r⟩
  | ref a =>
    have h2 : lstW M (.ref a) = some ds := h
    obtain ⟨a', xs, e1, e2, e3⟩ := Jog m h2 (.ref a)
    cases e1
    exact ⟨a, xs, rfl, .inl (.inl e2), e3⟩
  | _ => cases h
theorem Jom (m : HR K Z M H) (h : seqOf M d = some ds) (rp : Rep K (out Z M H) v d) : ∃ a xs, v = .ref a ∧ (SqL K H a xs ∨ SqT K H a xs) ∧ RepL K (out Z M H) xs ds := by
  cases rp with
  | tup e r =>
    have h' := Option.some.inj h
    subst h'
    exact ⟨_, _, rfl, .inr (Jjj (Jbp _ _ _) e), r⟩
  | @scr a ns e =>
    obtain ⟨a, xs, e1, e2, e3⟩ := JlY m (d := .scr ns) h (.scr e)
    exact ⟨a, xs, e1, .inl e2, e3⟩
  | @lst a xs ds' e r =>
    obtain ⟨a, xs, e1, e2, e3⟩ := JlY m (d := .lst ds') h (.lst e r)
    exact ⟨a, xs, e1, .inl e2, e3⟩
  | ref a =>
    obtain ⟨a, xs, e1, e2, e3⟩ := JlY m (d := .ref a) h (.ref a)
    exact ⟨a, xs, e1, .inl e2, e3⟩
  | _ => cases h
end

def aAdd : DR2 := fun x y M Q => match x, y with
  | .int i, .int j => Q (.int (i + j)) M
  | .str a, .str b => a.length + b.length ≤ sizeLine ∧ Q (.str (a ++ b)) M
  | .tup a, .tup b => a.length + b.length ≤ sizeLine ∧ Q (.tup (a ++ b)) M
  | x, y => match lstW M x, lstW M y with
    | some a, some b => a.length + b.length ≤ sizeLine ∧ Q (.lst (a ++ b)) M
    | _, _ => False
def Jrg (f : Int → Int → Int) : DR2 := fun x y M Q => match x, y with
  | .int i, .int j => Q (.int (f i j)) M
  | _, _ => False
abbrev aSub : DR2 := Jrg fun i j => i - j
abbrev Jrh : DR2 := aInt (fun i j => i / j) CDivW
abbrev aMod : DR2 := aInt (fun i j => i % j) fun _ j => 0 < j
abbrev aPow : DR2 := aInt (fun i j => i ^ j.toNat) CPow
def aMul : DR2 := fun x y M Q => match x, y with
  | .int i, .int j => IntMulOk i j ∧ Q (.int (i * j)) M
  | x, .int k => match lstW M x with
    | some ds => -(2 ^ 63) ≤ k ∧ k < 2 ^ 63 ∧ ds.length * k.toNat ≤ sizeLine ∧ Q (.lst (List.replicate k.toNat ds).flatten) M
    | none => False
  | _, _ => False
section
variable {X : Cx} {W : DWX}
theorem Jua : OpR X (binaryOp .Mult) (rI IntMulOk fun i j => .int (i * j)) := opI fun _ _ _ _ _ _ _ hc q => mul_int q hc
theorem JpQ {K : PySem.W.Frag} {F : Hp} {xs : List V} {ds : List D} (h : RepL K F xs ds) : ∀ k : Nat, RepL K F (List.replicate k xs).flatten (List.replicate k ds).flatten
  | 0 => .nil
  | k + 1 => by
    rw [List.replicate_succ, List.replicate_succ, List.flatten_cons, List.flatten_cons]
    exact h.append (JpQ h k)
theorem DOp.int0 {f : Value → Value → Sem Value} {g : Int → Int → Int} (h : OpR X f (rI0 fun i j => .int (g i j))) : DOp X W f (Jrg g) :=
  .of h fun st H Z r M x y da db Q q ra rb h => by
    unfold Jrg at h
    split at h
    · cases ra; cases rb
      exact ⟨_, _, rfl, rfl, EQ.val q (.int _) h⟩
    · exact h.elim
theorem JkY : DOp X W (binaryOp .Add) aAdd := by
  intro pins s st H Z r M x y v u da db Q I q rx ry ra rb h
  unfold aAdd at h
  split at h
  · cases ra; cases rb
    exact op_add pins s st H _ _ v u _ I rx ry ⟨_, _, rfl, rfl, EQ.val q (.int _) h⟩
  · cases ra; cases rb
    exact op_add_str pins s st H _ _ v u _ I rx ry ⟨_, _, rfl, rfl, h.1, EQ.val q (.str _) h.2⟩
  · cases ra with
    | @tup a xs ds ha ra =>
      cases rb with
      | @tup b ys es hb rb =>
        have ha' := Jjj (Jbp _ _ _) ha
        have hb' := Jjj (Jbp _ _ _) hb
        refine op_catA pins s st H _ _ v u _ I rx ry ⟨a, b, xs, ys, rfl, rfl, ha', hb', by rw [ra.length, rb.length]; exact h.1, fun e => ?_, fun _ e => ?_, fun _ _ p hp => EQ.newTup q hp (ra.append rb) h.2⟩
        · subst e
          cases ra
          exact EQ.val q (.tup hb rb) h.2
        · subst e
          cases rb
          refine EQ.val q (.tup ha ra) ?_
          have := h.2
          rw [List.append_nil] at this
          exact this
  · split at h
    · rename_i a b ea eb
      obtain ⟨l, xs, rfl, hl, rl⟩ := Jog q.hr ea ra
      obtain ⟨l2, ys, rfl, hl2, rl2⟩ := Jog q.hr eb rb
      exact op_cat pins s st H _ _ v u _ I rx ry ⟨l, l2, xs, ys, rfl, rfl, hl, hl2, by rw [rl.length, rl2.length]; exact h.1, fun p hp => EQ.newLst q hp (rl.append rl2) h.2⟩
    · exact h.elim
theorem Jub : DOp X W (binaryOp .Sub) aSub := .int0 op_sub
theorem JsH : DOp X W (binaryOp .FloorDiv) Jrh := .int op_fdivW
theorem Jnd : DOp X W (binaryOp .Mod) aMod := .int op_mod
theorem JrD : DOp X W (binaryOp .Pow) aPow := .int op_pow
theorem JnM : DOp X W (binaryOp .Mult) aMul := by
  intro pins s st H Z r M x y v u da db Q I q rx ry ra rb h
  unfold aMul at h
  split at h
  · cases ra; cases rb
    exact Jua pins s st H _ _ v u _ I rx ry ⟨_, _, rfl, rfl, h.1, EQ.val q (.int _) h.2⟩
  · split at h
    · rename_i ds e
      cases rb
      obtain ⟨l, xs, rfl, hl, rl⟩ := Jog q.hr e ra
      exact op_rep pins s st H _ _ v u _ I rx ry ⟨l, _, xs, rfl, rfl, hl, h.1, h.2.1, by rw [rl.length]; exact h.2.2.1, fun p hp => EQ.newLst q hp (JpQ rl _) h.2.2.2⟩
    · exact h.elim
  · exact h.elim
def aNeg : DR1 := fun x M Q => match x with
  | .int i => Q (.int (-i)) M
  | _ => False
theorem Juc : DUn X W (unaryOp .USub) aNeg := .of un_neg fun st H Z r M x da Q q ra h => by
  unfold aNeg at h
  split at h
  · cases ra
    exact ⟨_, rfl, EQ.val q (.int _) h⟩
  · exact h.elim
end

def aCmp (p : Int → Int → Bool) : DR2 := fun x y M Q => match x, y with
  | .int i, .int j => Q (.bl (p i j)) M
  | _, _ => False
abbrev aLt : DR2 := aCmp fun i j => decide (i < j)
abbrev aGt : DR2 := aCmp fun i j => decide (j < i)
abbrev aGe : DR2 := aCmp fun i j => decide (j ≤ i)
section
variable {X : Cx} {W : DWX}
theorem DOp.cmp {f : Value → Value → Sem Value} {g : Int → Int → Bool} (h : OpR X f (rI0 fun i j => .bl (g i j))) : DOp X W f (aCmp g) :=
  .of h fun st H Z r M x y da db Q q ra rb h => by
    unfold aCmp at h
    split at h
    · cases ra; cases rb
      exact ⟨_, _, rfl, rfl, EQ.val q (.bl _) h⟩
    · exact h.elim
theorem JtS : DOp X W (compareOp .Lt) aLt := .cmp op_lt
theorem JvR : DOp X W (compareOp .Gt) aGt := .cmp op_gt
theorem JvS : DOp X W (compareOp .GtE) aGe := .cmp op_ge
end

def JvT : D → Bool
  | .non => true
  | _ => false
def aIsN : DR2 := fun x y M Q => match y with
  | .non => Q (.bl (JvT x)) M
  | _ => False
def JrE : DR2 := fun x y M Q => match y with
  | .non => Q (.bl (!JvT x)) M
  | _ => False

def Jud : Key → PyData
  | .inl i => .int i
  | .inr x => .str x
mutual
def py : D → Option PyData
  | .non => some .none
  | .bl b => some (.bool b)
  | .int i => some (.int i)
  | .str x => some (.str x)
  | .tup ds => (pyL ds).map .tuple
  | .lst ds => (pyL ds).map .list
  | .dic kvs => (pyK kvs).map .dict
  | .ins _ _ => none
  | .obj _ _ => none
  | .ref _ => none
  | .ty _ => none
  | .scr _ => none
  | .exc _ _ _ => none
  | .fn _ _ _ _ => none
  | .exv _ _ => none
def pyL : List D → Option (List PyData)
  | [] => some []
  | d :: ds => match py d, pyL ds with
    | some p, some ps => some (p :: ps)
    | _, _ => none
def pyK : List (Key × D) → Option (List (PyData × PyData))
  | [] => some []
  | (k, d) :: ds => match py d, pyK ds with
    | some p, some ps => some ((Jud k, p) :: ps)
    | _, _ => none
end
/- data without dicts, as == takes it -/
mutual
theorem py_dp {K : PySem.W.Frag} {F : Hp} : ∀ {v : V} {d : D} {p : PyData}, Rep K F v d → py d = some p → p.hasDict = false → Dp K F v p
  | _, _, _, .non, e, _ => by cases e; exact .non
  | _, _, _, .bl b, e, _ => by cases e; exact .bl b
  | _, _, _, .int b, e, _ => by cases e; exact .int b
  | _, _, _, .str b, e, _ => by cases e; exact .str b
  | _, _, _, .ref b, e, _ => by cases e
  | _, _, _, .ty b, e, _ => by cases e
  | _, _, _, .scr h, e, _ => by cases e
  | _, _, _, .exc h r, e, _ => by cases e
  | _, _, _, .fn h r, e, _ => by cases e
  | _, _, _, .exv h h2 r3, e, _ => by cases e
  | _, _, _, .exw h, e, _ => by cases e
  | _, _, _, .ins h r, e, _ => by cases e
  | _, _, _, .obj h r, e, _ => by cases e
  | _, _, _, .tup (ds := ds) h r, e, hd => by
    have e2 : (pyL ds).map PyData.tuple = some _ := e
    obtain ⟨ps, e3, rfl⟩ := Option.map_eq_some_iff.mp e2
    exact .tup h (pyL_dp r e3 (by simpa [PyData.hasDict] using hd))
  | _, _, _, .lst (ds := ds) h r, e, hd => by
    have e2 : (pyL ds).map PyData.list = some _ := e
    obtain ⟨ps, e3, rfl⟩ := Option.map_eq_some_iff.mp e2
    exact .lst (.inl (.inl h)) (pyL_dp r e3 (by simpa [PyData.hasDict] using hd))
  | _, _, _, .dic (ds := ds) h r, e, hd => by
    have e2 : (pyK ds).map PyData.dict = some _ := e
    obtain ⟨ps, e3, rfl⟩ := Option.map_eq_some_iff.mp e2
    simp [PyData.hasDict] at hd
theorem pyL_dp {K : PySem.W.Frag} {F : Hp} : ∀ {vs : List V} {ds : List D} {ps : List PyData}, RepL K F vs ds → pyL ds = some ps → PyData.hasDictAll ps = false → DpAll K F vs ps
  | _, _, _, .nil, e, _ => by cases e; exact .nil
  | _, _, _, .cons (d := d) (ds := ds) h r, e, hd => by
    have e2 : (match py d, pyL ds with | some p, some ps => some (p :: ps) | _, _ => none) = some _ := e
    split at e2
    · rename_i p ps e3 e4
      cases e2
      have hd' : p.hasDict = false ∧ PyData.hasDictAll ps = false := by simpa [PyData.hasDictAll, Bool.or_eq_false_iff] using hd
      exact .cons (py_dp h e3 hd'.1) (pyL_dp r e4 hd'.2)
    · cases e2
end
mutual
theorem shaped_noDict : ∀ p : PyData, p.canLay0 = true → p.hasDict = false
  | .none, _ => rfl
  | .bool _, _ => rfl
  | .int _, _ => rfl
  | .str _, _ => rfl
  | .list xs, h => by simpa [PyData.hasDict] using shaped_noDictAll xs (by simpa [PyData.canLay0] using h)
  | .tuple xs, h => by simpa [PyData.hasDict] using shaped_noDictAll xs (by simpa [PyData.canLay0] using h)
  | .dict xs, h => by simp [PyData.canLay0] at h
theorem shaped_noDictAll : ∀ ps : List PyData, PyData.canLayAll0 ps = true → PyData.hasDictAll ps = false
  | [], _ => rfl
  | p :: ps, h => by
    have h' : p.canLay0 = true ∧ PyData.canLayAll0 ps = true := by simpa [PyData.canLayAll0] using h
    simp [PyData.hasDictAll, shaped_noDict p h'.1, shaped_noDictAll ps h'.2]
end
def aEq : DR2 := fun x y M Q => ∃ p q, py x = some p ∧ py y = some q ∧ SeqAt.shaped p = true ∧ SeqAt.shaped q = true ∧ Q (.bl (PyData.eqv p q)) M
def aNe : DR2 := fun x y M Q => ∃ p q, py x = some p ∧ py y = some q ∧ SeqAt.shaped p = true ∧ SeqAt.shaped q = true ∧ Q (.bl (!PyData.eqv p q)) M
section
variable {X : Cx} {W : DWX}
theorem JvU (hu : X.A.units + 64 < cLine) : DOp X W (compareOp .Eq) aEq := .of (op_eqD hu) fun st H Z r M x y da db Q q ra rb h => by
  obtain ⟨p, p', e1, e2, s1, s2, h⟩ := h
  exact ⟨p, p', Dp.mono (Jbp _ _ _) (py_dp ra e1 (shaped_noDict p (SeqAt.canLay_of_shaped s1))), Dp.mono (Jbp _ _ _) (py_dp rb e2 (shaped_noDict p' (SeqAt.canLay_of_shaped s2))), s1, s2, EQ.val q (.bl _) h⟩
theorem JvV (hu : X.A.units + 64 < cLine) : DOp X W (compareOp .NotEq) aNe := .of (op_neD hu) fun st H Z r M x y da db Q q ra rb h => by
  obtain ⟨p, p', e1, e2, s1, s2, h⟩ := h
  exact ⟨p, p', Dp.mono (Jbp _ _ _) (py_dp ra e1 (shaped_noDict p (SeqAt.canLay_of_shaped s1))), Dp.mono (Jbp _ _ _) (py_dp rb e2 (shaped_noDict p' (SeqAt.canLay_of_shaped s2))), s1, s2, EQ.val q (.bl _) h⟩
end

def JqB : D → Option V
  | .non => some .non
  | .bl b => some (.bl b)
  | .int i => some (.int i)
  | .str x => some (.str x)
  | _ => none
def Jri : List D → Option (List V)
  | [] => some []
  | d :: ds => match JqB d, Jri ds with
    | some v, some vs => some (v :: vs)
    | _, _ => none
section
variable {K : PySem.W.Frag} {F : Hp}
theorem JpR {v w : V} {d : D} (h : Rep K F v d) (e : JqB d = some w) : v = w ∧ flatV v = true := by
  cases h <;> cases e <;> exact ⟨rfl, rfl⟩
theorem JpS : ∀ {vs ws : List V} {ds : List D}, RepL K F vs ds → Jri ds = some ws → vs = ws ∧ vs.all flatV = true
  | _, _, _, .nil, e => by cases e; exact ⟨rfl, rfl⟩
  | _, _, _, .cons (d := d) (ds := ds) h r, e => by
    have e2 : (match JqB d, Jri ds with | some v, some vs => some (v :: vs) | _, _ => none) = some _ := e
    split at e2
    · rename_i p ps e3 e4
      cases e2
      obtain ⟨a1, a2⟩ := JpR h e3
      obtain ⟨b1, b2⟩ := JpS r e4
      exact ⟨by rw [a1, b1], by rw [List.all_cons, a2, b2]; rfl⟩
    · cases e2
end
def Jq7 (x : Str) : Option Nat := match x.cps.toList with
  | [c] => some c
  | _ => none
def aIn (neg : Bool) : DR2 := fun x y M Q => match x, y with
  | .str a, .str b => ∃ c, Jq7 a = some c ∧ Q (.bl (if neg then !decide (c ∈ b.cps.toList) else decide (c ∈ b.cps.toList))) M
  | x, y => ∃ ds vs w, seqOf M y = some ds ∧ JqB x = some w ∧ Jri ds = some vs ∧ Q (.bl (if neg then !inV w vs else inV w vs)) M
section
variable {X : Cx} {W : DWX}
theorem JrF {a : Str} {c : Nat} (h : Jq7 a = some c) : a = ⟨#[c]⟩ := by
  unfold Jq7 at h
  split at h
  · rename_i c' e
    cases h
    exact PySem.Str.ext' (Array.toList_inj.mp e)
  · cases h
theorem JvW : DOp X W (compareOp .In) (aIn false) := by
  intro pins s st H Z r M x y v u da db Q I q rx ry ra rb h
  unfold aIn at h
  split at h
  · cases ra; cases rb
    obtain ⟨c, e, h⟩ := h
    rw [JrF e] at rx
    exact op_in_sign pins s st H _ _ v u _ I rx ry ⟨c, _, rfl, rfl, EQ.val q (.bl _) h⟩
  · obtain ⟨ds, vs, w, e1, e2, e3, h⟩ := h
    obtain ⟨a, xs, rfl, hs, rl⟩ := Jom q.hr e1 rb
    obtain ⟨z1, z2⟩ := JpR ra e2
    obtain ⟨z3, z4⟩ := JpS rl e3
    exact op_in_seq pins s st H _ _ v u _ I rx ry ⟨a, xs, rfl, hs, z2, z4, EQ.val q (.bl _) (by rw [z1, z3]; exact h)⟩
end

def aIx : DR2 := fun x y M Q => match x, y with
  | .str z, .int i => ∃ c, z.length ≤ sizeLine ∧ atI z.cps.toList i = some c ∧ Q (.str ⟨#[c]⟩) M
  | x, .int i => ∃ ds d, seqOf M x = some ds ∧ atI ds i = some d ∧ Q d M
  | _, _ => False
theorem RepL.atI {K : PySem.W.Frag} {F : Hp} {vs : List V} {ds : List D} {i : Int} {d : D} (h : RepL K F vs ds) (e : atI ds i = some d) : ∃ v, L2.atI vs i = some v ∧ Rep K F v d := by
  unfold L2.atI at e ⊢
  rw [h.length]
  cases q : ixN ds.length i with
  | none => rw [q] at e; cases e
  | some j =>
    rw [q] at e
    obtain ⟨v, e1, e2⟩ := h.get (i := j) e
    exact ⟨v, e1, e2⟩
section
variable {X : Cx} {W : DWX} {a b : Expr} {ta tb : DTE} {pos : Pos}
theorem Jps (ha : DE X W a ta) (hb : DE X W b tb) (hs : PlainIx b) : DE X W (.Subscript a b pos) (dOp aIx ta tb) := by
  refine DE.of (pe_ix ix_seq ha.pe hb.pe hs) fun st H Z r M Q q h => ?_
  refine ⟨Z, r, M, _, q, h, fun x H1 ⟨dx, M1, q1, rpx, sm1, h1⟩ => ⟨Z, r, M1, _, q1, h1, fun y H2 ⟨dy, M2, q2, rpy, sm2, h2⟩ => ?_⟩⟩
  have rpx := rpx.mono sm2
  have sm := sm1.trans sm2
  unfold aIx at h2
  dsimp only at h2
  split at h2
  · cases rpx; cases rpy
    obtain ⟨c, hz, hc, h2⟩ := h2
    exact .inr (.inr ⟨_, _, c, rfl, rfl, hz, hc, (EQ.val q2 (.str _) h2).mono sm⟩)
  · cases rpy
    obtain ⟨ds, d, e1, e2, h2⟩ := h2
    obtain ⟨p, xs, rfl, hs, rl⟩ := Jom q2.hr e1 rpx
    obtain ⟨v, e3, rv⟩ := rl.atI e2
    rcases hs with hs | hs
    · exact .inl ⟨p, xs, _, v, rfl, rfl, hs, e3, (EQ.val q2 rv h2).mono sm⟩
    · exact .inr (.inl ⟨p, xs, _, v, rfl, rfl, hs, e3, (EQ.val q2 rv h2).mono sm⟩)
  · exact h2.elim
end
def cutD {α : Type} (xs : List α) (lo hi : Option Int) : List α := (xs.drop (HT.sIx xs.length 0 lo)).take (HT.sIx xs.length xs.length hi - HT.sIx xs.length 0 lo)
theorem RepL.cut {K : PySem.W.Frag} {F : Hp} {vs : List V} {ds : List D} (h : RepL K F vs ds) (lo hi : Option Int) : RepL K F (cutV vs lo hi) (cutD ds lo hi) := by
  unfold cutV cutD
  rw [h.length]
  exact (h.drop _).take _
def Jue : DTO := fun _ M Q => Q none M
def JxG (t : DTE) : DTO := fun r M Q => t r M fun x M1 => match x with
  | .int i => Q (some i) M1
  | _ => False
def aSl (x : D) (lo hi : Option Int) (M : Mh) (Q : QD) : Prop := match x with
  | .str z => z.length ≤ sizeLine ∧ Q (.str (cutS z lo hi)) M
  | .tup ds => Q (.tup (cutD ds lo hi)) M
  | x => ∃ ds, Jpr M x = some ds ∧ Q (.lst (cutD ds lo hi)) M
def dSl (te : DTE) (tl th : DTO) : DTE := fun r M Q => te r M fun x M1 => tl r M1 fun l M2 => th r M2 fun u M3 => aSl x l u M3 Q
theorem Juf {α : Type} {xs : List α} {lo hi : Option Int} (h : HT.sIx xs.length 0 lo = 0 ∧ HT.sIx xs.length xs.length hi = xs.length) : cutD xs lo hi = xs := by
  unfold cutD
  rw [h.1, h.2]
  simp
section
variable {X : Cx} {W : DWX} {e : Expr} {lo hi : Option Expr} {te : DTE} {tl th : DTO} {pos p2 : Pos}
theorem Jug : DO X W none Jue := ⟨fun pins s st H Z r M Q I q h => (po_none (X := X)).run pins s st H _ I ⟨M, q, Same.refl _, h⟩⟩
theorem Juh (h : DE X W e te) : DO X W (some e) (JxG te) := ⟨fun pins s st H Z r M Q I q ht => (po_some h.pe).run pins s st H _ I ⟨Z, r, M, _, q, ht, fun x H1 ⟨d, M1, q1, rp, sm, e⟩ => by
  cases rp with
  | int i => exact ⟨i, rfl, M1, q1, sm, e⟩
  | _ => exact e.elim⟩⟩
theorem JsI (he : DE X W e te) (hl : DO X W lo tl) (hu : DO X W hi th) : DE X W (.Subscript e (.Slice lo hi none p2) pos) (dSl te tl th) := by
  refine DE.of (pe_slice (sl_list.or (sl_tupA.or sl_str)) he.pe hl.po hu.po) fun st H Z r M Q q h => ?_
  refine ⟨Z, r, M, _, q, h, fun x H1 ⟨dx, M1, q1, rpx, sm1, h1⟩ => ⟨Z, r, M1, _, q1, h1, fun l H2 ⟨M2, q2, sm2, h2⟩ => ⟨Z, r, M2, _, q2, h2, fun u H3 ⟨M3, q3, sm3, h3⟩ => ?_⟩⟩⟩
  have rpx := rpx.mono (sm2.trans sm3)
  have sm := sm1.trans (sm2.trans sm3)
  unfold aSl at h3
  split at h3
  · cases rpx
    exact .inr (.inr ⟨_, rfl, h3.1, (EQ.val q3 (.str _) h3.2).mono sm⟩)
  · cases rpx with
    | @tup a xs ds ht rl =>
      refine .inr (.inl ⟨a, xs, rfl, Jjj (Jbp _ _ _) ht, fun e => ?_, fun e p hp => (EQ.newTup q3 hp (rl.cut l u) h3).mono sm⟩)
      rw [rl.length] at e
      rw [Juf e] at h3
      exact (EQ.val q3 (.tup ht rl) h3).mono sm
  · obtain ⟨ds, e, h3⟩ := h3
    obtain ⟨a, xs, rfl, hs, rl⟩ := JlY q3.hr e rpx
    exact .inl ⟨a, xs, rfl, hs, fun p hp => (EQ.newLst q3 hp (rl.cut l u) h3).mono sm⟩
end
end DL

set_option maxHeartbeats 2000000
namespace DL
open PySem PySem.Spec PyProof.Rows L2

def Jrj : DTS := fun D r M => D.nx r M
def dSeq (t u : DTS) : DTS := fun D r M => t { D with nx := u D } r M
def JrG (te : DTE) : DTS := fun D r M => te r M fun _ M1 => D.nx r M1
def dRet (te : DTE) : DTS := fun D r M => te r M D.rt
def JrH : DTS := fun D _ M => D.rt .non M
def dIfS (c : DTT) (t u : DTS) : DTS := fun D r M => c r M fun b M1 => if b = true then t D r M1 else u D r M1
section
variable {X : Cx} {W : DWX} {c : Stmt} {rest : List Stmt} {t u : DTS} {e : Expr} {te : DTE} {pos : Pos} {k : Kt} {Z F F' : Hp} {H : Hp} {st : Sg} {r : Rho} {M : Mh} {D : DEnds}
theorem Jui {Q : Rho → Mh → Prop} (q : SR k Z r M st H) (h : Q r M) : NQ k Z (out Z M H) Q st H := ⟨r, M, q, Same.refl _, h⟩
theorem JqC {t : DTS} {F : Hp} (q : SR k Z r M st H) (sm : Same F (out Z M H)) (h : t D r M) : Jt8 k t (SQ k Z F D) st H :=
  ⟨Z, r, M, D, q, h, fun _ _ e => e.mono sm, fun _ _ e => e.mono sm, fun _ _ e => e.mono sm, fun _ _ e => e.mono sm⟩
theorem dss_nil : DSs X W [] Jrj := DSs.of pss_nil fun st H Z r M D q h => Jui q h
theorem Jbq (h1 : DS X W c t) (h2 : DSs X W rest u) : DSs X W (c :: rest) (dSeq t u) :=
  DSs.of (pss_cons h1.ps h2.pss) fun st H Z r M D q h => ⟨Z, r, M, { D with nx := u D }, q, h, fun a b ⟨r1, M1, q1, sm, e⟩ => JqC q1 sm e, fun _ _ e => e, fun _ _ e => e, fun _ _ e => e⟩
theorem Jn1 (he : DE X W e te) : DS X W (.Return (some e) pos) (dRet te) :=
  DS.of (ps_ret he.pe) fun st H Z r M D q h => ⟨Z, r, M, _, q, h, fun v H' ⟨d, M1, q1, rp, sm, e⟩ => ⟨d, M1, q1.hr, rp, sm, e⟩⟩
theorem JsJ {cnd : Expr} {a b : List Stmt} {tc : DTT} (hc : DT X W cnd tc) (ha : DSs X W a t) (hb : DSs X W b u) : DS X W (.If cnd a b pos) (dIfS tc t u) :=
  DS.of (ps_if hc.pt ha.pss hb.pss) fun st H Z r M D q h => ⟨Z, r, M, _, q, h, fun k H' ⟨M1, q1, sm, e⟩ => by
    cases k with
    | true => exact JqC q1 sm e
    | false => exact JqC q1 sm e⟩
end

abbrev DTGs := List D → Rho → Mh → (Rho → Mh → Prop) → Prop
structure DGs (X : Cx) (W : DWX) (ts : List Expr) (t : DTGs) : Prop where
  run : ∀ (pins : List (Addr × Obj)) (s : Shared) (st : Sg) (H Z : Hp) (r : Rho) (M : Mh) (vs : List V) (us : List Value) (ds : List D) (Q : Rho → Mh → Prop), Inv X pins st H s → SR (kx X W) Z r M st H → Vals vs us → RepL X.K (out Z M H) vs ds → t ds r M Q →
    wpAny (model X.prog X.w) X.A (assignInOrder ((assignEach ts X.env).map (·.2)) us) (fun _ s' => ∃ st' H', Inv X pins st' H' s' ∧ NQ (kx X W) Z (out Z M H) Q st' H') X.xe s
def JvX (k : Kt) (t : DTGs) : TGs := fun vs st H Q => ∃ Z r M ds DQ, SR k Z r M st H ∧ RepL k.K (out Z M H) vs ds ∧ t ds r M DQ ∧ ∀ st' H', NQ k Z (out Z M H) DQ st' H' → Q st' H'
theorem DGs.pgs {X : Cx} {W : DWX} {tg : List Expr} {t : DTGs} (h : DGs X W tg t) : PGs X tg (JvX (kx X W) t) := ⟨fun pins s st H v u Q I rv ⟨Z, r, M, d, DQ, q, rp, ht, k⟩ =>
  thn (h.run pins s st H Z r M v u d DQ I q rv rp ht) fun _ _ ⟨st', H', I', e⟩ => ⟨st', H', I', k _ _ e⟩⟩
def Jm9 (i : Nat) : DTG := fun d r M Q => Q (r.set i (some d)) M
def Jo9 : DTGs := fun ds r M Q => match ds with
  | [] => Q r M
  | _ => False
def Jna (t : DTG) (u : DTGs) : DTGs := fun ds r M Q => match ds with
  | d :: ds => t d r M fun r1 M1 => u ds r1 M1 Q
  | [] => False
def Jpa (n : Nat) (t : DTGs) : DTG := fun d r M Q => match d with
  | .tup ds => ds.length = n ∧ t ds r M Q
  | _ => False
abbrev JsK := D → D → D → Mh → (Mh → Prop) → Prop
def DSet (X : Cx) (W : DWX) (t : JsK) : Prop :=
  ∀ (pins : List (Addr × Obj)) (s : Shared) (st : Sg) (H Z : Hp) (r : Rho) (M : Mh) (o i v : V) (ov iv u : Value) (dx di dv : D) (Q : Mh → Prop), Inv X pins st H s → SR (kx X W) Z r M st H → RelV o ov → RelV i iv → RelV v u →
    Rep X.K (out Z M H) o dx → Rep X.K (out Z M H) i di → Rep X.K (out Z M H) v dv → t dx di dv M Q →
    wpAny (model X.prog X.w) X.A (setItem ov iv u) (fun _ s' => ∃ H', Inv X pins st H' s' ∧ ∃ M', SR (kx X W) Z r M' st H' ∧ Same (out Z M H) (out Z M' H') ∧ Q M') X.xe s
def Jrk (to ti : DTE) (t : JsK) : DTG := fun d r M Q => to r M fun o M1 => ti r M1 fun i M2 => t o i d M2 fun M3 => Q r M3
def JvY : JsK := fun o i v M Q => ∃ p ds k j, o = .ref p ∧ i = .int k ∧ M p = some (.lst ds) ∧ ixN ds.length k = some j ∧ Q (mset M p (.lst (ds.set j v)))
section
variable {X : Cx} {W : DWX} {pos : Pos} {tg e : Expr}
theorem JqD {i : Nat} {x : Str} (hN : X.N.Nodup) (hi : X.N[i]? = some x) (hx : Loc X.env.scope x) (hf : X.fn x = true ∨ X.env.scope.names.lookup x = some .local := by first | exact .inl rfl | exact .inr rfl | assumption) : DG X W (.Name x pos) (Jm9 i) :=
  ⟨fun pins s st H Z r M v u d Q I q rv rp h => (pg_name hN hi hx hf).run pins s st H v u _ I rv ⟨_, M, q.set rp i, Same.refl _, h⟩⟩
theorem Juj : DGs X W [] Jo9 := ⟨fun pins s st H Z r M vs us ds Q I q rv rp h => by
  unfold Jo9 at h
  split at h
  · cases rp
    exact pgs_nil.run pins s st H _ us _ I rv ⟨rfl, r, M, q, Same.refl _, h⟩
  · exact h.elim⟩
theorem Jq8 {es : List Expr} {t : DTG} {u : DTGs} (h1 : DG X W e t) (h2 : DGs X W es u) (hs : (assignEach (e :: es) X.env).map (·.2) = assign e X.env :: (assignEach es X.env).map (·.2) := by rfl) : DGs X W (e :: es) (Jna t u) :=
  ⟨fun pins s st H Z r M vs us ds Q I q rv rp h => by
    unfold Jna at h
    split at h
    · cases rp with
      | cons r1 r2 =>
        exact (pgs_cons h1.pg h2.pgs hs).run pins s st H _ us _ I rv ⟨_, _, rfl, Z, r, M, _, _, q, r1, h, fun st1 H1 ⟨r', M1, q1, sm, e⟩ => ⟨Z, r', M1, _, _, q1, r2.mono sm, e, fun st2 H2 z => z.mono sm⟩⟩
    · exact h.elim⟩
theorem JvZ {es : List Expr} {k : Nat} {t : DTGs} {n : Nat} (hc : X.calm = true) (h : DGs X W es t) (hn : (assignEach es X.env).length = n := by rfl) (hst : (assignEach es X.env).findIdx? (·.1) = none := by rfl) : DG X W (.Tuple es k pos) (Jpa n t) :=
  ⟨fun pins s st H Z r M v u d Q I q rv rp hw => by
    unfold Jpa at hw
    split at hw
    · cases rp with
      | tup ht rl => exact (pg_tup hc h.pgs hn hst).run pins s st H _ u _ I rv ⟨_, _, rfl, Jjj (Jbp _ _ _) ht, by rw [rl.length]; exact hw.1, Z, r, M, _, _, q, rl, hw.2, fun _ _ e => e⟩
    · exact hw.elim⟩
theorem JrI {o i : Expr} {to ti : DTE} {t : JsK} (ho : DE X W o to) (hi : DE X W i ti) (hs : DSet X W t)
    (ha : ∀ v, assign (.Subscript o i pos) X.env v = (do
      let ov ← holding [v] (eval o X.env)
      let iv ← holding [v, ov] (eval i X.env)
      standAt pos
      holding [v, ov, iv] (setItem ov iv v)
      release [v, ov, iv] []) := by intro _; rfl) : DG X W (.Subscript o i pos) (Jrk to ti t) := by
  refine ⟨fun pins s st H Z r M v u d Q I q rv rp h => ?_⟩
  rw [ha]
  refine wpAny_bind (wpAny_holding (thn (ho.run pins s st H Z r M _ I q h) fun ov s1 ⟨x, H1, I1, r1, dx, M1, q1, rp1, sm1, h1⟩ => ?_))
  refine wpAny_bind (wpAny_holding (thn (hi.run pins s1 st H1 Z r M1 _ I1 q1 h1) fun iv s2 ⟨y, H2, I2, r2, di, M2, q2, rp2, sm2, h2⟩ => ?_))
  refine wpAny_bind (wpAny_standAt (wpAny_bind (wpAny_holding (thn (hs pins s2 st H2 Z r M2 x y v ov iv u dx di d _ I2 q2 r1 r2 rv (rp1.mono sm2) rp2 (rp.mono (sm1.trans sm2)) h2) fun _ s3 ⟨H3, I3, M3, q3, sm3, h3⟩ => ?_))))
  exact wpAny_release ⟨st, H3, I3, r, M3, q3, sm1.trans (sm2.trans sm3), h3⟩
theorem Juk : DSet X W JvY := by
  intro pins s st H Z r M o i v ov iv u dx di dv Q I q ro ri rv po pi pv h
  obtain ⟨p, ds, k, j, rfl, rfl, hp, hj, h⟩ := h
  cases po
  cases pi
  obtain ⟨xs, e, rl⟩ := q.hr.mem p _ hp
  refine thn (set_list pins s st H _ _ v ov iv u (fun H' => ∃ M', SR (kx X W) Z r M' st H' ∧ Same (out Z M H) (out Z M' H') ∧ Q M') I ro ri rv ⟨p, xs, k, j, rfl, rfl, e, by rw [rl.length]; exact hj, ?_⟩) fun _ _ z => z
  have he : ∀ b, b ≠ p → upd H p (.lst (xs.set j v)) b = H b := fun b hb => upd_ne hb
  refine ⟨_, q.mset (mo := .lst (ds.set j dv)) he (.inr (by rw [hp]; exact fun z => nomatch z)) ⟨_, upd_same, rl.set pv j⟩, ?_, h⟩
  rw [Jjk q.hr he (.inr (by rw [hp]; exact fun z => nomatch z))]
  exact Same.refl _
end

def dAsg (te : DTE) (g : DTG) : DTS := fun D r M => te r M fun x M1 => g x r M1 D.nx
section
variable {X : Cx} {W : DWX} {pos : Pos} {tg e : Expr} {te : DTE} {g : DTG}
theorem JrJ (he : DE X W e te) (hg : DG X W tg g) (hs : swapsWithSole [tg] e pos.line X.env = pure false := by rfl) (hw : swappedStores [tg] e X.env = pure none := by rfl)
    (h1 : (assignEach [tg] X.env).map (·.2) = [assign tg X.env] := by rfl) : DS X W (.Assign [tg] e pos) (dAsg te g) :=
  DS.of (ps_asg he.pe hg.pg hs hw h1) fun st H Z r M D q h => ⟨Z, r, M, _, q, h, fun v H' ⟨d, M1, q1, rp, sm, e⟩ => ⟨Z, r, M1, d, _, q1, rp, e, fun _ _ z => z.mono sm⟩⟩
theorem JpT {i : Nat} {x : Str} {pos' : Pos} (hN : X.N.Nodup) (hi : X.N[i]? = some x) (hx : Loc X.env.scope x) (he : DE X W e te) (hs : swapsWith e (some (.Name x pos')) pos.line X.env = pure false := by rfl) (hf : X.fn x = true ∨ X.env.scope.names.lookup x = some .local := by first | exact .inl rfl | exact .inr rfl | assumption) :
    DS X W (.Assign [.Name x pos'] e pos) (dAsg te (Jm9 i)) :=
  DS.of (ps_set hN hi hx he.pe hs hf) fun st H Z r M D q h => ⟨Z, r, M, _, q, h, fun v H' ⟨d, M1, q1, rp, sm, e⟩ => ⟨_, M1, q1.set rp i, sm, e⟩⟩
end

structure ItR (K : PySem.W.Frag) (F : Hp) (J : It) (items : List D) : Prop where
  go : ∀ (i : Nat) (Z : Hp) (M : Mh) (H : Hp), HR K Z M H → Same F (out Z M H) → i < items.length → J.go i H
  stop : ∀ (Z : Hp) (M : Mh) (H : Hp), HR K Z M H → Same F (out Z M H) → J.stop items.length H
  yld : ∀ (i : Nat) (Z : Hp) (M : Mh) (H H' : Hp) (x : V), HR K Z M H → Same F (out Z M H) → i < items.length → J.yld i H x H' → ∃ d, items[i]? = some d ∧ HR K Z M H' ∧ Same (out Z M H) (out Z M H') ∧ Rep K (out Z M H') x d
abbrev DTI := Rho → Mh → (List D → Mh → Prop) → Prop
structure DI (X : Cx) (W : DWX) (tg iter : Expr) (t : DTI) : Prop where
  pi : ∃ wi, PI X tg iter wi ∧ ∀ (st : Sg) (H Z : Hp) (r : Rho) (M : Mh) (Q : List D → Mh → Prop) (R : It → Hp → Prop), SR (kx X W) Z r M st H → t r M Q →
    (∀ J H' items M', SR (kx X W) Z r M' st H' → Same (out Z M H) (out Z M' H') → ItR X.K (out Z M' H') J items → Q items M' → R J H') → wi st H R
section
variable {X : Cx} {W : DWX} {K : PySem.W.Frag} {F Z : Hp} {tg e : Expr} {te : DTE}
theorem JrK {a : Addr} {xs : List V} {items : List D} (h : SqL K F a xs) (r : RepL K F xs items) : ItR K F (Itl K a) items where
  go := fun i Z M H q sm hi => by
    have hi' : i < xs.length := by rw [r.length]; exact hi
    exact ⟨xs, xs[i], Jji (sm.trans (Jbp _ _ _)) h, by simp [hi']⟩
  stop := fun Z M H q sm => ⟨xs, Jji (sm.trans (Jbp _ _ _)) h, by rw [r.length]; exact Nat.le_refl _⟩
  yld := fun i Z M H H' x q sm hi y => by
    obtain ⟨e1, y⟩ := y
    subst e1
    have hx := y xs (Jji (sm.trans (Jbp _ _ _)) h)
    obtain ⟨d, e2, rp⟩ := r.getV hx
    exact ⟨d, e2, q, Same.refl _, rp.mono sm⟩
theorem JrL (lo : Int) (n : Nat) : ItR K F (Itr lo n) ((List.range n).map fun i : Nat => D.int (lo + (i : Int))) where
  go := fun i Z M H q sm hi => by
    show i < n
    rw [List.length_map, List.length_range] at hi
    exact hi
  stop := fun Z M H q sm => by
    rw [List.length_map, List.length_range]
    exact Nat.le_refl n
  yld := fun i Z M H H' x q sm hi y => by
    obtain ⟨e1, e2⟩ := y
    subst e1 e2
    have hi' : i < n := by simpa using hi
    exact ⟨.int (lo + i), by rw [List.getElem?_map, List.getElem?_range hi']; rfl, q, Same.refl _, .int _⟩
def iLst (te : DTE) : DTI := fun r M Q => te r M fun x M1 => match x with
  | .lst ds => Q ds M1
  | .scr ns => Q (ns.map .int) M1
  | _ => False
def iTup (te : DTE) : DTI := fun r M Q => te r M fun x M1 => match x with
  | .tup ds => Q ds M1
  | _ => False
theorem Jv0 (h : DE X W e te) : DI X W tg e (iLst te) := ⟨_, pi_list h.pe, fun st H Z r M Q R q ht kR => ⟨Z, r, M, _, q, ht, fun v H1 ⟨d, M1, q1, rp, sm, z⟩ => by
  dsimp only at z
  split at z
  · cases rp with
    | @lst a xs ds h rl =>
      have h' : SqL X.K (out Z M1 H1) a xs := .inl (.inl h)
      exact ⟨a, rfl, ⟨xs, Jji (Jbp _ _ _) h'⟩, kR _ _ _ M1 q1 sm (JrK h' rl) z⟩
  · cases rp with
    | @scr a ns h => exact ⟨a, rfl, ⟨_, Jji (Jbp _ _ _) h⟩, kR _ _ _ M1 q1 sm (JrK h (Jol _)) z⟩
  · exact z.elim⟩⟩
def JtT (ta : DTA) : DTI := fun r M Q => ta r M fun ds M1 => match ds with
  | [.int j] => -(2 ^ 62) ≤ j ∧ j < 2 ^ 62 ∧ Q ((List.range j.toNat).map fun i : Nat => D.int (0 + (i : Int))) M1
  | _ => False
theorem JpU {a : Expr} {ta : DTA} {p pos : Pos} (hg : Gl X "range") (hm : X.mg "range" = none) (ha : DA X W [a] ta) (hs : starEach [a] X.env = [(false, eval a X.env)] := by rfl) : DI X W tg (.Call (.Name "range" p) [a] [] pos) (JtT ta) :=
  ⟨_, pi_range1 hg hm ha.pa hs, fun st H Z r M Q R q ht kR => ⟨Z, r, M, _, q, ht, fun vs H1 ⟨ds, M1, q1, rps, sm, z⟩ => by
    dsimp only at z
    split at z
    · cases rps with
      | cons r1 rr =>
        cases rr
        cases r1
        exact ⟨_, rfl, z.1, z.2.1, kR _ _ _ M1 q1 sm (JrL 0 _) z.2.2⟩
    · exact z.elim⟩⟩
end

def forL (g : DTG) (tb : DTS) (E : DEnds) : List D → Rho → Mh → Prop
  | [], r, M => E.nx r M
  | x :: xs, r, M => g x r M fun r1 M1 => tb { E with nx := forL g tb E xs, ct := forL g tb E xs, bk := E.nx } r1 M1
def dFor (ti : DTI) (g : DTG) (tb : DTS) : DTS := fun D r M => ti r M fun items M1 => forL g tb D items r M1
section
variable {X : Cx} {W : DWX} {tg iter : Expr} {body : List Stmt} {ti : DTI} {g : DTG} {tb : DTS} {pos : Pos}
theorem JtU (hp : PassesOwn (model X.prog X.w) X.A X.env X.xe) (hc : X.calm = true) (hi : DI X W tg iter ti) (hg : DG X W tg g) (hb : DSs X W body tb) (hs : ∀ x, foldedSetIterable iter X.env x = pure x := by intro _; rfl) : DS X W (.For tg iter body [] pos) (dFor ti g tb) := by
  obtain ⟨wi, pi, k⟩ := hi.pi
  refine DS.of (ps_for hp hc pi hg.pg hb.pss hs) fun st H Z r M D q h => k st H Z r M _ _ q h fun J H1 items M1 q1 sm1 it h1 => ?_
  refine ⟨fun i m st' H' => m = items.length - i ∧ i ≤ items.length ∧ ∃ r' M', SR (kx X W) Z r' M' st' H' ∧ Same (out Z M1 H1) (out Z M' H') ∧ forL g tb D (items.drop i) r' M', ⟨items.length, by simp, Nat.zero_le _, r, M1, q1, Same.refl _, h1⟩, ?_⟩
  rintro i m st2 H2 ⟨rfl, hi, r2, M2, q2, sm2, h2⟩
  by_cases hlt : i < items.length
  · refine .inr ⟨it.go i Z M2 H2 q2.hr sm2 hlt, NQ (kx X W) Z (out Z M1 H1) (forL g tb D (items.drop (i + 1))), fun st3 H3 ⟨r3, M3, q3, sm3, h3⟩ => ⟨items.length - (i + 1), by omega, rfl, hlt, r3, M3, q3, sm3, h3⟩, fun x H3 y => ?_⟩
    obtain ⟨d, e, m3, sm3, rp⟩ := it.yld i Z M2 H2 H3 x q2.hr sm2 hlt y
    have q3 : SR (kx X W) Z r2 M2 st2 H3 := q2.step m3 sm3
    have ed : items.drop i = d :: items.drop (i + 1) := by
      obtain ⟨hl, e'⟩ := List.getElem?_eq_some_iff.mp e
      rw [← e', List.drop_eq_getElem_cons hl]
    rw [ed] at h2
    refine ⟨Z, r2, M2, d, _, q3, rp, h2, fun st4 H4 ⟨r4, M4, q4, sm4, h4⟩ => ?_⟩
    have s13 := sm2.trans sm3
    refine ⟨Z, r4, M4, _, q4, h4, fun a b e => e.mono (s13.trans sm4), fun a b e => e.mono (sm1.trans (s13.trans sm4)), fun a b e => e.mono (sm1.trans (s13.trans sm4)), fun a b e => e.mono (s13.trans sm4)⟩
  · have e : i = items.length := by omega
    subst e
    rw [List.drop_length] at h2
    exact .inl ⟨it.stop Z M2 H2 q2.hr sm2, r2, M2, q2, sm1.trans sm2, h2⟩
theorem Jq9 {E : DEnds} {g : DTG} {tb : DTS} (P : List D → Rho → Mh → Prop)
    (hs : ∀ x xs r M, P (x :: xs) r M → (∀ r M, P xs r M → forL g tb E xs r M) → g x r M fun r1 M1 => tb { E with nx := forL g tb E xs, ct := forL g tb E xs, bk := E.nx } r1 M1)
    (hd : ∀ r M, P [] r M → E.nx r M) : ∀ {items : List D} {r : Rho} {M : Mh}, P items r M → forL g tb E items r M
  | [], r, M, p => hd r M p
  | x :: xs, r, M, p => hs x xs r M p fun r M p => Jq9 P hs hd p
end

end DL

set_option maxHeartbeats 2000000
namespace DL
open PySem PySem.Spec PyProof.Rows L2

inductive TPat where
  | one (i : Nat) | tup (is : List Nat)
def JpV : List Nat → TGs
  | [] => gNil
  | i :: is => gCons (gName i) (JpV is)
def JnN : List Nat → DTGs
  | [] => Jo9
  | i :: is => Jna (Jm9 i) (JnN is)
def tpV (K : PySem.W.Frag) : TPat → TG
  | .one i => gName i
  | .tup is => gTup K is.length (JpV is)
def tpD : TPat → DTG
  | .one i => Jm9 i
  | .tup is => Jpa is.length (JnN is)
def TPat.ixs : TPat → List Nat
  | .one i => [i]
  | .tup is => is
def Jon (r : Rho) : List Nat → Rho
  | [] => r
  | v :: vs => (Jon r vs).set v none
def dYes : DTT := fun _ M Q => Q true M
def lcL (p : TPat) (tt : DTT) (te : DTE) (r0 : Rho) (Q : QD) : List D → List D → Mh → Prop
  | [], acc, M => Q (.lst acc) M
  | x :: xs, acc, M => tpD p x r0 M fun r1 M1 => tt r1 M1 fun b M2 => if b = true then te r1 M2 fun y M3 => acc.length < sizeLine ∧ lcL p tt te r0 Q xs (acc ++ [y]) M3 else lcL p tt te r0 Q xs acc M2
def dLc (ti : DTI) (p : TPat) (tt : DTT) (te : DTE) (vs : List Nat) : DTE := fun r M Q => ti r M fun items M1 => lcL p tt te (Jon r vs) Q items [] M1

section
variable {k : Kt} {F Z : Hp} {M : Mh} {H : Hp} {r : Rho} {st : Sg}
theorem JqE (q : SR k Z r M st H) (i : Nat) : SR k Z (r.set i none) M (st.set i none) H where
  len := by rw [List.length_set, List.length_set, q.len]
  hr := q.hr
  tk := q.tk
  sl := fun j d e => by
    by_cases hj : i = j
    · subst hj
      rw [List.getElem?_set] at e
      split at e
      · split at e
        · cases e
        · cases e
      · rename_i n; exact absurd rfl n
    · rw [List.getElem?_set_ne hj] at e
      obtain ⟨v, h1, h2⟩ := q.sl j d e
      exact ⟨v, by rw [List.getElem?_set_ne hj]; exact h1, h2⟩
theorem JrM (q : SR k Z r M st H) : ∀ vs : List Nat, SR k Z (Jon r vs) M (wipe st vs) H
  | [] => q
  | v :: vs => JqE (JrM q vs) v
theorem Joh {x : Option V} {i : Nat} : ∀ {vs : List Nat} {st : Sg}, i ∈ vs → wipe (st.set i x) vs = wipe st vs
  | [], _, h => by simp at h
  | v :: vs, st, h => by
    unfold wipe
    by_cases hi : i ∈ vs
    · rw [Joh hi]
    · have e : i = v := by
        rcases List.mem_cons.mp h with h | h
        · exact h
        · exact absurd h hi
      subst e
      have key : ∀ (vs : List Nat) (st : Sg), i ∉ vs → wipe (st.set i x) vs = (wipe st vs).set i x := by
        intro vs
        induction vs with
        | nil => intro st _; rfl
        | cons w vs ih =>
          intro st h
          have h1 : w ≠ i := fun e => h (by rw [e]; exact List.mem_cons_self ..)
          have h2 : i ∉ vs := fun z => h (List.mem_cons_of_mem _ z)
          unfold wipe
          rw [ih st h2, List.set_comm _ _ (Ne.symm h1)]
      rw [key vs st hi, List.set_set]
theorem JpW (st : Sg) : ∀ vs us : List Nat, (∀ v ∈ us, v ∈ vs) → wipe (wipe st us) vs = wipe st vs
  | vs, [], _ => rfl
  | vs, u :: us, h => by
    show wipe ((wipe st us).set u none) vs = _
    rw [Joh (h u (List.mem_cons_self ..)), JpW st vs us fun v z => h v (List.mem_cons_of_mem _ z)]
theorem JpX {vs : List Nat} : ∀ {is : List Nat} {xs : List V} {ds : List D} {r : Rho} {st : Sg} {Q : Rho → Mh → Prop}, (∀ i ∈ is, i ∈ vs) → SR k Z r M st H → RepL k.K (out Z M H) xs ds → JnN is ds r M Q →
    JpV is xs st H fun st2 H2 => H2 = H ∧ wipe st2 vs = wipe st vs ∧ ∃ r2, SR k Z r2 M st2 H ∧ Q r2 M
  | [], xs, ds, r, st, Q, hi, q, rl, h => by
    have h : Jo9 ds r M Q := h
    unfold Jo9 at h
    split at h
    · cases rl
      exact ⟨rfl, rfl, rfl, r, q, h⟩
    · exact h.elim
  | i :: is, xs, ds, r, st, Q, hi, q, rl, h => by
    have h : Jna (Jm9 i) (JnN is) ds r M Q := h
    unfold Jna at h
    split at h
    · cases rl with
      | @cons v vs' d' ds' r1 r2 =>
        refine ⟨_, _, rfl, ?_⟩
        have z := JpX (vs := vs) (is := is) (fun j z => hi j (List.mem_cons_of_mem _ z)) (q.set r1 i) r2 h
        have e : wipe (st.set i (some v)) vs = wipe st vs := Joh (hi i (List.mem_cons_self ..))
        rw [e] at z
        exact z
    · exact h.elim
theorem JxI {vs : List Nat} {p : TPat} {v : V} {d : D} {Q : Rho → Mh → Prop} (hi : ∀ i ∈ p.ixs, i ∈ vs) (q : SR k Z r M st H) (rp : Rep k.K (out Z M H) v d) (h : tpD p d r M Q) :
    tpV k.K p v st H fun st2 H2 => H2 = H ∧ wipe st2 vs = wipe st vs ∧ ∃ r2, SR k Z r2 M st2 H ∧ Q r2 M := by
  cases p with
  | one i => exact ⟨rfl, Joh (hi i (List.mem_cons_self ..)), _, q.set rp i, h⟩
  | tup is =>
    have h : Jpa is.length (JnN is) d r M Q := h
    unfold Jpa at h
    split at h
    · cases rp with
      | tup ht rl => exact ⟨_, _, rfl, Jjj (Jbp _ _ _) ht, by rw [rl.length]; exact h.1, JpX hi q rl h.2⟩
    · exact h.elim
end

@[reducible] def kxN (K : PySem.W.Frag) : Kt := ⟨K, fun _ _ => True, fun _ _ _ _ h => h⟩
theorem SR.conv0 {k kb : Kt} {Z : Hp} {r : Rho} {M : Mh} {st : Sg} {H : Hp} (q : SR k Z r M st H) (hk : kb.K = k.K) (ht : kb.T Z (out Z M H)) : SR kb Z r M st H :=
  ⟨q.len, fun i d e => by rw [hk]; exact q.sl i d e, by rw [hk]; exact q.hr, ht⟩
theorem Jrl {K : PySem.W.Frag} {kb : Kt} {t : DTT} {st : Sg} {H : Hp} {Q : Bool → Hp → Prop} (hk : kb.K = K) (hT : ∀ Z F, kb.T Z F) (z : Jqy (kxN K) t st H Q) : Jqy kb t st H Q := by
  obtain ⟨Z, r, M, DQ, q, ht, k⟩ := z
  exact ⟨Z, r, M, DQ, q.conv0 hk (hT _ _), ht, fun v H' ⟨M', q', sm, e⟩ => k v H' ⟨M', q'.conv0 hk.symm trivial, sm, e⟩⟩
theorem Jrm {K : PySem.W.Frag} {kb : Kt} {t : DTE} {st : Sg} {H : Hp} {Q : VK} (hk : kb.K = K) (hT : ∀ Z F, kb.T Z F) (z : Jpp (kxN K) t st H Q) : Jpp kb t st H Q := by
  obtain ⟨Z, r, M, DQ, q, ht, k⟩ := z
  exact ⟨Z, r, M, DQ, q.conv0 hk (hT _ _), ht, fun v H' ⟨d, M', q', rp, sm, e⟩ => k v H' ⟨d, M', q'.conv0 hk.symm trivial, by rw [← hk]; exact rp, sm, e⟩⟩
theorem Jv1 {X : Cx} {e : Expr} {t t' : TE} (h : PE X e t) (k : ∀ st H Q, t' st H Q → t st H Q) : PE X e t' := ⟨fun pins s st H Q I z => h.run pins s st H Q I (k _ _ _ z)⟩
theorem Jul {X : Cx} {e : List Expr} {t t' : TT} (h : PTs X e t) (k : ∀ st H Q, t' st H Q → t st H Q) : PTs X e t' := ⟨fun pins s st H Q I z => h.run pins s st H Q I (k _ _ _ z)⟩
def DTs (X : Cx) (W : DWX) (ifs : List Expr) (t : DTT) : Prop := PTs X ifs (Jqy (kx X W) t)
section
variable {X : Cx} {W : DWX}
theorem Jum : DTs X W [] dYes := ⟨fun pins s st H Q I ⟨Z, r, M, DQ, q, ht, k⟩ => pts_nil.run pins s st H Q I (k true H ⟨M, q, Same.refl _, ht⟩)⟩
theorem JrN {K : PySem.W.Frag} {Q Q' : Sg → Hp → Prop} (h : ∀ s H, Q s H → Q' s H) : ∀ {is : List Nat} {vs : List V} {st : Sg} {H : Hp}, JpV is vs st H Q → JpV is vs st H Q'
  | [], _, _, _, ⟨e, z⟩ => ⟨e, h _ _ z⟩
  | _ :: _, _, _, _, ⟨v, r, e, z⟩ => ⟨v, r, e, JrN (K := K) h z⟩
theorem Jun {K : PySem.W.Frag} {Q Q' : Sg → Hp → Prop} (h : ∀ s H, Q s H → Q' s H) {p : TPat} {v : V} {st : Sg} {H : Hp} (z : tpV K p v st H Q) : tpV K p v st H Q' := by
  cases p with
  | one i => exact h _ _ z
  | tup is =>
    obtain ⟨a, xs, e1, e2, e3, z⟩ := z
    exact ⟨a, xs, e1, e2, e3, JrN (K := K) h z⟩
theorem JtV {X : Cx} {K : PySem.W.Frag} {Z F : Hp} : Takes X (XW K Z F WN) := fun _ _ x => by
  obtain ⟨_, _, _, _, _, _, _, _, _, _, _, _, _, _, _, _, z⟩ := x
  obtain ⟨_, _, _, _, _, _, _, _, z⟩ := z
  exact z.elim
theorem JxJ {k kb : Kt} (hk : kb.K = k.K) (hT : ∀ Z F, kb.T Z F) {Z : Hp} {st : Sg} {r : Rho} {M1 : Mh} {H1 : Hp} {J : It} {items : List D} {p : TPat} {tt : DTT} {te : DTE} {vs : List Nat} {Q : QD} {Fin : VK} {L : Addr} (hix : ∀ i ∈ p.ixs, i ∈ vs)
    (q1 : SR k Z r M1 st H1) (it : ItR k.K (out Z M1 H1) J items) (h1 : lcL p tt te (Jon r vs) Q items [] M1) (hL : H1 L = none)
    (fin : ∀ H' M2 acc av, Z L = none → (∀ (M3 : Mh), HR k.K Z M3 H' → Same (out Z M1 H1) (out Z M3 H') → SR k Z r M3 st H') → HR k.K (upd Z L (.lst av)) M2 H' → RepL k.K (out (upd Z L (.lst av)) M2 H') av acc → Same (out Z M1 H1) (out (upd Z L (.lst av)) M2 H') → Q (.lst acc) M2 → Fin (.ref L) H') :
    ∃ U : Nat → Nat → Hp → Prop, (∃ m, U 0 m (upd H1 L (.lst []))) ∧ ∀ i m H, U i m H →
      (J.stop i H ∧ Fin (.ref L) H) ∨ (J.go i H ∧ ∃ Nx : Hp → Prop, (∀ H', Nx H' → ∃ m', m' < m ∧ U (i + 1) m' H') ∧ ∀ x H', J.yld i H x H' → tpV k.K p x (wipe st vs) H' fun st2 H2 => wipe st2 vs = wipe st vs ∧ Jqy kb tt st2 H2 fun b H3 =>
        if b = true then Jpp kb te st2 H3 fun y H4 => ∃ acc, H4 L = some (.lst acc) ∧ acc.length < sizeLine ∧ Nx (upd H4 L (.lst (acc ++ [y]))) else Nx H3) := by
  have hzL : Z L = none := (q1.hr.fresh hL).2
  have nown : ∀ (xs : List V) x, HO.lst xs ≠ .own x := fun _ _ e => nomatch e
  have fresh_tk : ∀ {xs : List V} {M' : Mh} {H' : Hp}, Same (out Z M1 H1) (out (upd Z L (.lst xs)) M' H') → kb.T (upd Z L (.lst xs)) (out (upd Z L (.lst xs)) M' H') := fun _ => hT _ _
  -- the word: what has been made stands hidden at L
  let Wd : Nat → Hp → Prop := fun i H' => ∃ M' acc av, SR kb (upd Z L (.lst av)) r M' st H' ∧ RepL k.K (out (upd Z L (.lst av)) M' H') av acc ∧ Same (out Z M1 H1) (out (upd Z L (.lst av)) M' H') ∧ lcL p tt te (Jon r vs) Q (items.drop i) acc M'
  refine ⟨fun i m H' => m = items.length - i ∧ i ≤ items.length ∧ Wd i H', ⟨items.length, by simp, Nat.zero_le _, M1, [], [], ?_, .nil, ?_, h1⟩, ?_⟩
  · obtain ⟨z1, z2⟩ := q1.hr.hide (o := .lst []) hL (nown [])
    exact ⟨q1.len, fun i d e => let ⟨v, a, b⟩ := q1.sl i d e; ⟨v, a, by rw [z2, hk]; exact b⟩, by rw [hk]; exact z1, hT _ _⟩
  · rw [(q1.hr.hide (o := .lst []) hL (nown [])).2]
    exact Same.refl _
  · rintro i m H2 ⟨rfl, hi, M2, acc, av, q2, rl2, sm2, h2⟩
    have hr2 : HR k.K (upd Z L (.lst av)) M2 H2 := by rw [← hk]; exact q2.hr
    by_cases hlt : i < items.length
    · refine .inr ⟨it.go i _ M2 H2 hr2 sm2 hlt, Wd (i + 1), fun H' w => ⟨items.length - (i + 1), by omega, rfl, hlt, w⟩, fun x H3 y => ?_⟩
      obtain ⟨d, e, m3, sm3, rp⟩ := it.yld i _ M2 H2 H3 x hr2 sm2 hlt y
      have q3 : SR kb (upd Z L (.lst av)) r M2 st H3 := q2.step (by rw [hk]; exact m3) sm3
      have ed : items.drop i = d :: items.drop (i + 1) := by
        obtain ⟨hl, e'⟩ := List.getElem?_eq_some_iff.mp e
        rw [← e', List.drop_eq_getElem_cons hl]
      rw [ed] at h2
      have tp := JxI (k := kb) (vs := vs) hix (JrM q3 vs) (by rw [hk]; exact rp) h2
      rw [hk] at tp
      refine Jun (fun st4 H4 z => ?_) tp
      obtain ⟨rfl, ew, r4, q4, h4⟩ := z
      refine ⟨by rw [ew]; exact JpW st vs vs fun _ h => h, _, r4, M2, _, q4, h4, fun b H5 ⟨M5, q5, sm5, h5⟩ => ?_⟩
      -- what is left of the state behind a step
      have back : ∀ {M' : Mh} {H' : Hp} (r' : Rho), SR kb (upd Z L (.lst av)) r' M' st4 H' → Same (out (upd Z L (.lst av)) M2 H4) (out (upd Z L (.lst av)) M' H') → SR kb (upd Z L (.lst av)) r M' st H' := fun r' qq sm => q3.step qq.hr sm
      cases b with
      | false => exact ⟨M5, acc, av, back r4 q5 sm5, rl2.mono (sm3.trans sm5), sm2.trans (sm3.trans sm5), h5⟩
      | true =>
        refine ⟨_, r4, M5, _, q5, h5, fun yv H6 ⟨dy, M6, q6, rp6, sm6, hl6, h6⟩ => ?_⟩
        have hLv := (q6.hr.hidL (p := L) upd_same)
        have q7 := back r4 q6 (sm5.trans sm6)
        obtain ⟨z1, z2⟩ := q6.hr.rehide (o' := .lst (av ++ [yv])) (nown _)
        have rl6 := rl2.mono (sm3.trans (sm5.trans sm6))
        refine ⟨av, hLv, by rw [rl6.length]; exact hl6, M6, acc ++ [dy], av ++ [yv], ⟨q7.len, fun i d e => let ⟨v, a, b⟩ := q7.sl i d e; ⟨v, a, by rw [z2]; exact b⟩, z1, hT _ _⟩, ?_, ?_, h6⟩
        · rw [z2]; exact rl6.append (.cons (by rw [← hk]; exact rp6) .nil)
        · rw [z2]; exact sm2.trans (sm3.trans (sm5.trans sm6))
    · have e : i = items.length := by omega
      subst e
      rw [List.drop_length] at h2
      exact .inl ⟨it.stop _ M2 H2 hr2 sm2, fin _ M2 acc av hzL (fun M3 m sm => q1.step m sm) hr2 rl2 sm2 h2⟩
theorem Jv2 {k : Kt} {Z H1 H' : Hp} {st : Sg} {r : Rho} {M1 M2 : Mh} {L : Addr} {acc : List D} {av : List V} {Q : QD} (hz : Z L = none) (q1 : ∀ (M3 : Mh), HR k.K Z M3 H' → Same (out Z M1 H1) (out Z M3 H') → SR k Z r M3 st H') (m : HR k.K (upd Z L (.lst av)) M2 H')
    (rl : RepL k.K (out (upd Z L (.lst av)) M2 H') av acc) (sm : Same (out Z M1 H1) (out (upd Z L (.lst av)) M2 H')) (h : Q (.lst acc) M2) : EQ k Z st r (out Z M1 H1) Q (.ref L) H' := by
  obtain ⟨z1, z2, z3⟩ := m.show_ hz
  exact ⟨.lst acc, M2, q1 M2 z1 (sm.trans z2), .lst z3 (rl.mono z2), sm.trans z2, h⟩
theorem Jv3 {elt tg iter : Expr} {ifs : List Expr} {scope : Scope} {own : List (Str × Nat)} {pos : Pos} {ti : DTI} {p : TPat} {tt : DTT} {te : DTE} (hc : X.calm = true) (hN : X.N.Nodup) (hi : DI X W tg iter ti) (ok : BlkOk X.N X.env.scope scope own) (hix : ∀ i ∈ p.ixs, i ∈ own.map (·.2))
    (hg : ∀ (s : Shared) (H : Hp) (C : Addr) (cl : List (Str × Addr)) (fp : List Addr), PG (Cx.blk X s H scope (compEnvC scope cl C X.env) fp) tg (tpV X.K p)) (ht : ∀ (s : Shared) (H : Hp) (C : Addr) (cl : List (Str × Addr)) (fp : List Addr), DTs (Cx.blk X s H scope (compEnvC scope cl C X.env) fp) WN ifs tt)
    (he : ∀ (s : Shared) (H : Hp) (C : Addr) (cl : List (Str × Addr)) (fp : List Addr), DE (Cx.blk X s H scope (compEnvC scope cl C X.env) fp) WN elt te) (hs : ∀ x, foldedSetIterable iter X.env x = pure x := by intro _; rfl) :
    DE X W (.ListComp elt [⟨tg, iter, ifs, 0⟩] scope pos) (dLc ti p tt te (own.map (·.2))) := by
  obtain ⟨wi, pi, k⟩ := hi.pi
  refine DE.of (pe_lc (tt := Jqy (kxN X.K) tt) (te := Jpp (kxN X.K) te) hc hN pi ok hg (fun s H C cl fp => Jul (ht s H C cl fp) fun st H Q z => Jrl rfl (fun _ _ => JtV) z) (fun s H C cl fp => Jv1 (he s H C cl fp).pe fun st H Q z => Jrm rfl (fun _ _ => JtV) z) hs) fun st H Z r M Q q h => k st H Z r M _ _ q h fun J H1 items M1 q1 sm1 it h1 => ?_
  intro L hL
  exact JxJ (k := kx X W) (kb := kxN X.K) rfl (fun _ _ => trivial) hix q1 it h1 hL fun H' M2 acc av a1 a2 a3 a4 a5 a6 => (Jv2 a1 a2 a3 a4 a5 a6).mono sm1
end
end DL

set_option maxHeartbeats 2000000
namespace DL
open PySem PySem.Spec PyProof.Rows L2

theorem Rm.deeper {k : Nat} {A : Around} (r : Rm (k + 1) A) (env : Env) : Rm k (A.deeper env) := ⟨r.room.deeper env, by
  have e := r.gd
  obtain ⟨a, b, c, d, u⟩ := A
  exact e⟩
theorem Rm.make {k : Nat} {A : Around} (r : Rm (k + 1) A) (C : Addr) (us : List Value) (kw : List (Str × Value)) : Rm k (A.under (.builtin "type.__call__" ⟨.ref C :: us, kw⟩)) := ⟨r.room.make C us kw, by
  have e := r.gd
  simpa [Around.under, Code.guards, Code.isGuard, guardIds, pushGuards] using e⟩

section
variable {X : Cx} {W : DWX} {k : Nat} {f : Addr} {fd : FuncData} {ps ks : List Str} {sp : DSp}
theorem JsL {pins : List (Addr × Obj)} {s s' : Shared} {st : Sg} {H Z : Hp} {r : Rho} {M : Mh} {e : Value} (I : Inv X pins st H s) (q : SR (kx X W) Z r M st H) (c : L2.CX X.prog X.w X.stack H s (XQ X.K Z (out Z M H) fun cls fs M' => W cls fs r M') e s') : X.xe e s' :=
  q.tk _ _ (XE.of_call I (fun cls d H' z => by
    obtain ⟨fs, M', x1, x2, x3, x4⟩ := z
    exact ⟨fs, r, M', x1, q.len, fun i d e => let ⟨v, a, b⟩ := q.sl i d e; ⟨v, a, b.mono x3⟩, x2, x3, x4⟩) c)
theorem JxK {A : Around} {pins : List (Addr × Obj)} {s : Shared} {st : Sg} {H Z : Hp} {r : Rho} {M : Mh} {Q : QD} {args : Args} {full : List Value} {fullV : List V} {ds : List D} (F : FnG X.prog X.w X.K X.mg X.base k f fd ps sp) (hr : Rm k A) (e0 : Env0 X.prog X.w X.K X.mg X.base A X.stack s H) (I : Inv X pins st H s) (q : SR (kx X W) Z r M st H)
    (hb : BindsTo s fd args (ps.zip full)) (rv : Vals fullV full) (rp : RepL X.K (out Z M H) fullV ds) (h : sp ds M Q fun cls fs M' => W cls fs r M') :
    codeAny (model X.prog X.w) A (.call (.ref f) args) (fun z s' => match z with
      | .ok (.ret u) => EP X pins st (EQ (kx X W) Z st r (out Z M H) Q) u s'
      | .ok _ => False
      | .error e => X.xe e s') s := by
  refine codeAny_mono (F.run A X.stack s H Z M args full fullV ds Q _ hr e0 hb rv q.hr rp h) fun z s' hq => ?_
  cases z with
  | error e => exact JsL I q hq
  | ok fl =>
    cases fl with
    | ret u =>
      obtain ⟨v, H', I', rv', d, M', h1, h2, h3, h4⟩ := I.after hq
      exact ⟨v, H', I', rv', d, M', q.step h1 h3, h2, h3, h4⟩
    | next => exact False.elim hq
    | brk => exact False.elim hq
    | cont => exact False.elim hq
theorem JsM {pins : List (Addr × Obj)} {s : Shared} {st : Sg} {H Z : Hp} {r : Rho} {M : Mh} {Q : QD} {us ws : List Value} {vs zs : List V} {ds es : List D} {n : Nat} {gD : List D → List D → List D} (F : FnG X.prog X.w X.K X.mg X.base k f fd ps sp) (hr : Rm k X.A) (hb : Bd X.K fd ps n ks gD)
    (I : Inv X pins st H s) (q : SR (kx X W) Z r M st H) (rv : Vals vs us) (rz : Vals zs ws) (rp : RepL X.K (out Z M H) vs ds) (rpz : RepL X.K (out Z M H) zs es) (l1 : ds.length = n) (l2 : es.length = ks.length) (h : sp (gD ds es) M Q fun cls fs M' => W cls fs r M') :
    wpAny (model X.prog X.w) X.A (call (.ref f) us (ks.zip ws)) (EP X pins st (EQ (kx X W) Z st r (out Z M H) Q)) X.xe s := by
  obtain ⟨full, fullV, b1, b2, b3⟩ := hb.to s us ws vs zs ds es _ I.kIn (by rw [← rv.length, rp.length]; exact l1) (by rw [← rz.length, rpz.length]; exact l2) rv rz rp rpz
  refine wpAny_call (codeAny_mono (JxK F hr I.env0 I q b1 b2 b3 h) fun z s' hq => ?_)
  cases z with
  | error e => exact hq
  | ok fl => cases fl <;> first | exact hq | exact hq.elim
end

def JqF (W : DWX) (sp : DSp) (n m : Nat) (gD : List D → List D → List D) (t tk : DTA) : DTE := fun r M Q => t r M fun ds M1 => tk r M1 fun es M2 => ds.length = n ∧ es.length = m ∧ sp (gD ds es) M2 Q fun cls fs M' => W cls fs r M'
section
variable {X : Cx} {W : DWX} {k n : Nat} {f : Addr} {fd : FuncData} {ps ks : List Str} {sp : DSp} {gD : List D → List D → List D} {x : Str} {p pos : Pos} {e : Expr} {es : List Expr} {kw : Keyword} {kws : List Keyword} {t tk : DTA}
theorem Jpt (F : FnG X.prog X.w X.K X.mg X.base k f fd ps sp) (hr : Rm k X.A) (hg : Gl X x) (hm : X.mg x = some (.ref f)) (hk : PySem.W.keepIn X.K (.ref f) = true) (hb : Bd X.K fd ps n [] gD) (ha : DA X W (e :: es) t) (hdb : (x == ("__debug__" : Str)) = false := by decide)
    (he : starEach (e :: es) X.env = (false, eval e X.env) :: starEach es X.env := by rfl) (hpl : (backTo pos (starEach es X.env)).any (·.1) = false := by rfl) : DE X W (.Call (.Name x p) (e :: es) [] pos) (JqF W sp n 0 gD t dNil) := by
  refine ⟨fun pins s st H Z r M Q I q h => wpAny_Call_Name_kw (ld_glob I hg hm ?_ hdb)⟩
  refine PySem.W.callWith_K (h₀ := X.base) I.ok.mod.kin hk (thn (ha.run pos pins s st H Z r M _ I q h) fun us s1 ⟨vs, H1, I1, rv, ds, M1, q1, rps, sm, h1⟩ => ⟨I1.kIn, ?_⟩) he hpl
  obtain ⟨l1, _, h1⟩ := h1
  exact thn (JsM (ks := []) (ws := []) (zs := []) (es := []) F hr hb I1 q1 rv .nil rps .nil l1 rfl h1) fun u s2 ⟨v, H2, I2, rv2, e⟩ => ⟨v, H2, I2, rv2, e.mono sm⟩
end

def dCB (o : DRL) (t : DTA) : DTE := fun r M Q => t r M fun ds M1 => o ds M1 Q
section
variable {X : Cx} {W : DWX} {x : Str} {p pos : Pos} {e : Expr} {es : List Expr} {t : DTA} {id T : String} {o : DRL}
theorem JbH (hc : DCall X W (.builtin id) o) (hg : Gl X x) (hm : X.mg x = none) (hv : bootBuiltins x = some (.builtin id)) (ha : DA X W (e :: es) t) (hn : x ≠ "__name__" := by decide) (hdb : (x == ("__debug__" : Str)) = false := by decide)
    (he : starEach (e :: es) X.env = (false, eval e X.env) :: starEach es X.env := by rfl) (hpl : (backTo pos (starEach es X.env)).any (·.1) = false := by rfl) : DE X W (.Call (.Name x p) (e :: es) [] pos) (dCB o t) := by
  refine ⟨fun pins s st H Z r M Q I q h => wpAny_Call_Name_kw (ld_blt I hg hm hv ?_ hn hdb)⟩
  exact PyProof.Rows.callWith_builtin1 (thn (ha.run pos pins s st H Z r M _ I q h) fun us s1 ⟨vs, H1, I1, rv, ds, M1, q1, rps, sm, h1⟩ => thn (hc pins s1 st H1 Z r M1 vs us ds Q I1 q1 rv rps h1) fun u s2 ⟨v, H2, I2, rv2, e⟩ => ⟨v, H2, I2, rv2, e.mono sm⟩) he hpl
theorem Jcb (hc : DCall X W (.type T) o) (hg : Gl X x) (hm : X.mg x = none) (hv : bootBuiltins x = some (.type T)) (ha : DA X W (e :: es) t) (hn : x ≠ "__name__" := by decide) (hdb : (x == ("__debug__" : Str)) = false := by decide)
    (he : starEach (e :: es) X.env = (false, eval e X.env) :: starEach es X.env := by rfl) (hpl : (backTo pos (starEach es X.env)).any (·.1) = false := by rfl) : DE X W (.Call (.Name x p) (e :: es) [] pos) (dCB o t) := by
  refine ⟨fun pins s st H Z r M Q I q h => wpAny_Call_Name_kw (ld_blt I hg hm hv ?_ hn hdb)⟩
  exact PyProof.Rows.callWith_type1 (thn (ha.run pos pins s st H Z r M _ I q h) fun us s1 ⟨vs, H1, I1, rv, ds, M1, q1, rps, sm, h1⟩ => thn (hc pins s1 st H1 Z r M1 vs us ds Q I1 q1 rv rps h1) fun u s2 ⟨v, H2, I2, rv2, e⟩ => ⟨v, H2, I2, rv2, e.mono sm⟩) he hpl
end

def JaC (N : List Str) (ds : List D) : Rho := ds.map some ++ List.replicate (N.length - ds.length) none
theorem JsN {k : Kt} {Z : Hp} {N : List Str} {vs : List V} {ds : List D} {M : Mh} {H : Hp} (m : HR k.K Z M H) (rp : RepL k.K (out Z M H) vs ds) (t : k.T Z (out Z M H)) : SR k Z (JaC N ds) M (L2.start N vs) H where
  len := by
    unfold JaC L2.start
    rw [List.length_append, List.length_append, List.length_map, List.length_map, rp.length, List.length_replicate, List.length_replicate]
  hr := m
  tk := t
  sl := fun i d e => by
    unfold JaC at e
    unfold L2.start
    by_cases hi : i < ds.length
    · rw [List.getElem?_append_left (by simpa using hi), List.getElem?_map] at e
      obtain ⟨d', e1, e2⟩ := Option.map_eq_some_iff.mp e
      cases e2
      obtain ⟨v, e3, e4⟩ := rp.get e1
      exact ⟨v, by rw [List.getElem?_append_left (by rw [List.length_map, rp.length]; exact hi), List.getElem?_map, e3]; rfl, e4⟩
    · rw [List.getElem?_append_right (by simpa using Nat.le_of_not_lt hi), List.getElem?_replicate] at e
      split at e <;> cases e
theorem RetQ.rq {K : PySem.W.Frag} {Z F : Hp} {Q : QD} {v : V} {H : Hp} (h : RQ K Z F (RetQ Q) v H) : RQ K Z F Q v H := by
  obtain ⟨d, M, m, rp, sm, M', l, h⟩ := h
  have m' := m.less l
  rcases h with h | ⟨p, ds, rfl, e1, e2, h⟩
  · exact ⟨d, M', m', rp.mono l.same, sm.trans l.same, h⟩
  · cases rp with
    | ref =>
      obtain ⟨xs, e3, rl⟩ := m.mem p _ e1
      have z : Z p = none := by
        cases q : Z p with
        | none => rfl
        | some u => have := (m.hid p u q).2.1; rw [e1] at this; cases this
      exact ⟨.lst ds, M', m', .lst (by rw [Jb4 z e2]; exact e3) (rl.mono l.same), sm.trans l.same, h⟩
def Jv4 (K : PySem.W.Frag) (f : Addr) (cdv : Value) : Prop := ∃ (oc : Value) (od : Option Addr) (fd : FuncData) (osl : Array (Option Value)), K.lookup f = some ⟨oc, od, .func fd, osl⟩ ∧ fd.code = cdv
theorem Juo {P : Program} {w : World} {K : PySem.W.Frag} {mg : Str → Option Value} {base : Heap} {k : Nat} {f : Addr} {x qual : Str} {params : Arguments} {body : List Stmt} {scope : Scope} {dvs : List V} {kws : List (Str × V)} {fd : FuncData} {N ps : List Str} {sp : DSp}
    (F : FunD K x qual params body scope dvs kws f fd) (S : FnScope N ps scope) (len : ∀ ds M Q E, sp ds M Q E → ds.length = ps.length)
    (hbody : ∀ (cdv : Value), Jv4 K f cdv → ∀ (A : Around) (outer : List Env) (s : Shared) (H Z : Hp) (ds : List D) (M : Mh) (Q : QD) (E : DXK) (E1 : XK), Rm k (A.deeper (envOfC qual scope s.heap.objs.size f cdv)) → sp ds M Q E →
      ∃ t, DSs (cxOf (L2.CX P w) P w K mg base N qual scope f cdv A outer s H E1) (fun cls fs _ M' => XLess E cls fs M') body t ∧ t { nx := fun _ M' => RetQ Q .non M', rt := RetQ Q } (JaC N ds) M) : FnG P w K mg base (k + 1) f fd ps sp := by
  obtain ⟨oc, od, dV, kV, doc, pm, an, cdv, ct, osl, rfl, lk, hcd, _, _⟩ := F.ex
  refine ⟨len, fun A outer s H Z M args us vs ds Q E hr e0 hb rv hh rp hsp => ?_⟩
  have hl : vs.length = ps.length := rp.length.trans (len _ _ _ _ hsp)
  have KX : K.In s.heap := e0.mod.kin.keeps fun b o e => (e0.bs b o e).1
  have lim : s.heap.NoLimit := e0.mod.nolimit.keeps fun b o e => (e0.bs b o e).1
  have kinds : ∀ y ∈ ps.zip us, scope.names.lookup y.1 = some .local ∨ (scope.names.lookup y.1 = some .cell ∧ ((cellsFrom (s.heap.objs.size + 1) scope.names []).lookup y.1).isSome = true) := fun ⟨n, v⟩ hy =>
    (S.par n (List.of_mem_zip hy).1).elim .inl fun q => .inr ⟨q, PySem.W.cellsFrom_some _ _ _ (.inl q)⟩
  refine codeAny_call_function hr.room.depth (KX _ _ lk) rfl S.co S.gen rfl (PySem.W.codeRec_of KX hcd) (hb _ _ _ _ ?_)
  refine wpAny_newFunctionEnv_cells S.kind kinds fun env he s1 x => ?_
  subst he
  refine ⟨lim.keeps x.toInCall.keep, codeAny_func ?_⟩
  let E1 : XK := XQ K Z (out Z M H) E
  obtain ⟨t, ht, hq⟩ := hbody cdv ⟨_, _, _, _, lk, rfl⟩ A outer s H Z ds M Q E E1 (hr.deeper _) hsp
  have I : Inv (cxOf (L2.CX P w) P w K mg base N qual scope f cdv A outer s H E1) [] (L2.start N vs) H s1 := inv_start S hr.room.hd e0 hl rv x
  have tk : Takes (cxOf (L2.CX P w) P w K mg base N qual scope f cdv A outer s H E1) (XW K Z (out Z M H) fun cls fs _ M' => XLess E cls fs M') :=
    Takes.imp (takes_of (X := cxOf (L2.CX P w) P w K mg base N qual scope f cdv A outer s H E1) rfl rfl rfl rfl) fun cls d st H' ⟨fs, r, M', a, b, c, e, g, M2, l, h⟩ => ⟨fs, M2, a.mono l.same, e.less l, g.trans l.same, h⟩
  have q0 : SR (kx (cxOf (L2.CX P w) P w K mg base N qual scope f cdv A outer s H E1) fun cls fs _ M' => XLess E cls fs M') Z (JaC N ds) M (L2.start N vs) H := JsN hh rp tk
  refine wpAny_mono (ht.run [] s1 (L2.start N vs) H Z (JaC N ds) M _ I q0 hq) (fun fl s' hs => ?_) fun e s' hs => hs
  have fin : ∀ {st' : Sg} {H' : Hp} {v : V} {u : Value}, Inv (cxOf (L2.CX P w) P w K mg base N qual scope f cdv A outer s H E1) [] st' H' s' → RelV v u → RQ K Z (out Z M H) Q v H' → CE outer P w H s (RQ K Z (out Z M H) Q) u s' :=
    fun {st' H' v u} J rv' q => ⟨v, H', J.os, J.bare, J.base, J.hok, rv', q⟩
  cases fl with
  | ret u =>
    obtain ⟨v, st', H', J, rv', q⟩ := hs
    exact fin J rv' (RetQ.rq q)
  | next =>
    obtain ⟨st', H', J, r', M', q', sm', z⟩ := hs
    exact fin (v := V.non) (u := Value.none) J rfl (RetQ.rq ⟨.non, M', q'.hr, .non, sm', z⟩)
  | brk =>
    obtain ⟨_, _, _, _, _, _, _, z⟩ := hs
    exact False.elim z
  | cont =>
    obtain ⟨_, _, _, _, _, _, _, z⟩ := hs
    exact False.elim z
theorem JpY {P : Program} {w : World} {K : PySem.W.Frag} {mg : Str → Option Value} {base : Heap} {k : Nat} {f : Addr} {x qual : Str} {params : Arguments} {body : List Stmt} {scope : Scope} {dvs : List V} {kws : List (Str × V)} {fd : FuncData} {N ps : List Str} {sp : DSp}
    (F : FunD K x qual params body scope dvs kws f fd) (S : FnScope N ps scope) (len : ∀ ds M Q E, sp ds M Q E → ds.length = ps.length)
    (hbody : ∀ (cdv : Value) (A : Around) (outer : List Env) (s : Shared) (H Z : Hp) (ds : List D) (M : Mh) (Q : QD) (E : DXK) (E1 : XK), Rm k (A.deeper (envOfC qual scope s.heap.objs.size f cdv)) → sp ds M Q E →
      ∃ t, DSs (cxOf (L2.CX P w) P w K mg base N qual scope f cdv A outer s H E1) (fun cls fs _ M' => XLess E cls fs M') body t ∧ t { nx := fun _ M' => RetQ Q .non M', rt := RetQ Q } (JaC N ds) M) : FnG P w K mg base (k + 1) f fd ps sp :=
  Juo F S len fun cdv _ => hbody cdv
theorem JpZ {P : Program} {w : World} {K : PySem.W.Frag} {mg : Str → Option Value} {base : Heap} {N : List Str} {qual : Str} {scope : Scope} {f : Addr} {cdv : Value} {A : Around} {outer : List Env} {s : Shared} {H : Hp} {E1 : XK} :
    PassesOwn (model P w) (cxOf (L2.CX P w) P w K mg base N qual scope f cdv A outer s H E1).A (cxOf (L2.CX P w) P w K mg base N qual scope f cdv A outer s H E1).env (cxOf (L2.CX P w) P w K mg base N qual scope f cdv A outer s H E1).xe :=
  passes_of (X := cxOf (L2.CX P w) P w K mg base N qual scope f cdv A outer s H E1) rfl
end DL

set_option maxHeartbeats 2000000
namespace DL
open PySem PySem.Spec PyProof.Rows L2

section
variable {X : Cx} {W : DWX}
def aLen : DRL := fun ds M Q => match ds with
  | [.str x] => x.length ≤ sizeLine ∧ Q (.int x.length) M
  | [d] => ∃ es, seqOf M d = some es ∧ Q (.int es.length) M
  | _ => False
theorem Jup : DCall X W (.builtin "len") aLen := .of (call_len_seq.or call_len_str) fun st H Z r M xs ds Q q rp h => by
  unfold aLen at h
  split at h
  · cases rp with
    | cons r1 rr =>
      cases rr; cases r1
      exact .inr ⟨_, rfl, h.1, EQ.val q (.int _) h.2⟩
  · cases rp with
    | cons r1 rr =>
      cases rr
      obtain ⟨es, e, h⟩ := h
      obtain ⟨a, ys, rfl, hs, rl⟩ := Jom q.hr e r1
      exact .inl ⟨a, ys, rfl, hs, EQ.val q (.int _) (by rw [rl.length]; exact h)⟩
  · exact h.elim
def aI1 (f : Int → Int) : DRL := fun ds M Q => match ds with
  | [.int i] => Q (.int (f i)) M
  | _ => False
def aI2 (f : Int → Int → Int) : DRL := fun ds M Q => match ds with
  | [.int i, .int j] => Q (.int (f i j)) M
  | _ => False
def absI (i : Int) : Int := if i < 0 then -i else i
def maxI (i j : Int) : Int := if j > i then j else i
def minI (i j : Int) : Int := if j < i then j else i
theorem Jv5 : DCall X W (.builtin "abs") (aI1 absI) := .of call_abs fun st H Z r M xs ds Q q rp h => by
  unfold aI1 at h
  split at h
  · cases rp with
    | cons r1 rr => cases rr; cases r1; exact ⟨_, rfl, EQ.val q (.int _) h⟩
  · exact h.elim
theorem Jp1 : DCall X W (.type "int") (aI1 id) := .of call_int1 fun st H Z r M xs ds Q q rp h => by
  unfold aI1 at h
  split at h
  · cases rp with
    | cons r1 rr => cases rr; cases r1; exact .inl ⟨_, rfl, EQ.val q (.int _) h⟩
  · exact h.elim
theorem Jv6 (hc : X.calm = true) : DCall X W (.builtin "max") (aI2 maxI) := .of (call_max2 hc) fun st H Z r M xs ds Q q rp h => by
  unfold aI2 at h
  split at h
  · cases rp with
    | cons r1 rr => cases rr with
      | cons r2 rr => cases rr; cases r1; cases r2; exact ⟨_, _, rfl, EQ.val q (.int _) h⟩
  · exact h.elim
theorem Jv7 (hc : X.calm = true) : DCall X W (.builtin "min") (aI2 minI) := .of (call_min2 hc) fun st H Z r M xs ds Q q rp h => by
  unfold aI2 at h
  split at h
  · cases rp with
    | cons r1 rr => cases rr with
      | cons r2 rr => cases rr; cases r1; cases r2; exact ⟨_, _, rfl, EQ.val q (.int _) h⟩
  · exact h.elim
def Juq : DRL := fun ds M Q => match ds with
  | [.int i] => i.natAbs.log2 < 1920 ∧ Q (.str (toString i)) M
  | _ => False
theorem Jv8 : DCall X W (.type "str") Juq := .of call_str_int fun st H Z r M xs ds Q q rp h => by
  unfold Juq at h
  split at h
  · cases rp with
    | cons r1 rr => cases rr; cases r1; exact ⟨_, rfl, h.1, EQ.val q (.str _) h.2⟩
  · exact h.elim
theorem divp {i j : Int} (h : CDivW i j) : Builtin.divisionGoesByPylong i j = false := PyProof.noPylong_of_log2 h.2
def JqG : DRL := fun ds M Q => match ds with
  | [.int i, .int j] => CDivW i j ∧ Q (.tup [.int (i / j), .int (i % j)]) M
  | _ => False
theorem JsO : DCall X W (.builtin "divmod") JqG := .of call_divmodW fun st H Z r M xs ds Q q rp h => by
  unfold JqG at h
  split at h
  · cases rp with
    | cons r1 rr => cases rr with
      | cons r2 rr =>
        cases rr; cases r1; cases r2
        exact ⟨_, _, rfl, ⟨h.1.1, divp h.1⟩, fun p hp => EQ.newTup q hp (.cons (.int _) (.cons (.int _) .nil)) h.2⟩
  · exact h.elim
def blsD : List D → Option (List Bool)
  | [] => some []
  | .bl i :: ds => (blsD ds).map (i :: ·)
  | _ => none
theorem Jra {K : PySem.W.Frag} {F : Hp} : ∀ {vs : List V} {ds : List D} {ns : List Bool}, RepL K F vs ds → blsD ds = some ns → vs = ns.map V.bl
  | _, _, _, .nil, e => by cases e; rfl
  | _, _, _, .cons (.bl i) r, e => by
    obtain ⟨ms, e1, e2⟩ := Option.map_eq_some_iff.mp (show (blsD _).map (i :: ·) = some _ from e)
    subst e2
    rw [List.map_cons, ← Jra r e1]
  | _, _, _, .cons .non r, e => by cases e
  | _, _, _, .cons (.int _) r, e => by cases e
  | _, _, _, .cons (.str _) r, e => by cases e
  | _, _, _, .cons (.ref _) r, e => by cases e
  | _, _, _, .cons (.ty _) r, e => by cases e
  | _, _, _, .cons (.tup _ _) r, e => by cases e
  | _, _, _, .cons (.lst _ _) r, e => by cases e
  | _, _, _, .cons (.dic _ _) r, e => by cases e
  | _, _, _, .cons (.ins _ _) r, e => by cases e
  | _, _, _, .cons (.obj _ _) r, e => by cases e
  | _, _, _, .cons (.scr _) r, e => by cases e
  | _, _, _, .cons (.exc _ _) r, e => by cases e
def aAll : DRL := fun ds M Q => match ds with
  | [d] => ∃ es bs, Jpr M d = some es ∧ blsD es = some bs ∧ Q (.bl (bs.all id)) M
  | _ => False
theorem JxL (hc : X.calm = true) : DCall X W (.builtin "all") aAll := .of (cr_all hc) fun st H Z r M xs ds Q q rp h => by
  unfold aAll at h
  split at h
  · cases rp with
    | cons r1 rr =>
      cases rr
      obtain ⟨es, ns, e, e2, h⟩ := h
      obtain ⟨a, ys, rfl, hs, rl⟩ := JlY q.hr e r1
      rw [Jra rl e2] at hs
      exact ⟨a, ns, rfl, hs, EQ.val q (.bl _) h⟩
  · exact h.elim
end

section
variable {X : Cx} {pins : List (Addr × Obj)} {st : Sg} {H : Hp} {s : Shared}
theorem JxM {h : Heap} {u v : Value} {p : PyData} {as : List Addr} (e : v = u) (q : Reads h u p as) : Reads h v p as := by rw [e]; exact q
mutual
theorem reads_of (I : Inv X pins st H s) (hsy : H sysModules = none) : ∀ {v : V} {d : D} {p : PyData} {u : Value}, Rep X.K H v d → py d = some p → RelV v u → ∃ as, Reads s.heap u p as ∧ sysModules ∉ as
  | _, _, _, _, .non, e, r => by cases e; cases r; exact ⟨[], .none, by simp⟩
  | _, _, _, _, .bl b, e, r => by cases e; cases r; exact ⟨[], .bool b, by simp⟩
  | _, _, _, _, .int b, e, r => by cases e; obtain ⟨t, rfl⟩ := r; exact ⟨[], .int b t, by simp⟩
  | _, _, _, _, .str b, e, r => by cases e; obtain ⟨t, rfl⟩ := r; exact ⟨[], .str b t, by simp⟩
  | _, _, _, _, .ref b, e, r => by cases e
  | _, _, _, _, .ty b, e, r => by cases e
  | _, _, _, _, .scr h, e, r => by cases e
  | _, _, _, _, .exc h r', e, r => by cases e
  | _, _, _, _, .fn h r', e, r => by cases e
  | _, _, _, _, .exv h h2 r3, e, r => by cases e
  | _, _, _, _, .exw h, e, r => by cases e
  | _, _, _, _, .ins h r', e, r => by cases e
  | _, _, _, _, .obj h r', e, r => by cases e
  | _, _, _, _, .tup (ds := ds) h r', e, r => by
    cases r
    obtain ⟨ps, e3, rfl⟩ := Option.map_eq_some_iff.mp (show (pyL ds).map PyData.tuple = some _ from e)
    obtain ⟨its, rv, ⟨o, ho, hc, n, hd⟩, _⟩ := I.tuple h
    obtain ⟨as, q, hn⟩ := readsL_of I hsy r' e3 rv
    exact ⟨as, .tuple ho hc hd q, hn⟩
  | _, _, _, _, .lst (a := a) (ds := ds) h r', e, r => by
    cases r
    obtain ⟨ps, e3, rfl⟩ := Option.map_eq_some_iff.mp (show (pyL ds).map PyData.list = some _ from e)
    obtain ⟨its, rv, ⟨o, n, ho, hc, _, hd⟩, _⟩ := I.list (SqL.of h)
    obtain ⟨as, q, hn⟩ := readsL_of I hsy r' e3 rv
    refine ⟨_, .list ho hc hd q, fun z => ?_⟩
    rcases List.mem_cons.mp z with z | z
    · rw [z, h] at hsy; cases hsy
    · exact hn z
  | _, _, _, _, .dic (a := a) (ds := ds) h r', e, r => by
    cases r
    obtain ⟨ps, e3, rfl⟩ := Option.map_eq_some_iff.mp (show (pyK ds).map PyData.dict = some _ from e)
    obtain ⟨_, hs, vs, kv, o, es, ep, ho, hx, hd, _, hp, _⟩ := Rd.ok (.inr ⟨_, h⟩) I.hok
    obtain ⟨as, bs, q1, q2, hn1, hn2⟩ := readsK_of I hsy r' e3 kv hp
    refine ⟨_, .dict ho hx.1 hd q1 q2, fun z => ?_⟩
    rcases List.mem_append.mp z with z | z
    · rcases List.mem_cons.mp z with z | z
      · rw [← z] at hs; simp at hs
      · exact hn1 z
    · exact hn2 z
theorem readsL_of (I : Inv X pins st H s) (hsy : H sysModules = none) : ∀ {vs : List V} {ds : List D} {ps : List PyData} {us : List Value}, RepL X.K H vs ds → pyL ds = some ps → Vals vs us → ∃ as, ReadsAll s.heap us ps as ∧ sysModules ∉ as
  | _, _, _, _, .nil, e, r => by cases e; cases r; exact ⟨[], .nil, by simp⟩
  | _, _, _, _, .cons (d := d) (ds := ds) h r', e, r => by
    have e2 : (match py d, pyL ds with | some p, some ps => some (p :: ps) | _, _ => none) = some _ := e
    split at e2
    · rename_i p ps e3 e4
      cases e2
      cases r with
      | cons r1 r2 =>
        obtain ⟨as, q1, n1⟩ := reads_of I hsy h e3 r1
        obtain ⟨bs, q2, n2⟩ := readsL_of I hsy r' e4 r2
        exact ⟨_, .cons q1 q2, fun z => (List.mem_append.mp z).elim n1 n2⟩
    · cases e2
theorem readsK_of (I : Inv X pins st H s) (hsy : H sysModules = none) : ∀ {vs : List (Key × V)} {ds : List (Key × D)} {ps : List (PyData × PyData)} {us : List (Key × Value)} {es : List DictEntry}, RepK X.K H vs ds → pyK ds = some ps → KV vs us → Pairs (mixKind X.prog X.w) es us →
    ∃ as bs, ReadsAll s.heap (es.map (·.key)) (ps.map (·.1)) as ∧ ReadsAll s.heap (es.map (·.val)) (ps.map (·.2)) bs ∧ sysModules ∉ as ∧ sysModules ∉ bs
  | _, _, _, _, _, .nil, e, r, hp => by cases e; cases r; cases hp; exact ⟨[], [], .nil, .nil, by simp, by simp⟩
  | _, _, _, _, _, .cons (k := k) (d := d) (ds := ds) h r', e, r, hp => by
    have e2 : (match py d, pyK ds with | some p, some ps => some ((Jud k, p) :: ps) | _, _ => none) = some _ := e
    split at e2
    · rename_i p ps e3 e4
      cases e2
      cases r with
      | cons r1 r2 =>
        cases hp with
        | cons h1 h2 h3 =>
          obtain ⟨ek, rv⟩ := r1
          obtain ⟨bs1, q1, n1⟩ := reads_of I hsy h e3 rv
          obtain ⟨as, bs, q2, q3, n2, n3⟩ := readsK_of I hsy r' e4 r2 h3
          have hkey : ∀ {en : DictEntry} {kk : Key}, keyIs kk en.key = true → Reads s.heap en.key (Jud kk) [] := fun {en kk} z => by
            rcases keyIs_shape z with ⟨i, t, rfl, e⟩ | ⟨x, t, rfl, e⟩
            · rw [e]; exact .int i t
            · rw [e]; exact .str x t
          have hk2 := hkey h1
          rw [← ek] at hk2
          refine ⟨_, _, .cons hk2 q2, .cons (JxM h2 q1) q3, by simpa using n2, fun z => (List.mem_append.mp z).elim n1 n3⟩
    · cases e2
end
end

def Joo (p : PyData) : Prop := p.showable = true ∧ p.shown.length ≤ sizeLine ∧ p.depth ≤ 60
def Jur : DRL := fun ds M Q => match ds with
  | [.lst es] => ∃ p, py (.lst es) = some p ∧ Joo p ∧ Q (.str p.shown) M
  | [.tup es] => ∃ p, py (.tup es) = some p ∧ Joo p ∧ Q (.str p.shown) M
  | [.dic es] => ∃ p, py (.dic es) = some p ∧ Joo p ∧ Q (.str p.shown) M
  | _ => False
theorem Jrb {X : Cx} {W : DWX} {k : Nat} (hr : Rm k X.A) (hsy : (X.K.lookup sysModules).isSome = true) : DCall X W (.builtin "repr") Jur := by
  intro pins s st H Z r M xs vs ds Q I q rv rp h
  have hsy2 : H sysModules = none := by
    obtain ⟨o, e⟩ := Option.isSome_iff_exists.mp hsy
    exact (I.bs sysModules o (I.ok.mod.kin _ _ e)).2
  have main : ∀ (a : Addr) (d : D) (p : PyData), xs = [.ref a] → Rep X.K (out Z M H) (.ref a) d → py d = some p → Joo p → Q (.str p.shown) M → wpAny (model X.prog X.w) X.A (call (.builtin "repr") vs) (EP X pins st (EQ (kx X W) Z st r (out Z M H) Q)) X.xe s := by
    intro a d p e r1 e1 sh hq
    subst e
    obtain ⟨u, rfl, ru⟩ := vals1 rv
    cases (show u = Value.ref a from ru)
    obtain ⟨as, rd, hn⟩ := reads_of I hsy2 (r1.mono (Jbp _ _ _)) e1 (u := .ref a) rfl
    have hun := hr.room.un
    exact repr_of_reads' rd sh.1 (fun _ => hn) hr.gd (by have := sh.2.2; omega) (fun _ _ z => z) (fun h' u tk kk => ⟨.str _, H, I.kept (t' := tk) kk, ⟨u, rfl⟩, EQ.val q (.str _) hq⟩) sh.2.1
  unfold Jur at h
  split at h
  · cases rp with
    | cons r1 rr =>
      cases rr
      obtain ⟨p, e, sh, h⟩ := h
      cases r1 with
      | lst h1 h2 => exact main _ _ p rfl (.lst h1 h2) e sh h
  · cases rp with
    | cons r1 rr =>
      cases rr
      obtain ⟨p, e, sh, h⟩ := h
      cases r1 with
      | tup h1 h2 => exact main _ _ p rfl (.tup h1 h2) e sh h
  · cases rp with
    | cons r1 rr =>
      cases rr
      obtain ⟨p, e, sh, h⟩ := h
      cases r1 with
      | dic h1 h2 => exact main _ _ p rfl (.dic h1 h2) e sh h
  · exact h.elim

def tyD (M : Mh) : D → Option Value
  | .non => some (.type "NoneType")
  | .bl _ => some (.type "bool")
  | .int _ => some (.type "int")
  | .str _ => some (.type "str")
  | .tup _ => some (.type "tuple")
  | .lst _ => some (.type "list")
  | .scr _ => some (.type "list")
  | .dic _ => some (.type "dict")
  | .ins C _ => some (.ref C)
  | .obj C _ => some (.ref C)
  | .ref a => match M a with
    | some (.lst _) => some (.type "list")
    | some .pool => some (.type "list")
    | some (.dic _) => some (.type "dict")
    | some (.ins C _ _) => some (.ref C)
    | some (.slt C _ _) => some (.ref C)
    | none => none
  | .ty _ => none
  | .exc _ _ _ => none
  | .fn _ _ _ _ => none
  | .exv _ _ => none
def clsD : D → Option Value
  | .ty n => some (.type n)
  | .ref C => some (.ref C)
  | _ => none
structure IsiC (K : PySem.W.Frag) (C : Addr) : Prop where
  ic : PySem.W.isClsIn K C = true
  pg : PySem.W.plainGet K C "__class__" = true
  ha : PySem.W.findIn K (.ref C) "__class__" = some (some (.builtin "object.__class__"))
  hm : PySem.W.mroIn K C (.type "object") = some true
theorem JrO (K : PySem.W.Frag) : PySem.W.specialIn K (.builtin "object.__class__") "__get__" = some (some (.builtin "getset_descriptor.__get__")) ∧ PySem.W.takesIn K (.builtin "object.__class__") = some true := by
  refine ⟨?_, ?_⟩
  · kernel_rfl
  · kernel_rfl
end DL
namespace DL
open PySem PySem.Spec PyProof.Rows L2
section
variable {X : Cx} {W : DWX}
theorem JxN {K : PySem.W.Frag} {F : Hp} {v : V} {d : D} {u w : Value} (rp : Rep K F v d) (rv : RelV v u) (e : clsD d = some w) : u = w := by
  cases rp <;> cases e
  · exact rv
  · exact rv
end
end DL

set_option maxHeartbeats 2000000
namespace DL
open PySem PySem.Spec PyProof.Rows L2

def bty (M : Mh) : D → Option String
  | .int _ => some "int"
  | .str _ => some "str"
  | .lst _ => some "list"
  | .scr _ => some "list"
  | .dic _ => some "dict"
  | .ref a => match M a with
    | some (.lst _) => some "list"
    | some .pool => some "list"
    | some (.dic _) => some "dict"
    | _ => none
  | _ => none
def dBM (T : String) (o : DRM) (te : DTE) (ta : DTA) : DTE := fun r M Q => te r M fun x M1 => bty M1 x = some T ∧ ta r M1 fun ds M2 => o x ds M2 Q
section
variable {X : Cx} {W : DWX}
variable {o e : Expr} {es : List Expr} {to : DTE} {t : DTA} {name : Str} {apos cpos : Pos} {T id : String} {rd : DRM}
theorem RepL.erase {K : PySem.W.Frag} {F : Hp} : ∀ {v : List V} {d : List D} (i : Nat), RepL K F v d → RepL K F (v.eraseIdx i) (d.eraseIdx i)
  | _, _, _, .nil => .nil
  | _, _, 0, .cons _ t => t
  | _, _, i + 1, .cons r t => .cons r (RepL.erase i t)
def m2S (g : Str → Str → D) : DRM := fun d ds M Q => match d, ds with
  | .str a, [.str b] => Q (g a b) M
  | _, _ => False
end
end DL

set_option maxHeartbeats 2000000
namespace DL
open PySem PySem.Spec PyProof.Rows L2

theorem Jop {K : PySem.W.Frag} {F : Hp} {f : Str} : ∀ {xs : List (Str × V)} {fs : List (Str × D)}, RepF K F xs fs → (∀ d, fs.lookup f = some d → ∃ v, xs.lookup f = some v ∧ Rep K F v d) ∧ (fs.lookup f = none → xs.lookup f = none)
  | _, _, .nil => ⟨fun d e => (nomatch e), fun _ => rfl⟩
  | _, _, .cons (k := k) (v := v) (vs := vs) (d := d) (ds := ds) h r => by
    obtain ⟨i1, i2⟩ := Jop (f := f) r
    by_cases e : f = k
    · subst e
      refine ⟨fun d' q => ?_, fun q => ?_⟩
      · have : ((f, d) :: ds).lookup f = some d := by simp [List.lookup]
        rw [this] at q; cases q
        exact ⟨v, by simp [List.lookup], h⟩
      · have : ((f, d) :: ds).lookup f = some d := by simp [List.lookup]
        rw [this] at q; cases q
    · have hb : (f == k) = false := by simpa using e
      have e1 : ((k, d) :: ds).lookup f = ds.lookup f := by simp [List.lookup, hb]
      have e2 : ((k, v) :: vs).lookup f = vs.lookup f := by simp [List.lookup, hb]
      rw [e1, e2]
      exact ⟨i1, i2⟩
theorem JxO {P : Program} {w : World} {outer : List Env} {H : Hp} {s : Shared} {K : PySem.W.Frag} {Z F : Hp} {u : Value} {s' : Shared} (h : L2.CX P w outer H s (XQ K Z F fun _ _ _ => False) u s') : False := by
  obtain ⟨_, _, _, _, _, _, _, _, _, _, _, _, h⟩ := h
  obtain ⟨_, _, _, _, _, z⟩ := h
  exact z
section
variable {X : Cx} {W : DWX} {k n : Nat} {C p g : Addr} {f m : Str} {fd : FuncData} {ps ks : List Str} {sp : DSp} {e o : Expr} {es : List Expr} {kws : List Keyword} {pos apos : Pos} {te : DTE} {t tk : DTA} {gD : List D → List D → List D}
def putD (i : Nat) (d : D) (ds : List (Option D)) : List (Option D) := (ds ++ List.replicate (i + 1 - ds.length) none).set i (some d)
def Jnx (C : Addr) (i : Nat) (to tv : DTE) : DTS := fun D r M => tv r M fun y M1 => to r M1 fun x M2 => ∃ a dx ds, x = .ref a ∧ M2 a = some (.slt C dx ds) ∧ D.nx r (mset M2 a (.slt C dx (putD i y ds)))
def MadeQ (Q : QD) (C x dx : Addr) : QD := fun v M => v = .non ∧ ((∃ ds, M x = some (.slt C dx (ds.map some)) ∧ Q (.ins C ds) (mdel M x)) ∨ (∃ fs, M x = some (.ins C dx fs) ∧ Q (.ref x) M) ∨ ∃ fs, M x = some (.ins C dx fs) ∧ Q (.obj C fs) (mdel M x))
end
end DL

set_option maxHeartbeats 2000000
namespace DL
open PySem PySem.Spec PyProof.Rows L2

inductive OvX (tl : List Value) : List Value → Prop
  | base : OvX tl tl
  | own {c : Addr} {r : List Value} : OvX tl r → OvX tl (.ref c :: r)
theorem JqH : ∀ l : List Value, OvX (offX l) l := fun l => by
  fun_induction offX l with
  | case1 c r ih => exact .own ih
  | case2 l h => exact .base
section
variable {tl bm : List Value}
theorem OvX.has (h : OvX tl bm) (Y : String) : bm.contains (.type Y) = tl.contains (.type Y) := by
  induction h with
  | base => rfl
  | own _ ih => rw [List.contains_cons, ih]; rfl
theorem OvX.pass (h : OvX tl bm) {self : Value} (e : refuseLoop self "__setattr__" tl = pure ()) : refuseLoop self "__setattr__" bm = pure () := by
  induction h with
  | base => exact e
  | own _ ih => rw [refuseLoop_ref]; exact ih
end
structure BaX (B nid iid : String) (tl : List Value) : Prop where
  ex : ExcBaseFacts B nid iid tl
  ob : tl.contains (.type "object") = true
  ps : ∀ self : Value, refuseLoop self "__setattr__" tl = pure ()
theorem Jp2 : BaX "ValueError" "ValueError.__new__" "ValueError.__init__" [.type "ValueError", .type "Exception", .type "BaseException", .type "object"] := ⟨PySem.F.excBase_ValueError, by decide +kernel, fun s => PySem.F.store_ValueError.passes s⟩
theorem Jpg : BaX "LookupError" "LookupError.__new__" "LookupError.__init__" [.type "LookupError", .type "Exception", .type "BaseException", .type "object"] := ⟨PySem.F.excBase_LookupError, by decide +kernel, fun s => PySem.F.store_LookupError.passes s⟩
theorem Jp3 : BaX "ArithmeticError" "ArithmeticError.__new__" "ArithmeticError.__init__" [.type "ArithmeticError", .type "Exception", .type "BaseException", .type "object"] := ⟨PySem.F.excBase_ArithmeticError, by decide +kernel, fun s => PySem.F.store_ArithmeticError.passes s⟩
structure OxC (K : PySem.W.Frag) (C : Addr) : Prop where
  cls : ∃ B nid iid tl nm q N bs bm sn sub ab col dd k0 k1 k2 k3 k5, BaX B nid iid tl ∧ OvX tl bm ∧ K.lookup C = some (excClassObj nm q C N bs bm true sn sub ab col dd k0 k1 k2 k3 k5 nid)
  sa : PySem.W.findIn K (.ref C) "__setattr__" = some (some (.builtin "object.__setattr__"))
  exC : PySem.W.subIn K (.ref C) (.type "BaseException") = some true
  tyC : PySem.W.typeIn K (.ref C) = some (.type "type")
  kC : PySem.W.keepIn K (.ref C) = true
section
open PySem.W PySem.Calls PySem.HandSPX Builtin Builtin.ObjectAttr
variable {prog : Program} {w : World} {A : Around} {E : Value → Shared → Prop} {R : Result → Shared → Prop} {hp : Heap} {g : Array GenState} {d : Drawn} {t : Nat} {os : OsState}
theorem JsP {K : PySem.W.Frag} {name : Str} {tk : Tok} {v : Value} {x C : Addr} {fv : Array Value} {cd : ClassData} (X : K.In hp) (hx : hp.get? x = some { cls := .ref C, data := .fields fv })
    (hcd : PySem.W.clsIn K C = some cd) (ne : cd.mro.isEmpty = false) (hob : cd.mro.contains (.type "object") = true) (ps : ∀ self, refuseLoop self "__setattr__" cd.mro = pure ()) (hh : cd.hasDict = true) (ha : PySem.W.findIn K (.ref C) name = some none)
    (hq : ∀ h' tk' dx, (∀ b o, b ≠ x → hp.get? b = some o → h'.get? b = some o) → hp.objs.size ≤ dx → dx ≠ x → h'.get? x = some { cls := .ref C, dict := some dx, data := .fields fv } →
      h'.Ns1 dx (fun y => if y = name then some v else none) → R (.ok (.ret .none)) ⟨h', g, d, tk', os⟩) :
    codeAny (model prog w) A (.call (.builtin "object.__setattr__") ⟨[.ref x, .str name tk, v], []⟩) R ⟨hp, g, d, t, os⟩ := by
  have hI : PySem.W.InstAt hp x { cls := .ref C, data := .fields fv } C none := ⟨hx, rfl, rfl, trivial⟩
  have hxs : x ≠ hp.objs.size := Nat.ne_of_lt (Heap.lt_size hx)
  have lC : PySem.W.Looks (model prog w) hp (classData C) cd := PySem.W.looks_clsIn X hcd
  have lT : PySem.W.Looks (model prog w) hp (storeTaker? none) none := .now
  have lM : PySem.W.Looks (model prog w) hp (mroOf (.ref C)) cd.mro := lC.andThen .now
  have lI : PySem.W.Looks (model prog w) hp (isInstance (.ref x) (.type "object")) true := hI.type.andThen (PySem.W.looks_mroIn X (by unfold PySem.W.mroIn; rw [hcd, Option.bind_some, if_neg (by rw [ne]; decide), hob]))
  have SF := PySem.F.store_object
  refine codeAny_call_builtin SF.slot.plain SF.entry (@PySem.W.check_slot (model prog w) _ _ ⟨hp, g, d, t, os⟩ "object.__setattr__" "object" "__setattr__" (.ref x) [.str name tk, v] [] _ SF.kind SF.split lI (SF.args (.ref x) (.str name tk) v) ?_)
  rw [PySem.W.osa_eq, refuse_eq]
  refine wpAny_bind (wpAny_bind (hI.type.at (wpAny_bind (lM.at ?_))))
  rw [ps]
  refine wpAny_pure (wpAny_bind (hI.type.at (wpAny_bind ((PySem.W.looks_findIn X ha).at (wpAny_bind (lT.at ?_))))))
  show wpAny _ _ (storeInOwnDict (.ref x) (.ref C) (.str name tk) name v false) _ _ _
  obtain ⟨nm, bs, mro, ns, qn, hd, sn, sb, ab, col, del⟩ := cd
  dsimp only at hh
  subst hh
  unfold storeInOwnDict ownDictForStores
  repeat (first | with_reducible refine store_in_new ?_ ?_ | with_reducible refine wpAny_loadPart_at hx ?_ | with_reducible refine lC.at ?_ | wp_step)
  · exact ⟨_, #[], _, (Heap.get?_update_ne _ _ _ _ hxs.symm).trans (Heap.get?_push_at rfl rfl), rfl, fun e he => absurd he (by simp), fun _ => rfl⟩
  · intro h' tk' hn hs
    exact hq h' tk' hp.objs.size (fun b o hb ho => (hs.2 b (Nat.ne_of_lt (Heap.lt_size ho))).trans ((Heap.get?_update_ne _ _ _ _ hb).trans (Heap.get?_push_of_some _ ho))) (Nat.le_refl _) hxs.symm
      ((hs.2 x hxs).trans (Heap.get?_update_self _ (Heap.get?_push_of_some _ hx) rfl)) hn
end
section
variable {X : Cx} {pins : List (Addr × Obj)} {σ : L2.St} {H : Hp} {s : Shared} {a C dx : Addr} {f : Str} {y : V} {u : Value} {Q : Unit → Shared → Prop} {E : Value → Shared → Prop} {A : Around}
theorem Jv9 (T : OxC X.K C) (I : Inv X pins σ H s) (e : H a = some (exo a C none)) (hno : PySem.W.findIn X.K (.ref C) f = some none) (ry : L2.RelV y u)
    (h : ∀ dx s', H dx = none → dx ≠ a → Inv X pins σ (upd (upd H dx (exd dx [(f, y)])) a (exo a C (some dx))) s' → Q () s') : wpAny (model X.prog X.w) A (setAttr (.ref a) f u) Q E s := by
  obtain ⟨B, nid, iid, tl, nm, q, N, bs, bm, sn, sub, ab, col, dd, k0, k1, k2, k3, k5, hB, hO, hC⟩ := T.cls
  have hcl : PySem.W.clsIn X.K C = some { name := nm, bases := bs, mro := .ref C :: bm, ns := N, qualname := q, hasDict := true, slotNames := sn, subclasses := sub, abstract := ab, collection := col, hasDel := false } := by unfold PySem.W.clsIn; rw [hC] <;> rfl
  have hOC : OvX tl (.ref C :: bm) := .own hO
  obtain ⟨t1, ho⟩ := exo_at I.hok e
  obtain ⟨hp, g, d, t, os⟩ := s
  refine PySem.W.set_plain I.kIn (ox := { cls := .ref C, dict := none, data := .fields #[.ref t1, .none, .none, .none, .bool false, .none] }) (od := none) ⟨ho, rfl, rfl, trivial⟩ T.sa ?_
  refine JsP I.kIn ho hcl rfl ((hOC.has "object").trans hB.ob) (fun self => hOC.pass (hB.ps self)) rfl hno (fun h' tk' dx k dn dne hx hn => ?_)
  have hnd : H dx = none := I.hok.fresh dn
  have nd : ∀ {b : Addr} {o : Obj}, hp.get? b = some o → b ≠ dx := fun {b o} q => Nat.ne_of_lt (Nat.lt_of_lt_of_le (Heap.lt_size q) dn)
  have na : ∀ {b : Addr}, H b = none → b ≠ a := fun {b} n z => by rw [z, e] at n; cases n
  have U : Un X.fs [] H (upd (upd H dx (exd dx [(f, y)])) a (exo a C (some dx))) hp h' := {
    keep := fun b o q n _ _ => k b o (na n) q
    slot := fun b o q n _ _ => ⟨o.slots, k b o (na n) q⟩
    free := fun b o q n _ => by rw [upd_ne (na n), upd_ne (nd q)]; exact n
    there := fun b o q _ => by
      by_cases hb : b = a
      · exact ⟨_, hb ▸ hx⟩
      · exact ⟨o, k b o hb q⟩
    tups := fun b xs q => by rw [upd_ne (at_ne e q exo_tup), upd_ne (ne_of_none q hnd)]; exact q
    frzs := fun b o v q => by rw [upd_ne (at_ne e q exo_frz), upd_ne (ne_of_none q hnd)]; exact q
    tbls := fun b ps q => ⟨#[], by rw [upd_ne (at_ne e q exo_tbl), upd_ne (ne_of_none q hnd), q]; simp⟩ }
  refine h dx _ hnd dne (I.un (t' := tk') U fun b o q => ?_)
  by_cases hb : b = a
  · subst hb; rw [upd_same] at q; cases q; exact exo_ok hx
  rw [upd_ne hb] at q
  by_cases hd : b = dx
  · subst hd; rw [upd_same] at q; cases q; exact exd_ok hn (relO_put (fs := []) ry fun g => True.intro)
  rw [upd_ne hd] at q
  refine (I.hok b o q).stay (fun c v hc z => k c v (hc.elim (fun hc => by rw [hc]; exact hb) fun hc => at_ne e hc exo_own) z) (fun c hc => ?_) (fun c xs hc => ?_)
  · rw [upd_ne (at_ne e hc exo_own), upd_ne (ne_of_none hc hnd)]; exact hc
  · rw [upd_ne (at_ne e hc exo_tup), upd_ne (ne_of_none hc hnd)]; exact hc
end
def tOx (K : PySem.W.Frag) (f : Str) (to te : TE) : TS := fun D σ H => te σ H fun y H1 => to σ H1 fun x H2 => ∃ a C : Addr, x = .ref a ∧ OxC K C ∧ PySem.W.findIn K (.ref C) f = some none ∧ H2 a = some (exo a C none) ∧
  ∀ dx, H2 dx = none → dx ≠ a → D.nx σ (upd (upd H2 dx (exd dx [(f, y)])) a (exo a C (some dx)))
section
variable {X : Cx} {o e : Expr} {es : List Expr} {to te : TE} {ta : TA} {f : Str} {p p' p1 p2 pos : Pos}
theorem JxP (ho : PE X o to) (he : PE X e te) (hs : swapsWith e (some (.Attribute o f p')) pos.line X.env = pure false := by rfl) : PS X (.Assign [.Attribute o f p'] e pos) (tOx X.K f to te) := by
  refine ⟨fun pins s σ H D I h => ?_⟩
  refine plainObj_wpAny_Assign_Attribute (thn (he.run pins s σ H _ I h) fun v s1 ⟨y, H1, I1, r1, q1⟩ => thn (ho.run pins s1 σ H1 _ I1 q1) fun u s2 ⟨x, H2, I2, r2, a, C, ex, T, hno, ea, q⟩ => ?_) hs
  subst ex
  obtain rfl : u = Value.ref a := r2
  exact Jv9 T I2 ea hno r1 fun dx s' n ne J => ⟨σ, _, J, q dx n ne⟩
end
end DL

set_option maxHeartbeats 2000000
namespace DL
open PySem PySem.Spec PyProof.Rows L2

structure Cl where
  c : Value
  i : Option Nat
  t : Addr → Value → Option Addr → DTS
def JxQ (i : Nat) (E : DEnds) : DEnds := ⟨fun r M => E.nx (r.set i none) M, E.rt, fun r M => E.bk (r.set i none) M, fun r M => E.ct (r.set i none) M⟩
def wTry (K : PySem.W.Frag) (W : DWX) (E : DEnds) : List Cl → DWX
  | [] => W
  | cl :: l => fun cls fs r M => ∃ b, PySem.W.exmOne K cls cl.c = some b ∧ (b = true → ∀ a, match cl.i with
      | none => ∀ dx, cl.t a cls dx E r M
      | some i => fs ≠ [] ∧ ∀ dd, cl.t a cls (some dd) (JxQ i E) (r.set i (some (.exc a dd fs))) M) ∧ (b = false → wTry K W E l cls fs r M)
def dTry (K : PySem.W.Frag) (W : DWX) (l : List Cl) (tb : DWX → DTS) : DTS := fun E r M => tb (wTry K W E l) E r M
def JtW (X : Cx) (suite : List Stmt) (t : Addr → Value → Option Addr → DTS) : Prop :=
  ∀ (a : Addr) (oe : Obj) (cls : Value) (d : Option Addr) (pn : List (Addr × Obj)), Zc cls d oe → (∃ vs, oe.data = .fields vs) → DSs (X.suite a ((a, oe) :: pn)) WN suite (t a cls d)
inductive Clauses (X : Cx) : List ExceptHandler → List Cl → Prop
  | nil : Clauses X [] []
  | bare {x : Str} {c : Value} {t : Addr → Value → Option Addr → DTS} {b0 : Stmt} {sui : List Stmt} {p1 p2 : Pos} {hds : List ExceptHandler} {l : List Cl} (hc : Names X x c) (hs : JtW X (b0 :: sui) t) (rest : Clauses X hds l) :
      Clauses X (.ExceptHandler (some (.Name x p1)) none (b0 :: sui) p2 :: hds) (⟨c, none, t⟩ :: l)
  | name {x n : Str} {i : Nat} {c : Value} {t : Addr → Value → Option Addr → DTS} {b0 : Stmt} {sui : List Stmt} {p1 p2 : Pos} {hds : List ExceptHandler} {l : List Cl} (hc : Names X x c) (hi : X.N[i]? = some n) (hl : X.env.kindOf n = some .local)
      (hs : JtW X (b0 :: sui) t) (rest : Clauses X hds l) : Clauses X (.ExceptHandler (some (.Name x p1)) (some n) (b0 :: sui) p2 :: hds) (⟨c, some i, t⟩ :: l)
def Jp4 (W : DWX) (C : Addr) (f : Str) (ta : DTA) : DTS := fun E r M => ta r M fun ds M1 => ∃ y, ds = [y] ∧ W (.ref C) [(f, y)] r M1
end DL

set_option maxHeartbeats 2000000
namespace DL
open PySem PySem.Spec PyProof.Rows L2

section
variable {X : Cx} {W : DWX} {K : PySem.W.Frag} {F Z : Hp} {tg e : Expr} {te : DTE}
end
def keyD : D → Option Key
  | .int i => some (.inl i)
  | .str x => some (.inr x)
  | _ => none
def Jp5 : List (DTE × DTE) → Rho → Mh → (List (Key × D) → Mh → Prop) → Prop
  | [], _, M, Q => Q [] M
  | (tk, tv) :: l, r, M, Q => tk r M fun x M1 => tv r M1 fun y M2 => Jp5 l r M2 fun ps M3 => ∃ k, keyD x = some k ∧ Q ((k, y) :: ps) M3
def JrP (kvs : List (Key × D)) (k : Key) (d : D) : List (Key × D) :=
  if (kvs.any fun kv => decide (kv.1 = k)) = true then kvs.map (fun kv => if kv.1 = k then (kv.1, d) else kv) else kvs ++ [(k, d)]
def Jn2 (kvs more : List (Key × D)) : List (Key × D) := more.foldl (fun acc kv => JrP acc kv.1 kv.2) kvs
section
variable {K : PySem.W.Frag} {F : Hp}
theorem RepK.append : ∀ {v w : List (Key × V)} {d e : List (Key × D)}, RepK K F v d → RepK K F w e → RepK K F (v ++ w) (d ++ e)
  | _, _, _, _, .nil, s => s
  | _, _, _, _, .cons h r, s => .cons h (RepK.append r s)
theorem RepK.mapPut {k : Key} {y : V} {dy : D} (hy : Rep K F y dy) : ∀ {v : List (Key × V)} {d : List (Key × D)}, RepK K F v d → RepK K F (v.map fun kv => if kv.1 = k then (kv.1, y) else kv) (d.map fun kv => if kv.1 = k then (kv.1, dy) else kv)
  | _, _, .nil => .nil
  | _, _, .cons (k := k') h r => by
    rw [List.map_cons, List.map_cons]
    by_cases e : k' = k
    · simp only [e, if_true]; exact .cons hy (RepK.mapPut hy r)
    · simp only [e, if_false]; exact .cons h (RepK.mapPut hy r)
theorem RepK.put {k : Key} {y : V} {dy : D} (hy : Rep K F y dy) {v : List (Key × V)} {d : List (Key × D)} (r : RepK K F v d) : RepK K F (putK v k y) (JrP d k dy) := by
  unfold putK JrP
  rw [r.any]
  split
  · exact r.mapPut hy
  · exact r.append (.cons hy .nil)
theorem RepK.merge : ∀ {more : List (Key × V)} {dm : List (Key × D)} {v : List (Key × V)} {d : List (Key × D)}, RepK K F more dm → RepK K F v d → RepK K F (mergeK v more) (Jn2 d dm)
  | _, _, _, _, .nil, s => s
  | _, _, _, _, .cons (k := k) (vs := vs) (ds := ds) h r, s => (show RepK K F (mergeK (putK _ k _) vs) (Jn2 (JrP _ k _) ds) from RepK.merge r (s.put h))
theorem JsQ {v : V} {d : D} {k : Key} (h : Rep K F v d) (e : keyD d = some k) : v = kV k := by
  cases h <;> cases e <;> rfl
end
theorem Jrn {X : Cx} {W : DWX} {Z F : Hp} {p : Addr} {o : HO} (tk : Takes X (XW X.K Z F W)) (hz : Z p = none) (nt : ∀ ps, o ≠ .tbl ps := by nofun) : Takes X (XW X.K (upd Z p o) F W) :=
  Takes.imp tk fun c d st' H' ⟨fs, r, M', ex, l, qs, m, sm, w⟩ => by
    obtain ⟨z1, z2, _⟩ := m.show_ hz nt
    exact ⟨fs, r, M', ex.mono z2, l, fun i d e => let ⟨v, a, b⟩ := qs i d e; ⟨v, a, b.mono z2⟩, z1, sm.trans z2, w⟩
def DqP (k : Kt) (Z : Hp) (st : Sg) (r : Rho) (F : Hp) (Q : List (Key × D) → Mh → Prop) : List (V × V) → Hp → Prop := fun ps H' => ∃ kvs ds M', SR k Z r M' st H' ∧ ps = kvs.map (fun kv => (kV kv.1, kv.2)) ∧ RepK k.K (out Z M' H') kvs ds ∧ Same F (out Z M' H') ∧ Q ds M'
inductive DPs (X : Cx) (W : DWX) (pos : Pos) : List (Option Expr) → List Expr → List (DTE × DTE) → Prop
  | nil : DPs X W pos [] [] []
  | cons {k v : Expr} {ks : List (Option Expr)} {vs : List Expr} {tk tv : DTE} {trs : List (DTE × DTE)} (hk : DE X W k tk) (hv : DE X W v tv) (hr : DPs X W pos ks vs trs) : DPs X W pos (some k :: ks) (v :: vs) ((tk, tv) :: trs)
theorem DPs.pps {X : Cx} {W : DWX} {pos : Pos} {ks : List (Option Expr)} {vs : List Expr} {trs : List (DTE × DTE)} (h : DPs X W pos ks vs trs) : PPs X pos ks vs (trs.map fun p => (Jpp (kx X W) p.1, Jpp (kx X W) p.2)) := by
  induction h with
  | nil => exact pps_nil
  | cons hk hv _ ih => exact pps_cons hk.pe hv.pe ih
theorem Jph {X : Cx} {W : DWX} {Z : Hp} {st : Sg} {r : Rho} : ∀ {trs : List (DTE × DTE)} {H : Hp} {M : Mh} {Q : List (Key × D) → Mh → Prop} {R : List (V × V) → Hp → Prop}, SR (kx X W) Z r M st H → Jp5 trs r M Q → (∀ ps H', DqP (kx X W) Z st r (out Z M H) Q ps H' → R ps H') →
    tPairs (trs.map fun p => (Jpp (kx X W) p.1, Jpp (kx X W) p.2)) st H R
  | [], H, M, Q, R, q, h, k => k [] H ⟨[], [], M, q, rfl, .nil, Same.refl _, h⟩
  | (tk, tv) :: trs, H, M, Q, R, q, h, k => ⟨Z, r, M, _, q, h, fun x H1 ⟨dx, M1, q1, rx, sm1, h1⟩ => ⟨Z, r, M1, _, q1, h1, fun y H2 ⟨dy, M2, q2, ry, sm2, h2⟩ =>
      Jph (trs := trs) q2 h2 fun ps H3 ⟨kvs, ds, M3, q3, e, rk, sm3, kk, hk, hq⟩ => k _ H3 ⟨(kk, y) :: kvs, (kk, dy) :: ds, M3, q3, by rw [JsQ rx hk, e]; rfl, .cons (ry.mono sm3) rk, (sm1.trans sm2).trans sm3, hq⟩⟩⟩
section
variable {K : PySem.W.Frag} {Z H : Hp} {M : Mh} {p : Addr}
theorem JsR {xs : List (Key × V)} {ds : List (Key × D)} (m : HR K (upd Z p (.dK xs)) M H) (hz : Z p = none) (rl : RepK K (out (upd Z p (.dK xs)) M H) xs ds) : HR K Z (mset M p (.dic ds)) H ∧ out Z (mset M p (.dic ds)) H = out (upd Z p (.dK xs)) M H := by
  have hp := m.hid p _ upd_same
  have eo : out Z (mset M p (.dic ds)) H = out (upd Z p (.dK xs)) M H := by
    funext b
    by_cases hb : b = p
    · subst hb
      rw [Jok upd_same, Joe Jbt]
    · unfold out
      rw [upd_ne hb, JcG hb]
  refine ⟨⟨fun a u e => ?_, fun a u e => ?_, m.tb.show_ hz (by nofun)⟩, eo⟩
  · rw [eo]
    by_cases ha : a = p
    · subst ha
      rw [Jbt] at e
      cases e
      exact ⟨xs, hp.1, rl⟩
    · rw [JcG ha] at e
      exact m.mem a u e
  · have ha : a ≠ p := by
      rintro rfl
      rw [hz] at e; cases e
    obtain ⟨z1, z2, z3⟩ := m.hid a u (by rw [upd_ne ha]; exact e)
    exact ⟨z1.mono (by rw [eo]; exact Same.refl _) fun _ z => z, by rw [JcG ha]; exact z2, z3⟩
end
theorem Jwa {k : Kt} {Z H1 H' : Hp} {st : Sg} {r : Rho} {M1 M2 : Mh} {L : Addr} {acc : List (Key × D)} {av : List (Key × V)} {Q : QD} (hz : Z L = none) (q1 : ∀ (M3 : Mh), HR k.K Z M3 H' → Same (out Z M1 H1) (out Z M3 H') → SR k Z r M3 st H') (m : HR k.K (upd Z L (.dK av)) M2 H')
    (rl : RepK k.K (out (upd Z L (.dK av)) M2 H') av acc) (sm : Same (out Z M1 H1) (out (upd Z L (.dK av)) M2 H')) (h : ∀ a, M2 a = none → Q (.ref a) (mset M2 a (.dic acc))) : EQ k Z st r (out Z M1 H1) Q (.ref L) H' := by
  obtain ⟨z1, z2⟩ := JsR m hz rl
  exact ⟨.ref L, _, q1 _ z1 (by rw [z2]; exact sm), .ref L, by rw [z2]; exact sm, h L (m.hid L _ upd_same).2.1⟩
def JrQ (trs : List (DTE × DTE)) : DTE := fun r M Q => Jp5 trs r M fun kvs M1 => kvs.length ≤ 15 ∧ ∀ p, M1 p = none → Q (.ref p) (mset M1 p (.dic (Jn2 [] kvs)))
theorem JsS {X : Cx} {W : DWX} {pos : Pos} {keys : List (Option Expr)} {values : List Expr} {trs : List (DTE × DTE)} (h : DPs X W pos keys values trs) (hall : keys.all (·.isSome) = true := by rfl) (hl : keys.length = values.length := by rfl) (h0 : keys ≠ [] := by simp)
    (h15 : keys.length ≤ 15 := by decide) : DE X W (.Dict keys values pos) (JrQ trs) := DE.of (pe_disp h.pps hall hl h0 h15) fun st H Z r M Q q hq => by
  intro p hp
  have nown : ∀ (xs : List (Key × V)) x, HO.dK xs ≠ .own x := fun _ _ e => nomatch e
  obtain ⟨z1, z2⟩ := q.hr.hide (o := .dK []) hp (nown [])
  have hzp := (q.hr.fresh hp).2
  have q0 : SR (kx X W) (upd Z p (.dK [])) r M st (upd H p (.dK [])) := ⟨q.len, fun i d e => by rw [z2]; exact q.sl i d e, z1, ?_⟩
  · refine Jph q0 hq fun ps H3 ⟨kvs, ds, M3, q3, e, rk, sm3, l15, hQ⟩ => ?_
    refine ⟨(q3.hr.hidL (p := p) upd_same), kvs, e, by rw [rk.length]; exact l15, ?_⟩
    obtain ⟨y1, y2⟩ := q3.hr.rehide (o' := .dK (mergeK [] kvs)) (nown _)
    rw [z2] at sm3
    exact Jwa hzp (fun M4 m4 sm4 => q.step m4 sm4) y1 (by rw [y2]; exact rk.merge .nil) (by rw [y2]; exact sm3) hQ
  · exact Jrn (by rw [z2]; exact q.tk) hzp
def frzD (te : DTE) : DTE := fun r M Q => te r M fun d M' => ∃ p kvs, d = .ref p ∧ M' p = some (.dic kvs) ∧ Q (.dic kvs) (mdel M' p)
theorem JrR {X : Cx} {W : DWX} {e : Expr} {te : DTE} (h : DE X W e te) : DE X W e (frzD te) := ⟨fun pins s st H Z r M Q I q hh => thn (h.run pins s st H Z r M _ I q hh) fun u s1 ⟨v, H1, I1, rv, d, M1, q1, rp, sm, p, kvs, ed, em, hq⟩ => by
  subst ed
  cases rp
  obtain ⟨xs, hx, rk⟩ := q1.hr.mem p _ em
  obtain ⟨od, I2⟩ := I1.lock hx trivial
  obtain ⟨m2, s2, r2⟩ := JsG (od := od) q1.hr em hx rk
  exact ⟨.ref p, _, I2, rv, .dic kvs, _, q1.step m2 s2, r2, sm.trans s2, hq⟩⟩
theorem Jrc {M : Mh} {kvs : List (Key × D)} {Q : QD} : (∀ p, M p = none → ∃ p' kvs', D.ref p = .ref p' ∧ (mset M p (.dic kvs)) p' = some (.dic kvs') ∧ Q (.dic kvs') (mdel (mset M p (.dic kvs)) p')) = (∀ p, M p = none → Q (.dic kvs) M) := by
  refine propext ⟨fun h p hp => ?_, fun h p hp => ⟨p, kvs, rfl, Jbt, by rw [JpP hp]; exact h p hp⟩⟩
  obtain ⟨p', kvs', e1, e2, e3⟩ := h p hp
  cases e1
  rw [Jbt] at e2
  cases e2
  rw [JpP hp] at e3
  exact e3
def Jus (trs : List (DTE × DTE)) : DTE := fun r M Q => Jp5 trs r M fun kvs M1 => kvs.length ≤ 15 ∧ ∀ p, M1 p = none → Q (.dic (Jn2 [] kvs)) M1
theorem Jut {X : Cx} {W : DWX} {pos : Pos} {keys : List (Option Expr)} {values : List Expr} {trs : List (DTE × DTE)} (h : DPs X W pos keys values trs) (hall : keys.all (·.isSome) = true := by rfl) (hl : keys.length = values.length := by rfl) (h0 : keys ≠ [] := by simp)
    (h15 : keys.length ≤ 15 := by decide) : DE X W (.Dict keys values pos) (Jus trs) := by
  have e : Jus trs = frzD (JrQ trs) := by
    funext r M Q
    unfold Jus frzD JrQ
    simp only [Jrc]
  rw [e]
  exact JrR (JsS h hall hl h0 h15)
def Juu : DTE := fun _ M Q => ∀ p, M p = none → Q (.ref p) (mset M p (.dic []))
theorem JrS {X : Cx} {W : DWX} {pos : Pos} : DE X W (.Dict [] [] pos) Juu := DE.of pe_dnewK fun st H Z r M Q q h => fun p hp => by
  have hf := q.hr.fresh hp
  have hx : ∀ b, b ≠ p → upd H p (.dK []) b = H b := fun b hb => upd_ne hb
  refine ⟨.ref p, _, q.mset (mo := .dic []) hx (.inl hp) ⟨[], upd_same, .nil⟩, .ref p, ?_, h p hf.1⟩
  rw [Jjk q.hr hx (.inl hp)]
  exact Same.refl _
theorem Jrd {X : Cx} {W : DWX} {pos : Pos} : DE X W (.Dict [] [] pos) (dC (.dic [])) := ⟨fun pins s st H Z r M Q I q h => (JrR JrS).run pins s st H Z r M Q I q ((Jrc (Q := Q)).mpr fun p hp => h)⟩
end DL

set_option maxHeartbeats 2000000
namespace DL
open PySem PySem.Spec PyProof.Rows L2

def NewP (sp : DSp) : DSp := fun ds M Q E => sp ds M (fun d M' => ∃ p i j k, d = .ref p ∧ M p = none ∧ Jny i j k ∧ M' = mset M p (.lst [.int i, .int j, .int k]) ∧ Q (.ref p) (mset M p .pool)) fun _ _ _ => False
theorem JqI {P : Program} {w : World} {K : PySem.W.Frag} {mg : Str → Option Value} {base : Heap} {k : Nat} {f : Addr} {fd : FuncData} {ps : List Str} {sp : DSp} (F : FnG P w K mg base k f fd ps sp) : FnG P w K mg base k f fd ps (NewP sp) where
  len := fun ds M Q E h => F.len _ _ _ _ h
  run := fun A outer s H Z M args us vs ds Q E hr e0 hb rv hh rp h => by
    refine codeAny_mono (F.run A outer s H Z M args us vs ds _ _ hr e0 hb rv hh rp h) fun z s' q => JtY (fun v H' q => ?_) (fun c d H' q => ?_) q
    · refine JtX (fun d M' m' rp' hq => ?_) q
      obtain ⟨p, i, j, k, ed, ep, po, eM, hQ⟩ := hq
      subst ed eM
      obtain ⟨m2, eo2⟩ := Jp6 m' po
      cases rp'
      exact ⟨.ref p, _, m2, .ref p, by rw [eo2]; exact Same.refl _, hQ⟩
    · obtain ⟨_, _, _, _, _, z⟩ := q
      exact z.elim

def Juv (n : Nat) : DSp := fun ds M Q _ => ∃ ns : List Int, ds = [.scr ns] ∧ ns.length ≤ n ∧ (∀ i ∈ ns, Builtin.Int.intBits i ≤ 1048576) ∧ (∀ a, M a = none) ∧ ∀ M', Q (.bl true) M'
def tblZ (K : PySem.W.Frag) : Hp := fun b => match (tabK K).find? (fun x => x.2.1 == b) with
  | some x => some (tblO x.2.2)
  | none => none
def TbB (K : PySem.W.Frag) (mg : Str → Option Value) (base : Heap) : Prop := ∀ x ∈ tabK K, LamX.TabB base mg x.1 x.2.1
theorem Juw {K : PySem.W.Frag} {h : Heap} (T : TabsOk K h) {x : Addr × Addr × Str} (hx : x ∈ tabK K) : tblZ K x.2.1 = some (tblO x.2.2) := by
  unfold tblZ
  cases e : (tabK K).find? (fun y => y.2.1 == x.2.1) with
  | none =>
    have := List.find?_eq_none.mp e x hx
    simp at this
  | some y =>
    have h1 := List.mem_of_find?_eq_some e
    have h2 : y.2.1 = x.2.1 := by simpa using List.find?_some e
    show some (tblO y.2.2) = _
    rw [T.uq y h1 x hx h2]
theorem Joq {K : PySem.W.Frag} {b : Addr} {o : HO} (h : tblZ K b = some o) : ∃ x ∈ tabK K, x.2.1 = b ∧ o = tblO x.2.2 := by
  unfold tblZ at h
  split at h
  · rename_i y e
    cases h
    exact ⟨y, List.mem_of_find?_eq_some e, by simpa using List.find?_some e, rfl⟩
  · cases h
theorem Jux {P : Program} {w : World} {K : PySem.W.Frag} {mg mb : Str → Option Value} {k n : Nat} {fa a : Addr} {fd : FuncData} {x : Str} {s : Shared} {vs : List Value} {ns : List Int} (KX : K.In s.heap) (hns : s.heap.Ns mainGlobals mg) (hb : s.heap.Ns builtinsNs mb) (hbb : ∀ x : Str, x ≠ "__name__" → mb x = bootBuiltins x)
    (hlim : s.heap.NoLimit) (hg : s.gens = #[]) (T : TabsOk K s.heap)
    (hbm : ∃ (bm : Addr) (ob : Obj), mg "__builtins__" = some (.ref bm) ∧ bm ≠ builtinsNs ∧ s.heap.get? bm = some ob ∧ ob.cls = .type "module" ∧ ob.dict = some builtinsNs ∧ ob.data = .plain)
    (ha : s.heap.get? a = some { cls := .type "list", data := .seq vs.toArray }) (hi : IntsAre vs ns) (hl : ns.length ≤ n) (hn : n ≤ sizeLine) (hbits : ∀ i ∈ ns, Builtin.Int.intBits i ≤ 1048576) (hr : Room k callerA)
    (F : ∀ base : Heap, K.In base → base.Ns mainGlobals mg → TbB K mg base → FnG P w K mg base k fa fd [x] (Juv n)) (hbind : ∀ (s : Shared) (u : Value), BindsTo s fd ⟨[u], []⟩ [(x, u)]) :
    codeAny (model P w) callerA (.call (.ref fa) ⟨[.ref a], []⟩) (fun r s' => r = .ok (.ret (.bool true)) ∧ OldK s.heap s'.heap ∧ s'.os = s.os ∧ AllBare s'.gens) s := by
  have rv := vals_ints hi
  have hlz : (ns.map V.int).length ≤ sizeLine := by rw [List.length_map]; exact Nat.le_trans hl hn
  have isT : ∀ b : Addr, tblZ K b ≠ none → s.heap.get? b = some { cls := .none, data := .fields #[] } ∧ K.lookup b = none := fun b hb => by
    cases e : tblZ K b with
    | none => exact absurd e hb
    | some o =>
      obtain ⟨x, hx, ex, _⟩ := Joq e
      rw [← ex]
      exact ⟨T.at_ x hx, T.no x hx⟩
  have aT : tblZ K a = none := by
    cases e : tblZ K a with
    | none => rfl
    | some o =>
      have q := (isT a (by rw [e]; simp)).1
      rw [ha] at q
      exact nomatch (show Data.seq vs.toArray _ = .fields #[] from congrArg Obj.data (Option.some.inj q))
  -- what is tracked: the script, where it is none of the module's own objects, and the tables
  obtain ⟨H, hH⟩ : ∃ H : Hp, H = fun b => if b = a ∧ K.lookup a = none then some (.frz { cls := .type "list", data := .seq vs.toArray } (.lst (ns.map V.int))) else if tblZ K b ≠ none then some (.tbl #[]) else none := ⟨_, rfl⟩
  have at_ : ∀ {b : Addr} {u : HO}, H b = some u → (b = a ∧ K.lookup a = none ∧ u = .frz { cls := .type "list", data := .seq vs.toArray } (.lst (ns.map V.int))) ∨ (tblZ K b ≠ none ∧ u = .tbl #[]) := fun {b u} e => by
    rw [hH] at e
    dsimp only at e
    by_cases h : b = a ∧ K.lookup a = none
    · rw [if_pos h] at e; cases e; exact .inl ⟨h.1, h.2, rfl⟩
    · rw [if_neg h] at e
      by_cases h2 : tblZ K b ≠ none
      · rw [if_pos h2] at e; cases e; exact .inr ⟨h2, rfl⟩
      · rw [if_neg h2] at e; cases e
  have atT : ∀ {b : Addr}, tblZ K b ≠ none → H b = some (.tbl #[]) := fun {b} h => by
    rw [hH]
    dsimp only
    rw [if_neg (fun z => h (by rw [z.1]; exact aT)), if_pos h]
  have free : ∀ {b : Addr}, (∀ u, H b ≠ some u) → H b = none := fun {b} h => by
    cases q : H b with
    | none => rfl
    | some u => exact absurd q (h u)
  have hS : SqL K H a (ns.map V.int) := by
    cases q : K.lookup a with
    | none => exact .inl (.inr ⟨_, by rw [hH]; exact if_pos ⟨rfl, q⟩⟩)
    | some o =>
      have e := KX a o q
      rw [ha] at e
      have e2 := Option.some.inj e
      subst e2
      exact .inr ⟨_, vs.toArray, _, q, rfl, rfl, rfl, by rw [List.size_toArray, ← rv.length]; exact hlz, by simpa using rv⟩
  have hok : HOk P w H s.heap := fun b u e => by
    rcases at_ e with ⟨rfl, _, rfl⟩ | ⟨ht, rfl⟩
    · exact ⟨ha, hlz, vs, _, rv, ha⟩
    · exact (isT b ht).1
  have noD : ∀ {b : Addr} {o : Obj}, s.heap.get? b = some o → (∀ vs n, o.data ≠ .seq vs n) → o.data ≠ .fields #[] → H b = none := fun {b o} e h1 h2 => free fun u q => by
    rcases at_ q with ⟨rfl, _, _⟩ | ⟨ht, _⟩
    · rw [ha] at e
      have e2 := Option.some.inj e
      exact h1 _ _ (by rw [← e2])
    · rw [(isT b ht).1] at e
      have e2 := Option.some.inj e
      exact h2 (by rw [← e2])
  have dic : ∀ {b : Addr} {o : Obj} {es : Array DictEntry} {ep : Nat}, s.heap.get? b = some o → o.data = .dict es ep → H b = none := fun {b o es ep} e d => noD e (fun vs n z => by rw [d] at z; cases z) (fun z => by rw [d] at z; cases z)
  have ns_ : ∀ {b : Addr} {m : Str → Option Value}, s.heap.Ns b m → (hidT s.heap H).Ns b m := fun {b m} ⟨o, es, ep, e, d, r⟩ => ⟨o, es, ep, hidT_get e (dic e d), d, r⟩
  have hK : K.In (hidT s.heap H) := fun b o e => hidT_get (KX b o e) (free fun u q => by
    rcases at_ q with ⟨rfl, hk, _⟩ | ⟨ht, _⟩
    · rw [hk] at e
      cases e
    · rw [(isT b ht).2] at e
      cases e)
  have e0 : Env0 P w K mg (hidT s.heap H) callerA [] s H :=
    ⟨rfl, ⟨hK, ns_ hns, ⟨mb, ns_ hb, hbb⟩, let ⟨mc, h1, h2⟩ := hlim; ⟨mc, ns_ h1, h2⟩⟩, fun b o e => of_hidT e, Nat.le_of_eq (hidT_size _ _), trivial, fun b hb => absurd (show b ∈ ([] : List Addr) from hb) (by simp), hok, .of_eq hg⟩
  have TB : TbB K mg (hidT s.heap H) := fun y hy => by
    have eT := T.at_ y hy
    refine ⟨?cd, ?bm, ?gl⟩
    case cd =>
      have cd := T.code y hy
      unfold PySem.W.CodeHd at cd ⊢
      obtain ⟨oc, us, fl, tf, fg, tg, inF, tx, tt, c1, c2, c3, c4, c5⟩ := cd
      refine ⟨oc, us, fl, tf, fg, tg, inF, tx, tt, hidT_get c1 (noD c1 (fun _ _ e => ?_) (fun e => ?_)), c2, c3, c4, c5⟩ <;> rw [c3] at e <;> cases e
      simp at c4
    case bm =>
      obtain ⟨am, om, m1, m2, m3, m4, m5, m6⟩ := hbm
      have plainD : ∀ o : Obj, s.heap.get? am = some o → o.data = .plain := fun o e => by
        rw [m3] at e
        rw [← Option.some.inj e]; exact m6
      refine ⟨am, om, m1, m2, fun e => ?_, fun e => ?_, hidT_get m3 (noD m3 (fun _ _ e => by rw [m6] at e; cases e) (fun e => by rw [m6] at e; cases e)), m4, m5, m6⟩
      · obtain ⟨on, _, _, n1, n2, _⟩ := id hns
        have := plainD on (by rw [e]; exact n1)
        rw [n2] at this; cases this
      · have := plainD _ (by rw [e]; exact eT)
        cases this
    case gl =>
      intro e
      obtain ⟨on, _, _, n1, n2, _⟩ := id hns
      rw [e, eT] at n1
      rw [← Option.some.inj n1] at n2; cases n2
  have hh : HR K (tblZ K) (fun _ => none) H := ⟨fun _ _ e => (nomatch e), fun b o e => by
    obtain ⟨x, hx, ex, eo⟩ := Joq e
    subst eo
    exact ⟨⟨#[], atT (by rw [e]; simp), True.intro, fun pos cv hc => by
      rw [show codeAmong pos (#[] : Array Value).toList = none from rfl] at hc
      cases hc⟩, rfl, fun x e => nomatch e⟩, ⟨fun b ps e => by
    rcases at_ e with ⟨_, _, z⟩ | ⟨ht, _⟩
    · cases z
    · cases e2 : tblZ K b with
      | none => exact absurd e2 ht
      | some o =>
        obtain ⟨x, hx, ex, _⟩ := Joq e2
        exact ⟨x, hx, ex⟩, fun x hx => Juw T hx, fun b φ e => by
    obtain ⟨x, hx, ex, eo⟩ := Joq e
    cases eo⟩⟩
  have hout : SqL K (out (tblZ K) (fun _ => none) H) a (ns.map V.int) := by
    rcases hS with (h | ⟨o, h⟩) | h
    · exact .inl (.inl (by rw [Jb4 aT rfl]; exact h))
    · exact .inl (.inr ⟨o, by rw [Jb4 aT rfl]; exact h⟩)
    · exact .inr h
  refine codeAny_mono ((F _ hK (ns_ hns) TB).run callerA [] s H (tblZ K) (fun _ => none) ⟨[.ref a], []⟩ [.ref a] [.ref a] [.scr ns] (fun d _ => d = .bl true) (fun _ _ _ => False) ⟨hr, rfl⟩ e0 (hbind s (.ref a)) (.cons rfl .nil) hh
    (.cons (.scr hout) .nil) ⟨ns, rfl, hl, hbits, fun _ => rfl, fun _ => rfl⟩) fun z s' h => ?_
  cases z with
  | error e => exact (JxO h).elim
  | ok fl =>
    cases fl with
    | next => exact False.elim h
    | brk => exact False.elim h
    | cont => exact False.elim h
    | ret u =>
      obtain ⟨v, H', os, bare, un, hok', r', d, M', m', rp, sm, ed⟩ := h
      have ed' : d = .bl true := ed
      subst ed'
      cases rp
      cases (show u = Value.bool true from r')
      have key : ∀ b o, tblZ K b = none → s.heap.get? b = some o → s'.heap.get? b = some o := fun b o nb e => by
        cases q : H b with
        | none => exact un.keep b o e q (fun z => by cases (show b ∈ ([] : List Addr) from z)) (by simp)
        | some u =>
          rcases at_ q with ⟨rfl, _, rfl⟩ | ⟨ht, _⟩
          · rw [ha] at e
            rw [← e]
            exact (hok' b _ (un.frzs b _ _ q)).1
          · exact absurd nb ht
      have grown : ∀ b, tblZ K b ≠ none → ∃ more : Array Value, s'.heap.get? b = some { cls := .none, data := .fields more } := fun b hb => by
        obtain ⟨more, z⟩ := un.tbls b #[] (atT hb)
        exact ⟨_, hok' b _ z⟩
      refine ⟨rfl, ⟨fun b o e => ?_, fun b o e => ?_⟩, os, bare⟩
      · cases q : tblZ K b with
        | none => exact .inl (key b o q e)
        | some u =>
          have hb : tblZ K b ≠ none := by rw [q]; simp
          obtain ⟨more, hm⟩ := grown b hb
          obtain ⟨x, hx, ex, _⟩ := Joq q
          have e1 := (isT b hb).1
          rw [e1] at e
          cases e
          have cd := T.code x hx
          rw [ex] at cd
          exact .inr (.inl ⟨(cd.tab e1).isCodeTable, rfl, #[], more, rfl, by rw [Array.empty_append]; exact hm⟩)
      · cases q : tblZ K b with
        | none => exact ⟨o, key b o q e⟩
        | some u =>
          obtain ⟨more, hm⟩ := grown b (by rw [q]; simp)
          exact ⟨_, hm⟩
theorem walk_g {l : PySem.W.OpenLaw} {n k : Nat} {q : Program} {loose : List Str} {XP : (Str → Option Value) → Heap → Prop} {YP : World → Heap → Prop} {d : DefRec} {x : Str} (hn : l.most = some n) (hn2 : n ≤ sizeLine) (hdf : d.params.defaults = []) (hr : Room k callerA)
    (F : ∀ (w : World) (mg : Str → Option Value) (fa : Addr) (h : Heap), YP w h → h.Ns mainGlobals mg → mg d.name = some (.ref fa) → ∃ (K : PySem.W.Frag) (fd : FuncData), K.In h ∧ TabsOk K h ∧ (∀ (s : Shared) (u : Value), BindsTo s fd ⟨[u], []⟩ [(x, u)]) ∧
      ∀ base : Heap, K.In base → base.Ns mainGlobals mg → TbB K mg base → FnG l.prog w K mg base k fa fd [x] (Juv n)) :
    PySem.W.WalkO q loose XP YP l.row.toRowW d [] (fun f vs => PySem.call f vs) := by
  refine Att.attach_callB hn hdf fun w s₀ s₁ mg mb fa o pm cd doc a vs ns G Y ho hd hcd hmg hobj hints hlen hbits hg => ?_
  obtain ⟨K, fd, KX, T, hb, hF⟩ := F w mg fa _ Y G.T.g hmg
  exact Jux KX G.T.g G.T.b G.T.builtins G.T.nolimit hg T G.T.bmain hobj hints hlen hn2 hbits hr hF hb
end DL

set_option maxHeartbeats 2000000
namespace DL
open PySem PySem.Spec PyProof.Rows L2 He

theorem JsV {n : Nat} {fa : List Fc} {fn : List He5.DefA} {g : Addr → Option Obj} {s : Shared} (h : ∀ a, g a = s.heap.get? a) : JsU n fa fn g = (Juy n fa fn).obs s := by
  have e : g = s.heap.get? := funext h
  rw [e]
  rfl
section
variable {fa : List Fc} {fn : List He5.DefA} {K : PySem.W.Frag}
theorem SaysF.fact (c : SaysF fa fn K) (i : Nat) {f : Fc} (h : fa[i]? = some f := by rfl) : f K = true :=
  List.all_eq_true.mp (ba (show ((fa.all fun f => f K) && fn.all fun d => d.ok K) = true from congrArg (fun z : AlD => z.1) c)).1 f (List.mem_of_getElem? h)
theorem SaysF.def_ (c : SaysF fa fn K) (i : Nat) {d : He5.DefA} (h : fn[i]? = some d := by rfl) : ∃ fd, FunD K d.name d.qual d.params d.body d.scope (d.dvs K) (d.kws K) (d.at_ K) fd := by
  have c2 := (ba (show ((fa.all fun f => f K) && fn.all fun d => d.ok K) = true from congrArg (fun z : AlD => z.1) c)).2
  have e : (fn.map fun d => He5.fnA K (d.at_ K))[i]? = (fn.map He5.DefA.val)[i]? := congrArg (fun z : AlD => z.2[i]?) c
  rw [List.getElem?_map, List.getElem?_map, h] at e
  exact He5.DefA.funD (Option.some.inj e) (List.all_eq_true.mp c2 d (List.mem_of_getElem? h))
end
theorem Jfg {α : Type} [DecidableEq α] {a b : α} (h : isT a b = true) : a = b := of_decide_eq_true h
section
variable {K : PySem.W.Frag} {x f m : Str} {i : Nat}
theorem bNoT_ok (h : bNoT K = true) : tabK K = [] := List.isEmpty_iff.mp h
end
end DL

set_option maxHeartbeats 2000000
namespace DL
open PySem PySem.Spec PyProof.Rows L2

def sp0 (g : Mh → QD → DXK → Prop) : DSp := fun ds M Q E => ds = [] ∧ g M Q E
def sp1 (g : D → Mh → QD → DXK → Prop) : DSp := fun ds M Q E => ∃ a, ds = [a] ∧ g a M Q E
def sp2 (g : D → D → Mh → QD → DXK → Prop) : DSp := fun ds M Q E => ∃ a b, ds = [a, b] ∧ g a b M Q E
def sp3 (g : D → D → D → Mh → QD → DXK → Prop) : DSp := fun ds M Q E => ∃ a b c, ds = [a, b, c] ∧ g a b c M Q E
def sp4 (g : D → D → D → D → Mh → QD → DXK → Prop) : DSp := fun ds M Q E => ∃ a b c d, ds = [a, b, c, d] ∧ g a b c d M Q E
def sp5 (g : D → D → D → D → D → Mh → QD → DXK → Prop) : DSp := fun ds M Q E => ∃ a b c d e, ds = [a, b, c, d, e] ∧ g a b c d e M Q E
def sp6 (g : D → D → D → D → D → D → Mh → QD → DXK → Prop) : DSp := fun ds M Q E => ∃ a b c d e f, ds = [a, b, c, d, e, f] ∧ g a b c d e f M Q E
theorem JrV {g} {ds : List D} {M : Mh} {Q : QD} {E : DXK} (h : sp1 g ds M Q E) : ds.length = 1 := by obtain ⟨_, rfl, _⟩ := h; rfl
theorem JrW {g} {ds : List D} {M : Mh} {Q : QD} {E : DXK} (h : sp2 g ds M Q E) : ds.length = 2 := by obtain ⟨_, _, rfl, _⟩ := h; rfl
theorem OkF.newPool {P : Program} {w : World} {K : PySem.W.Frag} {mg : Str → Option Value} {base : Heap} {k : Nat} {d : He5.DefA} {ps : List Str} {sp : DSp} (F : OkF P w K mg base k d ps sp) : OkF P w K mg base k d ps (NewP sp) := by
  obtain ⟨fd, a, b, c⟩ := F
  exact ⟨fd, a, JqI b, c⟩
section
variable {K : PySem.W.Frag} {F : Hp}
def gP {α : Type} (pick : List (Nat ⊕ Nat)) (l m : List α) : List α := pick.filterMap fun i => match i with
  | .inl i => l[i]?
  | .inr i => m[i]?
theorem JrX {vs zs : List V} {us ws : List Value} (h1 : Vals vs us) (h2 : Vals zs ws) : ∀ pick : List (Nat ⊕ Nat), Vals (gP pick vs zs) (gP pick us ws)
  | [] => .nil
  | p :: r => by
    have ih := JrX h1 h2 r
    have one : ∀ {a : List V} {b : List Value} (i : Nat), Vals a b → (a[i]? = none ∧ b[i]? = none) ∨ ∃ x y, a[i]? = some x ∧ b[i]? = some y ∧ RelV x y := by
      intro a b i h
      induction h generalizing i with
      | nil => exact .inl ⟨by simp, by simp⟩
      | cons h t ih =>
        cases i with
        | zero => exact .inr ⟨_, _, rfl, rfl, h⟩
        | succ i => simpa using ih i
    unfold gP at ih ⊢
    rw [List.filterMap_cons, List.filterMap_cons]
    cases p with
    | inl i =>
      rcases one i h1 with ⟨e1, e2⟩ | ⟨x, y, e1, e2, h⟩
      · simp only [e1, e2]; exact ih
      · simp only [e1, e2]; exact .cons h ih
    | inr i =>
      rcases one i h2 with ⟨e1, e2⟩ | ⟨x, y, e1, e2, h⟩
      · simp only [e1, e2]; exact ih
      · simp only [e1, e2]; exact .cons h ih
theorem JrY {vs zs : List V} {ds es : List D} (h1 : RepL K F vs ds) (h2 : RepL K F zs es) : ∀ pick : List (Nat ⊕ Nat), RepL K F (gP pick vs zs) (gP pick ds es)
  | [] => .nil
  | p :: r => by
    have ih := JrY h1 h2 r
    have one : ∀ {a : List V} {b : List D} (i : Nat), RepL K F a b → (a[i]? = none ∧ b[i]? = none) ∨ ∃ x y, a[i]? = some x ∧ b[i]? = some y ∧ Rep K F x y := fun {a b} i h => by
      cases e : b[i]? with
      | none =>
        refine .inl ⟨?_, rfl⟩
        rw [List.getElem?_eq_none_iff] at e ⊢
        rw [h.length]; exact e
      | some d =>
        obtain ⟨v, e1, e2⟩ := h.get e
        exact .inr ⟨v, d, e1, rfl, e2⟩
    unfold gP at ih ⊢
    rw [List.filterMap_cons, List.filterMap_cons]
    cases p with
    | inl i =>
      rcases one i h1 with ⟨e1, e2⟩ | ⟨x, y, e1, e2, h⟩
      · simp only [e1, e2]; exact ih
      · simp only [e1, e2]; exact .cons h ih
    | inr i =>
      rcases one i h2 with ⟨e1, e2⟩ | ⟨x, y, e1, e2, h⟩
      · simp only [e1, e2]; exact ih
      · simp only [e1, e2]; exact .cons h ih
variable {x qual : Str} {params : Arguments} {body : List Stmt} {scope : Scope} {f : Addr} {fd : FuncData} {ps ks : List Str} {dvs : List V} {kws : List (Str × V)} {n : Nat}
theorem Bd.kw (pick : List (Nat ⊕ Nat)) (F : FunD K x qual params body scope dvs kws f fd) (hd : dvs = [])
    (h : ∀ (kV doc pm : Value) (an : Option Addr) (cdv ct : Value) (us ws : List Value), us.length = n → ws.length = ks.length → bindArgs (PySem.W.fnOf x qual params body scope .none kV doc pm an cdv ct) ⟨us, ks.zip ws⟩ = pure (ps.zip (gP pick us ws))) : Bd K fd ps n ks (gP pick) := by
  obtain ⟨oc, od, dV, kV, doc, pm, an, cdv, ct, osl, rfl, lk, hcd, hD, hK⟩ := F.ex
  rcases hD with ⟨_, rfl⟩ | ⟨e, _⟩
  · exact ⟨fun s us ws vs zs ds es Fr X l1 l2 rv rz rp rpz => ⟨_, _, .of_eq (h kV doc pm an cdv ct us ws l1 l2), JrX rv rz pick, JrY rp rpz pick⟩⟩
  · exact absurd hd e
end
end DL

namespace DL
open PySem PySem.Spec PyProof.Rows L2 He
end DL
--FRONT
set_option maxHeartbeats 4000000
namespace DL.FR
open DL PySem PySem.Spec PyProof.Rows L2
theorem ob_eq (s : PySem.W.SharedT) : ob s = hk.obs s.abs := JsV (HandSHeadRun.getT_eq s)
section
open PySem.W PySem.Calls PyProof.Rows
end

end DL.FR

set_option maxHeartbeats 2000000
namespace DL
open PySem PySem.Spec PyProof.Rows L2

def Jp7 (o o' : DR2) (ta tb tc : DTE) : DTE := fun r M Q => ta r M fun x M1 => tb r M1 fun y M2 => o x y M2 fun z M3 => ∃ k, z = .bl k ∧ if k = true then tc r M3 fun w M4 => o' y w M4 Q else Q (.bl false) M3
def Jwr : D → Prop
  | .non => True
  | .bl _ => True
  | .int _ => True
  | .str _ => True
  | .tup _ => True
  | .lst _ => True
  | .dic _ => True
  | _ => False
def Jp8 : D → Bool
  | .str _ => true
  | _ => false
theorem JsX {a : D} {p : PyData} (h : py a = some p) : Jwr a := by
  cases a <;> first | trivial | cases h
end DL
namespace DL
open PySem PySem.Spec PyProof.Rows L2
def blkB (N : List Str) (sc scope : Scope) (own : List (Str × Nat)) : Bool :=
  decide (scope.kind = .function) && ((scope.names.all fun y => decide (scope.names.lookup y.1 = some y.2)) && ((own.all fun p => decide (N[p.2]? = some p.1)) &&
  ((scope.names.all fun y => !decide (y.2 = .free) || (decide (sc.names.lookup y.1 = some .cell) || decide (sc.names.lookup y.1 = some .free))) &&
    scope.names.all fun y => !(decide (y.2 = .local) || decide (y.2 = .cell)) || (decide (y.1 ∈ own.map (·.1)) || !decide (y.1 ∈ N)))))
theorem JqK {N : List Str} {sc scope : Scope} {own : List (Str × Nat)} (h : blkB N sc scope own = true) : BlkOk N sc scope own := by
  obtain ⟨h1, h⟩ := He.ba h
  obtain ⟨h2, h⟩ := He.ba h
  obtain ⟨h3, h⟩ := He.ba h
  obtain ⟨h4, h5⟩ := He.ba h
  refine ⟨of_decide_eq_true h1, fun y hy => of_decide_eq_true (List.all_eq_true.mp h2 y hy), fun p hp => of_decide_eq_true (List.all_eq_true.mp h3 p hp), fun y hy e => ?_, fun y hy e => ?_⟩
  · have := List.all_eq_true.mp h4 y hy
    simpa [e] using this
  · have := List.all_eq_true.mp h5 y hy
    have e2 : (decide (y.2 = .local) || decide (y.2 = .cell)) = true := by simpa using e
    rw [e2] at this
    simpa using this
theorem Jou {g} {M : Mh} {Q : QD} {E : DXK} : sp0 g [] M Q E ↔ g M Q E := ⟨fun h => by
  obtain ⟨e, h⟩ := h
  cases e
  exact h, fun h => ⟨rfl, h⟩⟩
theorem Jov {g} {a : D} {M : Mh} {Q : QD} {E : DXK} : sp1 g [a] M Q E ↔ g a M Q E := ⟨fun h => by
  obtain ⟨a1, e, h⟩ := h
  cases e
  exact h, fun h => ⟨_, rfl, h⟩⟩
theorem Jow {g} {a b : D} {M : Mh} {Q : QD} {E : DXK} : sp2 g [a, b] M Q E ↔ g a b M Q E := ⟨fun h => by
  obtain ⟨a1, b1, e, h⟩ := h
  cases e
  exact h, fun h => ⟨_, _, rfl, h⟩⟩
theorem Jox {g} {a b c : D} {M : Mh} {Q : QD} {E : DXK} : sp3 g [a, b, c] M Q E ↔ g a b c M Q E := ⟨fun h => by
  obtain ⟨a1, b1, c1, e, h⟩ := h
  cases e
  exact h, fun h => ⟨_, _, _, rfl, h⟩⟩
theorem Joy {g} {a b c d : D} {M : Mh} {Q : QD} {E : DXK} : sp4 g [a, b, c, d] M Q E ↔ g a b c d M Q E := ⟨fun h => by
  obtain ⟨a1, b1, c1, d1, e, h⟩ := h
  cases e
  exact h, fun h => ⟨_, _, _, _, rfl, h⟩⟩
theorem Joz {g} {a b c d e : D} {M : Mh} {Q : QD} {E : DXK} : sp5 g [a, b, c, d, e] M Q E ↔ g a b c d e M Q E := ⟨fun h => by
  obtain ⟨a1, b1, c1, d1, e1, e, h⟩ := h
  cases e
  exact h, fun h => ⟨_, _, _, _, _, rfl, h⟩⟩
theorem JoA {g} {a b c d e f : D} {M : Mh} {Q : QD} {E : DXK} : sp6 g [a, b, c, d, e, f] M Q E ↔ g a b c d e f M Q E := ⟨fun h => by
  obtain ⟨a1, b1, c1, d1, e1, f1, e, h⟩ := h
  cases e
  exact h, fun h => ⟨_, _, _, _, _, _, rfl, h⟩⟩
theorem JbB {k : Nat} {A : Around} (r : Rm k A) : A.units + 64 < cLine := by have := r.room.un; omega
theorem JuA {n i : Nat} (h : i < n) : ixN n (i : Int) = some i := by
  unfold ixN
  rw [if_pos (Int.natCast_nonneg i), if_pos Qh]
  rfl
theorem JuB {α : Type} (l : List α) (i : Nat) (h : i < l.length) : atI l (i : Int) = l[i]? := by
  unfold atI
  rw [JuA h]
  rfl
theorem ix_m {M : Mh} {p : Addr} {ds : List D} {i : Int} {d : D} {Q : QD} (e : M p = some (.lst ds)) (h : atI ds i = some d) (q : Q d M) : aIx (.ref p) (.int i) M Q := by
  refine ⟨ds, d, ?_, h, q⟩
  show (match M p with | some (.lst ds) => some ds | _ => none) = some ds
  rw [e]
theorem JuC {M : Mh} {p : Addr} {ds : List D} {i : Int} {j : Nat} {v : D} {Q : Mh → Prop} (e : M p = some (.lst ds)) (h : ixN ds.length i = some j) (q : Q (mset M p (.lst (ds.set j v)))) : JvY (.ref p) (.int i) v M Q :=
  ⟨p, ds, i, j, rfl, rfl, e, h, q⟩
end DL

set_option maxHeartbeats 2000000
namespace DL
open PySem PySem.Spec PyProof.Rows L2

mutual
def szP : PyData → Nat
  | .none => 4
  | .bool _ => 5
  | .int i => i.natAbs.log2 + 2
  | .str x => 10 * x.length + 2
  | .list xs => 2 + szA xs
  | .tuple xs => 4 + szA xs
  | .dict kvs => 2 + szK kvs
def szA : List PyData → Nat
  | [] => 0
  | x :: xs => szP x + 2 + szA xs
def szK : List (PyData × PyData) → Nat
  | [] => 0
  | (k, v) :: r => szP k + szP v + 4 + szK r
end
mutual
def okP : PyData → Bool
  | .none => true
  | .bool _ => true
  | .int i => decide (i.natAbs.log2 < 1920)
  | .str x => PyData.strOk x
  | .list xs => okA xs
  | .tuple xs => okA xs
  | .dict kvs => okK kvs
def okA : List PyData → Bool
  | [] => true
  | x :: xs => okP x && okA xs
def okK : List (PyData × PyData) → Bool
  | [] => true
  | (k, v) :: r => okP k && okP v && okK r
end
theorem JqL (ts : List Str) : (Str.join ", " ts).length ≤ piled ts := by
  by_cases h : ts = []
  · subst h; exact Nat.le_refl _
  · have := join_length_add ts h
    omega
mutual
theorem shown_le : ∀ p : PyData, okP p = true → p.showable = true ∧ p.shown.length ≤ szP p
  | .none, _ => ⟨rfl, by rw [PyData.shown_none]; decide⟩
  | .bool b, _ => ⟨rfl, by rw [PyData.shown_bool]; cases b <;> decide⟩
  | .int i, h => by
    have h1 : i.natAbs.log2 < 1920 := of_decide_eq_true (by simpa [okP] using h)
    refine ⟨by simpa [PyData.showable] using h1, ?_⟩
    rw [PyData.shown_int]
    have := int_text_length_le (a := i) (k := i.natAbs.log2 + 1) Qh Qh
    show (Str.ofString (toString i)).length ≤ _
    rw [PySem.ofString_length]
    simp only [szP]
    omega
  | .str x, h => by
    refine ⟨rfl, ?_⟩
    rw [PyData.shown_str]
    simp only [szP]
    refine StrLaws.reprText_len x fun c hc => ?_
    have q : x.cps.all (· < 0x110000) = true := by
      simp only [okP] at h
      exact h
    rw [← Array.all_toList] at q
    have := of_decide_eq_true (List.all_eq_true.mp q c hc)
    omega
  | .list xs, h => by
    obtain ⟨h1, h2⟩ := shown_leA xs (by simpa [okP] using h)
    refine ⟨by simpa [PyData.showable] using h1, ?_⟩
    rw [PyData.shown_list, strLen_append, strLen_append]
    have := JqL (PyData.shownAll xs)
    have e1 : (("[" : String) : Str).length = 1 := rfl
    have e2 : (("]" : String) : Str).length = 1 := rfl
    simp only [szP]
    omega
  | .tuple xs, h => by
    obtain ⟨h1, h2⟩ := shown_leA xs (by simpa [okP] using h)
    refine ⟨by simpa [PyData.showable] using h1, ?_⟩
    rw [PyData.shown_tuple, strLen_append, strLen_append]
    have := JqL (PyData.shownAll xs)
    have e1 : (("(" : String) : Str).length = 1 := rfl
    have e3 : (((if xs.length == 1 then ",)" else ")" : String) : Str)).length ≤ 2 := by split <;> decide
    simp only [szP]
    omega
  | .dict kvs, h => by
    obtain ⟨h1, h2⟩ := shown_leK kvs (by simpa [okP] using h)
    refine ⟨by simpa [PyData.showable] using h1, ?_⟩
    rw [PyData.shown_dict, strLen_append, strLen_append]
    have := JqL (PyData.shownKv kvs)
    have e1 : (("{" : String) : Str).length = 1 := rfl
    have e2 : (("}" : String) : Str).length = 1 := rfl
    simp only [szP]
    omega
theorem shown_leA : ∀ ps : List PyData, okA ps = true → PyData.showableAll ps = true ∧ piled (PyData.shownAll ps) ≤ szA ps
  | [], _ => ⟨rfl, by rw [PyData.shownAll_nil]; exact Nat.le_refl _⟩
  | p :: ps, h => by
    obtain ⟨h1, h2⟩ := He.ba (show (okP p && okA ps) = true by simpa [okA] using h)
    obtain ⟨a1, a2⟩ := shown_le p h1
    obtain ⟨b1, b2⟩ := shown_leA ps h2
    refine ⟨by simp [PyData.showableAll, a1, b1], ?_⟩
    rw [PyData.shownAll_cons, piled_cons]
    simp only [szA]
    omega
theorem shown_leK : ∀ ps : List (PyData × PyData), okK ps = true → PyData.showableKv ps = true ∧ piled (PyData.shownKv ps) ≤ szK ps
  | [], _ => ⟨rfl, by rw [PyData.shownKv_nil]; exact Nat.le_refl _⟩
  | (k, v) :: ps, h => by
    obtain ⟨h1, h3⟩ := He.ba (show (okP k && okP v && okK ps) = true by simpa [okK] using h)
    obtain ⟨h1, h2⟩ := He.ba h1
    obtain ⟨a1, a2⟩ := shown_le k h1
    obtain ⟨c1, c2⟩ := shown_le v h2
    obtain ⟨b1, b2⟩ := shown_leK ps h3
    refine ⟨by simp [PyData.showableKv, a1, b1, c1], ?_⟩
    rw [PyData.shownKv_cons, piled_cons, strLen_append, strLen_append]
    have e : ((": " : String) : Str).length = 2 := rfl
    simp only [szK]
    omega
end
theorem Jp9 {p : PyData} (h : okP p = true) (hs : szP p ≤ 16777216) (hd : p.depth ≤ 60) : Joo p := by
  obtain ⟨h1, h2⟩ := shown_le p h
  have := sizeLine_eq
  exact ⟨h1, by omega, hd⟩
def Good (p : PyData) : Prop := okP p = true ∧ szP p ≤ 100000 ∧ p.depth ≤ 20
def Thing (d : D) : Prop := ∃ p, py d = some p ∧ Good p
theorem Thing.plain {d : D} (h : Thing d) : Jwr d := by
  obtain ⟨p, e, _⟩ := h
  exact JsX e
theorem Thing.str {z : Str} (h : Thing (.str z)) : z.length ≤ 10000 ∧ PyData.strOk z = true := by
  obtain ⟨p, e, h1, h2, _⟩ := h
  cases e
  refine ⟨by simp only [szP] at h2; omega, by simp only [okP] at h1; exact h1⟩
end DL
namespace DL
open PySem PySem.Spec PyProof.Rows L2
theorem ix_s {M : Mh} {b : D} {ds : List D} {i : Int} {d : D} {Q : QD} (e : seqOf M b = some ds) (h : atI ds i = some d) (q : Q d M) : aIx b (.int i) M Q := by
  cases b <;> first | exact ⟨ds, d, e, h, q⟩ | cases e
theorem RetQ.drop {Q : QD} {d : D} {M : Mh} {p : Addr} {o : MO} (hp : M p = none) (h : Q d M) : RetQ Q d (mset M p o) := ⟨M, Jp0 hp, .inl h⟩
theorem log2_lt {n k : Nat} (h : n < 2 ^ (k + 1)) : n.log2 < k + 1 := by
  by_cases h0 : n = 0
  · subst h0; simp
  · exact (Nat.log2_lt h0).mpr h
theorem JrZ (i : Int) : PyData.strOk (Str.ofString (toString i)) = true := by
  unfold PyData.strOk
  rw [← Array.all_toList]
  refine List.all_eq_true.mpr fun c hc => decide_eq_true ?_
  by_cases h : c ≠ 45 ∧ (c < 48 ∨ 57 < c)
  · exact absurd hc (int_text_free' c h i)
  · omega
end DL

set_option maxHeartbeats 2000000
namespace DL
open PySem PySem.Spec PyProof.Rows L2

def dP (f : Rho → Option D) : DTE := fun r M Q => ∃ d, f r = some d ∧ Q d M
def dPA (f : Rho → Option (List D)) : DTA := fun r M Q => ∃ d, f r = some d ∧ Q d M
def fTup (g : Rho → Option (List D)) : Rho → Option D := fun r => match g r with
  | some l => if l.length ≤ 1000 then some (.tup l) else none
  | none => none
def fLst (g : Rho → Option (List D)) : Rho → Option D := fun r => match g r with
  | some l => if l.length ≤ 1000 then some (.lst l) else none
  | none => none
def JqM (f : Rho → Option D) (g : Rho → Option (List D)) : Rho → Option (List D) := fun r => match f r, g r with
  | some d, some l => some (d :: l)
  | _, _ => none
def fVar (i : Nat) : Rho → Option D := fun r => match r[i]? with
  | some (some d) => some d
  | _ => none
def fKv : List (Key × (Rho → Option D)) → Rho → Option (List (Key × D))
  | [], _ => some []
  | (k, f) :: l, r => match f r, fKv l r with
    | some d, some m => some ((k, d) :: m)
    | _, _ => none
def fDic (l : List (Key × (Rho → Option D))) : Rho → Option D := fun r => match fKv l r with
  | some m => if m.length ≤ 15 then some (.dic (Jn2 [] m)) else none
  | none => none
section
variable {X : Cx} {W : DWX} {pos : Pos} {e : Expr} {es : List Expr} {f : Rho → Option D} {g : Rho → Option (List D)}
theorem DE.imp {t t' : DTE} (h : DE X W e t) (k : ∀ r M Q, t' r M Q → t r M Q) : DE X W e t' := ⟨fun pins s st H Z r M Q I q z => h.run pins s st H Z r M Q I q (k _ _ _ z)⟩
theorem DA.imp {t t' : DTA} (h : DA X W es t) (k : ∀ r M Q, t' r M Q → t r M Q) : DA X W es t' := ⟨fun po pins s st H Z r M Q I q z => h.run po pins s st H Z r M Q I q (k _ _ _ z)⟩
theorem Jr0 {i j} : DE X W (.Constant (.int i) j pos) (dP fun _ => some (.int i)) := de_int.imp fun r M Q ⟨d, e, q⟩ => by cases e; exact q
theorem JuD {d : D} (h : DE X W e (dC d)) : DE X W e (dP fun _ => some d) := h.imp fun r M Q ⟨d', e, q⟩ => by cases e; exact q
theorem Jr1 : DA X W [] (dPA fun _ => some []) := da_nil.imp fun r M Q ⟨d, e, q⟩ => by cases e; exact q
theorem JmE (h : DE X W e (dP f)) (hr : DA X W es (dPA g)) (hs : starEach (e :: es) X.env = (false, eval e X.env) :: starEach es X.env := by rfl) : DA X W (e :: es) (dPA (JqM f g)) := (Jbk h hr hs).imp fun r M Q ⟨d, e, q⟩ => by
  unfold JqM at e
  split at e
  · rename_i a l h1 h2
    cases e
    exact ⟨a, h1, l, h2, q⟩
  · cases e
theorem Jt0 (h : DA X W es (dPA g)) : DE X W (.List es pos) (dP (fLst g)) := (JtR h).imp fun r M Q ⟨d, e, q⟩ => by
  unfold fLst at e
  split at e
  · rename_i l h1
    split at e
    · rename_i hl
      cases e
      exact ⟨l, h1, by have := sizeLine_eq; omega, q⟩
    · cases e
  · cases e
end
end DL
namespace DL
open PySem PySem.Spec PyProof.Rows L2
section
variable {i j : Int} {M : Mh} {Q : QD} {x y : Str} {a b : List D} {p : Int → Int → Bool} {f : Int → Int → Int} {g : Int → Int} {C : Int → Int → Prop} {ns : List Int}
theorem JoB : aAdd (.int i) (.int j) M Q ↔ Q (.int (i + j)) M := Iff.rfl
theorem JoC : aAdd (.str x) (.str y) M Q ↔ x.length + y.length ≤ sizeLine ∧ Q (.str (x ++ y)) M := Iff.rfl
theorem JoD : aAdd (.tup a) (.tup b) M Q ↔ a.length + b.length ≤ sizeLine ∧ Q (.tup (a ++ b)) M := Iff.rfl
theorem JoE : aAdd (.lst a) (.lst b) M Q ↔ a.length + b.length ≤ sizeLine ∧ Q (.lst (a ++ b)) M := Iff.rfl
theorem JoF : aInt f C (.int i) (.int j) M Q ↔ C i j ∧ Q (.int (f i j)) M := Iff.rfl
theorem JnB : Jrg f (.int i) (.int j) M Q ↔ Q (.int (f i j)) M := Iff.rfl
theorem JoG : aMul (.int i) (.int j) M Q ↔ IntMulOk i j ∧ Q (.int (i * j)) M := Iff.rfl
theorem JoH : aCmp p (.int i) (.int j) M Q ↔ Q (.bl (p i j)) M := Iff.rfl
theorem Jqa : aLen [.str x] M Q ↔ x.length ≤ sizeLine ∧ Q (.int x.length) M := Iff.rfl
theorem Jqb : aLen [.tup a] M Q ↔ Q (.int a.length) M := ⟨fun ⟨_, e, q⟩ => by cases e; exact q, fun q => ⟨_, rfl, q⟩⟩
theorem Jqc : aLen [.lst a] M Q ↔ Q (.int a.length) M := ⟨fun ⟨_, e, q⟩ => by cases e; exact q, fun q => ⟨_, rfl, q⟩⟩
theorem Jqd : aLen [.scr ns] M Q ↔ Q (.int ns.length) M := ⟨fun ⟨_, e, q⟩ => by cases e; simpa using q, fun q => ⟨_, rfl, by simpa using q⟩⟩
theorem Jqe : aNeg (.int i) M Q ↔ Q (.int (-i)) M := Iff.rfl
theorem Jr2 : aI1 g [.int i] M Q ↔ Q (.int (g i)) M := Iff.rfl
theorem Jr3 : aI2 f [.int i, .int j] M Q ↔ Q (.int (f i j)) M := Iff.rfl
theorem JoI : Juq [.int i] M Q ↔ i.natAbs.log2 < 1920 ∧ Q (.str (toString i)) M := Iff.rfl
end
end DL
namespace DL
open PySem PySem.Spec PyProof.Rows L2
def Signs (ds : List D) : Prop := ∃ ss : List Str, ds = ss.map D.str ∧ ∀ s ∈ ss, s.length ≤ 1 ∧ PyData.strOk s = true
theorem Signs.set {ds : List D} {x : Str} (h : Signs ds) (hx : x.length ≤ 1 ∧ PyData.strOk x = true) (j : Nat) : Signs (ds.set j (.str x)) := by
  obtain ⟨ss, rfl, h⟩ := h
  refine ⟨ss.set j x, by rw [List.map_set], fun s hs => ?_⟩
  rcases List.mem_or_eq_of_mem_set hs with hs | rfl
  · exact h s hs
  · exact hx
theorem Jr4 {α : Type} {l : List α} {i : Int} (h0 : 0 ≤ i) (h1 : i < l.length) : ∃ a, atI l i = some a ∧ a ∈ l := by
  obtain ⟨k, rfl⟩ := Int.eq_ofNat_of_zero_le h0
  have hk : k < l.length := by omega
  exact ⟨l[k], by show atI l (k : Int) = _; rw [JuB _ _ hk, List.getElem?_eq_getElem hk], List.getElem_mem hk⟩
end DL
namespace DL
open PySem PySem.Spec PyProof.Rows L2
theorem Jqf {i j : Int} {M : Mh} {Q : QD} : aEq (.int i) (.int j) M Q ↔ Q (.bl (i == j)) M := ⟨fun ⟨_, _, e1, e2, _, _, q⟩ => by
  cases e1; cases e2
  simpa [PyData.eqv] using q, fun q => ⟨_, _, rfl, rfl, by simp [SeqAt.shaped, PyData.canLay0, PyData.depth], by simp [SeqAt.shaped, PyData.canLay0, PyData.depth], by simpa [PyData.eqv] using q⟩⟩
theorem Jqg {i j : Int} {M : Mh} {Q : QD} : aNe (.int i) (.int j) M Q ↔ Q (.bl (!(i == j))) M := ⟨fun ⟨_, _, e1, e2, _, _, q⟩ => by
  cases e1; cases e2
  simpa [PyData.eqv] using q, fun q => ⟨_, _, rfl, rfl, by simp [SeqAt.shaped, PyData.canLay0, PyData.depth], by simp [SeqAt.shaped, PyData.canLay0, PyData.depth], by simpa [PyData.eqv] using q⟩⟩
end DL
namespace DL
open PySem PySem.Spec PyProof.Rows L2
def aEqT : DR2 := fun x y M Q => match x, y with
  | .str a, .str b => Q (.bl (decide (a = b))) M
  | _, _ => False
def aNeT : DR2 := fun x y M Q => match x, y with
  | .str a, .str b => Q (.bl (!decide (a = b))) M
  | _, _ => False
theorem Jr5 {a b : Str} : decide (V.str a = V.str b) = decide (a = b) := by
  by_cases h : a = b
  · subst h; simp
  · rw [decide_eq_false h]; exact decide_eq_false fun z => h (by cases z; rfl)
section
variable {X : Cx} {W : DWX}
theorem Jws : DOp X W (compareOp .Eq) aEqT := .of op_eq fun st H Z r M x y da db Q q ra rb h => by
  unfold aEqT at h
  split at h
  · cases ra; cases rb
    refine ⟨rfl, EQ.val q (.bl _) ?_⟩
    rw [Jr5]; exact h
  · exact h.elim
theorem Jwt : DOp X W (compareOp .NotEq) aNeT := .of op_ne fun st H Z r M x y da db Q q ra rb h => by
  unfold aNeT at h
  split at h
  · cases ra; cases rb
    refine ⟨rfl, EQ.val q (.bl _) ?_⟩
    rw [Jr5]; exact h
  · exact h.elim
end
theorem JoJ {x y : Str} {M : Mh} {Q : QD} : aNeT (.str x) (.str y) M Q ↔ Q (.bl (!decide (x = y))) M := Iff.rfl
theorem JoK {x y : Str} {M : Mh} {Q : QD} : aEqT (.str x) (.str y) M Q ↔ Q (.bl (decide (x = y))) M := Iff.rfl
theorem Jr6 {ds : List D} {ps : List PyData} (h : pyL ds = some ps) : py (.lst ds) = some (.list ps) := by
  show (pyL ds).map PyData.list = _
  rw [h]; rfl
theorem Jre {d : D} {ds : List D} {p : PyData} {ps : List PyData} (h1 : py d = some p) (h2 : pyL ds = some ps) : pyL (d :: ds) = some (p :: ps) := by
  show (match py d, pyL ds with | some p, some ps => some (p :: ps) | _, _ => none) = _
  rw [h1, h2]
theorem JqN {p : TPat} {tt : DTT} {te : DTE} {r0 : Rho} {Q : QD} (Inv : Mh → Prop) (R : D → Option D → Prop) : ∀ {items acc : List D} {M : Mh},
    (∀ x ∈ items, ∀ (M : Mh), Inv M → ∀ (K1 : D → Mh → Prop) (K0 : Mh → Prop), (∀ o M', R x o → Inv M' → match o with | some y => K1 y M' | none => K0 M') → tpD p x r0 M fun r1 M1 => tt r1 M1 fun b M2 => if b = true then te r1 M2 K1 else K0 M2) →
    acc.length + items.length ≤ sizeLine → Inv M → (∀ (M : Mh) (os : List (Option D)), Inv M → Paired R items os → Q (.lst (acc ++ os.filterMap id)) M) → lcL p tt te r0 Q items acc M
  | [], acc, M, h, hl, hi, hq => by
    have := hq M [] hi .nil
    simpa [lcL] using this
  | x :: xs, acc, M, h, hl, hi, hq => by
    have hl' : acc.length + (xs.length + 1) ≤ sizeLine := hl
    refine h x (List.mem_cons_self ..) M hi (fun y M3 => acc.length < sizeLine ∧ lcL p tt te r0 Q xs (acc ++ [y]) M3) (fun M3 => lcL p tt te r0 Q xs acc M3) fun o M3 ro hi3 => ?_
    cases o with
    | some y =>
      refine ⟨by omega, JqN Inv R (fun y hy => h y (List.mem_cons_of_mem _ hy)) (by rw [List.length_append, List.length_cons, List.length_nil]; omega) hi3 fun M4 os hi4 po => ?_⟩
      have := hq M4 (some y :: os) hi4 (.cons ro po)
      simpa using this
    | none =>
      refine JqN Inv R (fun y hy => h y (List.mem_cons_of_mem _ hy)) Qh hi3 fun M4 os hi4 po => ?_
      have := hq M4 (none :: os) hi4 (.cons ro po)
      simpa using this
theorem Jpi {d : D} : ∀ {items : List D} {os : List (Option D)}, Paired (fun _ o => o = some d) items os → os.filterMap id = List.replicate items.length d
  | _, _, .nil => rfl
  | _, _, .cons e r => by
    subst e
    rw [List.filterMap_cons]
    show d :: List.filterMap id _ = _
    rw [Jpi r]
    rfl
end DL

set_option maxHeartbeats 2000000
namespace DL
open PySem PySem.Spec PyProof.Rows L2

inductive T (α : Type) where
  | v (a : α) | x (C : Value) (fs : List (Str × D)) | no | dr (p : Addr) (n : Int) (k : Int → T α)
namespace T
variable {α β : Type}
def bind : T α → (α → T β) → T β
  | .v a, f => f a
  | .x C fs, _ => .x C fs
  | .no, _ => .no
  | .dr p n k, f => .dr p n fun m => (k m).bind f
def nx : T α → T α
  | .v a => .v a
  | .x _ _ => .no
  | .no => .no
  | .dr p n k => .dr p n fun m => (k m).nx
def ofO : Option α → T α
  | some a => .v a
  | none => .no
def gd (b : Bool) (t : T α) : T α := match b with
  | true => t
  | false => .no
def go (M : Mh) (Q : α → Prop) (E : Value → List (Str × D) → Prop) : T α → Prop
  | .v a => Q a
  | .x C fs => E C fs
  | .no => False
  | .dr p n k => M p = some .pool ∧ 0 < n ∧ n.natAbs.log2 < 9000 ∧ ∀ m, 0 ≤ m → m < n → (k m).go M Q E
def al0 (p : Addr) (Q : α → Prop) (E : Value → List (Str × D) → Prop) : T α → Prop
  | .v a => Q a
  | .x C fs => E C fs
  | .no => False
  | .dr q n k => q = p ∧ 0 < n ∧ n.natAbs.log2 < 9000 ∧ ∀ m, 0 ≤ m → m < n → (k m).al0 p Q E
variable {M M' : Mh} {Q Q' : α → Prop} {E E' : Value → List (Str × D) → Prop} {p : Addr} {a : α} {f : α → T β} {C : Value} {fs : List (Str × D)} {n : Int} {k : Int → T α}
theorem bind_v : (T.v a).bind f = f a := rfl
theorem bind_dr : (T.dr p n k).bind f = .dr p n fun m => (k m).bind f := rfl
theorem nx_v : (T.v a).nx = .v a := rfl
theorem nx_dr : (T.dr p n k).nx = .dr p n fun m => (k m).nx := rfl
theorem gd_t {t : T α} : gd true t = t := rfl
theorem ofO_s : ofO (some a) = .v a := rfl
theorem go_bind {R : β → Prop} : ∀ {t : T α}, (t.bind f).go M R E ↔ t.go M (fun a => (f a).go M R E) E
  | .v _ => Iff.rfl
  | .x _ _ => Iff.rfl
  | .no => Iff.rfl
  | .dr p n k => by
    show (_ ∧ _ ∧ _ ∧ ∀ m, _ → _ → ((k m).bind f).go M R E) ↔ (_ ∧ _ ∧ _ ∧ ∀ m, _ → _ → (k m).go M _ E)
    exact ⟨fun ⟨a, b, c, h⟩ => ⟨a, b, c, fun m h1 h2 => go_bind.mp (h m h1 h2)⟩, fun ⟨a, b, c, h⟩ => ⟨a, b, c, fun m h1 h2 => go_bind.mpr (h m h1 h2)⟩⟩
theorem go_mono : ∀ {t : T α}, t.go M Q E → (∀ p, M p = some .pool → M' p = some .pool) → (∀ a, Q a → Q' a) → (∀ c f, E c f → E' c f) → t.go M' Q' E'
  | .v _, h, _, hq, _ => hq _ h
  | .x _ _, h, _, _, he => he _ _ h
  | .no, h, _, _, _ => h
  | .dr p n k, ⟨a, b, c, h⟩, hM, hq, he => ⟨hM _ a, b, c, fun m h1 h2 => go_mono (h m h1 h2) hM hq he⟩
theorem go_imp {t : T α} (h : t.go M Q E) (hq : ∀ a, Q a → Q' a) : t.go M Q' E := go_mono h (fun _ h => h) hq fun _ _ h => h
theorem go_ofO {o : Option α} : (ofO o).go M Q E ↔ ∃ a, o = some a ∧ Q a := by
  cases o with
  | none => exact ⟨fun h => h.elim, fun ⟨_, e, _⟩ => nomatch e⟩
  | some a => exact ⟨fun h => ⟨a, rfl, h⟩, fun ⟨b, e, h⟩ => by cases e; exact h⟩
theorem go_gd {b : Bool} {t : T α} : (gd b t).go M Q E ↔ b = true ∧ t.go M Q E := by
  cases b with
  | false => exact ⟨fun h => h.elim, fun ⟨e, _⟩ => nomatch e⟩
  | true => exact ⟨fun h => ⟨rfl, h⟩, fun h => h.2⟩
theorem go_nx : ∀ {t : T α}, t.nx.go M Q E ↔ t.go M Q fun _ _ => False
  | .v _ => Iff.rfl
  | .x _ _ => Iff.rfl
  | .no => Iff.rfl
  | .dr p n k => ⟨fun ⟨a, b, c, h⟩ => ⟨a, b, c, fun m h1 h2 => go_nx.mp (h m h1 h2)⟩, fun ⟨a, b, c, h⟩ => ⟨a, b, c, fun m h1 h2 => go_nx.mpr (h m h1 h2)⟩⟩
theorem Jt1 : ∀ {t : T α}, t.al0 p Q E → M p = some .pool → t.go M Q E
  | .v _, h, _ => h
  | .x _ _, h, _ => h
  | .no, h, _ => h
  | .dr q n k, ⟨a, b, c, h⟩, hM => ⟨by rw [a]; exact hM, b, c, fun m h1 h2 => Jt1 (h m h1 h2) hM⟩
theorem al0_bind {R : β → Prop} : ∀ {t : T α}, (t.bind f).al0 p R E ↔ t.al0 p (fun a => (f a).al0 p R E) E
  | .v _ => Iff.rfl
  | .x _ _ => Iff.rfl
  | .no => Iff.rfl
  | .dr q n k => ⟨fun ⟨a, b, c, h⟩ => ⟨a, b, c, fun m h1 h2 => al0_bind.mp (h m h1 h2)⟩, fun ⟨a, b, c, h⟩ => ⟨a, b, c, fun m h1 h2 => al0_bind.mpr (h m h1 h2)⟩⟩
theorem Jpw : ∀ {t : T α}, t.al0 p Q E → (∀ a, Q a → Q' a) → (∀ c f, E c f → E' c f) → t.al0 p Q' E'
  | .v _, h, hq, _ => hq _ h
  | .x _ _, h, _, he => he _ _ h
  | .no, h, _, _ => h
  | .dr p n k, ⟨a, b, c, h⟩, hq, he => ⟨a, b, c, fun m h1 h2 => Jpw (h m h1 h2) hq he⟩
theorem JqO {t : T α} (h : t.al0 p Q E) (hq : ∀ a, Q a → Q' a) : t.al0 p Q' E := Jpw h hq fun _ _ h => h
theorem al0_nx : ∀ {t : T α}, t.nx.al0 p Q E ↔ t.al0 p Q fun _ _ => False
  | .v _ => Iff.rfl
  | .x _ _ => Iff.rfl
  | .no => Iff.rfl
  | .dr p n k => ⟨fun ⟨a, b, c, h⟩ => ⟨a, b, c, fun m h1 h2 => al0_nx.mp (h m h1 h2)⟩, fun ⟨a, b, c, h⟩ => ⟨a, b, c, fun m h1 h2 => al0_nx.mpr (h m h1 h2)⟩⟩
structure al (p : Addr) (Q : α → Prop) (E : Value → List (Str × D) → Prop) (t : T α) : Prop where
  out : t.al0 p Q E
theorem al_go {t : T α} (h : t.al p Q E) (hM : M p = some .pool) : t.go M Q E := Jt1 h.out hM
theorem al_mono {t : T α} (h : t.al p Q E) (hq : ∀ a, Q a → Q' a) (he : ∀ c f, E c f → E' c f) : t.al p Q' E' := ⟨Jpw h.out hq he⟩
theorem al_imp {t : T α} (h : t.al p Q E) (hq : ∀ a, Q a → Q' a) : t.al p Q' E := ⟨JqO h.out hq⟩
theorem al_bind {R : β → Prop} {t : T α} : (t.bind f).al p R E ↔ t.al p (fun a => (f a).al p R E) E := ⟨fun ⟨h⟩ => ⟨JqO (al0_bind.mp h) fun _ h => ⟨h⟩⟩, fun ⟨h⟩ => ⟨al0_bind.mpr (JqO h fun _ h => h.out)⟩⟩
theorem al_v : (T.v a).al p Q E ↔ Q a := ⟨fun ⟨h⟩ => h, fun h => ⟨h⟩⟩
theorem al_x : (T.x C fs : T α).al p Q E ↔ E C fs := ⟨fun ⟨h⟩ => h, fun h => ⟨h⟩⟩
theorem al_nx {t : T α} : t.nx.al p Q E ↔ t.al p Q fun _ _ => False := ⟨fun ⟨h⟩ => ⟨al0_nx.mp h⟩, fun ⟨h⟩ => ⟨al0_nx.mpr h⟩⟩
theorem al_drw : (T.dr p n k).al p Q E ↔ 0 < n ∧ n.natAbs.log2 < 9000 ∧ ∀ m, 0 ≤ m → m < n → (k m).al p Q E := ⟨fun ⟨h⟩ => ⟨h.2.1, h.2.2.1, fun m a b => ⟨h.2.2.2 m a b⟩⟩, fun h => ⟨rfl, h.1, h.2.1, fun m a b => (h.2.2 m a b).out⟩⟩
end T

def unD : D → Option D
  | .ty "" => none
  | d => some d
inductive MoD : D → MO → Prop
  | lst (ds : List D) : MoD (.lst ds) (.lst ds)
  | dic (kvs : List (Key × D)) : MoD (.dic kvs) (.dic kvs)
  | obj (C dx : Addr) (fs : List (Str × D)) : MoD (.obj C fs) (.ins C dx fs)
  | slt (C dx : Addr) (ds : List D) : MoD (.ins C ds) (.slt C dx (ds.map unD))
theorem MoD.pool {d : D} (h : MoD d .pool) : False := by cases h
structure Bx where
  m : Mh
  sf : Option (Addr × Addr)
  J : Rho → Prop
  fr : Bool
def Bx.Jk (B : Bx) (i : Nat) : Prop := ∀ r x, B.J r → B.J (r.set i x)
def dxIs (dx : Addr) : MO → Prop
  | .ins _ d _ => d = dx
  | .slt _ d _ => d = dx
  | _ => False
def Bx.S (B : Bx) (i : Nat) (p : Addr) (mo : MO) : Prop := match B.sf with
  | none => True
  | some (x, dx) => i = 0 → p = x ∧ dxIs dx mo
structure Lw (o : List Nat) (B : Bx) (r : Rho) (M : Mh) (l : Rho) : Prop where
  len : r.length = l.length
  less : Less B.m M
  j : B.J r
  pl : ∀ i d, i ∉ o → l[i]? = some (some d) → r[i]? = some (some d)
  ow : ∀ i d, i ∈ o → l[i]? = some (some d) → ∃ p mo, r[i]? = some (some (.ref p)) ∧ MoD d mo ∧ M p = some mo ∧ B.m p = none ∧ B.S i p mo
  dis : ∀ i j p d e, i ∈ o → j ∈ o → l[i]? = some (some d) → l[j]? = some (some e) → r[i]? = some (some (.ref p)) → r[j]? = some (some (.ref p)) → i = j
def Vw (M : Mh) (d' d : D) : Prop := d' = d ∨ ∃ p mo, d' = .ref p ∧ MoD d mo ∧ M p = some mo
theorem Less.pool {M0 M : Mh} (h : Less M0 M) (p : Addr) (e : M0 p = some .pool) : M p = some .pool := by
  rcases h p with z | z
  · rw [← z]; exact e
  · rw [z] at e; cases e
def lk (l : Rho) (i : Nat) : T D := match l[i]? with
  | some (some d) => .v d
  | _ => .no
abbrev FE := Rho → T D
def fV (i : Nat) : Rho → T D := fun l => lk l i
abbrev FT := Rho → T Bool
abbrev FA := Rho → T (List D)
def tE (W : DWX) (o : List Nat) (B : Bx) (f : FE) : DTE := fun r M Q => ∃ l, Lw o B r M l ∧ (f l).go B.m (fun d => Q d M) (fun C fs => W C fs r M)
def tL (W : DWX) (o : List Nat) (B : Bx) (f : FE) : DTE := fun r M Q => ∃ l, Lw o B r M l ∧ (f l).go B.m (fun d => ∀ d', Vw M d' d → Q d' M) (fun C fs => W C fs r M)
def tT (W : DWX) (o : List Nat) (B : Bx) (f : FT) : DTT := fun r M Q => ∃ l, Lw o B r M l ∧ (f l).go B.m (fun d => Q d M) (fun C fs => W C fs r M)
def tA (W : DWX) (o : List Nat) (B : Bx) (f : FA) : DTA := fun r M Q => ∃ l, Lw o B r M l ∧ (f l).go B.m (fun d => Q d M) (fun C fs => W C fs r M)
section
variable {X : Cx} {W : DWX} {o : List Nat} {B : Bx} {e a b c : Expr} {es rest : List Expr} {f fa fb fc : FE} {g ga gb : FT} {h : FA} {pos : Pos}
theorem DE.imp' {t t' : DTE} (h : DE X W e t) (k : ∀ r M Q, t' r M Q → t r M Q) : DE X W e t' := ⟨fun pins s st H Z r M Q I q h' => h.run pins s st H Z r M Q I q (k r M Q h')⟩
theorem DT.imp' {t t' : DTT} (h : DT X W e t) (k : ∀ r M Q, t' r M Q → t r M Q) : DT X W e t' := ⟨fun pins s st H Z r M Q I q h' => h.run pins s st H Z r M Q I q (k r M Q h')⟩
theorem DW.imp' {t t' : DTT} (h : DW X W e t) (k : ∀ r M Q, t' r M Q → t r M Q) : DW X W e t' := ⟨fun wh pins s st H Z r M Q I q h' => h.run wh pins s st H Z r M Q I q (k r M Q h')⟩
theorem DA.imp' {t t' : DTA} (h : DA X W es t) (k : ∀ r M Q, t' r M Q → t r M Q) : DA X W es t' := ⟨fun pos pins s st H Z r M Q I q h' => h.run pos pins s st H Z r M Q I q (k r M Q h')⟩
theorem DS.imp' {s : Stmt} {t t' : DTS} (h : DS X W s t) (k : ∀ E r M, t' E r M → t E r M) : DS X W s t' := ⟨fun pins s st H Z r M E I q h' => h.run pins s st H Z r M E I q (k E r M h')⟩
theorem DSs.imp' {s : List Stmt} {t t' : DTS} (h : DSs X W s t) (k : ∀ E r M, t' E r M → t E r M) : DSs X W s t' := ⟨fun pins s st H Z r M E I q h' => h.run pins s st H Z r M E I q (k E r M h')⟩
theorem lo (h : DE X W e (tE W o B f)) : DE X W e (tL W o B f) := h.imp' fun r M Q ⟨l, w, g⟩ => ⟨l, w, T.go_imp g fun d k => k d (.inl rfl)⟩
theorem Jad (i : Nat) (hi : i ∉ o := by decide) {x : Str} (hN : X.N[i]? = some x := by rfl) (hv : Vis X.env.scope x := by first | exact Or.inl rfl | exact Or.inr (Or.inl rfl) | exact Or.inr (Or.inr rfl)) (hd : (x == ("__debug__" : Str)) = false := by decide)
    (hcd : (x == ("__classdict__" : Str)) = false := by decide) : DE X W (.Name x pos) (tE W o B (fV i)) := (dv i hN hv hd hcd).imp' fun r M Q ⟨l, w, g⟩ => by
  unfold dVar
  unfold fV lk at g
  split at g
  · rename_i d e
    rw [w.pl i d hi e]; exact g
  · exact g.elim
def fC (d : D) : FE := fun _ => .v d
theorem te_c {d : D} (h : DE X W e (dC d)) : DE X W e (tE W o B (fC d)) := h.imp' fun r M Q ⟨l, w, g⟩ => g
def Op2 (X : Cx) (W : DWX) (f : Value → Value → Sem Value) (g : D → D → Option D) : Prop :=
  ∃ o, DOp X W f o ∧ ∀ (M : Mh) (x' y' x y d : D) (Q : QD), Vw M x' x → Vw M y' y → g x y = some d → Q d M → o x' y' M Q
def Op1 (X : Cx) (W : DWX) (f : Value → Sem Value) (g : D → Option D) : Prop :=
  ∃ o, DUn X W f o ∧ ∀ (M : Mh) (x' x d : D) (Q : QD), Vw M x' x → g x = some d → Q d M → o x' M Q
def f2 (g : D → D → Option D) (fa fb : FE) : FE := fun l => (fa l).bind fun x => (fb l).bind fun y => .ofO (g x y)
def f1 (g : D → Option D) (fa : FE) : FE := fun l => (fa l).bind fun x => .ofO (g x)
theorem JuE {o' : DR2} {g : D → D → Option D} (hg : ∀ (M : Mh) (x' y' x y d : D) (Q : QD), Vw M x' x → Vw M y' y → g x y = some d → Q d M → o' x' y' M Q) (r : Rho) (M : Mh) (Q : QD) (h : tE W o B (f2 g fa fb) r M Q) : dOp o' (tL W o B fa) (tL W o B fb) r M Q := by
  obtain ⟨l, w, k⟩ := h
  refine ⟨l, w, T.go_imp (T.go_bind.mp k) fun x kx x' hx => ⟨l, w, T.go_imp (T.go_bind.mp kx) fun y ky y' hy => ?_⟩⟩
  obtain ⟨d, e, q⟩ := T.go_ofO.mp ky
  exact hg M x' y' x y d Q hx hy e q
theorem JnQ {op : Operator} {g : D → D → Option D} (hg : Op2 X W (binaryOp op) g) (ha : DE X W a (tL W o B fa)) (hb : DE X W b (tL W o B fb)) : DE X W (.BinOp a op b pos) (tE W o B (f2 g fa fb)) := by
  obtain ⟨o', h1, h2⟩ := hg
  exact (Jff h1 ha hb).imp' (JuE h2)
theorem JxX {op : UnaryOp} {g : D → Option D} (hg : Op1 X W (unaryOp op) g) (ha : DE X W a (tL W o B fa)) : DE X W (.UnaryOp op a pos) (tE W o B (f1 g fa)) := by
  obtain ⟨o', h1, h2⟩ := hg
  refine (JxD h1 ha).imp' fun r M Q ⟨l, w, k⟩ => ⟨l, w, T.go_imp (T.go_bind.mp k) fun x kx x' hx => ?_⟩
  obtain ⟨d, e, q⟩ := T.go_ofO.mp kx
  exact h2 M x' x d Q hx e q
def tB : D → T Bool
  | .bl b => .v b
  | _ => .no
def fB (f : FE) : FT := fun l => (f l).bind tB
theorem tB_go {d : D} {Q : Bool → Prop} {E} {M : Mh} : (tB d).go M Q E ↔ ∃ b, d = .bl b ∧ Q b := by
  cases d <;> first | exact ⟨fun h => ⟨_, rfl, h⟩, fun ⟨b, e, h⟩ => by cases e; exact h⟩ | exact ⟨fun h => h.elim, fun ⟨b, e, h⟩ => by cases e⟩
theorem JoL {op : CmpOp} {g : D → D → Option D} (hg : Op2 X W (compareOp op) g) (ha : DE X W a (tL W o B fa)) (hb : DE X W b (tL W o B fb)) (hm : behindInMarks op b = false) : DT X W (.Compare a [op] [b] pos) (tT W o B (fB (f2 g fa fb))) := by
  obtain ⟨o', h1, h2⟩ := hg
  refine (Jpf h1 ha hb hm).imp' fun r M Q ⟨l, w, k⟩ => JuE h2 r M _ ⟨l, w, T.go_imp (T.go_bind.mp k) fun d h => ?_⟩
  obtain ⟨b, rfl, h⟩ := tB_go.mp h
  exact h
theorem JbC (h : DE X W e (tE W o B f)) (he : ∀ whole, isTrue e X.env whole = (do let v ← whole; standAt e.pos; holding [v] (truthy v)) := by intro _; rfl) : DT X W e (tT W o B (fB f)) :=
  (JvL h he).imp' fun r M Q ⟨l, w, k⟩ => ⟨l, w, T.go_imp (T.go_bind.mp k) fun d h => by
    obtain ⟨b, rfl, h⟩ := tB_go.mp h
    exact h⟩
def fOr (f g : FT) : FT := fun l => (f l).bind fun b => if b = true then .v true else g l
def fNot (f : FT) : FT := fun l => (f l).bind fun b => .v (!b)
def fIf (c : FT) (f g : FE) : FE := fun l => (c l).bind fun b => if b = true then f l else g l
theorem Jr7 (ha : DT X W a (tT W o B ga)) : DW X W (.BoolOp .Or [a] pos) (tT W o B ga) := JvM ha
theorem JuF (ha : DT X W a (tT W o B ga)) (hb : DW X W (.BoolOp .Or (b :: rest) pos) (tT W o B gb)) : DW X W (.BoolOp .Or (a :: b :: rest) pos) (tT W o B (fOr ga gb)) :=
  (JxE ha hb).imp' fun r M Q ⟨l, w, k⟩ => ⟨l, w, T.go_imp (T.go_bind.mp k) fun x h => by
    cases x
    · exact ⟨l, w, h⟩
    · exact h⟩
theorem Jt2 (ha : DT X W a (tT W o B ga)) : DT X W (.UnaryOp .Not a pos) (tT W o B (fNot ga)) := (JvN ha).imp' fun r M Q ⟨l, w, k⟩ => ⟨l, w, T.go_imp (T.go_bind.mp k) fun x h => h⟩
theorem JdF (hc : DT X W c (tT W o B g)) (ha : DE X W a (tE W o B fa)) (hb : DE X W b (tE W o B fb)) : DE X W (.IfExp c a b pos) (tE W o B (fIf g fa fb)) :=
  (JvO hc ha hb).imp' fun r M Q ⟨l, w, k⟩ => ⟨l, w, T.go_imp (T.go_bind.mp k) fun x h => by
    cases x
    · exact ⟨l, w, h⟩
    · exact ⟨l, w, h⟩⟩
def fNil : FA := fun _ => .v []
def fCo (f : FE) (h : FA) : FA := fun l => (f l).bind fun x => (h l).bind fun xs => .v (x :: xs)
def szOk (n : Nat) : Bool := decide (n ≤ sizeLine)
def fTu (h : FA) : FE := fun l => (h l).bind fun xs => .gd (szOk xs.length) (.v (.tup xs))
def fLs (h : FA) : FE := fun l => (h l).bind fun xs => .gd (szOk xs.length) (.v (.lst xs))
theorem Jwu : DA X W [] (tA W o B fNil) := da_nil.imp' fun r M Q ⟨l, w, k⟩ => k
theorem JuG (ha : DE X W e (tE W o B f)) (hr : DA X W es (tA W o B h)) (hs : starEach (e :: es) X.env = (false, eval e X.env) :: starEach es X.env := by rfl) : DA X W (e :: es) (tA W o B (fCo f h)) :=
  (Jbk ha hr hs).imp' fun r M Q ⟨l, w, k⟩ => ⟨l, w, T.go_imp (T.go_bind.mp k) fun x h => ⟨l, w, T.go_imp (T.go_bind.mp h) fun y h => h⟩⟩
def tAL (W : DWX) (o : List Nat) (B : Bx) (f : FA) : DTA := fun r M Q => ∃ l, Lw o B r M l ∧ (f l).go B.m (fun ds => ∀ ds', Paired (Vw M) ds' ds → Q ds' M) (fun C fs => W C fs r M)
theorem JqP : DA X W [] (tAL W o B fNil) := da_nil.imp' fun r M Q ⟨l, w, k⟩ => k [] .nil
theorem Jpx (ha : DE X W e (tL W o B f)) (hr : DA X W es (tAL W o B h)) (hs : starEach (e :: es) X.env = (false, eval e X.env) :: starEach es X.env := by rfl) : DA X W (e :: es) (tAL W o B (fCo f h)) :=
  (Jbk ha hr hs).imp' fun r M Q ⟨l, w, k⟩ => ⟨l, w, T.go_imp (T.go_bind.mp k) fun x h x' hx => ⟨l, w, T.go_imp (T.go_bind.mp h) fun y h y' hy => h _ (.cons hx hy)⟩⟩
theorem Jnc {x1} (ha : DA X W es (tA W o B h)) : DE X W (.Tuple es x1 pos) (tE W o B (fTu h)) :=
  (JvQ ha).imp' fun r M Q ⟨l, w, k⟩ => ⟨l, w, T.go_imp (T.go_bind.mp k) fun x h => ⟨of_decide_eq_true (T.go_gd.mp h).1, (T.go_gd.mp h).2⟩⟩
theorem JbD (ha : DA X W es (tA W o B h)) : DE X W (.List es pos) (tE W o B (fLs h)) :=
  (JtR ha).imp' fun r M Q ⟨l, w, k⟩ => ⟨l, w, T.go_imp (T.go_bind.mp k) fun x h => ⟨of_decide_eq_true (T.go_gd.mp h).1, (T.go_gd.mp h).2⟩⟩
end
end DL

set_option maxHeartbeats 2000000
namespace DL
open PySem PySem.Spec PyProof.Rows L2

def og (b : Bool) (d : D) : Option D := match b with
  | true => some d
  | false => none
theorem og_t {d : D} : og true d = some d := rfl
theorem og_s {b : Bool} {d x : D} : og b d = some x ↔ b = true ∧ d = x := by
  cases b
  · exact ⟨fun h => (nomatch h), fun h => (nomatch h.1)⟩
  · exact ⟨fun h => ⟨rfl, Option.some.inj h⟩, fun h => congrArg some h.2⟩
section
variable {M : Mh} {x' x : D} {ds : List D}
theorem Vw.lst (h : Vw M x' (.lst ds)) : x' = .lst ds ∨ ∃ p, x' = .ref p ∧ M p = some (.lst ds) := by
  rcases h with h | ⟨p, mo, e, m, e2⟩
  · exact .inl h
  · cases m; exact .inr ⟨p, e, e2⟩
theorem Vw.lstW (h : Vw M x' (.lst ds)) : lstW M x' = some ds := by
  rcases h.lst with e | ⟨p, e, e2⟩
  · rw [e]; rfl
  · rw [e]; show (match M p with | some (.lst ds) => some ds | _ => none) = _; rw [e2]
theorem Vw.int {i : Int} (h : Vw M x' (.int i)) : x' = .int i := by
  rcases h with h | ⟨p, mo, e, m, e2⟩
  · exact h
  · cases m
theorem Vw.str {i : Str} (h : Vw M x' (.str i)) : x' = .str i := by
  rcases h with h | ⟨p, mo, e, m, e2⟩
  · exact h
  · cases m
theorem Vw.bl {i : Bool} (h : Vw M x' (.bl i)) : x' = .bl i := by
  rcases h with h | ⟨p, mo, e, m, e2⟩
  · exact h
  · cases m
theorem Vw.tup {i : List D} (h : Vw M x' (.tup i)) : x' = .tup i := by
  rcases h with h | ⟨p, mo, e, m, e2⟩
  · exact h
  · cases m
theorem Vw.non (h : Vw M x' .non) : x' = .non := by
  rcases h with h | ⟨p, mo, e, m, e2⟩
  · exact h
  · cases m
theorem Vw.scr {i : List Int} (h : Vw M x' (.scr i)) : x' = .scr i := by
  rcases h with h | ⟨p, mo, e, m, e2⟩
  · exact h
  · cases m
def sq : D → Option (List D)
  | .tup ds => some ds
  | .lst ds => some ds
  | .scr ns => some (ns.map .int)
  | _ => none
theorem Vw.seqOf (h : Vw M x' x) (e : sq x = some ds) : seqOf M x' = some ds := by
  unfold sq at e
  split at e
  · cases e; rw [h.tup]; rfl
  · cases e
    rcases h.lst with e | ⟨p, e, e2⟩
    · rw [e]; rfl
    · rw [e]; show (match M p with | some (.lst ds) => some ds | _ => none) = _; rw [e2]
  · cases e; rw [h.scr]; rfl
  · cases e
end
def pAdd : D → D → Option D
  | .int i, .int j => some (.int (i + j))
  | .str a, .str b => og (szOk (a.length + b.length)) (.str (a ++ b))
  | .tup a, .tup b => og (szOk (a.length + b.length)) (.tup (a ++ b))
  | .lst a, .lst b => og (szOk (a.length + b.length)) (.lst (a ++ b))
  | _, _ => none
def pInt (f : Int → Int → Int) : D → D → Option D
  | .int i, .int j => some (.int (f i j))
  | _, _ => none
abbrev pSub := pInt fun i j => i - j
def pMod : D → D → Option D
  | .int i, .int j => og (decide (0 < j)) (.int (i % j))
  | _, _ => none
def pPow : D → D → Option D
  | .int i, .int j => og (decide (0 ≤ j ∧ j ≤ 1000000 ∧ i.natAbs < 2 ^ 64)) (.int (i ^ j.toNat))
  | _, _ => none
def pNeg : D → Option D
  | .int i => some (.int (-i))
  | _ => none
section
variable {X : Cx} {W : DWX}
theorem Jpy : Op2 X W (binaryOp .Add) pAdd := ⟨_, JkY, fun M x' y' x y d Q hx hy e q => by
  unfold pAdd at e
  split at e
  · cases e; rw [hx.int, hy.int]; exact q
  · obtain ⟨e1, e2⟩ := og_s.mp e
    cases e2; rw [hx.str, hy.str]; exact ⟨of_decide_eq_true e1, q⟩
  · obtain ⟨e1, e2⟩ := og_s.mp e
    cases e2; rw [hx.tup, hy.tup]; exact ⟨of_decide_eq_true e1, q⟩
  · rename_i a b
    obtain ⟨e1, e2⟩ := og_s.mp e
    cases e2
    have h1 := hx.lstW
    have h2 := hy.lstW
    have main : (match lstW M x', lstW M y' with | some a, some b => a.length + b.length ≤ sizeLine ∧ Q (.lst (a ++ b)) M | _, _ => False) := by
      rw [h1, h2]; exact ⟨of_decide_eq_true e1, q⟩
    rcases hx.lst with rfl | ⟨p, rfl, _⟩
    · exact main
    · exact main
  · cases e⟩
theorem JxY {f : Value → Value → Sem Value} {g : Int → Int → Int} (h : DOp X W f (Jrg g)) : Op2 X W f (pInt g) := ⟨_, h, fun M x' y' x y d Q hx hy e q => by
  unfold pInt at e
  split at e
  · cases e; rw [hx.int, hy.int]; exact q
  · cases e⟩
theorem JxZ : Op2 X W (binaryOp .Sub) pSub := JxY Jub
theorem Jx0 : Op2 X W (binaryOp .Mod) pMod := ⟨_, Jnd, fun M x' y' x y d Q hx hy e q => by
  unfold pMod at e
  split at e
  · obtain ⟨e1, e2⟩ := og_s.mp e
    cases e2; rw [hx.int, hy.int]; exact ⟨of_decide_eq_true e1, q⟩
  · cases e⟩
theorem Jwv : Op2 X W (binaryOp .Pow) pPow := ⟨_, JrD, fun M x' y' x y d Q hx hy e q => by
  unfold pPow at e
  split at e
  · obtain ⟨e1, e2⟩ := og_s.mp e
    have e3 := of_decide_eq_true e1
    cases e2; rw [hx.int, hy.int]; exact ⟨e3, q⟩
  · cases e⟩
theorem Jx1 : Op1 X W (unaryOp .USub) pNeg := ⟨_, Juc, fun M x' x d Q hx e q => by
  unfold pNeg at e
  split at e
  · cases e; rw [hx.int]; exact q
  · cases e⟩
def pCmp (p : Int → Int → Bool) : D → D → Option D
  | .int i, .int j => some (.bl (p i j))
  | _, _ => none
abbrev pLt := pCmp fun i j => decide (i < j)
theorem Jx2 {f : Value → Value → Sem Value} {g : Int → Int → Bool} (h : DOp X W f (aCmp g)) : Op2 X W f (pCmp g) := ⟨_, h, fun M x' y' x y d Q hx hy e q => by
  unfold pCmp at e
  split at e
  · cases e; rw [hx.int, hy.int]; exact q
  · cases e⟩
theorem p_lt : Op2 X W (compareOp .Lt) pLt := Jx2 JtS
def pIn (neg : Bool) : D → D → Option D
  | .str a, .str b => match Jq7 a with
    | some c => some (.bl (if neg then !decide (c ∈ b.cps.toList) else decide (c ∈ b.cps.toList)))
    | none => none
  | x, y => match sq y with
    | some ds => match JqB x, Jri ds with
      | some w, some vs => some (.bl (if neg then !inV w vs else inV w vs))
      | _, _ => none
    | none => none
theorem Jx3 {neg : Bool} {op : CmpOp} (h : DOp X W (compareOp op) (aIn neg)) : Op2 X W (compareOp op) (pIn neg) := ⟨_, h, fun M x' y' x y d Q hx hy e q => by
  have main : ∀ (ds vs : _) (w : V), sq y = some ds → JqB x = some w → Jri ds = some vs → d = .bl (if neg then !inV w vs else inV w vs) → aIn neg x' y' M Q := fun ds vs w e1 e2 e3 e4 => by
    subst e4
    have hs := hy.seqOf e1
    have e5 : JqB x' = some w := by
      rcases hx with rfl | ⟨p, mo, rfl, m, _⟩
      · exact e2
      · cases m <;> cases e2
    have nstr : ∀ b, y' ≠ .str b := fun b z => by
      subst z
      rcases hy with rfl | ⟨p, mo, z, _, _⟩
      · cases e1
      · cases z
    unfold aIn
    split
    · exact absurd rfl (nstr _)
    · exact ⟨ds, vs, w, hs, e5, e3, q⟩
  unfold pIn at e
  split at e
  · split at e
    · rename_i c ec
      cases e
      rw [hx.str, hy.str]
      exact ⟨c, ec, q⟩
    · cases e
  · split at e
    · rename_i ds e1
      split at e
      · rename_i w vs e2 e3
        cases e
        exact main ds vs w e1 e2 e3 rfl
      · cases e
    · cases e⟩
theorem p_in : Op2 X W (compareOp .In) (pIn false) := Jx3 JvW
def Op2s (X : Cx) (W : DWX) (f : Value → Value → Sem Value) (g : D → D → Option D) : Prop :=
  ∃ o, DOp X W f o ∧ ∀ (M : Mh) (x y d : D) (Q : QD), g x y = some d → Q d M → o x y M Q
def pEq (neg : Bool) (x y : D) : Option D := match py x, py y with
  | some p, some q => og (SeqAt.shaped p && SeqAt.shaped q) (.bl (if neg then !PyData.eqv p q else PyData.eqv p q))
  | _, _ => none
theorem p_eq (hu : X.A.units + 64 < cLine) : Op2s X W (compareOp .Eq) (pEq false) := ⟨_, JvU hu, fun M x y d Q e q => by
  unfold pEq at e
  split at e
  · rename_i p q' e1 e2
    obtain ⟨e3, e4⟩ := og_s.mp e
    rw [Bool.and_eq_true] at e3
    subst e4
    exact ⟨p, q', e1, e2, e3.1, e3.2, q⟩
  · cases e⟩
theorem p_ne (hu : X.A.units + 64 < cLine) : Op2s X W (compareOp .NotEq) (pEq true) := ⟨_, JvV hu, fun M x y d Q e q => by
  unfold pEq at e
  split at e
  · rename_i p q' e1 e2
    obtain ⟨e3, e4⟩ := og_s.mp e
    rw [Bool.and_eq_true] at e3
    subst e4
    exact ⟨p, q', e1, e2, e3.1, e3.2, q⟩
  · cases e⟩
def pEqT (neg : Bool) : D → D → Option D
  | .str a, .str b => some (.bl (if neg then !decide (a = b) else decide (a = b)))
  | _, _ => none
theorem Jx4 : Op2s X W (compareOp .Eq) (pEqT false) := ⟨_, Jws, fun M x y d Q e q => by
  unfold pEqT at e
  split at e
  · cases e; exact q
  · cases e⟩
end
section
variable {X : Cx} {W : DWX} {o : List Nat} {B : Bx} {e a b c : Expr} {es rest : List Expr} {f fa fb fc : FE} {g ga gb : FT} {h : FA} {pos : Pos}
theorem Jww {o' : DR2} {g : D → D → Option D} (hg : ∀ (M : Mh) (x y d : D) (Q : QD), g x y = some d → Q d M → o' x y M Q) (r : Rho) (M : Mh) (Q : QD) (h : tE W o B (f2 g fa fb) r M Q) : dOp o' (tE W o B fa) (tE W o B fb) r M Q := by
  obtain ⟨l, w, k⟩ := h
  refine ⟨l, w, T.go_imp (T.go_bind.mp k) fun x kx => ⟨l, w, T.go_imp (T.go_bind.mp kx) fun y ky => ?_⟩⟩
  obtain ⟨d, e, q⟩ := T.go_ofO.mp ky
  exact hg M x y d Q e q
theorem JqQ {op : CmpOp} {g : D → D → Option D} (hg : Op2s X W (compareOp op) g) (ha : DE X W a (tE W o B fa)) (hb : DE X W b (tE W o B fb)) (hm : behindInMarks op b = false) : DE X W (.Compare a [op] [b] pos) (tE W o B (f2 g fa fb)) := by
  obtain ⟨o', h1, h2⟩ := hg
  exact (JvK h1 ha hb hm).imp' (Jww h2)
theorem Jbw {op : CmpOp} {g : D → D → Option D} (hg : Op2s X W (compareOp op) g) (ha : DE X W a (tE W o B fa)) (hb : DE X W b (tE W o B fb)) (hm : behindInMarks op b = false) : DT X W (.Compare a [op] [b] pos) (tT W o B (fB (f2 g fa fb))) := by
  obtain ⟨o', h1, h2⟩ := hg
  refine (Jpf h1 ha hb hm).imp' fun r M Q ⟨l, w, k⟩ => Jww h2 r M _ ⟨l, w, T.go_imp (T.go_bind.mp k) fun d h => ?_⟩
  obtain ⟨b, rfl, h⟩ := tB_go.mp h
  exact h
def pIx : D → D → Option D
  | .str z, .int i => match atI z.cps.toList i with
    | some c => og (szOk z.length) (.str ⟨#[c]⟩)
    | none => none
  | x, .int i => match sq x with
    | some ds => atI ds i
    | none => none
  | _, _ => none
theorem Jx5 (ha : DE X W a (tL W o B fa)) (hb : DE X W b (tL W o B fb)) (hs : PlainIx b) : DE X W (.Subscript a b pos) (tE W o B (f2 pIx fa fb)) :=
  (Jps ha hb hs).imp' (JuE fun M x' y' x y d Q hx hy e q => by
    unfold pIx at e
    split at e
    · split at e
      · rename_i ec
        obtain ⟨e1, e2⟩ := og_s.mp e
        subst e2
        rw [hx.str, hy.int]
        exact ⟨_, of_decide_eq_true e1, ec, q⟩
      · cases e
    · split at e
      · rename_i i _ ds es
        rw [hy.int]
        have hs := hx.seqOf es
        have nstr : ∀ b, x' ≠ .str b := fun b z => by
          subst z
          rcases hx with rfl | ⟨p, mo, z, _, _⟩
          · cases es
          · cases z
        unfold aIx
        split
        · exact absurd rfl (nstr _)
        · rename_i heq
          cases heq
          exact ⟨ds, d, hs, e, q⟩
        · rename_i h1 h2
          first | exact h1 _ rfl | exact h1 _ _ rfl rfl | exact (h1 _ _ rfl) rfl
      · cases e
    · cases e)
end
end DL

set_option maxHeartbeats 2000000
namespace DL
open PySem PySem.Spec PyProof.Rows L2

inductive Ct where
  | nx (l : Rho) | rt (d : D) | bk (l : Rho) | ct (l : Rho) | rs (C : Value) (fs : List (Str × D)) (l : Rho)
abbrev FS := Rho → T Ct
def T.sx {α : Type} : T α → Rho → (α → T Ct) → T Ct
  | .v a, _, f => f a
  | .x C fs, l, _ => .v (.rs C fs l)
  | .no, _, _ => .no
  | .dr p n k, l, f => .dr p n fun m => (k m).sx l f
theorem T.sx_v {α : Type} {a : α} {l : Rho} {f : α → T Ct} : (T.v a).sx l f = f a := rfl
theorem T.sx_dr {α : Type} {p : Addr} {n : Int} {k : Int → T α} {l : Rho} {f : α → T Ct} : (T.dr p n k).sx l f = .dr p n fun m => (k m).sx l f := rfl
theorem T.sx_go {α : Type} {M : Mh} {Q : Ct → Prop} {E : Value → List (Str × D) → Prop} {l : Rho} {f : α → T Ct} : ∀ {t : T α}, (t.sx l f).go M Q E ↔ t.go M (fun a => (f a).go M Q E) (fun C fs => Q (.rs C fs l))
  | .v _ => Iff.rfl
  | .x _ _ => Iff.rfl
  | .no => Iff.rfl
  | .dr p n k => ⟨fun ⟨a, b, c, h⟩ => ⟨a, b, c, fun m h1 h2 => T.sx_go.mp (h m h1 h2)⟩, fun ⟨a, b, c, h⟩ => ⟨a, b, c, fun m h1 h2 => T.sx_go.mpr (h m h1 h2)⟩⟩
theorem T.sx_al {α : Type} {p : Addr} {Q : Ct → Prop} {E : Value → List (Str × D) → Prop} {l : Rho} {f : α → T Ct} {t : T α} : (t.sx l f).al p Q E ↔ t.al p (fun a => (f a).al p Q E) (fun C fs => Q (.rs C fs l)) := by
  have key : ∀ t : T α, (t.sx l f).al0 p Q E ↔ t.al0 p (fun a => (f a).al p Q E) (fun C fs => Q (.rs C fs l)) := by
    intro t
    induction t with
    | v a => exact ⟨fun h => ⟨h⟩, fun h => h.out⟩
    | x C fs => exact Iff.rfl
    | no => exact Iff.rfl
    | dr q n k ih => exact ⟨fun ⟨a, b, c, h⟩ => ⟨a, b, c, fun m h1 h2 => (ih m).mp (h m h1 h2)⟩, fun ⟨a, b, c, h⟩ => ⟨a, b, c, fun m h1 h2 => (ih m).mpr (h m h1 h2)⟩⟩
  exact ⟨fun ⟨h⟩ => ⟨(key t).mp h⟩, fun ⟨h⟩ => ⟨(key t).mpr h⟩⟩
def CtQ (W : DWX) (o : List Nat) (B : Bx) (E : DEnds) : Ct → Prop
  | .nx l => ∀ r M, Lw o B r M l → E.nx r M
  | .bk l => ∀ r M, Lw o B r M l → E.bk r M
  | .ct l => ∀ r M, Lw o B r M l → E.ct r M
  | .rt d => ∀ d' M, Less B.m M → (B.fr = false ∧ d' = d ∨ ∃ p ds, d' = .ref p ∧ B.m p = none ∧ d = .lst ds ∧ M p = some (.lst ds)) → E.rt d' M
  | .rs C fs l => ∀ r M, Lw o B r M l → W C fs r M
abbrev noX : Value → List (Str × D) → Prop := fun _ _ => False
def tS (W : DWX) (o : List Nat) (B : Bx) (f : FS) : DTS := fun E r M => ∃ l, Lw o B r M l ∧ (f l).go B.m (CtQ W o B E) noX
section
variable {W : DWX} {o : List Nat} {B : Bx} {r : Rho} {M : Mh} {l : Rho} {i : Nat} {d : D}
theorem rset {i j : Nat} {a : Option D} (l : Rho) : (l.set i a)[j]? = if i = j ∧ j < l.length then some a else l[j]? := by
  by_cases h : i = j
  · subst h
    by_cases hl : i < l.length
    · rw [if_pos ⟨rfl, hl⟩, List.getElem?_set_self hl]
    · rw [if_neg fun z => hl z.2, List.set_eq_of_length_le (Nat.le_of_not_lt hl)]
  · rw [if_neg fun z => h z.1, List.getElem?_set_ne h]
theorem Jl0 {i j : Nat} {a d : D} {l : Rho} (h : (l.set i (some a))[j]? = some (some d)) : (i = j ∧ d = a ∧ j < l.length) ∨ (i ≠ j ∧ l[j]? = some (some d)) := by
  by_cases e : i = j
  · rw [rset] at h
    split at h
    · rename_i q
      cases h
      exact .inl ⟨e, rfl, q.2⟩
    · rename_i q
      have : l[j]? = none := List.getElem?_eq_none (Nat.le_of_not_lt fun z => q ⟨e, z⟩)
      rw [this] at h; cases h
  · rw [List.getElem?_set_ne e] at h
    exact .inr ⟨e, h⟩
theorem Lw.set (w : Lw o B r M l) (hi : i ∉ o) (hJ : B.Jk i) : Lw o B (r.set i (some d)) M (l.set i (some d)) where
  len := by rw [List.length_set, List.length_set, w.len]
  less := w.less
  j := hJ _ _ w.j
  pl := fun j e hj h => by
    rcases Jl0 h with ⟨rfl, rfl, hl⟩ | ⟨ne, h⟩
    · rw [List.getElem?_set_self (by rw [w.len]; exact hl)]
    · rw [List.getElem?_set_ne ne]; exact w.pl j e hj h
  ow := fun j e hj h => by
    have ne : i ≠ j := fun e => hi (e ▸ hj)
    rw [List.getElem?_set_ne ne] at h ⊢
    exact w.ow j e hj h
  dis := fun j k p d' e' hj hk h1 h2 e1 e2 => by
    have n1 : i ≠ j := fun e => hi (e ▸ hj)
    have n2 : i ≠ k := fun e => hi (e ▸ hk)
    rw [List.getElem?_set_ne n1] at e1 h1
    rw [List.getElem?_set_ne n2] at e2 h2
    exact w.dis j k p d' e' hj hk h1 h2 e1 e2
theorem Lw.new {p : Addr} {mo : MO} (w : Lw o B r M l) (hi : i ∈ o) (hp : M p = none) (hm : MoD d mo) (hS : ∀ p mo, B.S i p mo) (hJ : B.Jk i) : Lw o B (r.set i (some (.ref p))) (mset M p mo) (l.set i (some d)) := by
  have hb : B.m p = none := by
    rcases w.less p with z | z
    · rw [z]; exact hp
    · exact z
  have old : ∀ j e, j ∈ o → l[j]? = some (some e) → r[j]? ≠ some (some (.ref p)) := fun j e hj h z => by
    obtain ⟨q, mo', e2, e3, e4, _⟩ := w.ow j e hj h
    rw [e2] at z; cases z; rw [hp] at e4; cases e4
  refine ⟨by rw [List.length_set, List.length_set, w.len], fun a => ?_, hJ _ _ w.j, fun j e hj h => ?_, fun j e hj h => ?_, fun j k q e f hj hk h1 h2 e1 e2 => ?_⟩
  · by_cases h : a = p
    · subst h; exact .inr hb
    · rw [JcG h]; exact w.less a
  · have ne : i ≠ j := fun e => hj (e ▸ hi)
    rw [List.getElem?_set_ne ne] at h ⊢
    exact w.pl j e hj h
  · rcases Jl0 h with ⟨rfl, rfl, hl⟩ | ⟨ne, h⟩
    · exact ⟨p, mo, by rw [List.getElem?_set_self (by rw [w.len]; exact hl)], hm, Jbt, hb, hS _ _⟩
    · rw [List.getElem?_set_ne ne]
      obtain ⟨q, mo', e2, e3, e4, e5, e6⟩ := w.ow j e hj h
      refine ⟨q, mo', e2, e3, ?_, e5, e6⟩
      rw [JcG (fun z => by rw [z, hp] at e4; cases e4)]
      exact e4
  · rcases Jl0 h1 with ⟨a1, a2, hl⟩ | ⟨n1, g1⟩
    · rcases Jl0 h2 with ⟨b1, _⟩ | ⟨n2, g2⟩
      · rw [← a1, ← b1]
      · rw [← a1, List.getElem?_set_self (by rw [w.len, a1]; exact hl)] at e1
        cases e1
        rw [List.getElem?_set_ne n2] at e2
        exact absurd e2 (old k f hk g2)
    · rw [List.getElem?_set_ne n1] at e1
      rcases Jl0 h2 with ⟨b1, b2, hl⟩ | ⟨n2, g2⟩
      · rw [← b1, List.getElem?_set_self (by rw [w.len, b1]; exact hl)] at e2
        cases e2
        exact absurd e1 (old j e hj g1)
      · rw [List.getElem?_set_ne n2] at e2
        exact w.dis j k q e f hj hk g1 g2 e1 e2
theorem Lw.blind {x : Option D} (w : Lw o B r M l) (hi : i ∉ o) (hJ : B.J (r.set i x)) : Lw o B (r.set i x) M (l.set i none) := by
  have back : ∀ j e, (l.set i none)[j]? = some (some e) → i ≠ j ∧ l[j]? = some (some e) := fun j e h => by
    rw [rset] at h
    split at h
    · cases h
    · rename_i q
      refine ⟨fun e => ?_, h⟩
      subst e
      have : l[i]? = none := List.getElem?_eq_none (Nat.le_of_not_lt fun z => q ⟨rfl, z⟩)
      rw [this] at h; cases h
  refine ⟨by rw [List.length_set, List.length_set, w.len], w.less, hJ, fun j e hj h => ?_, fun j e hj h => ?_, fun j k p e f hj hk h1 h2 e1 e2 => ?_⟩
  · obtain ⟨n, h⟩ := back j e h
    rw [List.getElem?_set_ne n]; exact w.pl j e hj h
  · obtain ⟨n, h⟩ := back j e h
    rw [List.getElem?_set_ne n]; exact w.ow j e hj h
  · obtain ⟨n1, h1⟩ := back j e h1
    obtain ⟨n2, h2⟩ := back k f h2
    rw [List.getElem?_set_ne n1] at e1
    rw [List.getElem?_set_ne n2] at e2
    exact w.dis j k p e f hj hk h1 h2 e1 e2
end
section
variable {X : Cx} {W : DWX} {o : List Nat} {B : Bx} {e c : Expr} {s : Stmt} {ss a b : List Stmt} {f : FE} {g : FT} {h : FA} {fs gs fa fb : FS} {pos : Pos}
def Jbl : FS := fun l => .v (.nx l)
def Jbe (c : Ct) (g : FS) : T Ct := match c with
  | .nx l => g l
  | c => .v c
def fSeq (f g : FS) : FS := fun l => (f l).bind fun c => Jbe c g
theorem Ja5 : DSs X W [] (tS W o B Jbl) := dss_nil.imp' fun E r M ⟨l, w, k⟩ => k r M w
theorem JaA (h1 : DS X W s (tS W o B fs)) (h2 : DSs X W ss (tS W o B gs)) : DSs X W (s :: ss) (tS W o B (fSeq fs gs)) :=
  (Jbq h1 h2).imp' fun E r M ⟨l, w, k⟩ => ⟨l, w, T.go_imp (T.go_bind.mp k) fun c hc => by
    cases c with
    | nx l' => exact fun r' M' w' => ⟨l', w', hc⟩
    | _ => exact hc⟩
theorem Jrf {α : Type} {t : T α} {k : α → T Ct} {E : DEnds} {r : Rho} {M : Mh} {l : Rho} {P : α → Prop} (w : Lw o B r M l) (hk : (t.sx l k).go B.m (CtQ W o B E) noX) (hp : ∀ a, (k a).go B.m (CtQ W o B E) noX → P a) : t.go B.m P (fun C fs => W C fs r M) :=
  T.go_mono (T.sx_go.mp hk) (fun _ z => z) hp fun C fs q => q r M w
def fRet (f : FE) : FS := fun l => (f l).sx l fun d => .v (.rt d)
theorem Jbs (he : DE X W e (tE W o B f)) (hfr : B.fr = false := by rfl) : DS X W (.Return (some e) pos) (tS W o B (fRet f)) :=
  (Jn1 he).imp' fun E r M ⟨l, w, k⟩ => ⟨l, w, Jrf w k fun d q => q d M w.less (.inl ⟨hfr, rfl⟩)⟩
def fIfS (g : FT) (fa fb : FS) : FS := fun l => (g l).sx l fun b => if b = true then fa l else fb l
theorem JcH (hc : DT X W c (tT W o B g)) (ha : DSs X W a (tS W o B fa)) (hb : DSs X W b (tS W o B fb)) : DS X W (.If c a b pos) (tS W o B (fIfS g fa fb)) :=
  (JsJ hc ha hb).imp' fun E r M ⟨l, w, k⟩ => ⟨l, w, Jrf w k fun b q => by
    cases b
    · exact ⟨l, w, q⟩
    · exact ⟨l, w, q⟩⟩
def fSet (i : Nat) (f : FE) : FS := fun l => (f l).sx l fun d => .v (.nx (l.set i (some d)))
theorem Jcd {i : Nat} {x : Str} {pos' : Pos} (hN : X.N.Nodup) (hi : X.N[i]? = some x) (hx : Loc X.env.scope x) (ho : i ∉ o) (hJ : B.Jk i) (he : DE X W e (tE W o B f)) (hs : swapsWith e (some (.Name x pos')) pos.line X.env = pure false := by rfl) (hf : X.fn x = true ∨ X.env.scope.names.lookup x = some .local := by first | exact .inl rfl | exact .inr rfl | assumption) :
    DS X W (.Assign [.Name x pos'] e pos) (tS W o B (fSet i f)) :=
  (JpT hN hi hx he hs hf).imp' fun E r M ⟨l, w, k⟩ => ⟨l, w, Jrf w k fun d q => q _ M (w.set ho hJ)⟩
abbrev FG := D → Rho → Option Rho
def TGt (X : Cx) (W : DWX) (o : List Nat) (B : Bx) (tg : Expr) (g : FG) : Prop := ∃ t, DG X W tg t ∧ ∀ d r M (Q : Rho → Mh → Prop) l l', Lw o B r M l → g d l = some l' → (∀ r', Lw o B r' M l' → Q r' M) → t d r M Q
def gN (i : Nat) : FG := fun d l => some (l.set i (some d))
theorem JuH {i : Nat} {x : Str} (hN : X.N.Nodup) (hi : X.N[i]? = some x) (hx : Loc X.env.scope x) (ho : i ∉ o) (hJ : B.Jk i) (hf : X.fn x = true ∨ X.env.scope.names.lookup x = some .local := by first | exact .inl rfl | exact .inr rfl | assumption) : TGt X W o B (.Name x pos) (gN i) :=
  ⟨_, JqD hN hi hx hf, fun d r M Q l l' w e k => by cases e; exact k _ (w.set ho hJ)⟩
def TI (X : Cx) (W : DWX) (tg iter : Expr) (o : List Nat) (B : Bx) (f : FA) : Prop :=
  ∃ t, DI X W tg iter t ∧ ∀ r M (Q : List D → Mh → Prop) l, Lw o B r M l → (f l).go B.m (fun ds => Q ds M) (fun C fs => W C fs r M) → t r M Q
def forT (g : FG) (fb : FS) : List D → FS
  | [], l => .v (.nx l)
  | x :: xs, l => (T.ofO (g x l)).bind fun l1 => (fb l1).bind fun c => match c with
    | .nx l2 => forT g fb xs l2
    | .ct l2 => forT g fb xs l2
    | .bk l2 => .v (.nx l2)
    | c => .v c
def fFor (fi : FA) (g : FG) (fb : FS) : FS := fun l => (fi l).sx l fun ds => forT g fb ds l
theorem Jr8 {gd : DTG} {g : FG} {fb : FS} {E : DEnds} (hg : ∀ d r M (Q : Rho → Mh → Prop) l l', Lw o B r M l → g d l = some l' → (∀ r', Lw o B r' M l' → Q r' M) → gd d r M Q) :
    ∀ (ds : List D) {r : Rho} {M : Mh} {l : Rho}, Lw o B r M l → (forT g fb ds l).go B.m (CtQ W o B E) noX → forL gd (tS W o B fb) E ds r M
  | [], r, M, l, w, h => h r M w
  | d :: ds, r, M, l, w, h => by
    obtain ⟨l1, e, h⟩ := T.go_ofO.mp (T.go_bind.mp h)
    refine hg d r M _ l l1 w e fun r1 w1 => ⟨l1, w1, T.go_imp (T.go_bind.mp h) fun c hc => ?_⟩
    cases c with
    | nx l2 => exact fun r2 M2 w2 => Jr8 hg ds w2 hc
    | ct l2 => exact fun r2 M2 w2 => Jr8 hg ds w2 hc
    | bk l2 => exact hc
    | rt d => exact hc
    | rs C fs l2 => exact hc
theorem Jwx {tg iter : Expr} {body : List Stmt} {fi : FA} {g : FG} (hp : PassesOwn (model X.prog X.w) X.A X.env X.xe) (hc : X.calm = true) (hi : TI X W tg iter o B fi) (hg : TGt X W o B tg g) (hb : DSs X W body (tS W o B fb)) (hs : ∀ x, foldedSetIterable iter X.env x = pure x := by intro _; rfl) :
    DS X W (.For tg iter body [] pos) (tS W o B (fFor fi g fb)) := by
  obtain ⟨ti, h1, h2⟩ := hi
  obtain ⟨gd, h3, h4⟩ := hg
  exact (JtU hp hc h1 h3 hb hs).imp' fun E r M ⟨l, w, k⟩ => h2 r M _ l w (Jrf w k fun ds q => Jr8 h4 ds w q)
def fI (a : D → T (List D)) (f : FE) : FA := fun l => (f l).bind a
def rngD (i j : Int) : List D := (List.range (j - i).toNat).map fun k : Nat => D.int (i + (k : Int))
def smB (i : Int) : Bool := decide (-(2 ^ 62) ≤ i ∧ i < 2 ^ 62)
def Jbr (h : FA) : FA := fun l => (h l).bind fun ds => match ds with
  | [.int j] => .gd (smB j) (.v (rngD 0 j))
  | _ => .no
theorem JoM {tg a : Expr} {p : Pos} (hg : Gl X "range") (hm : X.mg "range" = none) (ha : DA X W [a] (tA W o B h)) (hs : starEach [a] X.env = [(false, eval a X.env)] := by rfl) : TI X W tg (.Call (.Name "range" p) [a] [] pos) o B (Jbr h) :=
  ⟨_, JpU hg hm ha hs, fun r M Q l w k => ⟨l, w, T.go_imp (T.go_bind.mp k) fun ds q => by
    split at q
    · rename_i j
      obtain ⟨q1, q2⟩ := T.go_gd.mp q
      have := of_decide_eq_true q1
      refine ⟨this.1, this.2, ?_⟩
      have q2 : Q (rngD 0 j) M := q2
      unfold rngD at q2
      rw [Int.sub_zero] at q2
      exact q2
    · exact q.elim⟩⟩
end
end DL

set_option maxHeartbeats 2000000
namespace DL
open PySem PySem.Spec PyProof.Rows L2

structure TA (X : Cx) (W : DWX) (es : List Expr) (o : List Nat) (B : Bx) (h : FA) : Prop where
  da : DA X W es (tA W o B h)
  len : ∀ l M Q E, (h l).go M Q E → (h l).go M (fun ds => ds.length = es.length ∧ Q ds) E
section
variable {X : Cx} {W : DWX} {o : List Nat} {B : Bx} {e a b c : Expr} {es rest : List Expr} {f fa fb fc : FE} {g ga gb : FT} {h : FA} {pos : Pos}
theorem JaB : TA X W [] o B fNil := ⟨Jwu, fun l M Q E k => ⟨rfl, k⟩⟩
theorem Jac (ha : DE X W e (tE W o B f)) (hr : TA X W es o B h) (hs : starEach (e :: es) X.env = (false, eval e X.env) :: starEach es X.env := by rfl) : TA X W (e :: es) o B (fCo f h) :=
  ⟨JuG ha hr.da hs, fun l M Q E k => T.go_bind.mpr (T.go_imp (T.go_bind.mp k) fun d q => T.go_bind.mpr (T.go_imp (hr.len l M _ E (T.go_bind.mp q)) fun ds q => ⟨congrArg (· + 1) q.1, q.2⟩))⟩
def T.fm (g : D → T (Option D)) : List D → T (List D)
  | [] => .v []
  | a :: as => (g a).bind fun o => (T.fm g as).bind fun ys => .v (match o with | some y => y :: ys | none => ys)
def asgN : List Nat → List D → Rho → Option Rho
  | [], [], l => some l
  | i :: is, d :: ds, l => asgN is ds (l.set i (some d))
  | _, _, _ => none
def asgP : TPat → D → Rho → Option Rho
  | .one i, x, l => some (l.set i (some x))
  | .tup is, .tup ds, l => asgN is ds l
  | _, _, _ => none
def JuI (p : TPat) (ft : FT) (fe : FE) (l0 : Rho) (x : D) : T (Option D) := (T.ofO (asgP p x l0)).bind fun l1 => (ft l1).nx.bind fun b => if b = true then (fe l1).nx.bind fun y => .v (some y) else .v none
def fYes : FT := fun _ => .v true
theorem Jr9 {r : Rho} {M : Mh} {Q : Rho → Mh → Prop} : ∀ {is : List Nat} {ds : List D} {r l l' : Rho}, (∀ i ∈ is, i ∉ o ∧ B.Jk i) → Lw o B r M l → asgN is ds l = some l' → (∀ r', Lw o B r' M l' → Q r' M) → JnN is ds r M Q ∧ ds.length = is.length
  | [], [], r, l, l', hi, w, e, k => by cases e; exact ⟨k r w, rfl⟩
  | i :: is, d :: ds, r, l, l', hi, w, e, k => by
    obtain ⟨h1, h2⟩ := Jr9 (r := r) (is := is) (ds := ds) (fun j hj => hi j (List.mem_cons_of_mem _ hj)) (w.set (hi i (List.mem_cons_self ..)).1 (hi i (List.mem_cons_self ..)).2) e k
    exact ⟨h1, congrArg (· + 1) h2⟩
  | [], _ :: _, _, _, _, _, _, e, _ => by cases e
  | _ :: _, [], _, _, _, _, _, e, _ => by cases e
theorem JuJ {p : TPat} {x : D} {r l l' : Rho} {M : Mh} {Q : Rho → Mh → Prop} (hi : ∀ i ∈ p.ixs, i ∉ o ∧ B.Jk i) (w : Lw o B r M l) (e : asgP p x l = some l') (k : ∀ r', Lw o B r' M l' → Q r' M) : tpD p x r M Q := by
  cases p with
  | one i => cases e; exact k _ (w.set (hi i (List.mem_cons_self ..)).1 (hi i (List.mem_cons_self ..)).2)
  | tup is =>
    cases x with
    | tup ds =>
      obtain ⟨h1, h2⟩ := Jr9 (r := r) hi w e k
      exact ⟨h2, h1⟩
    | _ => cases e
theorem Lw.wipe {r l : Rho} {M : Mh} (w : Lw o B r M l) : ∀ {vs : List Nat}, (∀ i ∈ vs, i ∉ o ∧ B.Jk i) → Lw o B (Jon r vs) M (Jon l vs)
  | [], _ => w
  | v :: vs, h => by
    have w' := w.wipe (vs := vs) fun i hi => h i (List.mem_cons_of_mem _ hi)
    have hv := h v (List.mem_cons_self ..)
    show Lw o B ((Jon r vs).set v none) M ((Jon l vs).set v none)
    exact w'.blind hv.1 (hv.2 _ _ w'.j)
theorem JuK {p : TPat} {ft : FT} {fe : FE} {r0 l0 : Rho} {Q : QD} {M : Mh} {E} (hi : ∀ i ∈ p.ixs, i ∉ o ∧ B.Jk i) (w : Lw o B r0 M l0) : ∀ {items acc : List D}, acc.length + items.length ≤ sizeLine → (T.fm (JuI p ft fe l0) items).go B.m (fun ys => Q (.lst (acc ++ ys)) M) E → lcL p (tT WN o B ft) (tE WN o B fe) r0 Q items acc M
  | [], acc, hl, h => by
    have h : Q (.lst (acc ++ [])) M := h
    rw [List.append_nil] at h
    exact h
  | x :: xs, acc, hl, h => by
    have hl' : acc.length + (xs.length + 1) ≤ sizeLine := hl
    have h := T.go_bind.mp h
    unfold JuI at h
    obtain ⟨l1, e, h⟩ := T.go_ofO.mp (T.go_bind.mp h)
    refine JuJ hi w e fun r1 w1 => ⟨l1, w1, T.go_mono (T.go_nx.mp (T.go_bind.mp h)) (fun _ z => z) (fun b h => ?_) (fun _ _ z => z)⟩
    cases b with
    | true =>
      have h := T.go_nx.mp (T.go_bind.mp (show (((fe l1).nx).bind fun y => T.v (some y)).go B.m _ _ from h))
      refine ⟨l1, w1, T.go_imp h fun y h => ⟨by omega, ?_⟩⟩
      refine JuK hi w (by rw [List.length_append, List.length_cons, List.length_nil]; omega) (T.go_imp (T.go_bind.mp h) fun ys h => ?_)
      have h : Q (.lst (acc ++ (y :: ys))) M := h
      rw [List.append_cons] at h
      exact h
    | false => exact JuK hi w Qh (T.go_bind.mp h)
def fLc (fi : FA) (p : TPat) (ft : FT) (fe : FE) (vs : List Nat) : FE := fun l => (fi l).bind fun items => .gd (szOk items.length) ((T.fm (JuI p ft fe (Jon l vs)) items).bind fun ys => .v (.lst ys))
theorem Jwy {tg iter : Expr} {ti : DTI} {fi : FA} {p : TPat} {ft : FT} {fe : FE} {vs : List Nat} (hv : ∀ i ∈ vs, i ∉ o ∧ B.Jk i) (hix : ∀ i ∈ p.ixs, i ∈ vs) (h2 : ∀ r M (Q : List D → Mh → Prop) l, Lw o B r M l → (fi l).go B.m (fun ds => Q ds M) (fun C fs => W C fs r M) → ti r M Q) (r : Rho) (M : Mh) (Q : QD)
    (h : tE W o B (fLc fi p ft fe vs) r M Q) : dLc ti p (tT WN o B ft) (tE WN o B fe) vs r M Q := by
  obtain ⟨l, w, k⟩ := h
  refine h2 r M _ l w (T.go_imp (T.go_bind.mp k) fun items k => ?_)
  obtain ⟨k1, k2⟩ := T.go_gd.mp k
  exact JuK (fun i hi => hv i (hix i hi)) (w.wipe hv) (by rw [List.length_nil, Nat.zero_add]; exact of_decide_eq_true k1) (T.go_bind.mp k2)
theorem Jwz {elt tg iter : Expr} {ifs : List Expr} {scope : Scope} {own : List (Str × Nat)} {fi : FA} {p : TPat} {ft : FT} {fe : FE} (hc : X.calm = true) (hN : X.N.Nodup) (hi : TI X W tg iter o B fi) (ok : BlkOk X.N X.env.scope scope own) (hix : ∀ i ∈ p.ixs, i ∈ own.map (·.2)) (hv0 : ∀ i ∈ own.map (·.2), i ∉ o) (hvJ : ∀ i ∈ own.map (·.2), B.Jk i)
    (hg : ∀ (s : Shared) (H : Hp) (C : Addr) (cl : List (Str × Addr)) (fp : List Addr), PG (Cx.blk X s H scope (compEnvC scope cl C X.env) fp) tg (tpV X.K p)) (ht : ∀ (s : Shared) (H : Hp) (C : Addr) (cl : List (Str × Addr)) (fp : List Addr), DTs (Cx.blk X s H scope (compEnvC scope cl C X.env) fp) WN ifs (tT WN o B ft))
    (he : ∀ (s : Shared) (H : Hp) (C : Addr) (cl : List (Str × Addr)) (fp : List Addr), DE (Cx.blk X s H scope (compEnvC scope cl C X.env) fp) WN elt (tE WN o B fe)) (hs : ∀ x, foldedSetIterable iter X.env x = pure x := by intro _; rfl) :
    DE X W (.ListComp elt [⟨tg, iter, ifs, 0⟩] scope pos) (tE W o B (fLc fi p ft fe (own.map (·.2)))) := by
  obtain ⟨ti, h1, h2⟩ := hi
  exact (Jv3 hc hN h1 ok hix hg ht he hs).imp' (Jwy (tg := tg) (iter := iter) (fun i hi => ⟨hv0 i hi, hvJ i hi⟩) hix h2)
theorem Jsa : DTs X W [] (tT W o B fYes) := ⟨fun pins s st H Q I ⟨Z, r, M, DQ, q, ⟨l, w, k⟩, kk⟩ => pts_nil.run pins s st H Q I (kk true H ⟨M, q, Same.refl _, k⟩)⟩
def OpN (X : Cx) (W : DWX) (f : Value) (g : List D → Option D) : Prop := ∃ o, DCall X W f o ∧ ∀ (M : Mh) (ds' ds : List D) (d : D) (Q : QD), Paired (Vw M) ds' ds → g ds = some d → Q d M → o ds' M Q
def fCB (g : List D → Option D) (h : FA) : FE := fun l => (h l).bind fun ds => .ofO (g ds)
theorem JsY {x : Str} {p : Pos} {id : String} {g : List D → Option D} (hc : OpN X W (.builtin id) g) (hg : Gl X x) (hm : X.mg x = none) (hv : bootBuiltins x = some (.builtin id)) (ha : DA X W (e :: es) (tAL W o B h)) (hn : x ≠ "__name__" := by decide) (hdb : (x == ("__debug__" : Str)) = false := by decide)
    (he : starEach (e :: es) X.env = (false, eval e X.env) :: starEach es X.env := by rfl) (hpl : (backTo pos (starEach es X.env)).any (·.1) = false := by rfl) : DE X W (.Call (.Name x p) (e :: es) [] pos) (tE W o B (fCB g h)) := by
  obtain ⟨o', h1, h2⟩ := hc
  exact (JbH h1 hg hm hv ha hn hdb he hpl).imp' fun r M Q ⟨l, w, k⟩ => ⟨l, w, T.go_imp (T.go_bind.mp k) fun ds q ds' hp => by
    obtain ⟨d, e, q⟩ := T.go_ofO.mp q
    exact h2 M ds' ds d Q hp e q⟩
theorem Jqh {x : Str} {p : Pos} {ty : String} {g : List D → Option D} (hc : OpN X W (.type ty) g) (hg : Gl X x) (hm : X.mg x = none) (hv : bootBuiltins x = some (.type ty)) (ha : DA X W (e :: es) (tAL W o B h)) (hn : x ≠ "__name__" := by decide) (hdb : (x == ("__debug__" : Str)) = false := by decide)
    (he : starEach (e :: es) X.env = (false, eval e X.env) :: starEach es X.env := by rfl) (hpl : (backTo pos (starEach es X.env)).any (·.1) = false := by rfl) : DE X W (.Call (.Name x p) (e :: es) [] pos) (tE W o B (fCB g h)) := by
  obtain ⟨o', h1, h2⟩ := hc
  exact (Jcb h1 hg hm hv ha hn hdb he hpl).imp' fun r M Q ⟨l, w, k⟩ => ⟨l, w, T.go_imp (T.go_bind.mp k) fun ds q ds' hp => by
    obtain ⟨d, e, q⟩ := T.go_ofO.mp q
    exact h2 M ds' ds d Q hp e q⟩
def spT (n : Nat) (f : List D → T D) : DSp := fun ds M Q E => ds.length = n ∧ (f ds).go M (fun d => Q d M) (fun C fs => E C fs M)
def JnC (f : List D → T D) (gD : List D → List D → List D) (h hk : FA) : FE := fun l => (h l).bind fun ds => (hk l).bind fun es => f (gD ds es)
theorem JuL {n m k : Nat} {f : List D → T D} {gD : List D → List D → List D} {h hk : FA} {kes : List Expr} (hl : ∀ ds es, ds.length = n → es.length = m → (gD ds es).length = k) (l1 : ∀ l M Q E, (h l).go M Q E → (h l).go M (fun ds => ds.length = n ∧ Q ds) E) (l2 : ∀ l M Q E, (hk l).go M Q E → (hk l).go M (fun ds => ds.length = m ∧ Q ds) E)
    (r : Rho) (M : Mh) (Q : QD) (hh : tE W o B (JnC f gD h hk) r M Q) : JqF W (spT k f) n m gD (tA W o B h) (tA W o B hk) r M Q := by
  obtain ⟨l, w, kk⟩ := hh
  refine ⟨l, w, T.go_imp (l1 l _ _ _ (T.go_bind.mp kk)) fun ds q => ⟨l, w, T.go_imp (l2 l _ _ _ (T.go_bind.mp q.2)) fun es q2 => ⟨q.1, q2.1, hl _ _ q.1 q2.1, ?_⟩⟩⟩
  exact T.go_mono q2.2 (fun p z => w.less.pool p z) (fun _ z => z) fun _ _ z => z
theorem Jfm {k n j : Nat} {f : Addr} {fd : FuncData} {ps : List Str} {x : Str} {p : Pos} {gD : List D → List D → List D} {ff : List D → T D} (F : FnG X.prog X.w X.K X.mg X.base k f fd ps (spT j ff)) (hr : Rm k X.A) (hg : Gl X x) (hm : X.mg x = some (.ref f)) (hk : PySem.W.keepIn X.K (.ref f) = true) (hb : Bd X.K fd ps n [] gD) (hn : (e :: es).length = n) (hl : ∀ ds es, ds.length = n → es.length = 0 → (gD ds es).length = j) (ha : TA X W (e :: es) o B h)
    (hdb : (x == ("__debug__" : Str)) = false := by decide) (he : starEach (e :: es) X.env = (false, eval e X.env) :: starEach es X.env := by rfl) (hpl : (backTo pos (starEach es X.env)).any (·.1) = false := by rfl) : DE X W (.Call (.Name x p) (e :: es) [] pos) (tE W o B (JnC ff gD h fNil)) :=
  ((Jpt F hr hg hm hk hb ha.da hdb he hpl).imp' fun r M Q hh => by
    have := JuL (kes := []) hl (fun l M Q E k => by have := ha.len l M Q E k; rw [hn] at this; exact this) (fun l M Q E k => (JaB (X := X) (W := W) (o := o) (B := B)).len l M Q E k) r M Q hh
    obtain ⟨l, w, kk⟩ := this
    exact ⟨l, w, T.go_imp kk fun ds ⟨l', w', q⟩ => q⟩)
end
def runT (t : T Ct) : T D := t.nx.bind fun c => match c with
  | .nx _ => .v .non
  | .rt d => .v d
  | .rs C fs _ => .x C fs
  | _ => .no
theorem JsZ {o : List Nat} {M : Mh} {N : List Str} {ds : List D} {b : Bool} (ho : ∀ i ∈ o, ds.length ≤ i) : Lw o ⟨M, none, fun _ => True, b⟩ (JaC N ds) M (JaC N ds) where
  len := rfl
  less := Less.refl
  j := trivial
  pl := fun _ _ _ h => h
  ow := fun i d hi h => by
    have h1 : ds.length ≤ i := ho i hi
    unfold JaC at h
    rw [List.getElem?_append_right (by rw [List.length_map]; exact h1), List.getElem?_replicate] at h
    split at h <;> cases h
  dis := fun i j p d e hi hj h _ _ _ => by
    have h1 : ds.length ≤ i := ho i hi
    unfold JaC at h
    rw [List.getElem?_append_right (by rw [List.length_map]; exact h1), List.getElem?_replicate] at h
    split at h <;> cases h
theorem Jpz {P : Program} {w : World} {K : PySem.W.Frag} {mg : Str → Option Value} {base : Heap} {k : Nat} {f : Addr} {x qual : Str} {params : Arguments} {body : List Stmt} {scope : Scope} {dvs : List V} {kws : List (Str × V)} {fd : FuncData} {N ps : List Str} {o : List Nat} {n : Nat} {fs : FS}
    (F : FunD K x qual params body scope dvs kws f fd) (S : FnScope N ps scope) (hn : n = ps.length) (ho : ∀ i ∈ o, n ≤ i)
    (hbody : ∀ (cdv : Value) (A : Around) (outer : List Env) (s : Shared) (H Z : Hp) (M : Mh) (E : DXK) (E1 : XK), Rm k (A.deeper (envOfC qual scope s.heap.objs.size f cdv)) →
      DSs (cxOf (L2.CX P w) P w K mg base N qual scope f cdv A outer s H E1) (fun cls fs _ M' => XLess E cls fs M') body (tS (fun cls fs _ M' => XLess E cls fs M') o ⟨M, none, fun _ => True, false⟩ fs)) : FnG P w K mg base (k + 1) f fd ps (spT n fun ds => runT (fs (JaC N ds))) := by
  refine JpY F S (fun ds M Q E h => h.1.trans hn) fun cdv A outer s H Z ds M Q E E1 hr h => ⟨_, hbody cdv A outer s H Z M E E1 hr, JaC N ds, JsZ (fun i hi => by rw [h.1]; exact ho i hi), ?_⟩
  refine T.go_mono (T.go_nx.mp (T.go_bind.mp h.2)) (fun _ z => z) (fun c hc => ?_) fun C fs z => z
  · cases c with
    | nx l => exact fun r M' w' => ⟨M, w'.less, .inl hc⟩
    | rt d =>
      intro d' M' hl hd
      rcases hd with ⟨_, rfl⟩ | ⟨p, ds, rfl, e1, rfl, e3⟩
      · exact ⟨M, hl, .inl hc⟩
      · exact ⟨M, hl, .inr ⟨p, ds, rfl, e3, e1, hc⟩⟩
    | rs C fs l => exact fun r M' w' => ⟨M, w'.less, hc⟩
    | bk l => exact hc.elim
    | ct l => exact hc.elim
end DL

set_option maxHeartbeats 2000000
namespace DL
open PySem PySem.Spec PyProof.Rows L2

section
variable {X : Cx} {W : DWX}
def p1 (g : D → Option D) : List D → Option D
  | [d] => g d
  | _ => none
def p2 (g : D → D → Option D) : List D → Option D
  | [d, e] => g d e
  | _ => none
theorem pv1 {M : Mh} {g : D → Option D} {ds' ds : List D} {d : D} (h : Paired (Vw M) ds' ds) (e : p1 g ds = some d) : ∃ x' x, ds' = [x'] ∧ Vw M x' x ∧ g x = some d := by
  cases h with
  | nil => cases e
  | cons h1 h2 =>
    cases h2 with
    | nil => exact ⟨_, _, rfl, h1, e⟩
    | cons _ _ => cases e
def pLen : D → Option D
  | .str x => og (szOk x.length) (.int x.length)
  | d => (sq d).map fun es => .int es.length
theorem Jx6 : OpN X W (.builtin "len") (p1 pLen) := ⟨_, Jup, fun M ds' ds d Q hp e q => by
  obtain ⟨x', x, rfl, hv, e⟩ := pv1 hp e
  unfold pLen at e
  split at e
  · obtain ⟨e1, e2⟩ := og_s.mp e
    subst e2
    rw [hv.str]
    exact ⟨of_decide_eq_true e1, q⟩
  · obtain ⟨es, e1, e2⟩ := Option.map_eq_some_iff.mp e
    subst e2
    have hs := hv.seqOf e1
    have nstr : ∀ b, x' ≠ .str b := fun b z => by
      subst z
      rcases hv with rfl | ⟨p, mo, z, _, _⟩
      · cases e1
      · cases z
    unfold aLen
    split
    · rename_i h; cases h; exact absurd rfl (nstr _)
    · rename_i h; cases h; exact ⟨es, hs, q⟩
    · rename_i h2 h3; exact h3 _ rfl⟩
def Js0 : D → Option D
  | .int i => og (decide (i.natAbs.log2 < 1920)) (.str (toString i))
  | _ => none
theorem JwA : OpN X W (.type "str") (p1 Js0) := ⟨_, Jv8, fun M ds' ds d Q hp e q => by
  obtain ⟨x', x, rfl, hv, e⟩ := pv1 hp e
  unfold Js0 at e
  split at e
  · obtain ⟨e1, e2⟩ := og_s.mp e
    subst e2; rw [hv.int]; exact ⟨of_decide_eq_true e1, q⟩
  · cases e⟩
def showB (p : PyData) : Bool := p.showable && (decide (p.shown.length ≤ sizeLine) && decide (p.depth ≤ 60))
theorem JpA {p : PyData} (h : showB p = true) : Joo p := by
  unfold showB at h
  rw [Bool.and_eq_true, Bool.and_eq_true] at h
  exact ⟨h.1, of_decide_eq_true h.2.1, of_decide_eq_true h.2.2⟩
def Jsb : D → Option D
  | .lst es => match py (.lst es) with
    | some p => og (showB p) (.str p.shown)
    | none => none
  | .tup es => match py (.tup es) with
    | some p => og (showB p) (.str p.shown)
    | none => none
  | .dic es => match py (.dic es) with
    | some p => og (showB p) (.str p.shown)
    | none => none
  | _ => none
def OpNs (X : Cx) (W : DWX) (f : Value) (g : List D → Option D) : Prop := ∃ o, DCall X W f o ∧ ∀ (M : Mh) (ds : List D) (d : D) (Q : QD), g ds = some d → Q d M → o ds M Q
theorem JwB {k : Nat} (hr : Rm k X.A) (hsy : (X.K.lookup sysModules).isSome = true) : OpNs X W (.builtin "repr") (p1 Jsb) := ⟨_, Jrb hr hsy, fun M ds d Q e q => by
  unfold p1 at e
  split at e
  · unfold Jsb at e
    split at e
    · split at e
      · rename_i p e1
        obtain ⟨e2, e3⟩ := og_s.mp e
        subst e3
        exact ⟨p, e1, JpA e2, q⟩
      · cases e
    · split at e
      · rename_i p e1
        obtain ⟨e2, e3⟩ := og_s.mp e
        subst e3
        exact ⟨p, e1, JpA e2, q⟩
      · cases e
    · split at e
      · rename_i p e1
        obtain ⟨e2, e3⟩ := og_s.mp e
        subst e3
        exact ⟨p, e1, JpA e2, q⟩
      · cases e
    · cases e
  · cases e⟩
def tyN : D → Option Value := tyD fun _ => none
theorem Vw.ty {M : Mh} {x' x : D} {t : Value} (h : Vw M x' x) (e : tyN x = some t) : tyD M x' = some t := by
  rcases h with rfl | ⟨p, mo, rfl, m, hp⟩
  · cases x' <;> first | exact e | cases e
  · show (match M p with | some (.lst _) => some (Value.type "list") | some .pool => some (.type "list") | some (.dic _) => some (.type "dict") | some (.ins C _ _) => some (.ref C) | some (.slt C _ _) => some (.ref C) | none => none) = _
    rw [hp]
    cases m <;> exact e
def q1 (g : D → D → Option D) : D → List D → Option D
  | x, [d] => g x d
  | _, _ => none
def Jt3 : D → D → Option D
  | .str a, .str b => og (!(b.length == 0) && szOk (a.length + 2)) (.lst ((Txt.split a b).map D.str))
  | _, _ => none
end
section
variable {X : Cx} {W : DWX} {o : List Nat} {B : Bx} {e a b c : Expr} {es rest : List Expr} {f fa fb fc : FE} {g ga gb : FT} {h hk : FA} {pos : Pos} {kws : List Keyword}
theorem Ja4 {x : Str} {p : Pos} {id : String} {g : List D → Option D} (hc : OpNs X W (.builtin id) g) (hg : Gl X x) (hm : X.mg x = none) (hv : bootBuiltins x = some (.builtin id)) (ha : DA X W (e :: es) (tA W o B h)) (hn : x ≠ "__name__" := by decide) (hdb : (x == ("__debug__" : Str)) = false := by decide)
    (he : starEach (e :: es) X.env = (false, eval e X.env) :: starEach es X.env := by rfl) (hpl : (backTo pos (starEach es X.env)).any (·.1) = false := by rfl) : DE X W (.Call (.Name x p) (e :: es) [] pos) (tE W o B (fCB g h)) := by
  obtain ⟨o', h1, h2⟩ := hc
  exact (JbH h1 hg hm hv ha hn hdb he hpl).imp' fun r M Q ⟨l, w, k⟩ => ⟨l, w, T.go_imp (T.go_bind.mp k) fun ds q => by
    obtain ⟨d, e, q⟩ := T.go_ofO.mp q
    exact h2 M ds d Q e q⟩
end
end DL

set_option maxHeartbeats 2000000
namespace DL
open PySem PySem.Spec PyProof.Rows L2 He

def Jng (K : PySem.W.Frag) (f : Str) : Sp := fun vs H Q _ => ∃ (a C : Addr) (y : V), vs = [.ref a, y] ∧ OxC K C ∧ PySem.W.findIn K (.ref C) f = some none ∧ H a = some (exo a C none) ∧
  ∀ dx, H dx = none → dx ≠ a → Q .non (upd (upd H dx (exd dx [(f, y)])) a (exo a C (some dx)))
structure ExcX (K : PySem.W.Frag) (C fI : Addr) (f : Str) : Prop where
  T : OxC K C
  init : PySem.W.findIn K (.ref C) "__init__" = some (some (.ref fI))
  fn : PySem.W.typeIn K (.ref fI) = some (.type "function")
  no : PySem.W.findIn K (.ref C) f = some none
theorem Jsc {CX : CXT} {P : Program} {w : World} {K : PySem.W.Frag} {mg : Str → Option Value} {base : Heap} {fI : Addr} {x qual f y : Str} {params : Arguments} {body : List Stmt} {scope : Scope} {fd : FuncData} {p1 p2 p3 p4 : Pos}
    (F : FunD K x qual params body scope [] [] fI fd) (S : FnScope ["self", y] ["self", y] scope) (hb : body = [.Assign [.Attribute (.Name "self" p1) f p2] (.Name y p3) p4]) (hd : (y == ("__debug__" : Str)) = false) (hcd : (y == ("__classdict__" : Str)) = false) : FnOk P w K mg base CX 1 fI fd ["self", y] (Jng K f) := by
  have v0 : Vis scope "self" := (S.par "self" (List.Mem.head _)).elim (fun z => .inl z) (fun z => .inr (.inl z))
  have v1 : Vis scope y := (S.par y (List.Mem.tail _ (List.Mem.head _))).elim (fun z => .inl z) (fun z => .inr (.inl z))
  subst hb
  refine F.ok S (fun vs H Q E ⟨a, C, y, e, _⟩ => by rw [e]; rfl) (fun cdv A outer s H vs Q E hr h => ?_)
  obtain ⟨a, C, z, e, T, no, ea, q⟩ := h
  subst e
  refine ⟨_, pss_one (JxP (pe_var (i := 0) rfl v0) (pe_var (i := 1) rfl v1 hd hcd)), ?_⟩
  exact ⟨z, rfl, .ref a, rfl, a, C, rfl, T, no, ea, fun dx n ne => q dx n ne⟩
structure Exc0 (K : PySem.W.Frag) (C : Addr) : Prop where
  ex : ∃ B nid iid tl, BaX B nid iid tl ∧ PySem.W.excIn K C tl nid = true
  exC : PySem.W.subIn K (.ref C) (.type "BaseException") = some true
  tyC : PySem.W.typeIn K (.ref C) = some (.type "type")
  kC : PySem.W.keepIn K (.ref C) = true
section
variable {K : PySem.W.Frag} {x f : Str}
theorem JwC {n : String} {bm : List Value} (h : baB n bm = true) : ∃ B iid tl, BaX B n iid tl ∧ OvX tl bm := by
  unfold baB at h
  rcases Bool.or_eq_true_iff.mp h with h | h
  · obtain ⟨h1, h2⟩ := ba h
    rw [of_decide_eq_true h1]
    exact ⟨_, _, _, Jp2, by have z := JqH bm; rwa [of_decide_eq_true h2] at z⟩
  rcases Bool.or_eq_true_iff.mp h with h | h
  · obtain ⟨h1, h2⟩ := ba h
    rw [of_decide_eq_true h1]
    exact ⟨_, _, _, Jpg, by have z := JqH bm; rwa [of_decide_eq_true h2] at z⟩
  · obtain ⟨h1, h2⟩ := ba h
    rw [of_decide_eq_true h1]
    exact ⟨_, _, _, Jp3, by have z := JqH bm; rwa [of_decide_eq_true h2] at z⟩
theorem JwD {C : Addr} (h : oxB K C = true) : ∃ B nid iid tl nm q N bs bm sn sub ab col dd k0 k1 k2 k3 k5, BaX B nid iid tl ∧ OvX tl bm ∧ K.lookup C = some (excClassObj nm q C N bs bm true sn sub ab col dd k0 k1 k2 k3 k5 nid) := by
  unfold oxB at h
  split at h
  · rename_i dd cd sl e
    split at h
    · rename_i C' bm k0 k1 k2 k3 n k5 hm hs
      obtain ⟨h1, h⟩ := ba h
      obtain ⟨h2, h⟩ := ba h
      obtain ⟨h3, h4⟩ := ba h
      have e1 := of_decide_eq_true h1
      subst e1
      obtain ⟨B, iid, tl, hB, hO⟩ := JwC h2
      obtain ⟨nm, bs, mro, N, q, hd, sn, sub, ab, col, del⟩ := cd
      dsimp only at hm h3 h4
      subst hm h4
      have e3 : del = false := by simpa using h3
      subst e3
      obtain ⟨l⟩ := sl
      dsimp only at hs
      subst hs
      exact ⟨B, n, iid, tl, nm, q, N, bs, bm, sn, sub, ab, col, dd, k0, k1, k2, k3, k5, hB, hO, e⟩
    · cases h
  · cases h
theorem Jap (h : Ja8 x f K = true) : ExcX K (ga K x) (ma K (ga K x) "__init__") f ∧ XfC K (ga K x) := by
  obtain ⟨h1, h⟩ := ba h
  obtain ⟨h2, h⟩ := ba h
  obtain ⟨h3, h⟩ := ba h
  obtain ⟨h4, h⟩ := ba h
  obtain ⟨h5, h⟩ := ba h
  obtain ⟨h6, h⟩ := ba h
  obtain ⟨h7, h⟩ := ba h
  obtain ⟨h8, h9⟩ := ba h
  exact ⟨⟨⟨JwD h1, Jfg h2, Jfg h3, Jfg h4, h5⟩, Jfg h6, Jfg h7, Jfg h8⟩, xfB_ok h9⟩
theorem Js1 (h : Juz x K = true) : Exc0 K (ga K x) := by
  obtain ⟨h1, h⟩ := ba h
  obtain ⟨h2, h⟩ := ba h
  obtain ⟨h3, h4⟩ := ba h
  refine ⟨?_, Jfg h2, Jfg h3, h4⟩
  unfold ex0B at h1
  rcases Bool.or_eq_true_iff.mp h1 with h | h
  · exact ⟨_, _, _, _, Jp2, h⟩
  rcases Bool.or_eq_true_iff.mp h with h | h
  · exact ⟨_, _, _, _, Jpg, h⟩
  · exact ⟨_, _, _, _, Jp3, h⟩
end
end DL

set_option maxHeartbeats 2000000
namespace DL
open PySem PySem.Spec PyProof.Rows L2

theorem SR.here {k : Kt} {Z : Hp} {r : Rho} {M : Mh} {st : Sg} {H : Hp} {i : Nat} {v : V} {d : D} (q : SR k Z r M st H) (hs : st[i]? = some (some v)) (h : Rep k.K (out Z M H) v d) : SR k Z (r.set i (some d)) M st H where
  len := by rw [List.length_set, q.len]
  hr := q.hr
  tk := q.tk
  sl := fun j e z => by
    rcases Jl0 z with ⟨rfl, rfl, _⟩ | ⟨_, z⟩
    · exact ⟨v, hs, h⟩
    · exact q.sl j e z
section
variable {X : Cx} {W : DWX} {o : List Nat} {B : Bx} {e c : Expr} {s : Stmt} {ss a b : List Stmt} {f : FE} {g : FT} {h : FA} {fs gs fa fb : FS} {pos : Pos} {es : List Expr}
def DF (X : Cx) (W : DWX) (o : List Nat) (B : Bx) (e : Expr) (f : FE) : Prop := ∃ te, DE X W e te ∧ ∀ r M (Q : QD) l, Lw o B r M l → (f l).go B.m (fun d => ∀ ds, d = .lst ds → ∀ p, M p = none → Q (.ref p) (mset M p (.lst ds))) (fun C fs => W C fs r M) → te r M Q
def DFm (X : Cx) (W : DWX) (o : List Nat) (B : Bx) (e : Expr) (f : FE) : Prop := ∃ te, DE X W e te ∧ ∀ r M (Q : QD) l, Lw o B r M l → (f l).go B.m (fun d => ∀ p mo, M p = none → MoD d mo → Q (.ref p) (mset M p mo)) (fun C fs => W C fs r M) → te r M Q
theorem DF.m {e : Expr} {f : FE} (h : DF X W o B e f) : DFm X W o B e f := by
  obtain ⟨te, d, u⟩ := h
  exact ⟨te, d, fun r M Q l w k => u r M Q l w (T.go_imp k fun d q ds e p hp => q p _ hp (by rw [e]; exact .lst ds))⟩
inductive TX (X : Cx) (W : DWX) (o : List Nat) (B : Bx) (i : Nat) : Expr → FE → Prop
  | val {e : Expr} {f : FE} (ho : i ∉ o) (hJ : B.Jk i) (h : DE X W e (tE W o B f)) : TX X W o B i e f
  | new {es : List Expr} {p : Pos} {h : FA} (ho : i ∈ o) (hS : ∀ p mo, B.S i p mo) (hJ : B.Jk i) (hh : DA X W es (tA W o B h)) : TX X W o B i (.List es p) (fLs h)
  | fresh {e : Expr} {f : FE} (ho : i ∈ o) (hS : ∀ p mo, B.S i p mo) (hJ : B.Jk i) (hh : DF X W o B e f) : TX X W o B i e f
  | freshM {e : Expr} {f : FE} (ho : i ∈ o) (hS : ∀ p mo, B.S i p mo) (hJ : B.Jk i) (hh : DFm X W o B e f) : TX X W o B i e f
theorem TX.J {i : Nat} {e : Expr} {f : FE} (t : TX X W o B i e f) : B.Jk i := by
  cases t with
  | val _ hJ _ => exact hJ
  | new _ _ hJ _ => exact hJ
  | fresh _ _ hJ _ => exact hJ
  | freshM _ _ hJ _ => exact hJ
theorem TX.S {i : Nat} {e : Expr} {f : FE} (t : TX X W o B i e f) (hi : i ∈ o) : ∀ p mo, B.S i p mo := by
  cases t with
  | val h _ _ => exact absurd hi h
  | new _ hS _ _ => exact hS
  | fresh _ hS _ _ => exact hS
  | freshM _ hS _ _ => exact hS
theorem Lw.stand {r l : Rho} {M : Mh} {p : Addr} {mo : MO} (w : Lw o B r M l) (hp : M p = none) : Lw o B r (mset M p mo) l := by
  have hb : B.m p = none := by
    rcases w.less p with z | z
    · rw [z]; exact hp
    · exact z
  refine ⟨w.len, fun a => ?_, w.j, w.pl, fun j e hj h => ?_, w.dis⟩
  · by_cases h : a = p
    · subst h; exact .inr hb
    · rw [JcG h]; exact w.less a
  · obtain ⟨q, mo', e2, e3, e4, e5, e6⟩ := w.ow j e hj h
    refine ⟨q, mo', e2, e3, ?_, e5, e6⟩
    rw [JcG (fun z => by rw [z, hp] at e4; cases e4)]
    exact e4
theorem Lw.put {r l : Rho} {M : Mh} {i : Nat} {d d' : D} (w : Lw o B r M l) (hJ : B.Jk i) (h : d' = d ∧ i ∉ o ∨ ∃ p mo, d' = .ref p ∧ i ∈ o ∧ MoD d mo ∧ M p = some mo ∧ B.m p = none ∧ B.S i p mo ∧ ∀ j e, j ∈ o → l[j]? = some (some e) → r[j]? ≠ some (some (.ref p))) : Lw o B (r.set i (some d')) M (l.set i (some d)) := by
  rcases h with ⟨rfl, ho⟩ | ⟨p, mo, rfl, ho, hm, hM, hb, hS, old⟩
  · exact w.set ho hJ
  · refine ⟨by rw [List.length_set, List.length_set, w.len], w.less, hJ _ _ w.j, fun j e hj h => ?_, fun j e hj h => ?_, fun j k q e f hj hk h1 h2 e1 e2 => ?_⟩
    · have ne : i ≠ j := fun e => hj (e ▸ ho)
      rw [List.getElem?_set_ne ne] at h ⊢
      exact w.pl j e hj h
    · rcases Jl0 h with ⟨rfl, rfl, hl⟩ | ⟨ne, h⟩
      · exact ⟨p, mo, by rw [List.getElem?_set_self (by rw [w.len]; exact hl)], hm, hM, hb, hS⟩
      · rw [List.getElem?_set_ne ne]
        exact w.ow j e hj h
    · rcases Jl0 h1 with ⟨a1, a2, hl⟩ | ⟨n1, g1⟩
      · rcases Jl0 h2 with ⟨b1, _⟩ | ⟨n2, g2⟩
        · rw [← a1, ← b1]
        · rw [← a1, List.getElem?_set_self (by rw [w.len, a1]; exact hl)] at e1
          cases e1
          rw [List.getElem?_set_ne n2] at e2
          exact absurd e2 (old k f hk g2)
      · rw [List.getElem?_set_ne n1] at e1
        rcases Jl0 h2 with ⟨b1, b2, hl⟩ | ⟨n2, g2⟩
        · rw [← b1, List.getElem?_set_self (by rw [w.len, b1]; exact hl)] at e2
          cases e2
          exact absurd e1 (old j e hj g1)
        · rw [List.getElem?_set_ne n2] at e2
          exact w.dis j k q e f hj hk g1 g2 e1 e2
def MadeAt (o : List Nat) (i : Nat) (M M' : Mh) (d d' : D) : Prop := M' = M ∧ d' = d ∧ i ∉ o ∨ ∃ p mo, d' = .ref p ∧ M p = none ∧ MoD d mo ∧ M' = mset M p mo ∧ i ∈ o
theorem MadeAt.keep {M M' : Mh} {i : Nat} {d d' : D} {q : Addr} {mo : MO} (h : MadeAt o i M M' d d') (e : M q = some mo) : M' q = some mo := by
  rcases h with ⟨rfl, _⟩ | ⟨p, mo', _, hp, _, rfl, _⟩
  · exact e
  · rw [JcG (fun z => by rw [z, hp] at e; cases e)]; exact e
structure ClT where
  c : Value
  i : Option Nat
  f : Value → List (Str × D) → FS
end
def exJ (i : Nat) (a dd : Addr) (fs : List (Str × D)) : Rho → Prop := fun r => r[i]? = some (some (.exc a dd fs))
def Bx.ex (B : Bx) (i : Nat) (a dd : Addr) (fs : List (Str × D)) : Bx := ⟨B.m, B.sf, exJ i a dd fs, B.fr⟩
theorem JwE {B : Bx} {i j : Nat} {a dd : Addr} {fs : List (Str × D)} (h : j ≠ i) : (B.ex i a dd fs).Jk j := fun r x e => by
  show (r.set j x)[i]? = _
  rw [List.getElem?_set_ne h]; exact e
section
variable {X : Cx} {W : DWX} {o : List Nat} {B : Bx}
inductive TCl (X : Cx) (o : List Nat) (B : Bx) : List ExceptHandler → List ClT → Prop
  | nil : TCl X o B [] []
  | bare {x : Str} {c : Value} {f : FS} {b0 : Stmt} {sui : List Stmt} {p1 p2 : Pos} {hds : List ExceptHandler} {l : List ClT} (hc : Names X x c)
      (hs : ∀ (a : Addr) (oe : Obj) (cls : Value) (d : Option Addr) (pn : List (Addr × Obj)), Zc cls d oe → (∃ vs, oe.data = .fields vs) → DSs (X.suite a ((a, oe) :: pn)) WN (b0 :: sui) (tS WN o B f)) (rest : TCl X o B hds l) :
      TCl X o B (.ExceptHandler (some (.Name x p1)) none (b0 :: sui) p2 :: hds) (⟨c, none, fun _ _ => f⟩ :: l)
  | name {x n : Str} {i : Nat} {c : Value} {f : Value → List (Str × D) → FS} {b0 : Stmt} {sui : List Stmt} {p1 p2 : Pos} {hds : List ExceptHandler} {l : List ClT} (hc : Names X x c) (hi : X.N[i]? = some n) (hl : X.env.kindOf n = some .local) (ho : i ∉ o)
      (hs : ∀ (a : Addr) (oe : Obj) (cls : Value) (d : Addr) (fs : List (Str × D)) (pn : List (Addr × Obj)), Zc cls (some d) oe → (∃ vs, oe.data = .fields vs) → DSs (X.suite a ((a, oe) :: pn)) WN (b0 :: sui) (tS WN o (B.ex i a d fs) (f cls fs))) (rest : TCl X o B hds l) :
      TCl X o B (.ExceptHandler (some (.Name x p1)) (some n) (b0 :: sui) p2 :: hds) (⟨c, some i, f⟩ :: l)
def tSui (o : List Nat) (B : Bx) (cl : ClT) : Addr → Value → Option Addr → DTS := fun a cls d E r M => match cl.i with
  | none => tS WN o B (cl.f cls []) E r M
  | some i => ∃ fs dd, d = some dd ∧ r[i]? = some (some (.exc a dd fs)) ∧ tS WN o (B.ex i a dd fs) (cl.f cls fs) E r M
theorem TCl.clauses {hds : List ExceptHandler} {l : List ClT} (h : TCl X o B hds l) : Clauses X hds (l.map fun cl => ⟨cl.c, cl.i, tSui o B cl⟩) := by
  induction h with
  | nil => exact .nil
  | bare hc hs _ ih => exact .bare hc (fun a oe cls d pn hz hf => (hs a oe cls d pn hz hf)) ih
  | name hc hi hl ho hs _ ih =>
    refine .name hc hi hl (fun a oe cls d pn hz hf => ⟨fun pins s st H Z r M E I q ⟨fs, dd, ed, er, h⟩ => ?_⟩) ih
    subst ed
    exact (hs a oe cls dd fs pn hz hf).run pins s st H Z r M E I q h
end
end DL
namespace DL
open PySem PySem.Spec PyProof.Rows L2
def Jqi : List (FE × FE) → Rho → T (List (Key × D))
  | [], _ => .v []
  | (fk, fv) :: l, r => (fk r).bind fun x => (fv r).bind fun y => (Jqi l r).bind fun ps => (T.ofO (keyD x)).bind fun k => .v ((k, y) :: ps)
def JuM (l : List (FE × FE)) : FE := fun r => (Jqi l r).bind fun kvs => .gd (decide (kvs.length ≤ 15)) (.v (.dic (Jn2 [] kvs)))
inductive DPt (X : Cx) (W : DWX) (o : List Nat) (B : Bx) : List (Option Expr) → List Expr → List (FE × FE) → Prop
  | nil : DPt X W o B [] [] []
  | cons {k v : Expr} {ks : List (Option Expr)} {vs : List Expr} {fk fv : FE} {l : List (FE × FE)} (hk : DE X W k (tE W o B fk)) (hv : DE X W v (tE W o B fv)) (hr : DPt X W o B ks vs l) : DPt X W o B (some k :: ks) (v :: vs) ((fk, fv) :: l)
section
variable {X : Cx} {W : DWX} {o : List Nat} {B : Bx} {pos : Pos} {ks : List (Option Expr)} {vs : List Expr} {l : List (FE × FE)}
theorem DPt.dps (h : DPt X W o B ks vs l) : DPs X W pos ks vs (l.map fun p => (tE W o B p.1, tE W o B p.2)) := by
  induction h with
  | nil => exact .nil
  | cons hk hv _ ih => exact .cons hk hv ih
theorem Jsd {r l0 : Rho} {M : Mh} (w : Lw o B r M l0) : ∀ {l : List (FE × FE)} {Q : List (Key × D) → Mh → Prop}, (Jqi l l0).go B.m (fun ps => Q ps M) (fun C fs => W C fs r M) → Jp5 (l.map fun p => (tE W o B p.1, tE W o B p.2)) r M Q
  | [], Q, h => h
  | (fk, fv) :: l, Q, h => ⟨l0, w, T.go_imp (T.go_bind.mp h) fun x h => ⟨l0, w, T.go_imp (T.go_bind.mp h) fun y h => Jsd w (T.go_imp (T.go_bind.mp h) fun ps h => by
      obtain ⟨k, e, q⟩ := T.go_ofO.mp (T.go_bind.mp h)
      exact ⟨k, e, q⟩)⟩⟩
theorem JuN (h : DPt X W o B ks vs l) (hall : ks.all (·.isSome) = true := by rfl) (hl : ks.length = vs.length := by rfl) (h0 : ks ≠ [] := by simp) (h15 : ks.length ≤ 15 := by decide) : DE X W (.Dict ks vs pos) (tE W o B (JuM l)) :=
  (Jut h.dps hall hl h0 h15).imp' fun r M Q ⟨l0, w, k⟩ => Jsd w (T.go_imp (T.go_bind.mp k) fun ps q => ⟨of_decide_eq_true (T.go_gd.mp q).1, fun _ _ => (T.go_gd.mp q).2⟩)
end
end DL

set_option maxHeartbeats 2000000
namespace DL
open PySem PySem.Spec PyProof.Rows L2
theorem lk_z {d : D} {l : Rho} : lk (some d :: l) 0 = .v d := rfl
theorem lk_s {x : Option D} {l : Rho} {n : Nat} : lk (x :: l) (n + 1) = lk l n := rfl
theorem JaX {n : Nat} (h : n ≤ 1000) : szOk n = true := decide_eq_true (Nat.le_trans h Qg)
theorem Jx7 {α : Type} {p : Addr} {n : Int} {k : Int → T α} {Q : α → Prop} {E : Value → List (Str × D) → Prop} (h0 : 0 < n) (h1 : n.natAbs.log2 < 9000) (h : ∀ m, 0 ≤ m → m < n → (k m).al p Q E) : (T.dr p n k).al p Q E := T.al_drw.mpr ⟨h0, h1, h⟩
def Jx8 (g : FG) (fb : FS) (xs : List D) (c : Ct) : T Ct := match c with
  | .nx l2 => forT g fb xs l2
  | .ct l2 => forT g fb xs l2
  | .bk l2 => .v (.nx l2)
  | c => .v c
theorem JqR {g : FG} {fb : FS} {p : Addr} {Q : Ct → Prop} {E : Value → List (Str × D) → Prop} (P : List D → Rho → Prop) (hs : ∀ x xs l, P (x :: xs) l → ∃ l1, g x l = some l1 ∧ (fb l1).al p (fun c => match c with
    | .nx l2 => P xs l2
    | .ct l2 => P xs l2
    | .bk l2 => Q (.nx l2)
    | c => Q c) E) (hd : ∀ l, P [] l → Q (.nx l)) : ∀ {ds : List D} {l : Rho}, P ds l → (forT g fb ds l).al p Q E
  | [], l, h => T.al_v.mpr (hd l h)
  | x :: xs, l, h => by
    obtain ⟨l1, e, h1⟩ := hs x xs l h
    show ((T.ofO (g x l)).bind _).al p Q E
    rw [e]
    show ((fb l1).bind (Jx8 g fb xs)).al p Q E
    refine T.al_bind.mpr (T.al_imp h1 fun c hc => ?_)
    cases c with
    | nx l2 => exact JqR P hs hd hc
    | ct l2 => exact JqR P hs hd hc
    | bk l2 => exact T.al_v.mpr hc
    | rt d => exact T.al_v.mpr hc
    | rs C fs l2 => exact T.al_v.mpr hc
theorem JwF {ds : List D} : pLen (.lst ds) = some (.int ds.length) := rfl
theorem Jx9 {ds : List D} {i : Int} : pIx (.lst ds) (.int i) = atI ds i := rfl
theorem JbG {i j : Int} : pEq false (.int i) (.int j) = some (.bl (i == j)) := by
  have h1 : SeqAt.shaped (.int i) = true := by simp [SeqAt.shaped, PyData.canLay0, PyData.depth]
  have h2 : SeqAt.shaped (.int j) = true := by simp [SeqAt.shaped, PyData.canLay0, PyData.depth]
  show og (SeqAt.shaped (.int i) && SeqAt.shaped (.int j)) (.bl (PyData.eqv (.int i) (.int j))) = _
  rw [h1, h2]
  simp [og, PyData.eqv]
theorem Jya : pPow (.int (10)) (.int (6)) = some (.int 1000000) := by kernel_rfl
theorem JwG : pPow (.int (10)) (.int (39)) = some (.int 1000000000000000000000000000000000000000) := by kernel_rfl
def drB (n : Int) : Bool := decide (0 < n) && decide (n.natAbs.log2 < 9000)
theorem JwH {α : Type} {p : Addr} {n : Int} {k : Int → T α} {Q : α → Prop} {E : Value → List (Str × D) → Prop} : (T.dr p n k).al p Q E ↔ drB n = true ∧ ∀ m, 0 ≤ m → m < n → (k m).al p Q E := by
  unfold drB
  rw [Bool.and_eq_true, decide_eq_true_eq, decide_eq_true_eq]
  exact T.al_drw.trans ⟨fun ⟨a, b, c⟩ => ⟨⟨a, b⟩, c⟩, fun ⟨⟨a, b⟩, c⟩ => ⟨a, b, c⟩⟩
theorem Js2 {x : Str} : keyD (.str x) = some (.inr x) := rfl
theorem JuO {i : Int} (h : decide (i.natAbs.log2 < 1920) = true) : Js0 (.int i) = some (.str (toString i)) := by
  show og (decide (i.natAbs.log2 < 1920)) _ = _
  rw [h]; rfl
theorem Js3 {k : Key} {d : D} : Jn2 [] [(k, d)] = [(k, d)] := rfl
def RtQ (Q : D → Prop) (E : Value → List (Str × D) → Prop) : Ct → Prop
  | .nx _ => Q .non
  | .rt d => Q d
  | .rs C fs _ => E C fs
  | _ => False
theorem JuP {p : Addr} {t : T Ct} {Q : D → Prop} {E : Value → List (Str × D) → Prop} (h : t.al p (RtQ Q E) noX) : (runT t).al p Q E :=
  T.al_bind.mpr (T.al_nx.mpr (T.al_mono h (fun c hc => by cases c <;> exact ⟨hc⟩) fun _ _ z => z))
theorem Jbm {f : Str} {d : D} : List.lookup f [(f, d)] = some d := by simp [List.lookup]
theorem JwI {p : Addr} {fi : FA} {g : FG} {fb : FS} {l : Rho} {items : List D} {Q : Ct → Prop} {E : Value → List (Str × D) → Prop} (hi : fi l = .v items) (h : (forT g fb items l).al p Q E) : (fFor fi g fb l).al p Q E := by
  show ((fi l).sx l fun ds => forT g fb ds l).al p Q E
  rw [hi]; exact h
def Jse (P : Rho → Prop) (Q : Ct → Prop) : Ct → Prop
  | .nx l => P l
  | c => Q c
theorem JwJ {p : Addr} {fs gs : FS} {l : Rho} {Q : Ct → Prop} {E : Value → List (Str × D) → Prop} (P : Rho → Prop) (h : (fs l).al p (Jse P Q) E) (k : ∀ l', P l' → (gs l').al p Q E) : (fSeq fs gs l).al p Q E :=
  T.al_bind.mpr (T.al_imp h fun c hc => by
    cases c with
    | nx l' => exact k l' hc
    | rt d => exact T.al_v.mpr hc
    | bk l' => exact T.al_v.mpr hc
    | ct l' => exact T.al_v.mpr hc
    | rs C fs l' => exact T.al_v.mpr hc)
end DL

set_option maxHeartbeats 2000000
namespace DL
open PySem PySem.Spec PyProof.Rows L2
theorem fV_a {i : Nat} {l : Rho} : fV i l = lk l i := rfl
theorem fC_a {d : D} {l : Rho} : fC d l = .v d := rfl
theorem f2_a {g : D → D → Option D} {fa fb : FE} {l : Rho} : f2 g fa fb l = (fa l).bind fun x => (fb l).bind fun y => .ofO (g x y) := rfl
theorem f1_a {g : D → Option D} {fa : FE} {l : Rho} : f1 g fa l = (fa l).bind fun x => .ofO (g x) := rfl
theorem fB_a {f : FE} {l : Rho} : fB f l = (f l).bind tB := rfl
theorem Jfn {f g : FT} {l : Rho} : fOr f g l = (f l).bind fun b => if b = true then .v true else g l := rfl
theorem JwK {f : FT} {l : Rho} : fNot f l = (f l).bind fun b => .v (!b) := rfl
theorem Jhk {c : FT} {f g : FE} {l : Rho} : fIf c f g l = (c l).bind fun b => if b = true then f l else g l := rfl
theorem JwL  {l : Rho} : fNil  l = .v [] := rfl
theorem Jyb {f : FE} {h : FA} {l : Rho} : fCo f h l = (f l).bind fun x => (h l).bind fun xs => .v (x :: xs) := rfl
theorem Jyc {h : FA} {l : Rho} : fTu h l = (h l).bind fun xs => .gd (szOk xs.length) (.v (.tup xs)) := rfl
theorem Jbg {h : FA} {l : Rho} : fLs h l = (h l).bind fun xs => .gd (szOk xs.length) (.v (.lst xs)) := rfl
theorem JuQ  {l : Rho} : Jbl  l = .v (.nx l) := rfl
theorem Ja2 {f g : FS} {l : Rho} : fSeq f g l = (f l).bind fun c => Jbe c g := rfl
theorem JwM {f : FE} {l : Rho} : fRet f l = (f l).sx l fun d => .v (.rt d) := rfl
theorem JbE {g : FT} {fa fb : FS} {l : Rho} : fIfS g fa fb l = (g l).sx l fun b => if b = true then fa l else fb l := rfl
theorem Ja3 {i : Nat} {f : FE} {l : Rho} : fSet i f l = (f l).sx l fun d => .v (.nx (l.set i (some d))) := rfl
theorem JuR {h : FA} {l : Rho} : Jbr h l = ((h l).bind fun ds => match ds with
  | [.int j] => .gd (smB j) (.v (rngD 0 j))
  | _ => .no) := rfl
theorem Jbf {g : List D → Option D} {h : FA} {l : Rho} : fCB g h l = (h l).bind fun ds => .ofO (g ds) := rfl
theorem JuS {f : List D → T D} {gD : List D → List D → List D} {h hk : FA} {l : Rho} : JnC f gD h hk l = (h l).bind fun ds => (hk l).bind fun es => f (gD ds es) := rfl
def BA := And.intro @T.bind_v (And.intro @T.ofO_s (And.intro @T.sx_v (And.intro @T.nx_v (And.intro @T.gd_t (And.intro @fV_a (And.intro @lk_z (And.intro @lk_s (And.intro @JwL (And.intro @JuQ (And.intro @Jyb (And.intro @fC_a (And.intro @f2_a (And.intro @fB_a (And.intro @JuS (And.intro @JwM (And.intro @List.set_cons_zero.{0} (And.intro @List.set_cons_succ.{0} (And.intro @Bool.false_eq_true (And.intro @List.cons_append.{0} (And.intro @List.nil_append.{0} (And.intro @if_true.{1} (@if_false.{1}))))))))))))))))))))))
theorem JuT {l : List (FE × FE)} {r : Rho} : JuM l r = (Jqi l r).bind fun kvs => .gd (decide (kvs.length ≤ 15)) (.v (.dic (Jn2 [] kvs))) := rfl
end DL

set_option maxHeartbeats 2000000
namespace DL
open PySem PySem.Spec PyProof.Rows L2

end DL

set_option maxHeartbeats 2000000
namespace DL
open PySem PySem.Spec PyProof.Rows L2
open PySem.Sem (wp)
open PySem.AutoSeq1 (wpAny_loadPart')

section
variable {X : Cx} {W : DWX}
def JcI : D → Option D
  | .int i => some (.int i)
  | .str z => match PySem.intText? z with
    | some n => og (decide (z.length ≤ 640)) (.int n)
    | none => none
  | _ => none
theorem JwN : OpN X W (.type "int") (p1 JcI) := by
  have hs : DCall X W (.type "int") (fun ds M Q => ∃ z n, ds = [.str z] ∧ PySem.intText? z = some n ∧ z.length ≤ 640 ∧ Q (.int n) M) := .of call_int_str fun st H Z r M xs ds Q q rp h => by
    obtain ⟨z, n, rfl, e1, e2, hq⟩ := h
    cases rp with
    | cons r1 rr =>
      cases rr
      cases r1
      exact ⟨z, n, rfl, e1, e2, EQ.val q (.int _) hq⟩
  refine ⟨_, (Jp1 (X := X) (W := W)).or hs, fun M ds' ds d Q hp e q => ?_⟩
  obtain ⟨x', x, rfl, hv, e⟩ := pv1 hp e
  unfold JcI at e
  split at e
  · cases e; rw [hv.int]; exact .inl q
  · split at e
    · rename_i n e1
      obtain ⟨e2, e3⟩ := og_s.mp e
      subst e3
      rw [hv.str]
      exact .inr ⟨_, n, rfl, e1, of_decide_eq_true e2, q⟩
    · cases e
  · cases e
end
end DL
namespace DL
open PySem PySem.Spec PyProof.Rows L2
theorem Js4 {f : List D → T D} {p : Addr} {M : Mh} {Q : QD} {E : DXK} (h : (f [.ref p]).al p (fun d => d = .bl true) noX) (hM : M p = some .pool) (hQ : Q (.bl true) M) : spT 1 f [.ref p] M Q E :=
  ⟨rfl, T.go_mono (T.al_go h hM) (fun _ z => z) (fun d e => e ▸ hQ) fun _ _ z => z.elim⟩
end DL

set_option maxHeartbeats 2000000
namespace DL
open PySem PySem.Spec PyProof.Rows L2

end DL

set_option maxHeartbeats 2000000
namespace DL
open PySem PySem.Spec PyProof.Rows L2

end DL

set_option maxHeartbeats 2000000
namespace DL
open PySem PySem.Spec PyProof.Rows L2

def valD (kvs : List (Key × D)) (k : Key) : Option D := (kvs.find? fun kv => decide (kv.1 = k)).map (·.2)
def Jt4 (kvs : List (Key × D)) (k : Key) : List (Key × D) := kvs.filter fun kv => decide (kv.1 ≠ k)
section
variable {K : PySem.W.Frag} {F : Hp}
theorem RepK.val {k : Key} : ∀ {v : List (Key × V)} {d : List (Key × D)}, RepK K F v d → (∀ x, valV v k = some x → ∃ y, valD d k = some y ∧ Rep K F x y) ∧ (valV v k = none → valD d k = none)
  | _, _, .nil => ⟨(fun x e => by cases e), fun _ => rfl⟩
  | _, _, .cons (k := k0) (v := v0) (vs := vs) (d := d0) (ds := ds) h r => by
    by_cases e : k0 = k
    · have e1 : valV ((k0, v0) :: vs) k = some v0 := valV_pos e
      have e2 : valD ((k0, d0) :: ds) k = some d0 := by unfold valD; rw [List.find?_cons]; simp [e]
      exact ⟨fun x h' => by rw [e1] at h'; cases h'; exact ⟨d0, e2, h⟩, fun h' => by rw [e1] at h'; cases h'⟩
    · have e1 : valV ((k0, v0) :: vs) k = valV vs k := valV_neg e
      have e2 : valD ((k0, d0) :: ds) k = valD ds k := by unfold valD; rw [List.find?_cons]; simp [e]
      rw [e1, e2]
      exact RepK.val r
theorem RepK.drop {k : Key} : ∀ {v : List (Key × V)} {d : List (Key × D)}, RepK K F v d → RepK K F (dropK v k) (Jt4 d k)
  | _, _, .nil => .nil
  | _, _, .cons (k := k0) (v := v0) (vs := vs) (d := d0) (ds := ds) h r => by
    have ih := RepK.drop (k := k) r
    unfold dropK Jt4 at ih ⊢
    rw [List.filter_cons, List.filter_cons]
    by_cases e : k0 = k
    · simpa [e] using ih
    · simpa [e] using RepK.cons h ih
end

def putO (acc : List (Key × D)) : Option (Key × D) → List (Key × D)
  | some kz => JrP acc kz.1 kz.2
  | none => acc
def T.fd (g : D → T (Option (Key × D))) : List D → List (Key × D) → T (List (Key × D))
  | [], acc => .v acc
  | a :: as, acc => (g a).bind fun o => T.fd g as (putO acc o)
section
variable {X : Cx} {W : DWX} {o : List Nat} {B : Bx}
def DFK (X : Cx) (W : DWX) (o : List Nat) (B : Bx) (e : Expr) (f : FE) : Prop := ∃ te, DE X W e te ∧ ∀ r M (Q : QD) l, Lw o B r M l → (f l).go B.m (fun d => ∀ ds, d = .dic ds → ∀ p, M p = none → Q (.ref p) (mset M p (.dic ds))) (fun C fs => W C fs r M) → te r M Q
def T.fs (t : Nat) (p : TPat) (ft : FT) (fe : Rho → T (D × List (Key × D))) : Rho → List D → T (List D × Rho)
  | l0, [] => .v ([], l0)
  | l0, a :: as => (T.ofO (asgP p a l0)).bind fun l1 => (ft l1).nx.bind fun b => if b = true then (fe l1).nx.bind fun yv => (T.fs t p ft fe (l0.set t (some (.dic yv.2))) as).bind fun r => .v (yv.1 :: r.1, r.2) else T.fs t p ft fe l0 as
end
end DL
namespace DL
open PySem PySem.Spec PyProof.Rows L2
end DL

set_option maxHeartbeats 2000000
namespace DL
open PySem PySem.Spec PyProof.Rows L2

section
variable {X : Cx} {W : DWX} {o : List Nat} {B : Bx} {e a b c : Expr} {es : List Expr} {f fa fb fc : FE} {g : FT} {h : FA} {pos : Pos} {ta tb : DTE}
theorem DFK.m {e : Expr} {f : FE} (h : DFK X W o B e f) : DFm X W o B e f := by
  obtain ⟨te, d, u⟩ := h
  exact ⟨te, d, fun r M Q l w k => u r M Q l w (T.go_imp k fun d q ds e p hp => q p _ hp (by rw [e]; exact .dic ds))⟩
end
end DL

set_option maxHeartbeats 2000000
namespace DL
open PySem PySem.Spec PyProof.Rows L2

def T.fi (g : D → T (Option D)) : List D → List D → T (List D)
  | [], acc => .v acc
  | a :: as, acc => (g a).bind fun o => match o with
    | some y => .gd (szOk (acc.length + 1)) (T.fi g as (acc ++ [y]))
    | none => T.fi g as acc
end DL

set_option maxHeartbeats 2000000
namespace DL
open PySem PySem.Spec PyProof.Rows L2

end DL

set_option maxHeartbeats 2000000
namespace DL
open PySem PySem.Spec PyProof.Rows L2

end DL

set_option maxHeartbeats 2000000
namespace DL
open PySem PySem.Spec PyProof.Rows L2

section
variable {X : Cx} {W : DWX}
def Jt5 : DRL := fun ds M Q => Jur ds M Q ∨ (ds = [.non] ∧ Q (.str "None") M) ∨ (∃ b, ds = [.bl b] ∧ Q (.str (if b then "True" else "False")) M) ∨ ∃ i, ds = [.int i] ∧ i.natAbs.log2 < 1920 ∧ Q (.str (toString i)) M
theorem JuU {k : Nat} (hr : Rm k X.A) (hsy : (X.K.lookup sysModules).isSome = true) : DCall X W (.builtin "repr") Jt5 := by
  intro pins s st H Z r M xs vs ds Q I q rv rp h
  rcases h with h | ⟨rfl, hq⟩ | ⟨b, rfl, hq⟩ | ⟨i, rfl, hi, hq⟩
  · exact Jrb hr hsy pins s st H Z r M xs vs ds Q I q rv rp h
  · cases rp with
    | cons r1 rr =>
      cases rr
      cases r1
      obtain ⟨u, rfl, ru⟩ := vals1 rv
      cases ru
      exact PySem.P.repr_of_none ⟨.str _, H, I.tok _, ⟨_, rfl⟩, EQ.val q (.str _) hq⟩
  · cases rp with
    | cons r1 rr =>
      cases rr
      cases r1
      obtain ⟨u, rfl, ru⟩ := vals1 rv
      cases ru
      exact PySem.P.repr_of_bool ⟨.str _, H, I.tok _, ⟨_, rfl⟩, EQ.val q (.str _) hq⟩
  · cases rp with
    | cons r1 rr =>
      cases rr
      cases r1
      obtain ⟨u, rfl, t, rfl⟩ := vals1 rv
      exact PySem.P.repr_of_int hi ⟨.str _, H, I.tok _, ⟨_, rfl⟩, EQ.val q (.str _) hq⟩
def Jpj : D → Option D
  | .non => some (.str "None")
  | .bl b => some (.str (if b then "True" else "False"))
  | .int i => og (decide (i.natAbs.log2 < 1920)) (.str (toString i))
  | d => Jsb d
theorem Jsf {k : Nat} (hr : Rm k X.A) (hsy : (X.K.lookup sysModules).isSome = true) : OpNs X W (.builtin "repr") (p1 Jpj) := by
  obtain ⟨o1, h1, h2⟩ := JwB (W := W) hr hsy
  refine ⟨fun ds M Q => o1 ds M Q ∨ Jt5 ds M Q, ?_, fun M ds d Q e q => ?_⟩
  · intro pins s st H Z r M xs vs ds Q I q rv rp h
    rcases h with h | h
    · exact h1 pins s st H Z r M xs vs ds Q I q rv rp h
    · exact JuU hr hsy pins s st H Z r M xs vs ds Q I q rv rp h
  · unfold p1 at e
    split at e
    · rename_i x
      unfold Jpj at e
      split at e
      · cases e
        exact .inr (.inr (.inl ⟨rfl, q⟩))
      · cases e
        exact .inr (.inr (.inr (.inl ⟨_, rfl, q⟩)))
      · obtain ⟨e1, e2⟩ := og_s.mp e
        subst e2
        exact .inr (.inr (.inr (.inr ⟨_, rfl, of_decide_eq_true e1, q⟩)))
      · exact .inl (h2 M _ d Q e q)
    · cases e
end
end DL

set_option maxHeartbeats 2000000
namespace DL
open PySem PySem.Spec PyProof.Rows L2

def lettersS : Str := "abcdefghijklmnopqrstuvwxyz"
def digitsS : Str := "0123456789"
def JnD : List Nat := lettersS.cps.toList
def Jsg : List Nat := digitsS.cps.toList
def JwO (l : List Nat) : Bool := decide (1 ≤ l.length ∧ l.length ≤ 8) && ((match l with | c :: _ => decide (c ∈ JnD) | [] => false) && l.all fun c => decide (c ∈ JnD) || decide (c ∈ Jsg))
theorem Jqj : ∀ m : Nat, blsD (List.replicate m (.bl true)) = some (List.replicate m true)
  | 0 => rfl
  | m + 1 => by
    rw [List.replicate_succ, List.replicate_succ]
    show (blsD (List.replicate m (.bl true))).map _ = _
    rw [Jqj m]
    rfl
theorem Js5 (m : Nat) : (List.replicate m true).all id = true := by
  rw [List.all_eq_true]
  intro x hx
  exact List.eq_of_mem_replicate hx
structure NameZ (z : Str) (n : Nat) : Prop where
  len : 1 ≤ z.length ∧ z.length ≤ n
  ok : PyData.strOk z = true
  hd : ∃ c l, z.cps.toList = c :: l ∧ c ∈ JnD
  all : ∀ c ∈ z.cps.toList, c ∈ JnD ∨ c ∈ Jsg
theorem NameZ.one {c : Nat} (h : c ∈ JnD) (hc : c < 1114112) : NameZ ⟨#[c]⟩ 1 where
  len := ⟨Nat.le_refl _, Nat.le_refl _⟩
  ok := by show Array.all #[c] _ = true; simpa using hc
  hd := ⟨c, [], rfl, h⟩
  all := fun d hd => by simp at hd; rw [hd]; exact .inl h
theorem NameZ.name {z : Str} (h : NameZ z 8) : JwO z.cps.toList = true := by
  have el : z.cps.toList.length = z.length := by simp [Str.length]
  obtain ⟨c, l, e, hc⟩ := h.hd
  have ha := h.all
  unfold JwO
  rw [Bool.and_eq_true, Bool.and_eq_true]
  refine ⟨decide_eq_true (by have := h.len; omega), ?_, List.all_eq_true.mpr fun d hd => by simpa using ha d hd⟩
  rw [e]
  simpa using hc
theorem NameZ.up {z : Str} {n m : Nat} (h : NameZ z n) (hm : n ≤ m) : NameZ z m := ⟨⟨h.len.1, Nat.le_trans h.len.2 hm⟩, h.ok, h.hd, h.all⟩
end DL

set_option maxHeartbeats 2000000
namespace DL
open PySem PySem.Spec PyProof.Rows L2 PySem.NumText TL

theorem JuV (a b : Str) : (a ++ b).length = a.length + b.length := by
  rw [len_tl, len_tl, len_tl, tl_append, List.length_append]
theorem strOk_tl {z : Str} : PyData.strOk z = true ↔ ∀ c ∈ tl z, c < 1114112 := by
  have e : PyData.strOk z = z.cps.all (· < 0x110000) := rfl
  rw [e, ← Array.all_toList]
  constructor
  · intro h c hc
    simpa using List.all_eq_true.mp h c hc
  · intro h
    exact List.all_eq_true.mpr fun c hc => by simpa using h c hc
theorem Jsh {a b : Str} (ha : PyData.strOk a = true) (hb : PyData.strOk b = true) : PyData.strOk (a ++ b) = true := by
  rw [strOk_tl] at *
  intro c hc
  rw [tl_append] at hc
  exact (List.mem_append.mp hc).elim (ha c) (hb c)
structure Tx (n : Nat) (z : Str) : Prop where
  len : z.length ≤ n
  ok : PyData.strOk z = true
theorem Tx.app {n m : Nat} {a b : Str} (h : Tx n a) (k : Tx m b) : Tx (n + m) (a ++ b) := ⟨by rw [JuV]; have := h.len; have := k.len; omega, Jsh h.ok k.ok⟩
theorem Tx.up {n m : Nat} {a : Str} (h : Tx n a) (hm : n ≤ m) : Tx m a := ⟨Nat.le_trans h.len hm, h.ok⟩
theorem Jl1 {z : Str} (h : decide (z.length ≤ 40) = true := by decide) (hok : PyData.strOk z = true := by decide +kernel) : Tx 40 z := ⟨of_decide_eq_true h, hok⟩
abbrev numS (i : Int) : Str := Str.ofString (toString i)
theorem JwP (n : Nat) : tl (numS (n : Int)) = numL n := tl_num n
theorem JwQ {n : Nat} (h : 0 < n) : tl (numS (-(n : Int))) = 45 :: numL n := by
  obtain ⟨k, rfl⟩ : ∃ k, n = k + 1 := ⟨n - 1, by omega⟩
  have e : (toString (-((k + 1 : Nat) : Int)) : String) = "-" ++ Nat.repr (k + 1) := rfl
  show tl (Str.ofString (toString (-((k + 1 : Nat) : Int)))) = _
  rw [e]
  have e2 : tl (Str.ofString ("-" ++ Nat.repr (k + 1))) = ("-" ++ Nat.repr (k + 1)).toList.map Char.toNat := PyProof.Rows.signs_ofString _
  rw [e2, String.toList_append, List.map_append, Nat.toList_repr]
  rfl
theorem Jpk (i : Int) : (∃ n : Nat, i = n ∧ tl (numS i) = numL n) ∨ ∃ n : Nat, 0 < n ∧ i = -(n : Int) ∧ tl (numS i) = 45 :: numL n := by
  rcases Int.lt_or_le i 0 with h | h
  · refine .inr ⟨i.natAbs, by omega, by omega, ?_⟩
    have e : i = -(i.natAbs : Int) := by omega
    rw [e]
    have := JwQ (n := i.natAbs) Qh
    simpa using this
  · obtain ⟨n, rfl⟩ := Int.eq_ofNat_of_zero_le h
    exact .inl ⟨n, rfl, JwP n⟩
theorem Jro {i : Int} {c : Nat} (h : c ∈ tl (numS i)) : c = 45 ∨ (48 ≤ c ∧ c ≤ 57) := by
  rcases Jpk i with ⟨n, _, e⟩ | ⟨n, _, _, e⟩
  · rw [e] at h; exact .inr (numL_digits n c h)
  · rw [e] at h
    rcases List.mem_cons.mp h with h | h
    · exact .inl h
    · exact .inr (numL_digits n c h)
theorem Jpl {n : Nat} (h : n.log2 < 200) : (numL n).length ≤ 70 := by
  refine numL_len Qg (Nat.lt_of_lt_of_le (Nat.lt_log2_self (n := n)) ?_)
  refine Nat.le_trans (Nat.pow_le_pow_right Qg (by omega : n.log2 + 1 ≤ 200)) ?_
  decide +kernel
theorem JqS {i : Int} (h : i.natAbs.log2 < 200) : Tx 80 (numS i) := by
  refine ⟨?_, strOk_tl.mpr fun c hc => by rcases Jro hc with h | h <;> omega⟩
  rw [len_tl]
  rcases Jpk i with ⟨n, e0, e⟩ | ⟨n, _, e0, e⟩
  · rw [e]
    have : i.natAbs = n := by omega
    rw [this] at h
    have := Jpl h
    omega
  · rw [e, List.length_cons]
    have : i.natAbs = n := by omega
    rw [this] at h
    have := Jpl h
    omega
end DL
namespace DL
open PySem PySem.Spec PyProof.Rows L2 PySem.NumText TL
abbrev Jn5 := Str × Option Int
structure RowS where
  b : Str
  e : Str
  k : Str
  n : Int
  r : Int
def Jsi (ps : List Jn5) : List Str := ps.map (·.1)
structure PairOk (p : Jn5) : Prop where
  nm : NameZ p.1 8
  top : ∀ n, p.2 = some n → 0 ≤ n ∧ n.natAbs.log2 < 200
def Jsj : List Str := ["beyond", "upto", "reach"]
def Bt (k : Nat) (n : Int) : Prop := n.natAbs < 2 ^ k
structure RowOk (ts : List Str) (r : RowS) : Prop where
  ij : ∃ i j : Nat, i ≤ j ∧ ts[i]? = some r.b ∧ ts[j]? = some r.e
  kd : r.k ∈ Jsj
  num : 0 ≤ r.n ∧ r.n.natAbs.log2 < 200
  rate : r.r.natAbs.log2 < 200
  nb : Bt 150 r.n
structure SchOk (ps : List Jn5) (rs : List RowS) : Prop where
  days : 1 ≤ ps.length ∧ ps.length ≤ 7
  rules : rs.length ≤ 8
  pair : ∀ p ∈ ps, PairOk p
  row : ∀ r ∈ rs, RowOk (Jsi ps) r
  nd : (Jsi ps).Nodup
def dayL (p : Jn5) : Str := match p.2 with
  | none => ("day " : Str) ++ p.1 ++ (" any" : Str)
  | some n => ("day " : Str) ++ p.1 ++ (" most " : Str) ++ numS n
def JwR (r : RowS) : Str := ("rule " : Str) ++ r.b ++ (" to " : Str) ++ r.e ++ (" " : Str) ++ r.k ++ (" " : Str) ++ numS r.n ++ (" pays " : Str) ++ numS r.r
def Jpm (ps : List Jn5) (rs : List RowS) : List Str := ps.map dayL ++ rs.map JwR
def JwS (ps : List Jn5) (rs : List RowS) : Str := Txt.join "\n" (Jpm ps rs)
theorem NameZ.tx {z : Str} (h : NameZ z 8) : Tx 8 z := ⟨h.len.2, h.ok⟩
theorem JuW {k : Str} (h : k ∈ Jsj) : Tx 40 k := by
  simp only [Jsj, List.mem_cons, List.mem_nil_iff, or_false] at h
  rcases h with rfl | rfl | rfl <;> exact Jl1
theorem JuX {p : Jn5} (h : PairOk p) : Tx 300 (dayL p) := by
  unfold dayL
  cases e : p.2 with
  | none => exact ((Tx.app Jl1 h.nm.tx).app Jl1).up Qg
  | some n => exact (((Tx.app Jl1 h.nm.tx).app Jl1).app (JqS (h.top n e).2)).up Qg
theorem Js6 {ts : List Str} {r : RowS} (ht : ∀ t ∈ ts, NameZ t 8) (h : RowOk ts r) : Tx 500 (JwR r) := by
  obtain ⟨i, j, _, h1, h2⟩ := h.ij
  have b := (ht _ (List.mem_of_getElem? h1)).tx
  have e := (ht _ (List.mem_of_getElem? h2)).tx
  exact ((((((((Tx.app Jl1 b).app Jl1).app e).app Jl1).app (JuW h.kd)).app Jl1).app (JqS h.num.2)).app Jl1).app (JqS h.rate) |>.up Qg
theorem SchOk.tags {ps : List Jn5} {rs : List RowS} (h : SchOk ps rs) : ∀ t ∈ Jsi ps, NameZ t 8 := fun t ht => by
  obtain ⟨p, hp, rfl⟩ := List.mem_map.mp ht
  exact (h.pair p hp).nm
theorem SchOk.lines {ps : List Jn5} {rs : List RowS} (h : SchOk ps rs) : ∀ z ∈ Jpm ps rs, Tx 500 z := fun z hz => by
  rcases List.mem_append.mp hz with hz | hz
  · obtain ⟨p, hp, rfl⟩ := List.mem_map.mp hz
    exact (JuX (h.pair p hp)).up Qg
  · obtain ⟨r, hr, rfl⟩ := List.mem_map.mp hz
    exact Js6 h.tags (h.row r hr)
theorem SchOk.count {ps : List Jn5} {rs : List RowS} (h : SchOk ps rs) : (Jpm ps rs).length ≤ 15 := by
  unfold Jpm
  rw [List.length_append, List.length_map, List.length_map]
  have := h.days.2
  have := h.rules
  omega
theorem Jsk {n : Nat} {sep : Str} (hs : Tx 40 sep) : ∀ {ls : List Str}, (∀ z ∈ ls, Tx n z) → Tx (ls.length * (n + 40)) (Str.join sep ls)
  | [], _ => ⟨Nat.zero_le _, by show PyData.strOk Str.empty = true; decide +kernel⟩
  | [z], h => (h z (List.mem_cons_self ..)).up (by simp)
  | z :: w :: r, h => by
    have i := Jsk hs (ls := w :: r) fun x hx => h x (List.mem_cons_of_mem _ hx)
    have := ((h z (List.mem_cons_self ..)).app hs).app i
    refine Tx.up (a := Str.join sep (z :: w :: r)) this ?_
    rw [List.length_cons (a := z), Nat.succ_mul]
    omega
theorem SchOk.text {ps : List Jn5} {rs : List RowS} (h : SchOk ps rs) : Tx 8100 (JwS ps rs) := by
  unfold JwS
  rw [join_eq]
  refine (Jsk (n := 500) Jl1 h.lines).up ?_
  have := h.count
  omega
end DL

set_option maxHeartbeats 2000000
namespace DL
open PySem PySem.Spec PyProof.Rows L2 PySem.NumText TL

theorem Js7 {g : FG} {fb : FS} {p : Addr} {Q : Ct → Prop} {E : Value → List (Str × D) → Prop} (P : Nat → Rho → Prop) {ds : List D} {l : Rho} (h0 : P 0 l) (hs : ∀ i x l, ds[i]? = some x → P i l → ∃ l1, g x l = some l1 ∧ (fb l1).al p (Jse (P (i + 1)) Q) E) (hd : ∀ l, P ds.length l → Q (.nx l)) (hc : ∀ l, Q (.ct l) → False) (hb : ∀ l, Q (.bk l) → Q (.nx l)) : (forT g fb ds l).al p Q E := by
  refine JqR (fun xs l => ∃ k, ds.drop k = xs ∧ k ≤ ds.length ∧ P k l) ?_ ?_ ⟨0, rfl, Nat.zero_le _, h0⟩
  · rintro x xs l ⟨k, e, hk, h⟩
    have hx : ds[k]? = some x := by
      have : (ds.drop k)[0]? = some x := by rw [e]; rfl
      rw [List.getElem?_drop] at this
      simpa using this
    have hlt : k < ds.length := (List.getElem?_eq_some_iff.mp hx).1
    have e' : ds.drop (k + 1) = xs := by
      rw [← List.drop_drop, e]; rfl
    obtain ⟨l1, e1, h1⟩ := hs k x l hx h
    refine ⟨l1, e1, T.al_imp h1 fun c hc' => ?_⟩
    cases c with
    | nx l2 => exact ⟨k + 1, e', hlt, hc'⟩
    | ct l2 => exact (hc _ hc').elim
    | bk l2 => exact hb _ hc'
    | rt d => exact hc'
    | rs C fs l2 => exact hc'
  · rintro l ⟨k, e, hk, h⟩
    refine hd l ?_
    have : ds.length ≤ k := List.drop_eq_nil_iff.mp e
    rw [show ds.length = k by omega]; exact h
theorem JuY {fi : FA} {g : FG} {fb : FS} {l : Rho} {items : List D} {p : Addr} {Q : Ct → Prop} {E : Value → List (Str × D) → Prop} (hi : fi l = .v items) (P : Nat → Rho → Prop) (h0 : P 0 l) (hs : ∀ i x l, items[i]? = some x → P i l → ∃ l1, g x l = some l1 ∧ (fb l1).al p (Jse (P (i + 1)) Q) E) (hd : ∀ l, P items.length l → Q (.nx l)) (hc : ∀ l, Q (.ct l) → False) (hb : ∀ l, Q (.bk l) → Q (.nx l)) : (fFor fi g fb l).al p Q E :=
  JwI hi (Js7 P h0 hs hd hc hb)
end DL

set_option maxHeartbeats 2000000
namespace DL
open PySem PySem.Spec PyProof.Rows L2 PySem.NumText TL

def Wd (z : Str) : Prop := ∀ c ∈ tl z, 33 ≤ c
theorem SchOk.ne {ps : List Jn5} {rs : List RowS} (h : SchOk ps rs) : Jpm ps rs ≠ [] := fun e => by
  have := h.days.1
  have e2 := congrArg List.length e
  unfold Jpm at e2
  rw [List.length_append, List.length_map, List.length_nil] at e2
  omega
theorem Jsl {a b : Str} (hb : (b.length == 0) = false) (ha : szOk (a.length + 2) = true) : Jt3 (.str a) (.str b) = some (.lst ((Txt.split a b).map D.str)) := by
  show og (!(b.length == 0) && szOk (a.length + 2)) _ = _
  rw [hb, ha]; rfl
theorem Tx.split {n : Nat} {a b : Str} (h : Tx n a) (hn : Nat.ble n 1000000 = true) (hb : (b.length == 0) = false) : Jt3 (.str a) (.str b) = some (.lst ((Txt.split a b).map D.str)) :=
  Jsl hb (decide_eq_true (by
    have h1 := h.len
    have h2 := Nat.le_of_ble_eq_true hn
    have := sizeLine_eq
    omega))
end DL

set_option maxHeartbeats 2000000
namespace DL
open PySem PySem.Spec PyProof.Rows L2 TL

theorem Bt.up {j k : Nat} {n : Int} (h : Bt j n) (hk : j ≤ k) : Bt k n := Nat.lt_of_lt_of_le h (Nat.pow_le_pow_right Qg hk)
theorem Bt.log {k : Nat} {n : Int} (h : Bt k n) (h0 : 0 < k) : n.natAbs.log2 < k := by
  obtain ⟨j, rfl⟩ : ∃ j, k = j + 1 := ⟨k - 1, by omega⟩
  exact log2_lt h
theorem Bt.zero {k : Nat} : Bt k 0 := Nat.pow_pos Qg
theorem Bt.sub {k : Nat} {x y : Int} (hx : Bt k x) (hy : Bt k y) : Bt (k + 1) (x - y) := by
  unfold Bt at *
  rw [Nat.pow_succ]
  omega
theorem Bt.neg {k : Nat} {x : Int} (hx : Bt k x) : Bt k (-x) := by unfold Bt at *; omega
theorem Bt.sumN {k : Nat} : ∀ {l : List Int}, (∀ x ∈ l, Bt k x) → l.sum.natAbs ≤ l.length * 2 ^ k
  | [], _ => Nat.zero_le _
  | x :: l, h => by
    have h1 := h x (List.mem_cons_self ..)
    have h2 := Bt.sumN fun y hy => h y (List.mem_cons_of_mem _ hy)
    have h3 := Int.natAbs_add_le x l.sum
    unfold Bt at h1
    rw [List.sum_cons, List.length_cons, Nat.succ_mul]
    omega
theorem Bt.sum {k j : Nat} {l : List Int} (h : ∀ x ∈ l, Bt k x) (hl : l.length < 2 ^ j) : Bt (k + j) l.sum := by
  have := Bt.sumN h
  unfold Bt
  rw [Nat.pow_add, Nat.mul_comm]
  refine Nat.lt_of_le_of_lt this (Nat.mul_lt_mul_of_pos_right hl (Nat.pow_pos Qg))
theorem Bt.thing {k : Nat} {n : Int} (h : Bt k n) (hk : Nat.ble k 1900 = true := by decide) : Thing (.int n) := by
  have hk := Nat.le_of_ble_eq_true hk
  have h2 := (h.up (k := k + 1) Qh).log Qh
  exact ⟨.int n, rfl, decide_eq_true Qh, by simp only [szP]; omega, Nat.zero_le _⟩
end DL

set_option maxHeartbeats 2000000
namespace DL
open PySem PySem.Spec PyProof.Rows L2 TL

def Dt (n k : Nat) (d : D) : Prop := ∃ p, py d = some p ∧ okP p = true ∧ p.canLay0 = true ∧ szP p ≤ n ∧ p.depth ≤ k
theorem Dt.up {n k m j : Nat} {d : D} (h : Dt n k d) (hn : Nat.ble n m = true := by rfl) (hk : Nat.ble k j = true := by rfl) : Dt m j d := by
  obtain ⟨p, e, h1, h2, h3, h4⟩ := h
  exact ⟨p, e, h1, h2, Nat.le_trans h3 (Nat.le_of_ble_eq_true hn), Nat.le_trans h4 (Nat.le_of_ble_eq_true hk)⟩
theorem Dt.str {m : Nat} {z : Str} (h : Tx m z) : Dt (10 * m + 2) 0 (.str z) := ⟨_, rfl, h.ok, h.ok, by simp only [szP]; have := h.len; omega, Nat.zero_le _⟩
theorem Dt.int {n : Int} (h : n.natAbs.log2 < 1900) : Dt 2000 0 (.int n) := ⟨_, rfl, decide_eq_true Qh, rfl, by simp only [szP]; omega, Nat.zero_le _⟩
theorem Dt.bt {b : Nat} {n : Int} (h : Bt b n) (hb : Nat.ble b 1800 = true := by rfl) : Dt 2000 0 (.int n) := by
  have h1 := Nat.le_of_ble_eq_true hb
  have h2 := (h.up (k := b + 1) Qh).log Qh
  exact Dt.int Qh
theorem Dt.non : Dt 5 0 .non := ⟨_, rfl, rfl, rfl, Nat.le_of_ble_eq_true rfl, Nat.zero_le _⟩
theorem Dt.bl {b : Bool} : Dt 5 0 (.bl b) := ⟨_, rfl, rfl, rfl, Nat.le_of_ble_eq_true rfl, Nat.zero_le _⟩
theorem Dt.all {n k m : Nat} {ds : List D} (h : ∀ d ∈ ds, Dt n k d) (hl : ds.length ≤ m) : ∃ ps, pyL ds = some ps ∧ okA ps = true ∧ PyData.canLayAll0 ps = true ∧ szA ps ≤ m * (n + 2) ∧ PyData.depthAll ps ≤ k := by
  have key : ∀ ds : List D, (∀ d ∈ ds, Dt n k d) → ∃ ps, pyL ds = some ps ∧ okA ps = true ∧ PyData.canLayAll0 ps = true ∧ szA ps ≤ ds.length * (n + 2) ∧ PyData.depthAll ps ≤ k := fun ds => by
    induction ds with
    | nil => intro _; exact ⟨[], rfl, rfl, rfl, Nat.zero_le _, Nat.zero_le _⟩
    | cons d ds ih =>
      intro h
      obtain ⟨p, e, h1, h2, h3, h4⟩ := h d (List.mem_cons_self ..)
      obtain ⟨ps, e2, g1, g2, g3, g4⟩ := ih fun x hx => h x (List.mem_cons_of_mem _ hx)
      refine ⟨p :: ps, Jre e e2, by simp only [okA, h1, g1, Bool.and_self], by simp only [PyData.canLayAll0, h2, g2, Bool.and_self], by simp only [szA, List.length_cons, Nat.succ_mul]; omega, ?_⟩
      simp only [PyData.depthAll]
      omega
  obtain ⟨ps, e, h1, h2, h3, h4⟩ := key ds h
  exact ⟨ps, e, h1, h2, Nat.le_trans h3 (Nat.mul_le_mul_right _ hl), h4⟩
theorem Dt.lst {n k m : Nat} {ds : List D} (h : ∀ d ∈ ds, Dt n k d) (hl : ds.length ≤ m) : Dt (4 + m * (n + 2)) (k + 1) (.lst ds) := by
  obtain ⟨ps, e, h1, h2, h3, h4⟩ := Dt.all h hl
  exact ⟨.list ps, Jr6 e, h1, h2, by simp only [szP]; omega, by simp only [PyData.depth]; omega⟩
theorem Dt.tup {n k m : Nat} {ds : List D} (h : ∀ d ∈ ds, Dt n k d) (hl : ds.length ≤ m) : Dt (4 + m * (n + 2)) (k + 1) (.tup ds) := by
  obtain ⟨ps, e, h1, h2, h3, h4⟩ := Dt.all h hl
  exact ⟨.tuple ps, by show (pyL ds).map _ = _; rw [e]; rfl, h1, h2, by simp only [szP]; omega, by simp only [PyData.depth]; omega⟩
theorem Dt.thing {n k : Nat} {d : D} (h : Dt n k d) (hn : Nat.ble n 100000 = true := by rfl) (hk : Nat.ble k 20 = true := by rfl) : Thing d := by
  obtain ⟨p, e, h1, h2, h3, h4⟩ := h
  exact ⟨p, e, h1, Nat.le_trans h3 (Nat.le_of_ble_eq_true hn), Nat.le_trans h4 (Nat.le_of_ble_eq_true hk)⟩
theorem Dt.shaped {n k : Nat} {d : D} {p : PyData} (h : Dt n k d) (e : py d = some p) (hk : Nat.ble k 60 = true) : SeqAt.shaped p = true := by
  obtain ⟨p', e', h1, h2, h3, h4⟩ := h
  rw [e] at e'; cases e'
  have := Nat.le_of_ble_eq_true hk
  show (p.canLay0 && decide (p.depth ≤ 64)) = true
  rw [h2, decide_eq_true Qh]; rfl
end DL

set_option maxHeartbeats 2000000
namespace DL
open PySem PySem.Spec PyProof.Rows L2 PySem.NumText TL

end DL

set_option maxHeartbeats 2000000
namespace DL
open PySem PySem.Spec PyProof.Rows L2

theorem JpB : ∀ (n : Nat) (l : List Nat), l.Nodup → (∀ a ∈ l, a < n) → l.length ≤ n
  | 0, [], _, _ => Nat.le_refl _
  | 0, a :: _, _, h => absurd (h a (List.mem_cons_self ..)) Qh
  | n + 1, l, hd, h => by
    by_cases hm : n ∈ l
    · have h1 := List.length_erase_of_mem hm
      have := JpB n (l.erase n) (hd.erase n) fun a ha => by
        have h2 := (hd.mem_erase_iff).mp ha
        have := h a h2.2
        have := h2.1
        omega
      omega
    · have := JpB n l hd fun a ha => by
        have h1 := h a ha
        have h2 : a ≠ n := fun e => hm (e ▸ ha)
        omega
      omega
section
variable {α : Type}
def lkA (l : List (Nat × α)) (k : Nat) : Option α := (l.find? fun kv => decide (kv.1 = k)).map (·.2)
def putA (l : List (Nat × α)) (k : Nat) (y : α) : List (Nat × α) := if (l.any fun kv => decide (kv.1 = k)) = true then l.map (fun kv => if kv.1 = k then (kv.1, y) else kv) else l ++ [(k, y)]
structure KeysA (n : Nat) (l : List (Nat × α)) : Prop where
  nd : (l.map (·.1)).Nodup
  lt : ∀ kv ∈ l, kv.1 < n
theorem KeysA.put {n : Nat} {l : List (Nat × α)} {k : Nat} {y : α} (h : KeysA n l) (hk : k < n) : KeysA n (putA l k y) := by
  unfold putA
  split
  · have e : (l.map fun kv => if kv.1 = k then (kv.1, y) else kv).map (·.1) = l.map (·.1) := by
      rw [List.map_map]
      refine List.map_congr_left fun a _ => ?_
      show (if a.1 = k then (a.1, y) else a).1 = a.1
      split <;> rfl
    refine ⟨by rw [e]; exact h.nd, fun kv hkv => ?_⟩
    obtain ⟨a, ha, rfl⟩ := List.mem_map.mp hkv
    have := h.lt a ha
    show (if a.1 = k then (a.1, y) else a).1 < n
    split <;> exact this
  · rename_i hn
    refine ⟨?_, fun kv hkv => ?_⟩
    · rw [List.map_append, List.map_singleton, List.nodup_append]
      refine ⟨h.nd, by simp, fun a ha b hb e => ?_⟩
      rw [List.mem_singleton] at hb
      subst hb
      obtain ⟨kv, h1, h2⟩ := List.mem_map.mp ha
      refine hn (List.any_eq_true.mpr ⟨kv, h1, ?_⟩)
      rw [h2, e]; simp
    · rcases List.mem_append.mp hkv with h1 | h1
      · exact h.lt _ h1
      · rw [List.mem_singleton] at h1; subst h1; exact hk
theorem KeysA.len {n : Nat} {l : List (Nat × α)} (h : KeysA n l) : l.length ≤ n := by
  have h2 := JpB n (l.map (·.1)) h.nd fun a ha => by
    obtain ⟨kv, h1, rfl⟩ := List.mem_map.mp ha
    exact h.lt kv h1
  rw [List.length_map] at h2
  exact h2
theorem KeysA.nil {n : Nat} : KeysA n ([] : List (Nat × α)) := ⟨List.nodup_nil, fun _ h => by cases h⟩
end
section
variable {ι : Type} (u v : ι → Nat) (w : ι → Int)
variable {u v w}
theorem JuZ {α : Type} {l : List (Nat × α)} {k : Nat} {a : α} (h : lkA l k = some a) : (k, a) ∈ l := by
  unfold lkA at h
  obtain ⟨kv, h1, rfl⟩ := Option.map_eq_some_iff.mp h
  have := List.find?_some h1
  have e : kv.1 = k := of_decide_eq_true this
  rw [← e]
  exact List.mem_of_find?_eq_some h1
theorem KeysA.key {α : Type} {n : Nat} {l : List (Nat × α)} (h : KeysA n l) {k : Nat} {a : α} (e : lkA l k = some a) : k < n := h.lt _ (JuZ e)
end
end DL

set_option maxHeartbeats 2000000
namespace DL
open PySem PySem.Spec PyProof.Rows L2

inductive Bk (pr : Nat → Option Nat) : Nat → List Nat → Nat → Prop
  | nil {x : Nat} : Bk pr x [] x
  | cons {x y z : Nat} {l : List Nat} : pr x = some y → Bk pr y l z → Bk pr x (x :: l) z
theorem Bk.ring {pr : Nat → Option Nat} {x z : Nat} {l : List Nat} (h : Bk pr x l z) (hz : z ∈ l) : ∃ p m, l = p ++ z :: m ∧ Bk pr z (z :: m) z := by
  induction h with
  | nil => cases hz
  | @cons x y z l e h ih =>
    by_cases hx : z = x
    · subst hx
      exact ⟨[], l, rfl, .cons e h⟩
    · rcases List.mem_cons.mp hz with q | q
      · exact absurd q hx
      · obtain ⟨p, m, h1, h2⟩ := ih q
        exact ⟨x :: p, m, by rw [h1]; rfl, h2⟩
end DL

set_option maxHeartbeats 2000000
namespace DL
open PySem PySem.Spec PyProof.Rows L2
end DL

set_option maxHeartbeats 2000000
namespace DL
open PySem PySem.Spec PyProof.Rows L2
section
variable {X : Cx} {W : DWX} {o : List Nat} {B : Bx} {a b c e : Expr} {f fa fb fc : FE} {pos : Pos}
theorem MadeAt.next {r l : Rho} {Ma Mb Mc Md M2 : Mh} {i j : Nat} {v v' z z' : D} (hlen : r.length = l.length) (m1 : MadeAt o i Ma Mb v v') (m2 : MadeAt o j Mc Md z z') (kp : ∀ q mo, Mb q = some mo → Mc q = some mo)
    (h : z' = z ∧ j ∉ o ∨ ∃ p mo, z' = .ref p ∧ j ∈ o ∧ MoD z mo ∧ M2 p = some mo ∧ B.m p = none ∧ B.S j p mo ∧ ∀ k e, k ∈ o → l[k]? = some (some e) → r[k]? ≠ some (some (.ref p))) :
    z' = z ∧ j ∉ o ∨ ∃ p mo, z' = .ref p ∧ j ∈ o ∧ MoD z mo ∧ M2 p = some mo ∧ B.m p = none ∧ B.S j p mo ∧ ∀ k e, k ∈ o → (l.set i (some v))[k]? = some (some e) → (r.set i (some v'))[k]? ≠ some (some (.ref p)) := by
  rcases h with h | ⟨p, mo, e, ho, hm, hM, hb', hS, old⟩
  · exact .inl h
  · refine .inr ⟨p, mo, e, ho, hm, hM, hb', hS, fun k e' hk h z => ?_⟩
    rcases Jl0 h with ⟨e1, e2, hl⟩ | ⟨n, h⟩
    · subst e1
      rw [List.getElem?_set_self (by rw [hlen]; exact hl)] at z
      cases z
      rcases m1 with ⟨_, _, no⟩ | ⟨p1, mo1, e3, hp1, _, e4, _⟩
      · exact no hk
      · cases e3
        rcases m2 with ⟨_, _, no⟩ | ⟨p2, mo2, e5, hp2, _⟩
        · exact no ho
        · rw [e] at e5; cases e5
          have := kp p mo1 (by rw [e4, Jbt])
          rw [this] at hp2; cases hp2
    · rw [List.getElem?_set_ne n] at z
      exact old k e' hk h z
end
end DL

set_option maxHeartbeats 2000000
namespace DL
open PySem PySem.Spec PyProof.Rows L2
end DL

set_option maxHeartbeats 2000000
namespace DL
open PySem PySem.Spec PyProof.Rows L2
section
variable {X : Cx} {W : DWX} {pins : List (Addr × Obj)} {st : Sg} {H Z : Hp} {r : Rho} {M : Mh} {E : DEnds} {F0 : Hp}
variable {body : List Stmt} {tb : DWX → DTS} {pos : Pos}
variable {o : List Nat} {B : Bx}
def Bx.exA (B : Bx) (i : Nat) (a dd : Addr) (fs : List (Str × D)) : Bx := ⟨B.m, B.sf, fun r => exJ i a dd fs r ∧ B.J r, B.fr⟩
theorem Jt6 {B : Bx} {i j : Nat} {a dd : Addr} {fs : List (Str × D)} (h : j ≠ i) (hJ : B.Jk j) : (B.exA i a dd fs).Jk j := fun r x e =>
  ⟨by
    show (r.set j x)[i]? = _
    rw [List.getElem?_set_ne h]; exact e.1, hJ r x e.2⟩
end
end DL

set_option maxHeartbeats 2000000
namespace DL
open PySem PySem.Spec PyProof.Rows L2
structure IsE (K : PySem.W.Frag) (C : Addr) : Prop where
  cl : (PySem.W.clsIn K C).isSome = true
  ga : PySem.W.findIn K (.ref C) "__getattribute__" = some (some (.builtin "BaseException.__getattribute__"))
  gg : PySem.W.findIn K (.ref C) "__getattr__" = some none
  ex : PySem.W.subIn K (.ref C) (.type "BaseException") = some true
  ha : PySem.W.findIn K (.ref C) "__class__" = some (some (.builtin "object.__class__"))
  hm : PySem.W.mroIn K C (.type "object") = some true
open He in
theorem bIsE_ok {K : PySem.W.Frag} {x : Str} (h : bIsE x K = true) : IsE K (ga K x) := by
  obtain ⟨h1, h⟩ := ba h
  obtain ⟨h2, h⟩ := ba h
  obtain ⟨h3, h⟩ := ba h
  obtain ⟨h4, h⟩ := ba h
  obtain ⟨h5, h6⟩ := ba h
  exact ⟨h1, Jfg h2, Jfg h3, Jfg h4, Jfg h5, Jfg h6⟩
end DL

set_option maxHeartbeats 2000000
namespace PySem
namespace XK
open W Calls HandSPX
section
variable {M : Model} {prog : Program} {w : World} {A : Around} {E : Value → Shared → Prop} {R : Result → Shared → Prop} {h : Heap} {g : Array GenState} {d : Drawn} {t : Nat} {os : OsState}
variable {nm q : Str} {C N : Addr} {bs bm bmB : List Value} {hdct : Bool} {sn : List Str} {sub : List Value} {ab : Bool} {col : Option Bool} {dd : Option Addr} {k0 k1 k2 k3 k5 : Option Value} {B newId initId : String} {kn : Str} {kv : Value}
theorem Js8 (F : ExcBaseFacts B newId initId bmB) (hT : ∀ X : String, bm.contains (.type X) = bmB.contains (.type X)) {rest : List Value} {Q : Unit → Shared → Prop}
    (hC : h.get? C = some (excClassObj nm q C N bs bm hdct sn sub ab col dd k0 k1 k2 k3 k5 newId)) (hq : Q () ⟨h, g, d, t, os⟩) : wpAny M A (checkBuiltinCall newId ⟨.ref C :: rest, [(kn, kv)]⟩) Q E ⟨h, g, d, t, os⟩ := by
  have hB : (Value.ref C :: bm).contains (.type B) = true := by rw [List.contains_cons, hT, F.hasB, Bool.or_true]
  have hst := F.noStar
  simp only [checkBuiltinCall, F.newKind, F.newSplit, F.newRow]
  repeat (first | refine wpAny_loadPart_at hC ?_ | (refine wpAny_isSubtype_exc hC ?_; rw [hB]) | refine wpAny_staticBase_exc hC ?_ | refine wpAny_madeBy_exc hC ?_ | simp only [bne_self_eq_false, Bool.false_eq_true, if_false] | wp_step)
  exact hq
theorem JwT (F : ExcBaseFacts B newId initId bmB) (hT : ∀ X : String, bm.contains (.type X) = bmB.contains (.type X)) {rest : List Value}
    (hC : h.get? C = some (excClassObj nm q C N bs bm hdct sn sub ab col dd k0 k1 k2 k3 k5 newId))
    (hq : R (.ok (.ret (.ref (h.objs.size + 1)))) ⟨(h.push { cls := .type "tuple", data := .seq rest.toArray }).push
      { cls := .ref C, data := .fields #[.ref h.objs.size, .none, .none, .none, .bool false, .none] }, g, d, t, os⟩) (hrest : rest.length ≤ sizeLine) :
    codeAny (model prog w) A (.builtin newId ⟨.ref C :: rest, [(kn, kv)]⟩) R ⟨h, g, d, t, os⟩ := by
  have he0 := F.ends
  have hB : (Value.ref C :: bm).contains (.type B) = true := by rw [List.contains_cons, hT, F.hasB, Bool.or_true]
  have hA0 : (Value.ref C :: bm).contains (.type "AttributeError") = false := by rw [List.contains_cons, hT, F.noAttr]; rfl
  have hN0 : (Value.ref C :: bm).contains (.type "NameError") = false := by rw [List.contains_cons, hT, F.noName]; rfl
  refine codeAny_builtinAt F.entry ?_
  unfold Builtin.«BaseException.__new__»
  refine wpAt_bind ?_
  show wpAt _ _ _ (stack >>= _) _ _ _
  refine wpAt_bind (wpAt_stack fun p below => wpAt_of_wpAny ?_)
  wp_walk
  refine wpAt_of_wpAny ?_
  rw [F.owner]
  repeat (first | with_reducible refine wpAny_madeHere_exc F.canon hC ?_ | with_reducible refine wpAny_loadPart_at hC ?_ | (with_reducible refine wpAny_isSubtype_exc hC ?_; first | rw [hB] | rw [hA0] | rw [hN0]) | wp_step)
  show R _ _
  rw [Heap.size_push]
  exact hq
theorem Ju0 (F : ExcBaseFacts B newId initId bmB) (hT : ∀ X : String, bm.contains (.type X) = bmB.contains (.type X)) {rest : List Value} {fI : Addr} {Q : PySem.Fin → Shared → Prop}
    (hC : h.get? C = some (excClassObj nm q C N bs bm hdct sn sub ab col dd k0 k1 k2 k3 k5 newId))
    (hi : W.Looks (model prog w) h (typeLookup (.ref C) "__init__") (some (.ref fI))) (hb : ∀ self, W.Looks (model prog w) h (bindSpecial (.ref fI) self) (.ref fI, [self])) (hrest : rest.length ≤ sizeLine)
    (hq : codeAny (model prog w) A (.call (.ref fI) ⟨.ref (h.objs.size + 1) :: rest, [(kn, kv)]⟩)
      (fun r s' => match r with | .ok (.ret v) => v = .none ∧ Q (.done (.ret (.ref (h.objs.size + 1)))) s' | .ok _ => False | .error e => E e s')
      ⟨(h.push (W.kdv_tup rest)).push (excO C h.objs.size), g, d, t, os⟩) :
    wpAny (model prog w) A (Builtin.«type.__call__» ⟨.ref C :: rest, [(kn, kv)]⟩) Q E ⟨h, g, d, t, os⟩ := by
  repeat (first | with_reducible refine wpAny_loadPart_at hC ?_ | with_reducible refine wpAny_madeBy_exc hC ?_ | wp_step)
  refine codeAny_call_builtin_code (Code.quiet_builtin _ F.quiet) (Js8 F hT hC ?_)
  refine JwT F hT hC ?_ hrest
  show wpAny _ _ _ _ _ _
  have k : ∀ b o, h.get? b = some o → ((h.push (W.kdv_tup rest)).push (excO C h.objs.size)).get? b = some o := fun b o e => Heap.get?_push_of_some _ (Heap.get?_push_of_some _ e)
  have hC₁ := k _ _ hC
  have hg : ((h.push (W.kdv_tup rest)).push (excO C h.objs.size)).get? (h.objs.size + 1) = some (excO C h.objs.size) := by heap_get
  have hcC : (Value.ref C :: bm).contains (.ref C) = true := by simp
  have i1 := hi.keeps k
  have b1 := (hb (.ref (h.objs.size + 1))).keeps k
  unfold isInstance
  repeat (first | with_reducible refine wpAny_loadPart_at hg ?_ | (with_reducible refine wpAny_isSubtype_exc hC₁ ?_; rw [hcC]) | wp_step)
  show wpAny _ _ (typeLookup (.ref C) _) _ _ _
  refine i1.at ?_
  refine wpAny_holding (wpAny_bind (b1.at ?_))
  refine wpAny_bind (wpAny_call (codeAny_mono hq fun r s' z => ?_))
  rcases r with e | (v | _ | _ | _) <;> first | exact z | exact z.elim | skip
  obtain ⟨rfl, z⟩ := z
  first
    | exact wpAny_pure (wpAny_pure z)
    | (wp_walk; exact z)
theorem xk_call (F : ExcBaseFacts B newId initId bmB) (hT : ∀ X : String, bm.contains (.type X) = bmB.contains (.type X)) {rest : List Value} {fI : Addr}
    (hC : h.get? C = some (excClassObj nm q C N bs bm hdct sn sub ab col dd k0 k1 k2 k3 k5 newId))
    (hi : W.Looks (model prog w) h (typeLookup (.ref C) "__init__") (some (.ref fI))) (hb : ∀ self, W.Looks (model prog w) h (bindSpecial (.ref fI) self) (.ref fI, [self])) (hrest : rest.length ≤ sizeLine)
    (hq : codeAny (model prog w) (A.under (.builtin "type.__call__" ⟨.ref C :: rest, [(kn, kv)]⟩)) (.call (.ref fI) ⟨.ref (h.objs.size + 1) :: rest, [(kn, kv)]⟩) (W.InitBack (h.objs.size + 1) R)
      ⟨(h.push (W.kdv_tup rest)).push (excO C h.objs.size), g, d, t, os⟩) :
    codeAny (model prog w) A (.call (.ref C) ⟨rest, [(kn, kv)]⟩) R ⟨h, g, d, t, os⟩ := by
  have f1 := tc_lookup
  have f2 := tc_bind (.ref C)
  have hTy : (⟨h, g, d, t, os⟩ : Shared).TypeIs (.ref C) "type" := ⟨_, hC, rfl⟩
  refine codeAny_of_tree ?_
  show wpAny _ _ (callAny (.ref C) _) _ _ _
  repeat (any_goals (first | assumption | with_reducible refine wpAny_loadPart_at hC ?_ | wp_step))
  refine ⟨rfl, ?_⟩
  refine codeAny_call_builtin_at (Code.quiet_builtin _ Qj) entry_typeCall (wpAny_check_type_call_sub hC (Ju0 F hT hC hi hb hrest ?_))
  refine codeAny_mono hq fun r s' z => ?_
  rcases r with e | (v | _ | _ | _) <;> exact z
end
end XK
end PySem

set_option maxHeartbeats 2000000
namespace DL
open PySem PySem.Spec PyProof.Rows L2 He
def tMkV (C : Addr) (sp : Sp) (ta : L2.TA) : L2.TE := fun σ H Q => ta σ H fun vs H1 => vs.length ≤ 1000 ∧ ∀ a, H1 a = none → sp (.ref a :: vs) (upd H1 a (exo a C none)) (fun v H2 => v = .non ∧ Q (.ref a) H2) (fun _ _ _ => False)
section
variable {X : Cx} {x y : Str} {C gI : Addr} {fd : FuncData} {ps : List Str} {sp : Sp} {k : Nat} {e : Expr} {es : List Expr} {ta : L2.TA} {p pos kp : Pos}
theorem JwU (T : OxC X.K C) (iC : PySem.W.findIn X.K (.ref C) "__init__" = some (some (.ref gI))) (tI : PySem.W.typeIn X.K (.ref gI) = some (.type "function"))
    (F1 : FnOk X.prog X.w X.K X.mg X.base (fun _ _ _ _ _ _ => False) k gI fd ps sp) (hr : Room (k + 1) X.A) (hb : ∀ us : List Value, us.length = ps.length → bindArgs fd ⟨us, []⟩ = pure (ps.zip us)) (hg : Gl X x) (hm : X.mg x = some (.ref C)) (ha : PA X (e :: es) ta)
    (hdb : (x == ("__debug__" : Str)) = false := by decide) (he : starEach (e :: es) X.env = (false, eval e X.env) :: starEach es X.env := by rfl) (hpl : (backTo pos (starEach es X.env)).any (·.1) = false := by rfl) :
    PE X (.Call (.Name x p) (e :: es) [] pos) (tMkV C sp ta) := by
  refine ⟨fun pins s σ H Q I h => ?_⟩
  obtain ⟨B, nid, iid, tl, nm, q, N, bs, bm, sn, sub, ab, col, dd, k0, k1, k2, k3, k5, hB, hO, hC⟩ := T.cls
  refine wpAny_Call_Name_kw (ld_glob I hg hm ?_ hdb)
  refine PySem.W.callWith_K (h₀ := X.base) I.ok.mod.kin T.kC (thn (ha.run pos pins s σ H _ I h) fun us s1 ⟨vs, H1, I1, r1, hz, q1⟩ => ⟨I1.kIn, ?_⟩) he hpl
  show wpAny _ _ (call (.ref C) us) _ _ _
  obtain ⟨hp, g, dr, tk, os⟩ := s1
  have hsz : hp.objs.size ≤ hp.objs.size + 1 := Nat.le_succ _
  have hq := q1 (hp.objs.size + 1) (I1.hok.fresh hsz)
  have kk : ∀ b o, hp.get? b = some o → ((hp.push (PySem.W.kdv_tup us)).push (PySem.HandSPX.excO C hp.objs.size)).get? b = some o := fun b o e => Heap.get?_push_of_some _ (Heap.get?_push_of_some _ e)
  have hget : ((hp.push (PySem.W.kdv_tup us)).push (PySem.HandSPX.excO C hp.objs.size)).get? (hp.objs.size + 1) = some (PySem.HandSPX.excO C hp.objs.size) := by heap_get
  have I2 := I1.laid (t' := tk) (a := hp.objs.size + 1) (o := exo (hp.objs.size + 1) C none) (h' := (hp.push (PySem.W.kdv_tup us)).push (PySem.HandSPX.excO C hp.objs.size)) kk hsz (exo_ok hget)
  have r2 : Vals (V.ref (hp.objs.size + 1) :: vs) (Value.ref (hp.objs.size + 1) :: us) := .cons rfl r1
  have hl : (Value.ref (hp.objs.size + 1) :: us).length = ps.length := by
    have e := r2.length
    rw [F1.len _ _ _ _ hq] at e
    exact e.symm
  have hus : us.length ≤ sizeLine := by
    rw [← Paired.length r1, sizeLine_eq]
    omega
  refine wpAny_call (PySem.HandSPX.call_own hB.ex (fun Y => hO.has Y) (I1.kIn _ _ hC) (PySem.W.looks_findIn I1.kIn iC) (fun self => PySem.W.bind_fn I1.kIn self tI) hus
    (codeAny_mono (F1.run _ X.stack _ _ ⟨Value.ref (hp.objs.size + 1) :: us, []⟩ (Value.ref (hp.objs.size + 1) :: us) _ _ (fun _ _ _ => False) (hr.make C us []) (I2.env0.make C us []) (.of_eq (hb _ hl)) r2 hq) fun r s' hq' => ?_))
  cases r with
  | error er => exact False.elim hq'
  | ok fl =>
    cases fl with
    | ret u =>
      obtain ⟨v, H2, os2, bare2, un2, hok2, rv, ev, q2⟩ := hq'
      subst ev
      obtain ⟨h2, g2, d2, t2, os'⟩ := s'
      exact ⟨rv, .ref (hp.objs.size + 1), H2, I2.call' os2 un2 hok2 bare2 (fun _ z => nomatch z), rfl, q2⟩
    | next => exact False.elim hq'
    | brk => exact False.elim hq'
    | cont => exact False.elim hq'
theorem JwV {t1 : L2.TE} (T : OxC X.K C) (iC : PySem.W.findIn X.K (.ref C) "__init__" = some (some (.ref gI))) (tI : PySem.W.typeIn X.K (.ref gI) = some (.type "function"))
    (F1 : FnOk X.prog X.w X.K X.mg X.base (fun _ _ _ _ _ _ => False) k gI fd ["self", y] sp) (hr : Room (k + 1) X.A) (hb : ∀ a u : Value, bindArgs fd ⟨[a], [(y, u)]⟩ = pure ((["self", y] : List Str).zip [a, u])) (hg : Gl X x) (hm : X.mg x = some (.ref C)) (ha : PE X e t1)
    (hdb : (x == ("__debug__" : Str)) = false := by decide) :
    PE X (.Call (.Name x p) [] [⟨some y, e, kp⟩] pos) (tMkV C sp (tCons t1 tNil)) := by
  refine ⟨fun pins s σ H Q I h => ?_⟩
  obtain ⟨B, nid, iid, tl, nm, q, N, bs, bm, sn, sub, ab, col, dd, k0, k1, k2, k3, k5, hB, hO, hC⟩ := T.cls
  refine wpAny_Call_Name_kw (ld_glob I hg hm ?_ hdb)
  refine PySem.W.callWith_KW0 (h₀ := X.base) I.ok.mod.kin T.kC rfl ?_ rfl
  show wpAny _ _ (evalAll ((do let v ← eval e X.env; standAt pos; pure v) :: [])) _ _ s
  refine wpAny_evalAll_cons (wpAny_bind (thn (ha.run pins s σ H _ I h) fun u s1 ⟨z, H1, I1, ru, hz, q1⟩ => wpAny_bind (wpAny_standAt (wpAny_pure (wpAny_evalAll_nil ⟨I1.kIn, ?_⟩)))))
  show wpAny _ _ (call (.ref C) [] [(y, u)]) _ _ _
  obtain ⟨hp, g, dr, tk, os⟩ := s1
  have hsz : hp.objs.size ≤ hp.objs.size + 1 := Nat.le_succ _
  have hq := q1 (hp.objs.size + 1) (I1.hok.fresh hsz)
  have kk : ∀ b o, hp.get? b = some o → ((hp.push (PySem.W.kdv_tup [])).push (PySem.HandSPX.excO C hp.objs.size)).get? b = some o := fun b o e => Heap.get?_push_of_some _ (Heap.get?_push_of_some _ e)
  have hget : ((hp.push (PySem.W.kdv_tup [])).push (PySem.HandSPX.excO C hp.objs.size)).get? (hp.objs.size + 1) = some (PySem.HandSPX.excO C hp.objs.size) := by heap_get
  have I2 := I1.laid (t' := tk) (a := hp.objs.size + 1) (o := exo (hp.objs.size + 1) C none) (h' := (hp.push (PySem.W.kdv_tup [])).push (PySem.HandSPX.excO C hp.objs.size)) kk hsz (exo_ok hget)
  have r2 : Vals [V.ref (hp.objs.size + 1), z] [Value.ref (hp.objs.size + 1), u] := .cons rfl (.cons ru .nil)
  refine wpAny_call (PySem.XK.xk_call hB.ex (fun Y => hO.has Y) (I1.kIn _ _ hC) (PySem.W.looks_findIn I1.kIn iC) (fun self => PySem.W.bind_fn I1.kIn self tI) (Nat.zero_le _)
    (codeAny_mono (F1.run _ X.stack _ _ ⟨[Value.ref (hp.objs.size + 1)], [(y, u)]⟩ [Value.ref (hp.objs.size + 1), u] _ _ (fun _ _ _ => False) (hr.make C [] [(y, u)]) (I2.env0.make C [] [(y, u)]) (.of_eq (hb _ _)) r2 hq) fun r s' hq' => ?_))
  cases r with
  | error er => exact False.elim hq'
  | ok fl =>
    cases fl with
    | ret u =>
      obtain ⟨v, H2, os2, bare2, un2, hok2, rv, ev, q2⟩ := hq'
      subst ev
      obtain ⟨h2, g2, d2, t2, os'⟩ := s'
      exact ⟨rv, .ref (hp.objs.size + 1), H2, I2.call' os2 un2 hok2 bare2 (fun _ z => nomatch z), rfl, q2⟩
    | next => exact False.elim hq'
    | brk => exact False.elim hq'
    | cont => exact False.elim hq'
theorem JwW (T : Exc0 X.K C) (hg : Gl X x) (hm : X.mg x = some (.ref C)) (hdb : (x == ("__debug__" : Str)) = false := by decide) : PE X (.Call (.Name x p) [] [] pos) (fun _ H Q => ∀ a, H a = none → Q (.ref a) (upd H a (exo a C none))) := by
  refine ⟨fun pins s σ H Q I h => ?_⟩
  obtain ⟨B, nid, iid, tl, hB, hq⟩ := T.ex
  refine wpAny_Call_Name_kw (ld_glob I hg hm ?_ hdb)
  refine PySem.W.callWith_K0 I.kIn T.kC ?_
  show wpAny _ _ (call (.ref C) []) _ _ _
  obtain ⟨bm, N, nm, qn, bs, hdct, sn, sub, ab, col, dd, k0, k1, k2, k3, k5, mN, hC, hN, hni, hT⟩ := exc_obj I.kIn hq
  obtain ⟨hp, g, d, t, os⟩ := s
  refine wpAny_call_exc_subT hB.ex hT hC hN hni (fun h' e hm => ?_) (Nat.zero_le _)
  have hn : H e = none := I.hok.gone hm.new
  obtain ⟨t0, he, _, _⟩ := hm.there
  exact ⟨.ref e, upd H e (exo e C none), I.laidN (t' := t) hm.keeps hm.new hn (exo_ok he), rfl, h e hn⟩
end
section
variable {X : Cx} {W : DWX} {x fl y : Str} {C gI : Addr} {fd : FuncData} {e : Expr} {ta : DTA} {te : DTE} {p pos kp : Pos} {o : List Nat} {B : Bx} {h : FA} {f : FE}
def dMkX (C : Addr) (fl : Str) (ta : DTA) : DTE := fun r M Q => ta r M fun ds M1 => ∃ y, ds = [y] ∧ Q (.exv C [(fl, y)]) M1
theorem Jsm {st : Sg} {Z H1 : Hp} {r : Rho} {M1 : Mh} {F : Hp} {Q : QD} {vs : List V} {ds : List D} (T : ExcX X.K C gI fl) (q1 : SR (kx X W) Z r M1 st H1) (rps : RepL X.K (out Z M1 H1) vs ds) (sm : Same F (out Z M1 H1)) (h : ∃ y, ds = [y] ∧ Q (.exv C [(fl, y)]) M1) :
    vs.length ≤ 1000 ∧ ∀ a, H1 a = none → Jng X.K fl (.ref a :: vs) (upd H1 a (exo a C none)) (fun v H2 => v = .non ∧ EQ (kx X W) Z st r F Q (.ref a) H2) (fun _ _ _ => False) := by
  obtain ⟨y, ed, w⟩ := h
  subst ed
  cases rps with
  | @cons vv _ _ _ r1 rr =>
    cases rr
    refine ⟨Nat.le_of_ble_eq_true rfl, fun a na => ?_⟩
    refine ⟨a, C, vv, rfl, T.T, T.no, upd_same, fun dx nd ne => ⟨rfl, ?_⟩⟩
    have nd1 : H1 dx = none := by rw [upd_ne ne] at nd; exact nd
    have eh : ∀ (o1 o2 o3 : HO), upd (upd (upd H1 a o1) dx o2) a o3 = upd (upd H1 dx o2) a o3 := fun o1 o2 o3 => by
      funext b
      by_cases h2 : b = a
      · rw [h2, upd_same, upd_same]
      · rw [upd_ne h2, upd_ne h2]
        by_cases h1 : b = dx
        · rw [h1, upd_same, upd_same]
        · rw [upd_ne h1, upd_ne h1, upd_ne h2]
    rw [eh]
    have nt1 : ∀ ps, exd dx [(fl, vv)] ≠ .tbl ps := fun _ e => nomatch (show HO.ext _ = HO.tbl _ from e)
    have nt2 : ∀ ps, exo a C (some dx) ≠ .tbl ps := fun _ e => exo_tbl e
    have q2 := q1.new (o := exd dx [(fl, vv)]) nd1 nt1
    have sm1 := JmD (o := exd dx [(fl, vv)]) q1.hr nd1
    have na2 : upd H1 dx (exd dx [(fl, vv)]) a = none := by rw [upd_ne (Ne.symm ne)]; exact na
    have q3 := q2.new (o := exo a C (some dx)) na2 nt2
    have sm2 := JmD (o := exo a C (some dx)) q2.hr na2
    have e1 : out Z M1 (upd (upd H1 dx (exd dx [(fl, vv)])) a (exo a C (some dx))) = upd (upd (out Z M1 H1) dx (exd dx [(fl, vv)])) a (exo a C (some dx)) := by rw [Jpo q2.hr na2, Jpo q1.hr nd1]
    refine ⟨.exv C [(fl, y)], M1, q3, ?_, sm.trans (sm1.trans sm2), w⟩
    refine .exv (dx := dx) (fv := [(fl, vv)]) (by rw [e1]; exact upd_same) (by rw [e1, upd_ne ne]; exact upd_same) (.cons (r1.mono (sm1.trans sm2)) .nil)
theorem Js9 (T : ExcX X.K C gI fl) (F1 : FnOk X.prog X.w X.K X.mg X.base (fun _ _ _ _ _ _ => False) 1 gI fd ["self", y] (Jng X.K fl)) (hr : Rm 2 X.A)
    (hb : ∀ us : List Value, us.length = 2 → bindArgs fd ⟨us, []⟩ = pure ((["self", y] : List Str).zip us)) (hg : Gl X x) (hm : X.mg x = some (.ref C)) (ha : DA X W [e] ta)
    (hdb : (x == ("__debug__" : Str)) = false := by decide) (he : starEach [e] X.env = (false, eval e X.env) :: starEach [] X.env := by rfl) : DE X W (.Call (.Name x p) [e] [] pos) (dMkX C fl ta) :=
  DE.of (JwU T.T T.init T.fn F1 hr.room hb hg hm ha.pa hdb he rfl) fun st H Z r M Q q h => ⟨Z, r, M, _, q, h, fun vs H1 ⟨ds, M1, q1, rps, sm, hh⟩ => Jsm T q1 rps sm hh⟩
theorem Jsn (T : ExcX X.K C gI fl) (F1 : FnOk X.prog X.w X.K X.mg X.base (fun _ _ _ _ _ _ => False) 1 gI fd ["self", y] (Jng X.K fl)) (hr : Rm 2 X.A)
    (hb : ∀ a u : Value, bindArgs fd ⟨[a], [(y, u)]⟩ = pure ((["self", y] : List Str).zip [a, u])) (hg : Gl X x) (hm : X.mg x = some (.ref C)) (ha : DE X W e te)
    (hdb : (x == ("__debug__" : Str)) = false := by decide) : DE X W (.Call (.Name x p) [] [⟨some y, e, kp⟩] pos) (dMkX C fl (JqA te dNil)) :=
  DE.of (JwV T.T T.init T.fn F1 hr.room hb hg hm ha.pe hdb) fun st H Z r M Q q h => ⟨Z, r, M, _, q, h, fun v H1 ⟨d, M1, q1, rp, sm, hh⟩ => Jsm T q1 (.cons rp .nil) sm hh⟩
def aIsX (K : PySem.W.Frag) : DRL := fun ds M Q => ∃ C fs c u b, ds = [.exv C fs, c] ∧ clsD c = some u ∧ IsE K C ∧ PySem.W.kitOne K (.ref C) u = some b ∧ Q (.bl b) M
theorem Jyd : DCall X W (.builtin "isinstance") (aIsX X.K) := by
  intro pins s st H Z r M xs vs ds Q I q rv rp h
  obtain ⟨C, fs, c, u, b, rfl, e2, T, e3, hq⟩ := h
  cases rp with
  | cons r1 rr =>
    cases rr with
    | cons r2 rr =>
      cases rr
      obtain ⟨u1, u2, rfl, q1, q2⟩ := vals2 rv
      have := JxN r2 q2 e2
      subst this
      have fin : ∀ (a : Addr) (ox : Obj) (od : Option Obj), u1 = Value.ref a → PySem.W.InstAt s.heap a ox C od → wpAny (model X.prog X.w) X.A (call (.builtin "isinstance") [u1, u2]) (EP X pins st (EQ (kx X W) Z st r (out Z M H) Q)) X.xe s := fun a ox od e J => by
        subst e
        exact PySem.W.kia_one (PySem.W.kitx_exc T.cl T.ga T.gg T.ex T.ha (JrO X.K).1 (JrO X.K).2 T.hm) I.kIn J e3 (fun z => nomatch z) fun tk => ⟨.bl b, H, I.tok tk, rfl, EQ.val q (.bl b) hq⟩
      cases r1 with
      | exv h1 h2 r3 =>
        obtain ⟨t1, ha⟩ := exo_at I.hok (Jbp _ _ _ _ _ h1)
        obtain ⟨mA, hns, hr⟩ := exd_at I.hok (Jbp _ _ _ _ _ h2)
        obtain ⟨od, ho, hl⟩ := lookIn_ns hns
        exact fin _ _ (some od) q1 ⟨ha, rfl, rfl, ho⟩
      | exw h1 =>
        obtain ⟨t1, ha⟩ := exo_at I.hok (Jbp _ _ _ _ _ h1)
        exact fin _ _ none q1 ⟨ha, rfl, rfl, trivial⟩
def pIsX (K : PySem.W.Frag) (cs : List Addr) : D → D → Option D
  | .exv C _, c => (clsD c).bind fun u => (PySem.W.kitOne K (.ref C) u).bind fun b => og (decide (C ∈ cs)) (.bl b)
  | _, _ => none
theorem JbM {cs : List Addr} (hcs : ∀ C ∈ cs, IsE X.K C) : OpNs X W (.builtin "isinstance") (p2 (pIsX X.K cs)) := ⟨_, Jyd (X := X) (W := W), fun M ds d Q e q => by
  unfold p2 at e
  split at e
  · rename_i d1 c
    cases d1 with
    | exv C fs =>
      obtain ⟨u, e1, e⟩ := Option.bind_eq_some_iff.mp (show ((clsD c).bind fun u => (PySem.W.kitOne X.K (.ref C) u).bind fun b => og (decide (C ∈ cs)) (.bl b)) = some d from e)
      obtain ⟨b, e2, e⟩ := Option.bind_eq_some_iff.mp e
      obtain ⟨e3, e4⟩ := og_s.mp e
      subst e4
      exact ⟨C, fs, c, u, b, rfl, e1, hcs C (of_decide_eq_true e3), e2, q⟩
    | _ => cases e
  · cases e⟩
theorem Jab {K : PySem.W.Frag} {cs : List Addr} {C : Addr} {fs : List (Str × D)} {c : D} {u : Value} {b : Bool} (h1 : clsD c = some u) (h2 : PySem.W.kitOne K (.ref C) u = some b) (h3 : decide (C ∈ cs) = true) : pIsX K cs (.exv C fs) c = some (.bl b) := by
  unfold pIsX
  dsimp only
  rw [h1, Option.bind_some, h2, Option.bind_some, h3]
  rfl
structure XvF (K : PySem.W.Frag) (n : Str) (C : Addr) : Prop where
  xf : XfC K C
  no : PySem.W.findIn K (.ref C) n = some none
def tXv (K : PySem.W.Frag) (n : Str) (te : L2.TE) : L2.TE := fun σ H Q => te σ H fun x H1 => ∃ (a C dd : Addr) (fs : List (Str × V)) (v : V), x = .ref a ∧ XvF K n C ∧ H1 a = some (exo a C (some dd)) ∧ H1 dd = some (exd dd fs) ∧ fs.lookup n = some v ∧ Q v H1
theorem Jye {n : Str} {t1 : L2.TE} (he : PE X e t1) (hb : attributeBase e n X.env (eval e X.env) = eval e X.env := by rfl) : PE X (.Attribute e n pos) (tXv X.K n t1) := by
  refine ⟨fun pins s σ H Q I h => ?_⟩
  refine attr_of hb (thn (he.run pins s σ H _ I h) fun u s1 hh => ?_)
  obtain ⟨x, H1, I1, rx, a, C, dd, fs, v, ex, T, ea, ed, l, q⟩ := hh
  subst ex
  obtain rfl : u = Value.ref a := rx
  obtain ⟨t1, ha⟩ := exo_at I1.hok ea
  obtain ⟨mA, hns, hr⟩ := exd_at I1.hok ed
  obtain ⟨od, ho, hl⟩ := lookIn_ns hns
  obtain ⟨u, hu, ru⟩ := RelO.some_of (v := v) (o := mA n) (by rw [← l]; exact hr n)
  have J : PySem.W.InstAt s1.heap a _ C (some od) := ⟨ha, rfl, rfl, ho⟩
  exact HandSPX.exc_get I1.kIn J T.xf.ga T.xf.gg T.xf.exC (PySem.W.findObj_own T.xf.hdC T.no rfl (by rw [hl, hu])) (handed_of ru) ⟨v, H1, I1.tok _, ru, q⟩
def dXv (K : PySem.W.Frag) (n : Str) (te : DTE) : DTE := fun r M Q => te r M fun x M1 => ∃ C fs y, x = .exv C fs ∧ XvF K n C ∧ fs.lookup n = some y ∧ Q y M1
theorem Jyf {n : Str} (he : DE X W e te) (hb : attributeBase e n X.env (eval e X.env) = eval e X.env := by rfl) : DE X W (.Attribute e n pos) (dXv X.K n te) :=
  DE.of (Jye he.pe hb) fun st H Z r M Q q h => ⟨Z, r, M, _, q, h, fun v H1 ⟨x, M1, q1, rp, sm, C, fs, y, ex, T, hl, hq⟩ => by
    subst ex
    cases rp with
    | exv h1 h2 h3 =>
      obtain ⟨w, e1, e2⟩ := (Jop h3).1 y hl
      exact ⟨_, C, _, _, w, rfl, T, Jbp _ _ _ _ _ h1, Jbp _ _ _ _ _ h2, e1, y, M1, q1, e2, sm, hq⟩
    | exw h1 => cases hl⟩
def fMkX (C : Addr) (fl : Str) (h : FA) : FE := fun l => (h l).bind fun ds => match ds with
  | [y] => .v (.exv C [(fl, y)])
  | _ => .no
theorem Jbn (hx : ExcX X.K C gI fl) (F1 : FnOk X.prog X.w X.K X.mg X.base (fun _ _ _ _ _ _ => False) 1 gI fd ["self", y] (Jng X.K fl)) (hr : Rm 2 X.A)
    (hb : ∀ us : List Value, us.length = 2 → bindArgs fd ⟨us, []⟩ = pure ((["self", y] : List Str).zip us)) (hg : Gl X x) (hm : X.mg x = some (.ref C)) (ha : DA X W [e] (tA W o B h))
    (hdb : (x == ("__debug__" : Str)) = false := by decide) (he : starEach [e] X.env = (false, eval e X.env) :: starEach [] X.env := by rfl) : DE X W (.Call (.Name x p) [e] [] pos) (tE W o B (fMkX C fl h)) :=
  (Js9 hx F1 hr hb hg hm ha hdb he).imp' fun r M Q ⟨l, w, k⟩ => ⟨l, w, T.go_imp (T.go_bind.mp k) fun ds q => by
    split at q
    · exact ⟨_, rfl, q⟩
    · exact q.elim⟩
def Jhl (C : Addr) (fl : Str) (f : FE) : FE := fun l => (f l).bind fun y => .v (.exv C [(fl, y)])
theorem Jbh (hx : ExcX X.K C gI fl) (F1 : FnOk X.prog X.w X.K X.mg X.base (fun _ _ _ _ _ _ => False) 1 gI fd ["self", y] (Jng X.K fl)) (hr : Rm 2 X.A)
    (hb : ∀ a u : Value, bindArgs fd ⟨[a], [(y, u)]⟩ = pure ((["self", y] : List Str).zip [a, u])) (hg : Gl X x) (hm : X.mg x = some (.ref C)) (ha : DE X W e (tE W o B f))
    (hdb : (x == ("__debug__" : Str)) = false := by decide) : DE X W (.Call (.Name x p) [] [⟨some y, e, kp⟩] pos) (tE W o B (Jhl C fl f)) :=
  (Jsn hx F1 hr hb hg hm ha hdb).imp' fun r M Q ⟨l, w, k⟩ => ⟨l, w, T.go_imp (T.go_bind.mp k) fun d q => ⟨d, rfl, q⟩⟩
def Jyg (C : Addr) : DTE := fun r M Q => Q (.exv C []) M
theorem Jso (hx : Exc0 X.K C) (hg : Gl X x) (hm : X.mg x = some (.ref C)) (hdb : (x == ("__debug__" : Str)) = false := by decide) : DE X W (.Call (.Name x p) [] [] pos) (Jyg C) :=
  DE.of (JwW hx hg hm hdb) fun st H Z r M Q q h a na => EQ.new q na (.exw upd_same) h
def JwX (C : Addr) : FE := fun _ => .v (.exv C [])
theorem Jsp (hx : Exc0 X.K C) (hg : Gl X x) (hm : X.mg x = some (.ref C)) (hdb : (x == ("__debug__" : Str)) = false := by decide) : DE X W (.Call (.Name x p) [] [] pos) (tE W o B (JwX C)) :=
  (Jso hx hg hm hdb).imp' fun r M Q ⟨l, w, k⟩ => k
def fXv (n : Str) (cs : List Addr) (f : FE) : FE := fun l => (f l).bind fun d => match d with
  | .exv C fs => .gd (decide (C ∈ cs)) (.ofO (fs.lookup n))
  | _ => .no
theorem Jhm {n : Str} {cs : List Addr} {f : FE} {l : Rho} : fXv n cs f l = (f l).bind fun d => match d with
  | .exv C fs => .gd (decide (C ∈ cs)) (.ofO (fs.lookup n))
  | _ => .no := rfl
theorem JwY {n : Str} {cs : List Addr} (hcs : ∀ C ∈ cs, XvF X.K n C) (he : DE X W e (tE W o B f)) (hb : attributeBase e n X.env (eval e X.env) = eval e X.env := by rfl) : DE X W (.Attribute e n pos) (tE W o B (fXv n cs f)) :=
  (Jyf he hb).imp' fun r M Q ⟨l, w, k⟩ => ⟨l, w, T.go_imp (T.go_bind.mp k) fun d q => by
    cases d with
    | exv C fs =>
      obtain ⟨h1, h2⟩ := T.go_gd.mp q
      obtain ⟨y, e, q⟩ := T.go_ofO.mp h2
      exact ⟨C, fs, y, rfl, hcs C (of_decide_eq_true h1), e, q⟩
    | _ => exact q.elim⟩
def OkXV (P : Program) (w : World) (K : PySem.W.Frag) (mg : Str → Option Value) (base : Heap) (C gI : Addr) (f y : Str) : Prop :=
  ∃ fd, FnOk P w K mg base (fun _ _ _ _ _ _ => False) 1 gI fd ["self", y] (Jng K f) ∧ (∀ us : List Value, us.length = 2 → bindArgs fd ⟨us, []⟩ = pure ((["self", y] : List Str).zip us)) ∧ (∀ a u : Value, bindArgs fd ⟨[a], [(y, u)]⟩ = pure ((["self", y] : List Str).zip [a, u])) ∧ ExcX K C gI f ∧ XfC K C
theorem Jbx {P : Program} {w : World} {K : PySem.W.Frag} {mg : Str → Option Value} {base : Heap} {C gI : Addr} {x qual f y : Str} {params : Arguments} {body : List Stmt} {scope : Scope} {fd : FuncData} {p1 p2 p3 p4 : Pos} (h : ExcX K C gI f ∧ XfC K C)
    (F : FunD K x qual params body scope [] [] gI fd) (S : FnScope ["self", y] ["self", y] scope) (hb : body = [.Assign [.Attribute (.Name "self" p1) f p2] (.Name y p3) p4]) (hbd : ∀ (kV doc pm : Value) (an : Option Addr) (cdv ct : Value) (us : List Value), us.length = 2 → bindArgs (PySem.W.fnOf x qual params body scope .none kV doc pm an cdv ct) ⟨us, []⟩ = pure ((["self", y] : List Str).zip us))
    (hbk : ∀ (kV doc pm : Value) (an : Option Addr) (cdv ct a u : Value), bindArgs (PySem.W.fnOf x qual params body scope .none kV doc pm an cdv ct) ⟨[a], [(y, u)]⟩ = pure ((["self", y] : List Str).zip [a, u]))
    (hd : (y == ("__debug__" : Str)) = false := by decide) (hcd : (y == ("__classdict__" : Str)) = false := by decide) : OkXV P w K mg base C gI f y := by
  refine ⟨fd, Jsc F S hb hd hcd, fun us hl => ?_, fun a u => ?_, h⟩ <;> obtain ⟨oc, od, dV, kV, doc, pm, an, cdv, ct, osl, rfl, _, _, hD, _⟩ := F.ex
  · rcases hD with ⟨_, rfl⟩ | ⟨e, _⟩
    · exact hbd kV doc pm an cdv ct us hl
    · exact absurd rfl e
  · rcases hD with ⟨_, rfl⟩ | ⟨e, _⟩
    · exact hbk kV doc pm an cdv ct a u
    · exact absurd rfl e
theorem Jaa {K : PySem.W.Frag} {ps : List (Str × Str × Bool)} (h : Jbu ps K = true) {a b : Str} {c : Bool} (hm : (a, b, c) ∈ ps) : PySem.W.kitOne K (.ref (ga K a)) (.ref (ga K b)) = some c := Jfg (List.all_eq_true.mp h _ hm)
theorem Jao {K : PySem.W.Frag} {ps : List (Str × String × Bool)} (h : Jbv ps K = true) {a : Str} {b : String} {c : Bool} (hm : (a, b, c) ∈ ps) : PySem.W.kitOne K (.ref (ga K a)) (.type b) = some c := Jfg (List.all_eq_true.mp h _ hm)
end
end DL

--BACK
set_option maxHeartbeats 4000000
namespace DL
open PySem PySem.Spec PyProof.Rows L2
open FR
def CS (K : PySem.W.Frag) : List Addr := []
def CE (K : PySem.W.Frag) : List Addr := [He.ga K "InvalidName", He.ga K "InvalidMost", He.ga K "InvalidKind", He.ga K "InvalidNumber", He.ga K "InvalidRate", He.ga K "InvalidText", He.ga K "InvalidSheet", He.ga K "InvalidTotal", He.ga K "InvalidHours", He.ga K "InvalidWish", He.ga K "InvalidIndex", He.ga K "NotPlan", He.ga K "UnknownName", He.ga K "OtherDays", He.ga K "OutOfBounds", He.ga K "InvalidDays", He.ga K "InvalidRules", He.ga K "InvalidChanges", He.ga K "InvalidWishes", He.ga K "InUse", He.ga K "Broken", He.ga K "NothingToUndo"]
section
variable {K : PySem.W.Frag}
theorem hcs (c : SaysF fa fn K) : ∀ C ∈ CS K, IsiC K C := by
  intro C hC
  simp only [CS, List.mem_cons, List.mem_nil_iff, or_false] at hC
theorem hcsE (c : SaysF fa fn K) : ∀ C ∈ CE K, IsE K C := by
  intro C hC
  simp only [CE, List.mem_cons, List.mem_nil_iff, or_false] at hC
  rcases hC with rfl | rfl | rfl | rfl | rfl | rfl | rfl | rfl | rfl | rfl | rfl | rfl | rfl | rfl | rfl | rfl | rfl | rfl | rfl | rfl | rfl | rfl
  · exact bIsE_ok (c.fact 222 (f := bIsE "InvalidName"))
  · exact bIsE_ok (c.fact 223 (f := bIsE "InvalidMost"))
  · exact bIsE_ok (c.fact 224 (f := bIsE "InvalidKind"))
  · exact bIsE_ok (c.fact 225 (f := bIsE "InvalidNumber"))
  · exact bIsE_ok (c.fact 226 (f := bIsE "InvalidRate"))
  · exact bIsE_ok (c.fact 227 (f := bIsE "InvalidText"))
  · exact bIsE_ok (c.fact 228 (f := bIsE "InvalidSheet"))
  · exact bIsE_ok (c.fact 229 (f := bIsE "InvalidTotal"))
  · exact bIsE_ok (c.fact 230 (f := bIsE "InvalidHours"))
  · exact bIsE_ok (c.fact 231 (f := bIsE "InvalidWish"))
  · exact bIsE_ok (c.fact 232 (f := bIsE "InvalidIndex"))
  · exact bIsE_ok (c.fact 233 (f := bIsE "NotPlan"))
  · exact bIsE_ok (c.fact 234 (f := bIsE "UnknownName"))
  · exact bIsE_ok (c.fact 235 (f := bIsE "OtherDays"))
  · exact bIsE_ok (c.fact 236 (f := bIsE "OutOfBounds"))
  · exact bIsE_ok (c.fact 237 (f := bIsE "InvalidDays"))
  · exact bIsE_ok (c.fact 238 (f := bIsE "InvalidRules"))
  · exact bIsE_ok (c.fact 239 (f := bIsE "InvalidChanges"))
  · exact bIsE_ok (c.fact 240 (f := bIsE "InvalidWishes"))
  · exact bIsE_ok (c.fact 241 (f := bIsE "InUse"))
  · exact bIsE_ok (c.fact 242 (f := bIsE "Broken"))
  · exact bIsE_ok (c.fact 243 (f := bIsE "NothingToUndo"))
def Ja9 (K : PySem.W.Frag) : List Addr := [He.ga K "InvalidName", He.ga K "InvalidMost", He.ga K "InvalidKind", He.ga K "InvalidNumber", He.ga K "InvalidRate", He.ga K "InvalidText", He.ga K "InvalidSheet", He.ga K "InvalidTotal", He.ga K "InvalidHours", He.ga K "InvalidWish", He.ga K "InvalidIndex", He.ga K "NotPlan", He.ga K "UnknownName", He.ga K "OtherDays", He.ga K "OutOfBounds"]
theorem Jsq (c : SaysF fa fn K) : ∀ C ∈ Ja9 K, XvF K "given" C := by
  intro C hC
  simp only [Ja9, List.mem_cons, List.mem_nil_iff, or_false] at hC
  rcases hC with rfl | rfl | rfl | rfl | rfl | rfl | rfl | rfl | rfl | rfl | rfl | rfl | rfl | rfl | rfl
  · exact ⟨(Jap (c.fact 290 (f := Ja8 "InvalidName" "given"))).2, (Jap (c.fact 290 (f := Ja8 "InvalidName" "given"))).1.no⟩
  · exact ⟨(Jap (c.fact 291 (f := Ja8 "InvalidMost" "given"))).2, (Jap (c.fact 291 (f := Ja8 "InvalidMost" "given"))).1.no⟩
  · exact ⟨(Jap (c.fact 292 (f := Ja8 "InvalidKind" "given"))).2, (Jap (c.fact 292 (f := Ja8 "InvalidKind" "given"))).1.no⟩
  · exact ⟨(Jap (c.fact 293 (f := Ja8 "InvalidNumber" "given"))).2, (Jap (c.fact 293 (f := Ja8 "InvalidNumber" "given"))).1.no⟩
  · exact ⟨(Jap (c.fact 294 (f := Ja8 "InvalidRate" "given"))).2, (Jap (c.fact 294 (f := Ja8 "InvalidRate" "given"))).1.no⟩
  · exact ⟨(Jap (c.fact 295 (f := Ja8 "InvalidText" "given"))).2, (Jap (c.fact 295 (f := Ja8 "InvalidText" "given"))).1.no⟩
  · exact ⟨(Jap (c.fact 296 (f := Ja8 "InvalidSheet" "given"))).2, (Jap (c.fact 296 (f := Ja8 "InvalidSheet" "given"))).1.no⟩
  · exact ⟨(Jap (c.fact 297 (f := Ja8 "InvalidTotal" "given"))).2, (Jap (c.fact 297 (f := Ja8 "InvalidTotal" "given"))).1.no⟩
  · exact ⟨(Jap (c.fact 298 (f := Ja8 "InvalidHours" "given"))).2, (Jap (c.fact 298 (f := Ja8 "InvalidHours" "given"))).1.no⟩
  · exact ⟨(Jap (c.fact 299 (f := Ja8 "InvalidWish" "given"))).2, (Jap (c.fact 299 (f := Ja8 "InvalidWish" "given"))).1.no⟩
  · exact ⟨(Jap (c.fact 300 (f := Ja8 "InvalidIndex" "given"))).2, (Jap (c.fact 300 (f := Ja8 "InvalidIndex" "given"))).1.no⟩
  · exact ⟨(Jap (c.fact 301 (f := Ja8 "NotPlan" "given"))).2, (Jap (c.fact 301 (f := Ja8 "NotPlan" "given"))).1.no⟩
  · exact ⟨(Jap (c.fact 302 (f := Ja8 "UnknownName" "given"))).2, (Jap (c.fact 302 (f := Ja8 "UnknownName" "given"))).1.no⟩
  · exact ⟨(Jap (c.fact 303 (f := Ja8 "OtherDays" "given"))).2, (Jap (c.fact 303 (f := Ja8 "OtherDays" "given"))).1.no⟩
  · exact ⟨(Jap (c.fact 304 (f := Ja8 "OutOfBounds" "given"))).2, (Jap (c.fact 304 (f := Ja8 "OutOfBounds" "given"))).1.no⟩
def Jbz (K : PySem.W.Frag) : List Addr := [He.ga K "InvalidDays", He.ga K "InvalidRules", He.ga K "InvalidChanges", He.ga K "InvalidWishes", He.ga K "InUse", He.ga K "Broken"]
theorem Jsr (c : SaysF fa fn K) : ∀ C ∈ Jbz K, XvF K "index" C := by
  intro C hC
  simp only [Jbz, List.mem_cons, List.mem_nil_iff, or_false] at hC
  rcases hC with rfl | rfl | rfl | rfl | rfl | rfl
  · exact ⟨(Jap (c.fact 305 (f := Ja8 "InvalidDays" "index"))).2, (Jap (c.fact 305 (f := Ja8 "InvalidDays" "index"))).1.no⟩
  · exact ⟨(Jap (c.fact 306 (f := Ja8 "InvalidRules" "index"))).2, (Jap (c.fact 306 (f := Ja8 "InvalidRules" "index"))).1.no⟩
  · exact ⟨(Jap (c.fact 307 (f := Ja8 "InvalidChanges" "index"))).2, (Jap (c.fact 307 (f := Ja8 "InvalidChanges" "index"))).1.no⟩
  · exact ⟨(Jap (c.fact 308 (f := Ja8 "InvalidWishes" "index"))).2, (Jap (c.fact 308 (f := Ja8 "InvalidWishes" "index"))).1.no⟩
  · exact ⟨(Jap (c.fact 309 (f := Ja8 "InUse" "index"))).2, (Jap (c.fact 309 (f := Ja8 "InUse" "index"))).1.no⟩
  · exact ⟨(Jap (c.fact 310 (f := Ja8 "Broken" "index"))).2, (Jap (c.fact 310 (f := Ja8 "Broken" "index"))).1.no⟩
def JaD : List (Str × Str × Bool) := [("InvalidName", "WrongValue", true), ("InvalidName", "InvalidName", true), ("InvalidName", "InvalidMost", false), ("InvalidName", "InvalidKind", false), ("InvalidName", "InvalidNumber", false), ("InvalidName", "InvalidRate", false), ("InvalidName", "InvalidText", false), ("InvalidName", "InvalidSheet", false), ("InvalidName", "InvalidTotal", false), ("InvalidName", "InvalidHours", false), ("InvalidName", "InvalidWish", false), ("InvalidName", "InvalidIndex", false), ("InvalidName", "NotPlan", false), ("InvalidName", "InvalidDays", false), ("InvalidName", "InvalidRules", false), ("InvalidName", "InvalidChanges", false), ("InvalidName", "InvalidWishes", false), ("InvalidName", "WrongName", false), ("InvalidName", "UnknownName", false), ("InvalidName", "InUse", false), ("InvalidName", "NotPossible", false), ("InvalidName", "OtherDays", false), ("InvalidName", "OutOfBounds", false), ("InvalidName", "NothingToUndo", false), ("InvalidName", "Broken", false)]
def JaE : Fc := Jbu [("InvalidName", "WrongValue", true), ("InvalidName", "InvalidName", true), ("InvalidName", "InvalidMost", false), ("InvalidName", "InvalidKind", false), ("InvalidName", "InvalidNumber", false), ("InvalidName", "InvalidRate", false), ("InvalidName", "InvalidText", false), ("InvalidName", "InvalidSheet", false), ("InvalidName", "InvalidTotal", false), ("InvalidName", "InvalidHours", false), ("InvalidName", "InvalidWish", false), ("InvalidName", "InvalidIndex", false), ("InvalidName", "NotPlan", false), ("InvalidName", "InvalidDays", false), ("InvalidName", "InvalidRules", false), ("InvalidName", "InvalidChanges", false), ("InvalidName", "InvalidWishes", false), ("InvalidName", "WrongName", false), ("InvalidName", "UnknownName", false), ("InvalidName", "InUse", false), ("InvalidName", "NotPossible", false), ("InvalidName", "OtherDays", false), ("InvalidName", "OutOfBounds", false), ("InvalidName", "NothingToUndo", false), ("InvalidName", "Broken", false)]
def Jju : List (Str × String × Bool) := [("InvalidName", "ValueError", true), ("InvalidName", "LookupError", false), ("InvalidName", "ArithmeticError", false)]
def Jjv : Fc := Jbv [("InvalidName", "ValueError", true), ("InvalidName", "LookupError", false), ("InvalidName", "ArithmeticError", false)]
def JaF : List (Str × Str × Bool) := [("InvalidMost", "WrongValue", true), ("InvalidMost", "InvalidName", false), ("InvalidMost", "InvalidMost", true), ("InvalidMost", "InvalidKind", false), ("InvalidMost", "InvalidNumber", false), ("InvalidMost", "InvalidRate", false), ("InvalidMost", "InvalidText", false), ("InvalidMost", "InvalidSheet", false), ("InvalidMost", "InvalidTotal", false), ("InvalidMost", "InvalidHours", false), ("InvalidMost", "InvalidWish", false), ("InvalidMost", "InvalidIndex", false), ("InvalidMost", "NotPlan", false), ("InvalidMost", "InvalidDays", false), ("InvalidMost", "InvalidRules", false), ("InvalidMost", "InvalidChanges", false), ("InvalidMost", "InvalidWishes", false), ("InvalidMost", "WrongName", false), ("InvalidMost", "UnknownName", false), ("InvalidMost", "InUse", false), ("InvalidMost", "NotPossible", false), ("InvalidMost", "OtherDays", false), ("InvalidMost", "OutOfBounds", false), ("InvalidMost", "NothingToUndo", false), ("InvalidMost", "Broken", false)]
def JaG : Fc := Jbu [("InvalidMost", "WrongValue", true), ("InvalidMost", "InvalidName", false), ("InvalidMost", "InvalidMost", true), ("InvalidMost", "InvalidKind", false), ("InvalidMost", "InvalidNumber", false), ("InvalidMost", "InvalidRate", false), ("InvalidMost", "InvalidText", false), ("InvalidMost", "InvalidSheet", false), ("InvalidMost", "InvalidTotal", false), ("InvalidMost", "InvalidHours", false), ("InvalidMost", "InvalidWish", false), ("InvalidMost", "InvalidIndex", false), ("InvalidMost", "NotPlan", false), ("InvalidMost", "InvalidDays", false), ("InvalidMost", "InvalidRules", false), ("InvalidMost", "InvalidChanges", false), ("InvalidMost", "InvalidWishes", false), ("InvalidMost", "WrongName", false), ("InvalidMost", "UnknownName", false), ("InvalidMost", "InUse", false), ("InvalidMost", "NotPossible", false), ("InvalidMost", "OtherDays", false), ("InvalidMost", "OutOfBounds", false), ("InvalidMost", "NothingToUndo", false), ("InvalidMost", "Broken", false)]
def Jjw : List (Str × String × Bool) := [("InvalidMost", "ValueError", true), ("InvalidMost", "LookupError", false), ("InvalidMost", "ArithmeticError", false)]
def Jjx : Fc := Jbv [("InvalidMost", "ValueError", true), ("InvalidMost", "LookupError", false), ("InvalidMost", "ArithmeticError", false)]
def JaH : List (Str × Str × Bool) := [("InvalidKind", "WrongValue", true), ("InvalidKind", "InvalidName", false), ("InvalidKind", "InvalidMost", false), ("InvalidKind", "InvalidKind", true), ("InvalidKind", "InvalidNumber", false), ("InvalidKind", "InvalidRate", false), ("InvalidKind", "InvalidText", false), ("InvalidKind", "InvalidSheet", false), ("InvalidKind", "InvalidTotal", false), ("InvalidKind", "InvalidHours", false), ("InvalidKind", "InvalidWish", false), ("InvalidKind", "InvalidIndex", false), ("InvalidKind", "NotPlan", false), ("InvalidKind", "InvalidDays", false), ("InvalidKind", "InvalidRules", false), ("InvalidKind", "InvalidChanges", false), ("InvalidKind", "InvalidWishes", false), ("InvalidKind", "WrongName", false), ("InvalidKind", "UnknownName", false), ("InvalidKind", "InUse", false), ("InvalidKind", "NotPossible", false), ("InvalidKind", "OtherDays", false), ("InvalidKind", "OutOfBounds", false), ("InvalidKind", "NothingToUndo", false), ("InvalidKind", "Broken", false)]
def JaI : Fc := Jbu [("InvalidKind", "WrongValue", true), ("InvalidKind", "InvalidName", false), ("InvalidKind", "InvalidMost", false), ("InvalidKind", "InvalidKind", true), ("InvalidKind", "InvalidNumber", false), ("InvalidKind", "InvalidRate", false), ("InvalidKind", "InvalidText", false), ("InvalidKind", "InvalidSheet", false), ("InvalidKind", "InvalidTotal", false), ("InvalidKind", "InvalidHours", false), ("InvalidKind", "InvalidWish", false), ("InvalidKind", "InvalidIndex", false), ("InvalidKind", "NotPlan", false), ("InvalidKind", "InvalidDays", false), ("InvalidKind", "InvalidRules", false), ("InvalidKind", "InvalidChanges", false), ("InvalidKind", "InvalidWishes", false), ("InvalidKind", "WrongName", false), ("InvalidKind", "UnknownName", false), ("InvalidKind", "InUse", false), ("InvalidKind", "NotPossible", false), ("InvalidKind", "OtherDays", false), ("InvalidKind", "OutOfBounds", false), ("InvalidKind", "NothingToUndo", false), ("InvalidKind", "Broken", false)]
def Jjy : List (Str × String × Bool) := [("InvalidKind", "ValueError", true), ("InvalidKind", "LookupError", false), ("InvalidKind", "ArithmeticError", false)]
def Jjz : Fc := Jbv [("InvalidKind", "ValueError", true), ("InvalidKind", "LookupError", false), ("InvalidKind", "ArithmeticError", false)]
def Jai : List (Str × Str × Bool) := [("InvalidNumber", "WrongValue", true), ("InvalidNumber", "InvalidName", false), ("InvalidNumber", "InvalidMost", false), ("InvalidNumber", "InvalidKind", false), ("InvalidNumber", "InvalidNumber", true), ("InvalidNumber", "InvalidRate", false), ("InvalidNumber", "InvalidText", false), ("InvalidNumber", "InvalidSheet", false), ("InvalidNumber", "InvalidTotal", false), ("InvalidNumber", "InvalidHours", false), ("InvalidNumber", "InvalidWish", false), ("InvalidNumber", "InvalidIndex", false), ("InvalidNumber", "NotPlan", false), ("InvalidNumber", "InvalidDays", false), ("InvalidNumber", "InvalidRules", false), ("InvalidNumber", "InvalidChanges", false), ("InvalidNumber", "InvalidWishes", false), ("InvalidNumber", "WrongName", false), ("InvalidNumber", "UnknownName", false), ("InvalidNumber", "InUse", false), ("InvalidNumber", "NotPossible", false), ("InvalidNumber", "OtherDays", false), ("InvalidNumber", "OutOfBounds", false), ("InvalidNumber", "NothingToUndo", false), ("InvalidNumber", "Broken", false)]
def Jaj : Fc := Jbu [("InvalidNumber", "WrongValue", true), ("InvalidNumber", "InvalidName", false), ("InvalidNumber", "InvalidMost", false), ("InvalidNumber", "InvalidKind", false), ("InvalidNumber", "InvalidNumber", true), ("InvalidNumber", "InvalidRate", false), ("InvalidNumber", "InvalidText", false), ("InvalidNumber", "InvalidSheet", false), ("InvalidNumber", "InvalidTotal", false), ("InvalidNumber", "InvalidHours", false), ("InvalidNumber", "InvalidWish", false), ("InvalidNumber", "InvalidIndex", false), ("InvalidNumber", "NotPlan", false), ("InvalidNumber", "InvalidDays", false), ("InvalidNumber", "InvalidRules", false), ("InvalidNumber", "InvalidChanges", false), ("InvalidNumber", "InvalidWishes", false), ("InvalidNumber", "WrongName", false), ("InvalidNumber", "UnknownName", false), ("InvalidNumber", "InUse", false), ("InvalidNumber", "NotPossible", false), ("InvalidNumber", "OtherDays", false), ("InvalidNumber", "OutOfBounds", false), ("InvalidNumber", "NothingToUndo", false), ("InvalidNumber", "Broken", false)]
def JcJ : List (Str × String × Bool) := [("InvalidNumber", "ValueError", true), ("InvalidNumber", "LookupError", false), ("InvalidNumber", "ArithmeticError", false)]
def JcK : Fc := Jbv [("InvalidNumber", "ValueError", true), ("InvalidNumber", "LookupError", false), ("InvalidNumber", "ArithmeticError", false)]
def JaJ : List (Str × Str × Bool) := [("InvalidRate", "WrongValue", true), ("InvalidRate", "InvalidName", false), ("InvalidRate", "InvalidMost", false), ("InvalidRate", "InvalidKind", false), ("InvalidRate", "InvalidNumber", false), ("InvalidRate", "InvalidRate", true), ("InvalidRate", "InvalidText", false), ("InvalidRate", "InvalidSheet", false), ("InvalidRate", "InvalidTotal", false), ("InvalidRate", "InvalidHours", false), ("InvalidRate", "InvalidWish", false), ("InvalidRate", "InvalidIndex", false), ("InvalidRate", "NotPlan", false), ("InvalidRate", "InvalidDays", false), ("InvalidRate", "InvalidRules", false), ("InvalidRate", "InvalidChanges", false), ("InvalidRate", "InvalidWishes", false), ("InvalidRate", "WrongName", false), ("InvalidRate", "UnknownName", false), ("InvalidRate", "InUse", false), ("InvalidRate", "NotPossible", false), ("InvalidRate", "OtherDays", false), ("InvalidRate", "OutOfBounds", false), ("InvalidRate", "NothingToUndo", false), ("InvalidRate", "Broken", false)]
def JaK : Fc := Jbu [("InvalidRate", "WrongValue", true), ("InvalidRate", "InvalidName", false), ("InvalidRate", "InvalidMost", false), ("InvalidRate", "InvalidKind", false), ("InvalidRate", "InvalidNumber", false), ("InvalidRate", "InvalidRate", true), ("InvalidRate", "InvalidText", false), ("InvalidRate", "InvalidSheet", false), ("InvalidRate", "InvalidTotal", false), ("InvalidRate", "InvalidHours", false), ("InvalidRate", "InvalidWish", false), ("InvalidRate", "InvalidIndex", false), ("InvalidRate", "NotPlan", false), ("InvalidRate", "InvalidDays", false), ("InvalidRate", "InvalidRules", false), ("InvalidRate", "InvalidChanges", false), ("InvalidRate", "InvalidWishes", false), ("InvalidRate", "WrongName", false), ("InvalidRate", "UnknownName", false), ("InvalidRate", "InUse", false), ("InvalidRate", "NotPossible", false), ("InvalidRate", "OtherDays", false), ("InvalidRate", "OutOfBounds", false), ("InvalidRate", "NothingToUndo", false), ("InvalidRate", "Broken", false)]
def JjA : List (Str × String × Bool) := [("InvalidRate", "ValueError", true), ("InvalidRate", "LookupError", false), ("InvalidRate", "ArithmeticError", false)]
def JjB : Fc := Jbv [("InvalidRate", "ValueError", true), ("InvalidRate", "LookupError", false), ("InvalidRate", "ArithmeticError", false)]
def JaL : List (Str × Str × Bool) := [("InvalidText", "WrongValue", true), ("InvalidText", "InvalidName", false), ("InvalidText", "InvalidMost", false), ("InvalidText", "InvalidKind", false), ("InvalidText", "InvalidNumber", false), ("InvalidText", "InvalidRate", false), ("InvalidText", "InvalidText", true), ("InvalidText", "InvalidSheet", false), ("InvalidText", "InvalidTotal", false), ("InvalidText", "InvalidHours", false), ("InvalidText", "InvalidWish", false), ("InvalidText", "InvalidIndex", false), ("InvalidText", "NotPlan", false), ("InvalidText", "InvalidDays", false), ("InvalidText", "InvalidRules", false), ("InvalidText", "InvalidChanges", false), ("InvalidText", "InvalidWishes", false), ("InvalidText", "WrongName", false), ("InvalidText", "UnknownName", false), ("InvalidText", "InUse", false), ("InvalidText", "NotPossible", false), ("InvalidText", "OtherDays", false), ("InvalidText", "OutOfBounds", false), ("InvalidText", "NothingToUndo", false), ("InvalidText", "Broken", false)]
def JaM : Fc := Jbu [("InvalidText", "WrongValue", true), ("InvalidText", "InvalidName", false), ("InvalidText", "InvalidMost", false), ("InvalidText", "InvalidKind", false), ("InvalidText", "InvalidNumber", false), ("InvalidText", "InvalidRate", false), ("InvalidText", "InvalidText", true), ("InvalidText", "InvalidSheet", false), ("InvalidText", "InvalidTotal", false), ("InvalidText", "InvalidHours", false), ("InvalidText", "InvalidWish", false), ("InvalidText", "InvalidIndex", false), ("InvalidText", "NotPlan", false), ("InvalidText", "InvalidDays", false), ("InvalidText", "InvalidRules", false), ("InvalidText", "InvalidChanges", false), ("InvalidText", "InvalidWishes", false), ("InvalidText", "WrongName", false), ("InvalidText", "UnknownName", false), ("InvalidText", "InUse", false), ("InvalidText", "NotPossible", false), ("InvalidText", "OtherDays", false), ("InvalidText", "OutOfBounds", false), ("InvalidText", "NothingToUndo", false), ("InvalidText", "Broken", false)]
def JjC : List (Str × String × Bool) := [("InvalidText", "ValueError", true), ("InvalidText", "LookupError", false), ("InvalidText", "ArithmeticError", false)]
def JjD : Fc := Jbv [("InvalidText", "ValueError", true), ("InvalidText", "LookupError", false), ("InvalidText", "ArithmeticError", false)]
def Jaq : List (Str × Str × Bool) := [("InvalidSheet", "WrongValue", true), ("InvalidSheet", "InvalidName", false), ("InvalidSheet", "InvalidMost", false), ("InvalidSheet", "InvalidKind", false), ("InvalidSheet", "InvalidNumber", false), ("InvalidSheet", "InvalidRate", false), ("InvalidSheet", "InvalidText", false), ("InvalidSheet", "InvalidSheet", true), ("InvalidSheet", "InvalidTotal", false), ("InvalidSheet", "InvalidHours", false), ("InvalidSheet", "InvalidWish", false), ("InvalidSheet", "InvalidIndex", false), ("InvalidSheet", "NotPlan", false), ("InvalidSheet", "InvalidDays", false), ("InvalidSheet", "InvalidRules", false), ("InvalidSheet", "InvalidChanges", false), ("InvalidSheet", "InvalidWishes", false), ("InvalidSheet", "WrongName", false), ("InvalidSheet", "UnknownName", false), ("InvalidSheet", "InUse", false), ("InvalidSheet", "NotPossible", false), ("InvalidSheet", "OtherDays", false), ("InvalidSheet", "OutOfBounds", false), ("InvalidSheet", "NothingToUndo", false), ("InvalidSheet", "Broken", false)]
def Jar : Fc := Jbu [("InvalidSheet", "WrongValue", true), ("InvalidSheet", "InvalidName", false), ("InvalidSheet", "InvalidMost", false), ("InvalidSheet", "InvalidKind", false), ("InvalidSheet", "InvalidNumber", false), ("InvalidSheet", "InvalidRate", false), ("InvalidSheet", "InvalidText", false), ("InvalidSheet", "InvalidSheet", true), ("InvalidSheet", "InvalidTotal", false), ("InvalidSheet", "InvalidHours", false), ("InvalidSheet", "InvalidWish", false), ("InvalidSheet", "InvalidIndex", false), ("InvalidSheet", "NotPlan", false), ("InvalidSheet", "InvalidDays", false), ("InvalidSheet", "InvalidRules", false), ("InvalidSheet", "InvalidChanges", false), ("InvalidSheet", "InvalidWishes", false), ("InvalidSheet", "WrongName", false), ("InvalidSheet", "UnknownName", false), ("InvalidSheet", "InUse", false), ("InvalidSheet", "NotPossible", false), ("InvalidSheet", "OtherDays", false), ("InvalidSheet", "OutOfBounds", false), ("InvalidSheet", "NothingToUndo", false), ("InvalidSheet", "Broken", false)]
def Jfo : List (Str × String × Bool) := [("InvalidSheet", "ValueError", true), ("InvalidSheet", "LookupError", false), ("InvalidSheet", "ArithmeticError", false)]
def Jfp : Fc := Jbv [("InvalidSheet", "ValueError", true), ("InvalidSheet", "LookupError", false), ("InvalidSheet", "ArithmeticError", false)]
def Jas : List (Str × Str × Bool) := [("InvalidTotal", "WrongValue", true), ("InvalidTotal", "InvalidName", false), ("InvalidTotal", "InvalidMost", false), ("InvalidTotal", "InvalidKind", false), ("InvalidTotal", "InvalidNumber", false), ("InvalidTotal", "InvalidRate", false), ("InvalidTotal", "InvalidText", false), ("InvalidTotal", "InvalidSheet", false), ("InvalidTotal", "InvalidTotal", true), ("InvalidTotal", "InvalidHours", false), ("InvalidTotal", "InvalidWish", false), ("InvalidTotal", "InvalidIndex", false), ("InvalidTotal", "NotPlan", false), ("InvalidTotal", "InvalidDays", false), ("InvalidTotal", "InvalidRules", false), ("InvalidTotal", "InvalidChanges", false), ("InvalidTotal", "InvalidWishes", false), ("InvalidTotal", "WrongName", false), ("InvalidTotal", "UnknownName", false), ("InvalidTotal", "InUse", false), ("InvalidTotal", "NotPossible", false), ("InvalidTotal", "OtherDays", false), ("InvalidTotal", "OutOfBounds", false), ("InvalidTotal", "NothingToUndo", false), ("InvalidTotal", "Broken", false)]
def Jat : Fc := Jbu [("InvalidTotal", "WrongValue", true), ("InvalidTotal", "InvalidName", false), ("InvalidTotal", "InvalidMost", false), ("InvalidTotal", "InvalidKind", false), ("InvalidTotal", "InvalidNumber", false), ("InvalidTotal", "InvalidRate", false), ("InvalidTotal", "InvalidText", false), ("InvalidTotal", "InvalidSheet", false), ("InvalidTotal", "InvalidTotal", true), ("InvalidTotal", "InvalidHours", false), ("InvalidTotal", "InvalidWish", false), ("InvalidTotal", "InvalidIndex", false), ("InvalidTotal", "NotPlan", false), ("InvalidTotal", "InvalidDays", false), ("InvalidTotal", "InvalidRules", false), ("InvalidTotal", "InvalidChanges", false), ("InvalidTotal", "InvalidWishes", false), ("InvalidTotal", "WrongName", false), ("InvalidTotal", "UnknownName", false), ("InvalidTotal", "InUse", false), ("InvalidTotal", "NotPossible", false), ("InvalidTotal", "OtherDays", false), ("InvalidTotal", "OutOfBounds", false), ("InvalidTotal", "NothingToUndo", false), ("InvalidTotal", "Broken", false)]
def Jfq : List (Str × String × Bool) := [("InvalidTotal", "ValueError", true), ("InvalidTotal", "LookupError", false), ("InvalidTotal", "ArithmeticError", false)]
def Jfr : Fc := Jbv [("InvalidTotal", "ValueError", true), ("InvalidTotal", "LookupError", false), ("InvalidTotal", "ArithmeticError", false)]
def Jau : List (Str × Str × Bool) := [("InvalidHours", "WrongValue", true), ("InvalidHours", "InvalidName", false), ("InvalidHours", "InvalidMost", false), ("InvalidHours", "InvalidKind", false), ("InvalidHours", "InvalidNumber", false), ("InvalidHours", "InvalidRate", false), ("InvalidHours", "InvalidText", false), ("InvalidHours", "InvalidSheet", false), ("InvalidHours", "InvalidTotal", false), ("InvalidHours", "InvalidHours", true), ("InvalidHours", "InvalidWish", false), ("InvalidHours", "InvalidIndex", false), ("InvalidHours", "NotPlan", false), ("InvalidHours", "InvalidDays", false), ("InvalidHours", "InvalidRules", false), ("InvalidHours", "InvalidChanges", false), ("InvalidHours", "InvalidWishes", false), ("InvalidHours", "WrongName", false), ("InvalidHours", "UnknownName", false), ("InvalidHours", "InUse", false), ("InvalidHours", "NotPossible", false), ("InvalidHours", "OtherDays", false), ("InvalidHours", "OutOfBounds", false), ("InvalidHours", "NothingToUndo", false), ("InvalidHours", "Broken", false)]
def Jav : Fc := Jbu [("InvalidHours", "WrongValue", true), ("InvalidHours", "InvalidName", false), ("InvalidHours", "InvalidMost", false), ("InvalidHours", "InvalidKind", false), ("InvalidHours", "InvalidNumber", false), ("InvalidHours", "InvalidRate", false), ("InvalidHours", "InvalidText", false), ("InvalidHours", "InvalidSheet", false), ("InvalidHours", "InvalidTotal", false), ("InvalidHours", "InvalidHours", true), ("InvalidHours", "InvalidWish", false), ("InvalidHours", "InvalidIndex", false), ("InvalidHours", "NotPlan", false), ("InvalidHours", "InvalidDays", false), ("InvalidHours", "InvalidRules", false), ("InvalidHours", "InvalidChanges", false), ("InvalidHours", "InvalidWishes", false), ("InvalidHours", "WrongName", false), ("InvalidHours", "UnknownName", false), ("InvalidHours", "InUse", false), ("InvalidHours", "NotPossible", false), ("InvalidHours", "OtherDays", false), ("InvalidHours", "OutOfBounds", false), ("InvalidHours", "NothingToUndo", false), ("InvalidHours", "Broken", false)]
def Jfs : List (Str × String × Bool) := [("InvalidHours", "ValueError", true), ("InvalidHours", "LookupError", false), ("InvalidHours", "ArithmeticError", false)]
def Jft : Fc := Jbv [("InvalidHours", "ValueError", true), ("InvalidHours", "LookupError", false), ("InvalidHours", "ArithmeticError", false)]
def JaN : List (Str × Str × Bool) := [("InvalidWish", "WrongValue", true), ("InvalidWish", "InvalidName", false), ("InvalidWish", "InvalidMost", false), ("InvalidWish", "InvalidKind", false), ("InvalidWish", "InvalidNumber", false), ("InvalidWish", "InvalidRate", false), ("InvalidWish", "InvalidText", false), ("InvalidWish", "InvalidSheet", false), ("InvalidWish", "InvalidTotal", false), ("InvalidWish", "InvalidHours", false), ("InvalidWish", "InvalidWish", true), ("InvalidWish", "InvalidIndex", false), ("InvalidWish", "NotPlan", false), ("InvalidWish", "InvalidDays", false), ("InvalidWish", "InvalidRules", false), ("InvalidWish", "InvalidChanges", false), ("InvalidWish", "InvalidWishes", false), ("InvalidWish", "WrongName", false), ("InvalidWish", "UnknownName", false), ("InvalidWish", "InUse", false), ("InvalidWish", "NotPossible", false), ("InvalidWish", "OtherDays", false), ("InvalidWish", "OutOfBounds", false), ("InvalidWish", "NothingToUndo", false), ("InvalidWish", "Broken", false)]
def JaO : Fc := Jbu [("InvalidWish", "WrongValue", true), ("InvalidWish", "InvalidName", false), ("InvalidWish", "InvalidMost", false), ("InvalidWish", "InvalidKind", false), ("InvalidWish", "InvalidNumber", false), ("InvalidWish", "InvalidRate", false), ("InvalidWish", "InvalidText", false), ("InvalidWish", "InvalidSheet", false), ("InvalidWish", "InvalidTotal", false), ("InvalidWish", "InvalidHours", false), ("InvalidWish", "InvalidWish", true), ("InvalidWish", "InvalidIndex", false), ("InvalidWish", "NotPlan", false), ("InvalidWish", "InvalidDays", false), ("InvalidWish", "InvalidRules", false), ("InvalidWish", "InvalidChanges", false), ("InvalidWish", "InvalidWishes", false), ("InvalidWish", "WrongName", false), ("InvalidWish", "UnknownName", false), ("InvalidWish", "InUse", false), ("InvalidWish", "NotPossible", false), ("InvalidWish", "OtherDays", false), ("InvalidWish", "OutOfBounds", false), ("InvalidWish", "NothingToUndo", false), ("InvalidWish", "Broken", false)]
def JjE : List (Str × String × Bool) := [("InvalidWish", "ValueError", true), ("InvalidWish", "LookupError", false), ("InvalidWish", "ArithmeticError", false)]
def JjF : Fc := Jbv [("InvalidWish", "ValueError", true), ("InvalidWish", "LookupError", false), ("InvalidWish", "ArithmeticError", false)]
def Jaw : List (Str × Str × Bool) := [("InvalidIndex", "WrongValue", true), ("InvalidIndex", "InvalidName", false), ("InvalidIndex", "InvalidMost", false), ("InvalidIndex", "InvalidKind", false), ("InvalidIndex", "InvalidNumber", false), ("InvalidIndex", "InvalidRate", false), ("InvalidIndex", "InvalidText", false), ("InvalidIndex", "InvalidSheet", false), ("InvalidIndex", "InvalidTotal", false), ("InvalidIndex", "InvalidHours", false), ("InvalidIndex", "InvalidWish", false), ("InvalidIndex", "InvalidIndex", true), ("InvalidIndex", "NotPlan", false), ("InvalidIndex", "InvalidDays", false), ("InvalidIndex", "InvalidRules", false), ("InvalidIndex", "InvalidChanges", false), ("InvalidIndex", "InvalidWishes", false), ("InvalidIndex", "WrongName", false), ("InvalidIndex", "UnknownName", false), ("InvalidIndex", "InUse", false), ("InvalidIndex", "NotPossible", false), ("InvalidIndex", "OtherDays", false), ("InvalidIndex", "OutOfBounds", false), ("InvalidIndex", "NothingToUndo", false), ("InvalidIndex", "Broken", false)]
def Jax : Fc := Jbu [("InvalidIndex", "WrongValue", true), ("InvalidIndex", "InvalidName", false), ("InvalidIndex", "InvalidMost", false), ("InvalidIndex", "InvalidKind", false), ("InvalidIndex", "InvalidNumber", false), ("InvalidIndex", "InvalidRate", false), ("InvalidIndex", "InvalidText", false), ("InvalidIndex", "InvalidSheet", false), ("InvalidIndex", "InvalidTotal", false), ("InvalidIndex", "InvalidHours", false), ("InvalidIndex", "InvalidWish", false), ("InvalidIndex", "InvalidIndex", true), ("InvalidIndex", "NotPlan", false), ("InvalidIndex", "InvalidDays", false), ("InvalidIndex", "InvalidRules", false), ("InvalidIndex", "InvalidChanges", false), ("InvalidIndex", "InvalidWishes", false), ("InvalidIndex", "WrongName", false), ("InvalidIndex", "UnknownName", false), ("InvalidIndex", "InUse", false), ("InvalidIndex", "NotPossible", false), ("InvalidIndex", "OtherDays", false), ("InvalidIndex", "OutOfBounds", false), ("InvalidIndex", "NothingToUndo", false), ("InvalidIndex", "Broken", false)]
def Jfu : List (Str × String × Bool) := [("InvalidIndex", "ValueError", true), ("InvalidIndex", "LookupError", false), ("InvalidIndex", "ArithmeticError", false)]
def Jfv : Fc := Jbv [("InvalidIndex", "ValueError", true), ("InvalidIndex", "LookupError", false), ("InvalidIndex", "ArithmeticError", false)]
def Ja6 : List (Str × Str × Bool) := [("NotPlan", "WrongValue", true), ("NotPlan", "InvalidName", false), ("NotPlan", "InvalidMost", false), ("NotPlan", "InvalidKind", false), ("NotPlan", "InvalidNumber", false), ("NotPlan", "InvalidRate", false), ("NotPlan", "InvalidText", false), ("NotPlan", "InvalidSheet", false), ("NotPlan", "InvalidTotal", false), ("NotPlan", "InvalidHours", false), ("NotPlan", "InvalidWish", false), ("NotPlan", "InvalidIndex", false), ("NotPlan", "NotPlan", true), ("NotPlan", "InvalidDays", false), ("NotPlan", "InvalidRules", false), ("NotPlan", "InvalidChanges", false), ("NotPlan", "InvalidWishes", false), ("NotPlan", "WrongName", false), ("NotPlan", "UnknownName", false), ("NotPlan", "InUse", false), ("NotPlan", "NotPossible", false), ("NotPlan", "OtherDays", false), ("NotPlan", "OutOfBounds", false), ("NotPlan", "NothingToUndo", false), ("NotPlan", "Broken", false)]
def Ja7 : Fc := Jbu [("NotPlan", "WrongValue", true), ("NotPlan", "InvalidName", false), ("NotPlan", "InvalidMost", false), ("NotPlan", "InvalidKind", false), ("NotPlan", "InvalidNumber", false), ("NotPlan", "InvalidRate", false), ("NotPlan", "InvalidText", false), ("NotPlan", "InvalidSheet", false), ("NotPlan", "InvalidTotal", false), ("NotPlan", "InvalidHours", false), ("NotPlan", "InvalidWish", false), ("NotPlan", "InvalidIndex", false), ("NotPlan", "NotPlan", true), ("NotPlan", "InvalidDays", false), ("NotPlan", "InvalidRules", false), ("NotPlan", "InvalidChanges", false), ("NotPlan", "InvalidWishes", false), ("NotPlan", "WrongName", false), ("NotPlan", "UnknownName", false), ("NotPlan", "InUse", false), ("NotPlan", "NotPossible", false), ("NotPlan", "OtherDays", false), ("NotPlan", "OutOfBounds", false), ("NotPlan", "NothingToUndo", false), ("NotPlan", "Broken", false)]
def JnR : List (Str × String × Bool) := [("NotPlan", "ValueError", true), ("NotPlan", "LookupError", false), ("NotPlan", "ArithmeticError", false)]
def JnS : Fc := Jbv [("NotPlan", "ValueError", true), ("NotPlan", "LookupError", false), ("NotPlan", "ArithmeticError", false)]
def JaP : List (Str × Str × Bool) := [("UnknownName", "WrongValue", false), ("UnknownName", "InvalidName", false), ("UnknownName", "InvalidMost", false), ("UnknownName", "InvalidKind", false), ("UnknownName", "InvalidNumber", false), ("UnknownName", "InvalidRate", false), ("UnknownName", "InvalidText", false), ("UnknownName", "InvalidSheet", false), ("UnknownName", "InvalidTotal", false), ("UnknownName", "InvalidHours", false), ("UnknownName", "InvalidWish", false), ("UnknownName", "InvalidIndex", false), ("UnknownName", "NotPlan", false), ("UnknownName", "InvalidDays", false), ("UnknownName", "InvalidRules", false), ("UnknownName", "InvalidChanges", false), ("UnknownName", "InvalidWishes", false), ("UnknownName", "WrongName", true), ("UnknownName", "UnknownName", true), ("UnknownName", "InUse", false), ("UnknownName", "NotPossible", false), ("UnknownName", "OtherDays", false), ("UnknownName", "OutOfBounds", false), ("UnknownName", "NothingToUndo", false), ("UnknownName", "Broken", false)]
def JaQ : Fc := Jbu [("UnknownName", "WrongValue", false), ("UnknownName", "InvalidName", false), ("UnknownName", "InvalidMost", false), ("UnknownName", "InvalidKind", false), ("UnknownName", "InvalidNumber", false), ("UnknownName", "InvalidRate", false), ("UnknownName", "InvalidText", false), ("UnknownName", "InvalidSheet", false), ("UnknownName", "InvalidTotal", false), ("UnknownName", "InvalidHours", false), ("UnknownName", "InvalidWish", false), ("UnknownName", "InvalidIndex", false), ("UnknownName", "NotPlan", false), ("UnknownName", "InvalidDays", false), ("UnknownName", "InvalidRules", false), ("UnknownName", "InvalidChanges", false), ("UnknownName", "InvalidWishes", false), ("UnknownName", "WrongName", true), ("UnknownName", "UnknownName", true), ("UnknownName", "InUse", false), ("UnknownName", "NotPossible", false), ("UnknownName", "OtherDays", false), ("UnknownName", "OutOfBounds", false), ("UnknownName", "NothingToUndo", false), ("UnknownName", "Broken", false)]
def JjG : List (Str × String × Bool) := [("UnknownName", "ValueError", false), ("UnknownName", "LookupError", true), ("UnknownName", "ArithmeticError", false)]
def JjH : Fc := Jbv [("UnknownName", "ValueError", false), ("UnknownName", "LookupError", true), ("UnknownName", "ArithmeticError", false)]
def JaZ : List (Str × Str × Bool) := [("OtherDays", "WrongValue", false), ("OtherDays", "InvalidName", false), ("OtherDays", "InvalidMost", false), ("OtherDays", "InvalidKind", false), ("OtherDays", "InvalidNumber", false), ("OtherDays", "InvalidRate", false), ("OtherDays", "InvalidText", false), ("OtherDays", "InvalidSheet", false), ("OtherDays", "InvalidTotal", false), ("OtherDays", "InvalidHours", false), ("OtherDays", "InvalidWish", false), ("OtherDays", "InvalidIndex", false), ("OtherDays", "NotPlan", false), ("OtherDays", "InvalidDays", false), ("OtherDays", "InvalidRules", false), ("OtherDays", "InvalidChanges", false), ("OtherDays", "InvalidWishes", false), ("OtherDays", "WrongName", false), ("OtherDays", "UnknownName", false), ("OtherDays", "InUse", false), ("OtherDays", "NotPossible", true), ("OtherDays", "OtherDays", true), ("OtherDays", "OutOfBounds", false), ("OtherDays", "NothingToUndo", false), ("OtherDays", "Broken", false)]
def Ja0 : Fc := Jbu [("OtherDays", "WrongValue", false), ("OtherDays", "InvalidName", false), ("OtherDays", "InvalidMost", false), ("OtherDays", "InvalidKind", false), ("OtherDays", "InvalidNumber", false), ("OtherDays", "InvalidRate", false), ("OtherDays", "InvalidText", false), ("OtherDays", "InvalidSheet", false), ("OtherDays", "InvalidTotal", false), ("OtherDays", "InvalidHours", false), ("OtherDays", "InvalidWish", false), ("OtherDays", "InvalidIndex", false), ("OtherDays", "NotPlan", false), ("OtherDays", "InvalidDays", false), ("OtherDays", "InvalidRules", false), ("OtherDays", "InvalidChanges", false), ("OtherDays", "InvalidWishes", false), ("OtherDays", "WrongName", false), ("OtherDays", "UnknownName", false), ("OtherDays", "InUse", false), ("OtherDays", "NotPossible", true), ("OtherDays", "OtherDays", true), ("OtherDays", "OutOfBounds", false), ("OtherDays", "NothingToUndo", false), ("OtherDays", "Broken", false)]
def Jl2 : List (Str × String × Bool) := [("OtherDays", "ValueError", false), ("OtherDays", "LookupError", false), ("OtherDays", "ArithmeticError", true)]
def Jl3 : Fc := Jbv [("OtherDays", "ValueError", false), ("OtherDays", "LookupError", false), ("OtherDays", "ArithmeticError", true)]
def JaR : List (Str × Str × Bool) := [("OutOfBounds", "WrongValue", false), ("OutOfBounds", "InvalidName", false), ("OutOfBounds", "InvalidMost", false), ("OutOfBounds", "InvalidKind", false), ("OutOfBounds", "InvalidNumber", false), ("OutOfBounds", "InvalidRate", false), ("OutOfBounds", "InvalidText", false), ("OutOfBounds", "InvalidSheet", false), ("OutOfBounds", "InvalidTotal", false), ("OutOfBounds", "InvalidHours", false), ("OutOfBounds", "InvalidWish", false), ("OutOfBounds", "InvalidIndex", false), ("OutOfBounds", "NotPlan", false), ("OutOfBounds", "InvalidDays", false), ("OutOfBounds", "InvalidRules", false), ("OutOfBounds", "InvalidChanges", false), ("OutOfBounds", "InvalidWishes", false), ("OutOfBounds", "WrongName", false), ("OutOfBounds", "UnknownName", false), ("OutOfBounds", "InUse", false), ("OutOfBounds", "NotPossible", true), ("OutOfBounds", "OtherDays", false), ("OutOfBounds", "OutOfBounds", true), ("OutOfBounds", "NothingToUndo", false), ("OutOfBounds", "Broken", false)]
def JaS : Fc := Jbu [("OutOfBounds", "WrongValue", false), ("OutOfBounds", "InvalidName", false), ("OutOfBounds", "InvalidMost", false), ("OutOfBounds", "InvalidKind", false), ("OutOfBounds", "InvalidNumber", false), ("OutOfBounds", "InvalidRate", false), ("OutOfBounds", "InvalidText", false), ("OutOfBounds", "InvalidSheet", false), ("OutOfBounds", "InvalidTotal", false), ("OutOfBounds", "InvalidHours", false), ("OutOfBounds", "InvalidWish", false), ("OutOfBounds", "InvalidIndex", false), ("OutOfBounds", "NotPlan", false), ("OutOfBounds", "InvalidDays", false), ("OutOfBounds", "InvalidRules", false), ("OutOfBounds", "InvalidChanges", false), ("OutOfBounds", "InvalidWishes", false), ("OutOfBounds", "WrongName", false), ("OutOfBounds", "UnknownName", false), ("OutOfBounds", "InUse", false), ("OutOfBounds", "NotPossible", true), ("OutOfBounds", "OtherDays", false), ("OutOfBounds", "OutOfBounds", true), ("OutOfBounds", "NothingToUndo", false), ("OutOfBounds", "Broken", false)]
def JjI : List (Str × String × Bool) := [("OutOfBounds", "ValueError", false), ("OutOfBounds", "LookupError", false), ("OutOfBounds", "ArithmeticError", true)]
def JjJ : Fc := Jbv [("OutOfBounds", "ValueError", false), ("OutOfBounds", "LookupError", false), ("OutOfBounds", "ArithmeticError", true)]
def JaT : List (Str × Str × Bool) := [("InvalidDays", "WrongValue", true), ("InvalidDays", "InvalidName", false), ("InvalidDays", "InvalidMost", false), ("InvalidDays", "InvalidKind", false), ("InvalidDays", "InvalidNumber", false), ("InvalidDays", "InvalidRate", false), ("InvalidDays", "InvalidText", false), ("InvalidDays", "InvalidSheet", false), ("InvalidDays", "InvalidTotal", false), ("InvalidDays", "InvalidHours", false), ("InvalidDays", "InvalidWish", false), ("InvalidDays", "InvalidIndex", false), ("InvalidDays", "NotPlan", false), ("InvalidDays", "InvalidDays", true), ("InvalidDays", "InvalidRules", false), ("InvalidDays", "InvalidChanges", false), ("InvalidDays", "InvalidWishes", false), ("InvalidDays", "WrongName", false), ("InvalidDays", "UnknownName", false), ("InvalidDays", "InUse", false), ("InvalidDays", "NotPossible", false), ("InvalidDays", "OtherDays", false), ("InvalidDays", "OutOfBounds", false), ("InvalidDays", "NothingToUndo", false), ("InvalidDays", "Broken", false)]
def JaU : Fc := Jbu [("InvalidDays", "WrongValue", true), ("InvalidDays", "InvalidName", false), ("InvalidDays", "InvalidMost", false), ("InvalidDays", "InvalidKind", false), ("InvalidDays", "InvalidNumber", false), ("InvalidDays", "InvalidRate", false), ("InvalidDays", "InvalidText", false), ("InvalidDays", "InvalidSheet", false), ("InvalidDays", "InvalidTotal", false), ("InvalidDays", "InvalidHours", false), ("InvalidDays", "InvalidWish", false), ("InvalidDays", "InvalidIndex", false), ("InvalidDays", "NotPlan", false), ("InvalidDays", "InvalidDays", true), ("InvalidDays", "InvalidRules", false), ("InvalidDays", "InvalidChanges", false), ("InvalidDays", "InvalidWishes", false), ("InvalidDays", "WrongName", false), ("InvalidDays", "UnknownName", false), ("InvalidDays", "InUse", false), ("InvalidDays", "NotPossible", false), ("InvalidDays", "OtherDays", false), ("InvalidDays", "OutOfBounds", false), ("InvalidDays", "NothingToUndo", false), ("InvalidDays", "Broken", false)]
def JjK : List (Str × String × Bool) := [("InvalidDays", "ValueError", true), ("InvalidDays", "LookupError", false), ("InvalidDays", "ArithmeticError", false)]
def JjL : Fc := Jbv [("InvalidDays", "ValueError", true), ("InvalidDays", "LookupError", false), ("InvalidDays", "ArithmeticError", false)]
def Jay : List (Str × Str × Bool) := [("InvalidRules", "WrongValue", true), ("InvalidRules", "InvalidName", false), ("InvalidRules", "InvalidMost", false), ("InvalidRules", "InvalidKind", false), ("InvalidRules", "InvalidNumber", false), ("InvalidRules", "InvalidRate", false), ("InvalidRules", "InvalidText", false), ("InvalidRules", "InvalidSheet", false), ("InvalidRules", "InvalidTotal", false), ("InvalidRules", "InvalidHours", false), ("InvalidRules", "InvalidWish", false), ("InvalidRules", "InvalidIndex", false), ("InvalidRules", "NotPlan", false), ("InvalidRules", "InvalidDays", false), ("InvalidRules", "InvalidRules", true), ("InvalidRules", "InvalidChanges", false), ("InvalidRules", "InvalidWishes", false), ("InvalidRules", "WrongName", false), ("InvalidRules", "UnknownName", false), ("InvalidRules", "InUse", false), ("InvalidRules", "NotPossible", false), ("InvalidRules", "OtherDays", false), ("InvalidRules", "OutOfBounds", false), ("InvalidRules", "NothingToUndo", false), ("InvalidRules", "Broken", false)]
def Jaz : Fc := Jbu [("InvalidRules", "WrongValue", true), ("InvalidRules", "InvalidName", false), ("InvalidRules", "InvalidMost", false), ("InvalidRules", "InvalidKind", false), ("InvalidRules", "InvalidNumber", false), ("InvalidRules", "InvalidRate", false), ("InvalidRules", "InvalidText", false), ("InvalidRules", "InvalidSheet", false), ("InvalidRules", "InvalidTotal", false), ("InvalidRules", "InvalidHours", false), ("InvalidRules", "InvalidWish", false), ("InvalidRules", "InvalidIndex", false), ("InvalidRules", "NotPlan", false), ("InvalidRules", "InvalidDays", false), ("InvalidRules", "InvalidRules", true), ("InvalidRules", "InvalidChanges", false), ("InvalidRules", "InvalidWishes", false), ("InvalidRules", "WrongName", false), ("InvalidRules", "UnknownName", false), ("InvalidRules", "InUse", false), ("InvalidRules", "NotPossible", false), ("InvalidRules", "OtherDays", false), ("InvalidRules", "OutOfBounds", false), ("InvalidRules", "NothingToUndo", false), ("InvalidRules", "Broken", false)]
def Jfw : List (Str × String × Bool) := [("InvalidRules", "ValueError", true), ("InvalidRules", "LookupError", false), ("InvalidRules", "ArithmeticError", false)]
def Jfx : Fc := Jbv [("InvalidRules", "ValueError", true), ("InvalidRules", "LookupError", false), ("InvalidRules", "ArithmeticError", false)]
def Jaf : List (Str × Str × Bool) := [("InvalidChanges", "WrongValue", true), ("InvalidChanges", "InvalidName", false), ("InvalidChanges", "InvalidMost", false), ("InvalidChanges", "InvalidKind", false), ("InvalidChanges", "InvalidNumber", false), ("InvalidChanges", "InvalidRate", false), ("InvalidChanges", "InvalidText", false), ("InvalidChanges", "InvalidSheet", false), ("InvalidChanges", "InvalidTotal", false), ("InvalidChanges", "InvalidHours", false), ("InvalidChanges", "InvalidWish", false), ("InvalidChanges", "InvalidIndex", false), ("InvalidChanges", "NotPlan", false), ("InvalidChanges", "InvalidDays", false), ("InvalidChanges", "InvalidRules", false), ("InvalidChanges", "InvalidChanges", true), ("InvalidChanges", "InvalidWishes", false), ("InvalidChanges", "WrongName", false), ("InvalidChanges", "UnknownName", false), ("InvalidChanges", "InUse", false), ("InvalidChanges", "NotPossible", false), ("InvalidChanges", "OtherDays", false), ("InvalidChanges", "OutOfBounds", false), ("InvalidChanges", "NothingToUndo", false), ("InvalidChanges", "Broken", false)]
def Jag : Fc := Jbu [("InvalidChanges", "WrongValue", true), ("InvalidChanges", "InvalidName", false), ("InvalidChanges", "InvalidMost", false), ("InvalidChanges", "InvalidKind", false), ("InvalidChanges", "InvalidNumber", false), ("InvalidChanges", "InvalidRate", false), ("InvalidChanges", "InvalidText", false), ("InvalidChanges", "InvalidSheet", false), ("InvalidChanges", "InvalidTotal", false), ("InvalidChanges", "InvalidHours", false), ("InvalidChanges", "InvalidWish", false), ("InvalidChanges", "InvalidIndex", false), ("InvalidChanges", "NotPlan", false), ("InvalidChanges", "InvalidDays", false), ("InvalidChanges", "InvalidRules", false), ("InvalidChanges", "InvalidChanges", true), ("InvalidChanges", "InvalidWishes", false), ("InvalidChanges", "WrongName", false), ("InvalidChanges", "UnknownName", false), ("InvalidChanges", "InUse", false), ("InvalidChanges", "NotPossible", false), ("InvalidChanges", "OtherDays", false), ("InvalidChanges", "OutOfBounds", false), ("InvalidChanges", "NothingToUndo", false), ("InvalidChanges", "Broken", false)]
def JbR : List (Str × String × Bool) := [("InvalidChanges", "ValueError", true), ("InvalidChanges", "LookupError", false), ("InvalidChanges", "ArithmeticError", false)]
def JbS : Fc := Jbv [("InvalidChanges", "ValueError", true), ("InvalidChanges", "LookupError", false), ("InvalidChanges", "ArithmeticError", false)]
def Jak : List (Str × Str × Bool) := [("InvalidWishes", "WrongValue", true), ("InvalidWishes", "InvalidName", false), ("InvalidWishes", "InvalidMost", false), ("InvalidWishes", "InvalidKind", false), ("InvalidWishes", "InvalidNumber", false), ("InvalidWishes", "InvalidRate", false), ("InvalidWishes", "InvalidText", false), ("InvalidWishes", "InvalidSheet", false), ("InvalidWishes", "InvalidTotal", false), ("InvalidWishes", "InvalidHours", false), ("InvalidWishes", "InvalidWish", false), ("InvalidWishes", "InvalidIndex", false), ("InvalidWishes", "NotPlan", false), ("InvalidWishes", "InvalidDays", false), ("InvalidWishes", "InvalidRules", false), ("InvalidWishes", "InvalidChanges", false), ("InvalidWishes", "InvalidWishes", true), ("InvalidWishes", "WrongName", false), ("InvalidWishes", "UnknownName", false), ("InvalidWishes", "InUse", false), ("InvalidWishes", "NotPossible", false), ("InvalidWishes", "OtherDays", false), ("InvalidWishes", "OutOfBounds", false), ("InvalidWishes", "NothingToUndo", false), ("InvalidWishes", "Broken", false)]
def Jal : Fc := Jbu [("InvalidWishes", "WrongValue", true), ("InvalidWishes", "InvalidName", false), ("InvalidWishes", "InvalidMost", false), ("InvalidWishes", "InvalidKind", false), ("InvalidWishes", "InvalidNumber", false), ("InvalidWishes", "InvalidRate", false), ("InvalidWishes", "InvalidText", false), ("InvalidWishes", "InvalidSheet", false), ("InvalidWishes", "InvalidTotal", false), ("InvalidWishes", "InvalidHours", false), ("InvalidWishes", "InvalidWish", false), ("InvalidWishes", "InvalidIndex", false), ("InvalidWishes", "NotPlan", false), ("InvalidWishes", "InvalidDays", false), ("InvalidWishes", "InvalidRules", false), ("InvalidWishes", "InvalidChanges", false), ("InvalidWishes", "InvalidWishes", true), ("InvalidWishes", "WrongName", false), ("InvalidWishes", "UnknownName", false), ("InvalidWishes", "InUse", false), ("InvalidWishes", "NotPossible", false), ("InvalidWishes", "OtherDays", false), ("InvalidWishes", "OutOfBounds", false), ("InvalidWishes", "NothingToUndo", false), ("InvalidWishes", "Broken", false)]
def JcL : List (Str × String × Bool) := [("InvalidWishes", "ValueError", true), ("InvalidWishes", "LookupError", false), ("InvalidWishes", "ArithmeticError", false)]
def JcM : Fc := Jbv [("InvalidWishes", "ValueError", true), ("InvalidWishes", "LookupError", false), ("InvalidWishes", "ArithmeticError", false)]
def Jbi : List (Str × Str × Bool) := [("InUse", "WrongValue", false), ("InUse", "InvalidName", false), ("InUse", "InvalidMost", false), ("InUse", "InvalidKind", false), ("InUse", "InvalidNumber", false), ("InUse", "InvalidRate", false), ("InUse", "InvalidText", false), ("InUse", "InvalidSheet", false), ("InUse", "InvalidTotal", false), ("InUse", "InvalidHours", false), ("InUse", "InvalidWish", false), ("InUse", "InvalidIndex", false), ("InUse", "NotPlan", false), ("InUse", "InvalidDays", false), ("InUse", "InvalidRules", false), ("InUse", "InvalidChanges", false), ("InUse", "InvalidWishes", false), ("InUse", "WrongName", true), ("InUse", "UnknownName", false), ("InUse", "InUse", true), ("InUse", "NotPossible", false), ("InUse", "OtherDays", false), ("InUse", "OutOfBounds", false), ("InUse", "NothingToUndo", false), ("InUse", "Broken", false)]
def Jbj : Fc := Jbu [("InUse", "WrongValue", false), ("InUse", "InvalidName", false), ("InUse", "InvalidMost", false), ("InUse", "InvalidKind", false), ("InUse", "InvalidNumber", false), ("InUse", "InvalidRate", false), ("InUse", "InvalidText", false), ("InUse", "InvalidSheet", false), ("InUse", "InvalidTotal", false), ("InUse", "InvalidHours", false), ("InUse", "InvalidWish", false), ("InUse", "InvalidIndex", false), ("InUse", "NotPlan", false), ("InUse", "InvalidDays", false), ("InUse", "InvalidRules", false), ("InUse", "InvalidChanges", false), ("InUse", "InvalidWishes", false), ("InUse", "WrongName", true), ("InUse", "UnknownName", false), ("InUse", "InUse", true), ("InUse", "NotPossible", false), ("InUse", "OtherDays", false), ("InUse", "OutOfBounds", false), ("InUse", "NothingToUndo", false), ("InUse", "Broken", false)]
def JpC : List (Str × String × Bool) := [("InUse", "ValueError", false), ("InUse", "LookupError", true), ("InUse", "ArithmeticError", false)]
def JpD : Fc := Jbv [("InUse", "ValueError", false), ("InUse", "LookupError", true), ("InUse", "ArithmeticError", false)]
def Jba : List (Str × Str × Bool) := [("Broken", "WrongValue", false), ("Broken", "InvalidName", false), ("Broken", "InvalidMost", false), ("Broken", "InvalidKind", false), ("Broken", "InvalidNumber", false), ("Broken", "InvalidRate", false), ("Broken", "InvalidText", false), ("Broken", "InvalidSheet", false), ("Broken", "InvalidTotal", false), ("Broken", "InvalidHours", false), ("Broken", "InvalidWish", false), ("Broken", "InvalidIndex", false), ("Broken", "NotPlan", false), ("Broken", "InvalidDays", false), ("Broken", "InvalidRules", false), ("Broken", "InvalidChanges", false), ("Broken", "InvalidWishes", false), ("Broken", "WrongName", false), ("Broken", "UnknownName", false), ("Broken", "InUse", false), ("Broken", "NotPossible", true), ("Broken", "OtherDays", false), ("Broken", "OutOfBounds", false), ("Broken", "NothingToUndo", false), ("Broken", "Broken", true)]
def Jbb : Fc := Jbu [("Broken", "WrongValue", false), ("Broken", "InvalidName", false), ("Broken", "InvalidMost", false), ("Broken", "InvalidKind", false), ("Broken", "InvalidNumber", false), ("Broken", "InvalidRate", false), ("Broken", "InvalidText", false), ("Broken", "InvalidSheet", false), ("Broken", "InvalidTotal", false), ("Broken", "InvalidHours", false), ("Broken", "InvalidWish", false), ("Broken", "InvalidIndex", false), ("Broken", "NotPlan", false), ("Broken", "InvalidDays", false), ("Broken", "InvalidRules", false), ("Broken", "InvalidChanges", false), ("Broken", "InvalidWishes", false), ("Broken", "WrongName", false), ("Broken", "UnknownName", false), ("Broken", "InUse", false), ("Broken", "NotPossible", true), ("Broken", "OtherDays", false), ("Broken", "OutOfBounds", false), ("Broken", "NothingToUndo", false), ("Broken", "Broken", true)]
def JoN : List (Str × String × Bool) := [("Broken", "ValueError", false), ("Broken", "LookupError", false), ("Broken", "ArithmeticError", true)]
def JoO : Fc := Jbv [("Broken", "ValueError", false), ("Broken", "LookupError", false), ("Broken", "ArithmeticError", true)]
def Jam : List (Str × Str × Bool) := [("NothingToUndo", "WrongValue", false), ("NothingToUndo", "InvalidName", false), ("NothingToUndo", "InvalidMost", false), ("NothingToUndo", "InvalidKind", false), ("NothingToUndo", "InvalidNumber", false), ("NothingToUndo", "InvalidRate", false), ("NothingToUndo", "InvalidText", false), ("NothingToUndo", "InvalidSheet", false), ("NothingToUndo", "InvalidTotal", false), ("NothingToUndo", "InvalidHours", false), ("NothingToUndo", "InvalidWish", false), ("NothingToUndo", "InvalidIndex", false), ("NothingToUndo", "NotPlan", false), ("NothingToUndo", "InvalidDays", false), ("NothingToUndo", "InvalidRules", false), ("NothingToUndo", "InvalidChanges", false), ("NothingToUndo", "InvalidWishes", false), ("NothingToUndo", "WrongName", false), ("NothingToUndo", "UnknownName", false), ("NothingToUndo", "InUse", false), ("NothingToUndo", "NotPossible", true), ("NothingToUndo", "OtherDays", false), ("NothingToUndo", "OutOfBounds", false), ("NothingToUndo", "NothingToUndo", true), ("NothingToUndo", "Broken", false)]
def Jan : Fc := Jbu [("NothingToUndo", "WrongValue", false), ("NothingToUndo", "InvalidName", false), ("NothingToUndo", "InvalidMost", false), ("NothingToUndo", "InvalidKind", false), ("NothingToUndo", "InvalidNumber", false), ("NothingToUndo", "InvalidRate", false), ("NothingToUndo", "InvalidText", false), ("NothingToUndo", "InvalidSheet", false), ("NothingToUndo", "InvalidTotal", false), ("NothingToUndo", "InvalidHours", false), ("NothingToUndo", "InvalidWish", false), ("NothingToUndo", "InvalidIndex", false), ("NothingToUndo", "NotPlan", false), ("NothingToUndo", "InvalidDays", false), ("NothingToUndo", "InvalidRules", false), ("NothingToUndo", "InvalidChanges", false), ("NothingToUndo", "InvalidWishes", false), ("NothingToUndo", "WrongName", false), ("NothingToUndo", "UnknownName", false), ("NothingToUndo", "InUse", false), ("NothingToUndo", "NotPossible", true), ("NothingToUndo", "OtherDays", false), ("NothingToUndo", "OutOfBounds", false), ("NothingToUndo", "NothingToUndo", true), ("NothingToUndo", "Broken", false)]
def JcN : List (Str × String × Bool) := [("NothingToUndo", "ValueError", false), ("NothingToUndo", "LookupError", false), ("NothingToUndo", "ArithmeticError", true)]
def JcO : Fc := Jbv [("NothingToUndo", "ValueError", false), ("NothingToUndo", "LookupError", false), ("NothingToUndo", "ArithmeticError", true)]
theorem JjM (c : SaysF fa fn K) {fs : List (Str × D)} : pIsX K (CE K) (.exv (He.ga K "InvalidName") fs) (.ref (He.ga K "WrongValue")) = some (.bl true) := Jab rfl (Jaa (c.fact 244 (f := JaE)) (by decide +kernel : _ ∈ JaD)) (by simp [CE])
theorem Jhn (c : SaysF fa fn K) {fs : List (Str × D)} : pIsX K (CE K) (.exv (He.ga K "InvalidName") fs) (.ref (He.ga K "InvalidName")) = some (.bl true) := Jab rfl (Jaa (c.fact 244 (f := JaE)) (by decide +kernel : _ ∈ JaD)) (by simp [CE])
theorem Jho (c : SaysF fa fn K) {fs : List (Str × D)} : pIsX K (CE K) (.exv (He.ga K "InvalidName") fs) (.ref (He.ga K "InvalidMost")) = some (.bl false) := Jab rfl (Jaa (c.fact 244 (f := JaE)) (by decide +kernel : _ ∈ JaD)) (by simp [CE])
theorem Jhp (c : SaysF fa fn K) {fs : List (Str × D)} : pIsX K (CE K) (.exv (He.ga K "InvalidName") fs) (.ref (He.ga K "InvalidKind")) = some (.bl false) := Jab rfl (Jaa (c.fact 244 (f := JaE)) (by decide +kernel : _ ∈ JaD)) (by simp [CE])
theorem JdG (c : SaysF fa fn K) {fs : List (Str × D)} : pIsX K (CE K) (.exv (He.ga K "InvalidName") fs) (.ref (He.ga K "InvalidNumber")) = some (.bl false) := Jab rfl (Jaa (c.fact 244 (f := JaE)) (by decide +kernel : _ ∈ JaD)) (by simp [CE])
theorem Jhq (c : SaysF fa fn K) {fs : List (Str × D)} : pIsX K (CE K) (.exv (He.ga K "InvalidName") fs) (.ref (He.ga K "InvalidRate")) = some (.bl false) := Jab rfl (Jaa (c.fact 244 (f := JaE)) (by decide +kernel : _ ∈ JaD)) (by simp [CE])
theorem Jhr (c : SaysF fa fn K) {fs : List (Str × D)} : pIsX K (CE K) (.exv (He.ga K "InvalidName") fs) (.ref (He.ga K "InvalidText")) = some (.bl false) := Jab rfl (Jaa (c.fact 244 (f := JaE)) (by decide +kernel : _ ∈ JaD)) (by simp [CE])
theorem Jfy (c : SaysF fa fn K) {fs : List (Str × D)} : pIsX K (CE K) (.exv (He.ga K "InvalidName") fs) (.ref (He.ga K "InvalidSheet")) = some (.bl false) := Jab rfl (Jaa (c.fact 244 (f := JaE)) (by decide +kernel : _ ∈ JaD)) (by simp [CE])
theorem Jfz (c : SaysF fa fn K) {fs : List (Str × D)} : pIsX K (CE K) (.exv (He.ga K "InvalidName") fs) (.ref (He.ga K "InvalidTotal")) = some (.bl false) := Jab rfl (Jaa (c.fact 244 (f := JaE)) (by decide +kernel : _ ∈ JaD)) (by simp [CE])
theorem JfA (c : SaysF fa fn K) {fs : List (Str × D)} : pIsX K (CE K) (.exv (He.ga K "InvalidName") fs) (.ref (He.ga K "InvalidHours")) = some (.bl false) := Jab rfl (Jaa (c.fact 244 (f := JaE)) (by decide +kernel : _ ∈ JaD)) (by simp [CE])
theorem Jhs (c : SaysF fa fn K) {fs : List (Str × D)} : pIsX K (CE K) (.exv (He.ga K "InvalidName") fs) (.ref (He.ga K "InvalidWish")) = some (.bl false) := Jab rfl (Jaa (c.fact 244 (f := JaE)) (by decide +kernel : _ ∈ JaD)) (by simp [CE])
theorem JfB (c : SaysF fa fn K) {fs : List (Str × D)} : pIsX K (CE K) (.exv (He.ga K "InvalidName") fs) (.ref (He.ga K "InvalidIndex")) = some (.bl false) := Jab rfl (Jaa (c.fact 244 (f := JaE)) (by decide +kernel : _ ∈ JaD)) (by simp [CE])
theorem Jll (c : SaysF fa fn K) {fs : List (Str × D)} : pIsX K (CE K) (.exv (He.ga K "InvalidName") fs) (.ref (He.ga K "NotPlan")) = some (.bl false) := Jab rfl (Jaa (c.fact 244 (f := JaE)) (by decide +kernel : _ ∈ JaD)) (by simp [CE])
theorem Jht (c : SaysF fa fn K) {fs : List (Str × D)} : pIsX K (CE K) (.exv (He.ga K "InvalidName") fs) (.ref (He.ga K "InvalidDays")) = some (.bl false) := Jab rfl (Jaa (c.fact 244 (f := JaE)) (by decide +kernel : _ ∈ JaD)) (by simp [CE])
theorem JfC (c : SaysF fa fn K) {fs : List (Str × D)} : pIsX K (CE K) (.exv (He.ga K "InvalidName") fs) (.ref (He.ga K "InvalidRules")) = some (.bl false) := Jab rfl (Jaa (c.fact 244 (f := JaE)) (by decide +kernel : _ ∈ JaD)) (by simp [CE])
theorem JcP (c : SaysF fa fn K) {fs : List (Str × D)} : pIsX K (CE K) (.exv (He.ga K "InvalidName") fs) (.ref (He.ga K "InvalidChanges")) = some (.bl false) := Jab rfl (Jaa (c.fact 244 (f := JaE)) (by decide +kernel : _ ∈ JaD)) (by simp [CE])
theorem JdH (c : SaysF fa fn K) {fs : List (Str × D)} : pIsX K (CE K) (.exv (He.ga K "InvalidName") fs) (.ref (He.ga K "InvalidWishes")) = some (.bl false) := Jab rfl (Jaa (c.fact 244 (f := JaE)) (by decide +kernel : _ ∈ JaD)) (by simp [CE])
theorem Jkm (c : SaysF fa fn K) {fs : List (Str × D)} : pIsX K (CE K) (.exv (He.ga K "InvalidName") fs) (.ref (He.ga K "WrongName")) = some (.bl false) := Jab rfl (Jaa (c.fact 244 (f := JaE)) (by decide +kernel : _ ∈ JaD)) (by simp [CE])
theorem Jhu (c : SaysF fa fn K) {fs : List (Str × D)} : pIsX K (CE K) (.exv (He.ga K "InvalidName") fs) (.ref (He.ga K "UnknownName")) = some (.bl false) := Jab rfl (Jaa (c.fact 244 (f := JaE)) (by decide +kernel : _ ∈ JaD)) (by simp [CE])
theorem JmF (c : SaysF fa fn K) {fs : List (Str × D)} : pIsX K (CE K) (.exv (He.ga K "InvalidName") fs) (.ref (He.ga K "InUse")) = some (.bl false) := Jab rfl (Jaa (c.fact 244 (f := JaE)) (by decide +kernel : _ ∈ JaD)) (by simp [CE])
theorem Jhv (c : SaysF fa fn K) {fs : List (Str × D)} : pIsX K (CE K) (.exv (He.ga K "InvalidName") fs) (.ref (He.ga K "NotPossible")) = some (.bl false) := Jab rfl (Jaa (c.fact 244 (f := JaE)) (by decide +kernel : _ ∈ JaD)) (by simp [CE])
theorem Jkn (c : SaysF fa fn K) {fs : List (Str × D)} : pIsX K (CE K) (.exv (He.ga K "InvalidName") fs) (.ref (He.ga K "OtherDays")) = some (.bl false) := Jab rfl (Jaa (c.fact 244 (f := JaE)) (by decide +kernel : _ ∈ JaD)) (by simp [CE])
theorem Jhw (c : SaysF fa fn K) {fs : List (Str × D)} : pIsX K (CE K) (.exv (He.ga K "InvalidName") fs) (.ref (He.ga K "OutOfBounds")) = some (.bl false) := Jab rfl (Jaa (c.fact 244 (f := JaE)) (by decide +kernel : _ ∈ JaD)) (by simp [CE])
theorem JdI (c : SaysF fa fn K) {fs : List (Str × D)} : pIsX K (CE K) (.exv (He.ga K "InvalidName") fs) (.ref (He.ga K "NothingToUndo")) = some (.bl false) := Jab rfl (Jaa (c.fact 244 (f := JaE)) (by decide +kernel : _ ∈ JaD)) (by simp [CE])
theorem Jl4 (c : SaysF fa fn K) {fs : List (Str × D)} : pIsX K (CE K) (.exv (He.ga K "InvalidName") fs) (.ref (He.ga K "Broken")) = some (.bl false) := Jab rfl (Jaa (c.fact 244 (f := JaE)) (by decide +kernel : _ ∈ JaD)) (by simp [CE])
theorem JjN (c : SaysF fa fn K) {fs : List (Str × D)} : pIsX K (CE K) (.exv (He.ga K "InvalidName") fs) (.ty "ValueError") = some (.bl true) := Jab rfl (Jao (c.fact 245 (f := Jjv)) (by decide +kernel : _ ∈ Jju)) (by simp [CE])
theorem Jhx (c : SaysF fa fn K) {fs : List (Str × D)} : pIsX K (CE K) (.exv (He.ga K "InvalidName") fs) (.ty "LookupError") = some (.bl false) := Jab rfl (Jao (c.fact 245 (f := Jjv)) (by decide +kernel : _ ∈ Jju)) (by simp [CE])
theorem Jce (c : SaysF fa fn K) {fs : List (Str × D)} : pIsX K (CE K) (.exv (He.ga K "InvalidName") fs) (.ty "ArithmeticError") = some (.bl false) := Jab rfl (Jao (c.fact 245 (f := Jjv)) (by decide +kernel : _ ∈ Jju)) (by simp [CE])
theorem JjO (c : SaysF fa fn K) {fs : List (Str × D)} : pIsX K (CE K) (.exv (He.ga K "InvalidMost") fs) (.ref (He.ga K "WrongValue")) = some (.bl true) := Jab rfl (Jaa (c.fact 246 (f := JaG)) (by decide +kernel : _ ∈ JaF)) (by simp [CE])
theorem Jhy (c : SaysF fa fn K) {fs : List (Str × D)} : pIsX K (CE K) (.exv (He.ga K "InvalidMost") fs) (.ref (He.ga K "InvalidName")) = some (.bl false) := Jab rfl (Jaa (c.fact 246 (f := JaG)) (by decide +kernel : _ ∈ JaF)) (by simp [CE])
theorem Jhz (c : SaysF fa fn K) {fs : List (Str × D)} : pIsX K (CE K) (.exv (He.ga K "InvalidMost") fs) (.ref (He.ga K "InvalidMost")) = some (.bl true) := Jab rfl (Jaa (c.fact 246 (f := JaG)) (by decide +kernel : _ ∈ JaF)) (by simp [CE])
theorem JhA (c : SaysF fa fn K) {fs : List (Str × D)} : pIsX K (CE K) (.exv (He.ga K "InvalidMost") fs) (.ref (He.ga K "InvalidKind")) = some (.bl false) := Jab rfl (Jaa (c.fact 246 (f := JaG)) (by decide +kernel : _ ∈ JaF)) (by simp [CE])
theorem JdJ (c : SaysF fa fn K) {fs : List (Str × D)} : pIsX K (CE K) (.exv (He.ga K "InvalidMost") fs) (.ref (He.ga K "InvalidNumber")) = some (.bl false) := Jab rfl (Jaa (c.fact 246 (f := JaG)) (by decide +kernel : _ ∈ JaF)) (by simp [CE])
theorem JhB (c : SaysF fa fn K) {fs : List (Str × D)} : pIsX K (CE K) (.exv (He.ga K "InvalidMost") fs) (.ref (He.ga K "InvalidRate")) = some (.bl false) := Jab rfl (Jaa (c.fact 246 (f := JaG)) (by decide +kernel : _ ∈ JaF)) (by simp [CE])
theorem JhC (c : SaysF fa fn K) {fs : List (Str × D)} : pIsX K (CE K) (.exv (He.ga K "InvalidMost") fs) (.ref (He.ga K "InvalidText")) = some (.bl false) := Jab rfl (Jaa (c.fact 246 (f := JaG)) (by decide +kernel : _ ∈ JaF)) (by simp [CE])
theorem JfD (c : SaysF fa fn K) {fs : List (Str × D)} : pIsX K (CE K) (.exv (He.ga K "InvalidMost") fs) (.ref (He.ga K "InvalidSheet")) = some (.bl false) := Jab rfl (Jaa (c.fact 246 (f := JaG)) (by decide +kernel : _ ∈ JaF)) (by simp [CE])
theorem JfE (c : SaysF fa fn K) {fs : List (Str × D)} : pIsX K (CE K) (.exv (He.ga K "InvalidMost") fs) (.ref (He.ga K "InvalidTotal")) = some (.bl false) := Jab rfl (Jaa (c.fact 246 (f := JaG)) (by decide +kernel : _ ∈ JaF)) (by simp [CE])
theorem JfF (c : SaysF fa fn K) {fs : List (Str × D)} : pIsX K (CE K) (.exv (He.ga K "InvalidMost") fs) (.ref (He.ga K "InvalidHours")) = some (.bl false) := Jab rfl (Jaa (c.fact 246 (f := JaG)) (by decide +kernel : _ ∈ JaF)) (by simp [CE])
theorem JhD (c : SaysF fa fn K) {fs : List (Str × D)} : pIsX K (CE K) (.exv (He.ga K "InvalidMost") fs) (.ref (He.ga K "InvalidWish")) = some (.bl false) := Jab rfl (Jaa (c.fact 246 (f := JaG)) (by decide +kernel : _ ∈ JaF)) (by simp [CE])
theorem JfG (c : SaysF fa fn K) {fs : List (Str × D)} : pIsX K (CE K) (.exv (He.ga K "InvalidMost") fs) (.ref (He.ga K "InvalidIndex")) = some (.bl false) := Jab rfl (Jaa (c.fact 246 (f := JaG)) (by decide +kernel : _ ∈ JaF)) (by simp [CE])
theorem Jlm (c : SaysF fa fn K) {fs : List (Str × D)} : pIsX K (CE K) (.exv (He.ga K "InvalidMost") fs) (.ref (He.ga K "NotPlan")) = some (.bl false) := Jab rfl (Jaa (c.fact 246 (f := JaG)) (by decide +kernel : _ ∈ JaF)) (by simp [CE])
theorem JhE (c : SaysF fa fn K) {fs : List (Str × D)} : pIsX K (CE K) (.exv (He.ga K "InvalidMost") fs) (.ref (He.ga K "InvalidDays")) = some (.bl false) := Jab rfl (Jaa (c.fact 246 (f := JaG)) (by decide +kernel : _ ∈ JaF)) (by simp [CE])
theorem JfH (c : SaysF fa fn K) {fs : List (Str × D)} : pIsX K (CE K) (.exv (He.ga K "InvalidMost") fs) (.ref (He.ga K "InvalidRules")) = some (.bl false) := Jab rfl (Jaa (c.fact 246 (f := JaG)) (by decide +kernel : _ ∈ JaF)) (by simp [CE])
theorem JcQ (c : SaysF fa fn K) {fs : List (Str × D)} : pIsX K (CE K) (.exv (He.ga K "InvalidMost") fs) (.ref (He.ga K "InvalidChanges")) = some (.bl false) := Jab rfl (Jaa (c.fact 246 (f := JaG)) (by decide +kernel : _ ∈ JaF)) (by simp [CE])
theorem JdK (c : SaysF fa fn K) {fs : List (Str × D)} : pIsX K (CE K) (.exv (He.ga K "InvalidMost") fs) (.ref (He.ga K "InvalidWishes")) = some (.bl false) := Jab rfl (Jaa (c.fact 246 (f := JaG)) (by decide +kernel : _ ∈ JaF)) (by simp [CE])
theorem Jko (c : SaysF fa fn K) {fs : List (Str × D)} : pIsX K (CE K) (.exv (He.ga K "InvalidMost") fs) (.ref (He.ga K "WrongName")) = some (.bl false) := Jab rfl (Jaa (c.fact 246 (f := JaG)) (by decide +kernel : _ ∈ JaF)) (by simp [CE])
theorem JhF (c : SaysF fa fn K) {fs : List (Str × D)} : pIsX K (CE K) (.exv (He.ga K "InvalidMost") fs) (.ref (He.ga K "UnknownName")) = some (.bl false) := Jab rfl (Jaa (c.fact 246 (f := JaG)) (by decide +kernel : _ ∈ JaF)) (by simp [CE])
theorem JmG (c : SaysF fa fn K) {fs : List (Str × D)} : pIsX K (CE K) (.exv (He.ga K "InvalidMost") fs) (.ref (He.ga K "InUse")) = some (.bl false) := Jab rfl (Jaa (c.fact 246 (f := JaG)) (by decide +kernel : _ ∈ JaF)) (by simp [CE])
theorem JhG (c : SaysF fa fn K) {fs : List (Str × D)} : pIsX K (CE K) (.exv (He.ga K "InvalidMost") fs) (.ref (He.ga K "NotPossible")) = some (.bl false) := Jab rfl (Jaa (c.fact 246 (f := JaG)) (by decide +kernel : _ ∈ JaF)) (by simp [CE])
theorem Jkp (c : SaysF fa fn K) {fs : List (Str × D)} : pIsX K (CE K) (.exv (He.ga K "InvalidMost") fs) (.ref (He.ga K "OtherDays")) = some (.bl false) := Jab rfl (Jaa (c.fact 246 (f := JaG)) (by decide +kernel : _ ∈ JaF)) (by simp [CE])
theorem JhH (c : SaysF fa fn K) {fs : List (Str × D)} : pIsX K (CE K) (.exv (He.ga K "InvalidMost") fs) (.ref (He.ga K "OutOfBounds")) = some (.bl false) := Jab rfl (Jaa (c.fact 246 (f := JaG)) (by decide +kernel : _ ∈ JaF)) (by simp [CE])
theorem JdL (c : SaysF fa fn K) {fs : List (Str × D)} : pIsX K (CE K) (.exv (He.ga K "InvalidMost") fs) (.ref (He.ga K "NothingToUndo")) = some (.bl false) := Jab rfl (Jaa (c.fact 246 (f := JaG)) (by decide +kernel : _ ∈ JaF)) (by simp [CE])
theorem Jl5 (c : SaysF fa fn K) {fs : List (Str × D)} : pIsX K (CE K) (.exv (He.ga K "InvalidMost") fs) (.ref (He.ga K "Broken")) = some (.bl false) := Jab rfl (Jaa (c.fact 246 (f := JaG)) (by decide +kernel : _ ∈ JaF)) (by simp [CE])
theorem JjP (c : SaysF fa fn K) {fs : List (Str × D)} : pIsX K (CE K) (.exv (He.ga K "InvalidMost") fs) (.ty "ValueError") = some (.bl true) := Jab rfl (Jao (c.fact 247 (f := Jjx)) (by decide +kernel : _ ∈ Jjw)) (by simp [CE])
theorem JhI (c : SaysF fa fn K) {fs : List (Str × D)} : pIsX K (CE K) (.exv (He.ga K "InvalidMost") fs) (.ty "LookupError") = some (.bl false) := Jab rfl (Jao (c.fact 247 (f := Jjx)) (by decide +kernel : _ ∈ Jjw)) (by simp [CE])
theorem Jcf (c : SaysF fa fn K) {fs : List (Str × D)} : pIsX K (CE K) (.exv (He.ga K "InvalidMost") fs) (.ty "ArithmeticError") = some (.bl false) := Jab rfl (Jao (c.fact 247 (f := Jjx)) (by decide +kernel : _ ∈ Jjw)) (by simp [CE])
theorem JjQ (c : SaysF fa fn K) {fs : List (Str × D)} : pIsX K (CE K) (.exv (He.ga K "InvalidKind") fs) (.ref (He.ga K "WrongValue")) = some (.bl true) := Jab rfl (Jaa (c.fact 248 (f := JaI)) (by decide +kernel : _ ∈ JaH)) (by simp [CE])
theorem JhJ (c : SaysF fa fn K) {fs : List (Str × D)} : pIsX K (CE K) (.exv (He.ga K "InvalidKind") fs) (.ref (He.ga K "InvalidName")) = some (.bl false) := Jab rfl (Jaa (c.fact 248 (f := JaI)) (by decide +kernel : _ ∈ JaH)) (by simp [CE])
theorem JhK (c : SaysF fa fn K) {fs : List (Str × D)} : pIsX K (CE K) (.exv (He.ga K "InvalidKind") fs) (.ref (He.ga K "InvalidMost")) = some (.bl false) := Jab rfl (Jaa (c.fact 248 (f := JaI)) (by decide +kernel : _ ∈ JaH)) (by simp [CE])
theorem JhL (c : SaysF fa fn K) {fs : List (Str × D)} : pIsX K (CE K) (.exv (He.ga K "InvalidKind") fs) (.ref (He.ga K "InvalidKind")) = some (.bl true) := Jab rfl (Jaa (c.fact 248 (f := JaI)) (by decide +kernel : _ ∈ JaH)) (by simp [CE])
theorem JdM (c : SaysF fa fn K) {fs : List (Str × D)} : pIsX K (CE K) (.exv (He.ga K "InvalidKind") fs) (.ref (He.ga K "InvalidNumber")) = some (.bl false) := Jab rfl (Jaa (c.fact 248 (f := JaI)) (by decide +kernel : _ ∈ JaH)) (by simp [CE])
theorem JhM (c : SaysF fa fn K) {fs : List (Str × D)} : pIsX K (CE K) (.exv (He.ga K "InvalidKind") fs) (.ref (He.ga K "InvalidRate")) = some (.bl false) := Jab rfl (Jaa (c.fact 248 (f := JaI)) (by decide +kernel : _ ∈ JaH)) (by simp [CE])
theorem JhN (c : SaysF fa fn K) {fs : List (Str × D)} : pIsX K (CE K) (.exv (He.ga K "InvalidKind") fs) (.ref (He.ga K "InvalidText")) = some (.bl false) := Jab rfl (Jaa (c.fact 248 (f := JaI)) (by decide +kernel : _ ∈ JaH)) (by simp [CE])
theorem JfI (c : SaysF fa fn K) {fs : List (Str × D)} : pIsX K (CE K) (.exv (He.ga K "InvalidKind") fs) (.ref (He.ga K "InvalidSheet")) = some (.bl false) := Jab rfl (Jaa (c.fact 248 (f := JaI)) (by decide +kernel : _ ∈ JaH)) (by simp [CE])
theorem JfJ (c : SaysF fa fn K) {fs : List (Str × D)} : pIsX K (CE K) (.exv (He.ga K "InvalidKind") fs) (.ref (He.ga K "InvalidTotal")) = some (.bl false) := Jab rfl (Jaa (c.fact 248 (f := JaI)) (by decide +kernel : _ ∈ JaH)) (by simp [CE])
theorem JfK (c : SaysF fa fn K) {fs : List (Str × D)} : pIsX K (CE K) (.exv (He.ga K "InvalidKind") fs) (.ref (He.ga K "InvalidHours")) = some (.bl false) := Jab rfl (Jaa (c.fact 248 (f := JaI)) (by decide +kernel : _ ∈ JaH)) (by simp [CE])
theorem JhO (c : SaysF fa fn K) {fs : List (Str × D)} : pIsX K (CE K) (.exv (He.ga K "InvalidKind") fs) (.ref (He.ga K "InvalidWish")) = some (.bl false) := Jab rfl (Jaa (c.fact 248 (f := JaI)) (by decide +kernel : _ ∈ JaH)) (by simp [CE])
theorem JfL (c : SaysF fa fn K) {fs : List (Str × D)} : pIsX K (CE K) (.exv (He.ga K "InvalidKind") fs) (.ref (He.ga K "InvalidIndex")) = some (.bl false) := Jab rfl (Jaa (c.fact 248 (f := JaI)) (by decide +kernel : _ ∈ JaH)) (by simp [CE])
theorem Jln (c : SaysF fa fn K) {fs : List (Str × D)} : pIsX K (CE K) (.exv (He.ga K "InvalidKind") fs) (.ref (He.ga K "NotPlan")) = some (.bl false) := Jab rfl (Jaa (c.fact 248 (f := JaI)) (by decide +kernel : _ ∈ JaH)) (by simp [CE])
theorem JhP (c : SaysF fa fn K) {fs : List (Str × D)} : pIsX K (CE K) (.exv (He.ga K "InvalidKind") fs) (.ref (He.ga K "InvalidDays")) = some (.bl false) := Jab rfl (Jaa (c.fact 248 (f := JaI)) (by decide +kernel : _ ∈ JaH)) (by simp [CE])
theorem JfM (c : SaysF fa fn K) {fs : List (Str × D)} : pIsX K (CE K) (.exv (He.ga K "InvalidKind") fs) (.ref (He.ga K "InvalidRules")) = some (.bl false) := Jab rfl (Jaa (c.fact 248 (f := JaI)) (by decide +kernel : _ ∈ JaH)) (by simp [CE])
theorem JcR (c : SaysF fa fn K) {fs : List (Str × D)} : pIsX K (CE K) (.exv (He.ga K "InvalidKind") fs) (.ref (He.ga K "InvalidChanges")) = some (.bl false) := Jab rfl (Jaa (c.fact 248 (f := JaI)) (by decide +kernel : _ ∈ JaH)) (by simp [CE])
theorem JdN (c : SaysF fa fn K) {fs : List (Str × D)} : pIsX K (CE K) (.exv (He.ga K "InvalidKind") fs) (.ref (He.ga K "InvalidWishes")) = some (.bl false) := Jab rfl (Jaa (c.fact 248 (f := JaI)) (by decide +kernel : _ ∈ JaH)) (by simp [CE])
theorem Jkq (c : SaysF fa fn K) {fs : List (Str × D)} : pIsX K (CE K) (.exv (He.ga K "InvalidKind") fs) (.ref (He.ga K "WrongName")) = some (.bl false) := Jab rfl (Jaa (c.fact 248 (f := JaI)) (by decide +kernel : _ ∈ JaH)) (by simp [CE])
theorem JhQ (c : SaysF fa fn K) {fs : List (Str × D)} : pIsX K (CE K) (.exv (He.ga K "InvalidKind") fs) (.ref (He.ga K "UnknownName")) = some (.bl false) := Jab rfl (Jaa (c.fact 248 (f := JaI)) (by decide +kernel : _ ∈ JaH)) (by simp [CE])
theorem JmH (c : SaysF fa fn K) {fs : List (Str × D)} : pIsX K (CE K) (.exv (He.ga K "InvalidKind") fs) (.ref (He.ga K "InUse")) = some (.bl false) := Jab rfl (Jaa (c.fact 248 (f := JaI)) (by decide +kernel : _ ∈ JaH)) (by simp [CE])
theorem JhR (c : SaysF fa fn K) {fs : List (Str × D)} : pIsX K (CE K) (.exv (He.ga K "InvalidKind") fs) (.ref (He.ga K "NotPossible")) = some (.bl false) := Jab rfl (Jaa (c.fact 248 (f := JaI)) (by decide +kernel : _ ∈ JaH)) (by simp [CE])
theorem Jkr (c : SaysF fa fn K) {fs : List (Str × D)} : pIsX K (CE K) (.exv (He.ga K "InvalidKind") fs) (.ref (He.ga K "OtherDays")) = some (.bl false) := Jab rfl (Jaa (c.fact 248 (f := JaI)) (by decide +kernel : _ ∈ JaH)) (by simp [CE])
theorem JhS (c : SaysF fa fn K) {fs : List (Str × D)} : pIsX K (CE K) (.exv (He.ga K "InvalidKind") fs) (.ref (He.ga K "OutOfBounds")) = some (.bl false) := Jab rfl (Jaa (c.fact 248 (f := JaI)) (by decide +kernel : _ ∈ JaH)) (by simp [CE])
theorem JdO (c : SaysF fa fn K) {fs : List (Str × D)} : pIsX K (CE K) (.exv (He.ga K "InvalidKind") fs) (.ref (He.ga K "NothingToUndo")) = some (.bl false) := Jab rfl (Jaa (c.fact 248 (f := JaI)) (by decide +kernel : _ ∈ JaH)) (by simp [CE])
theorem Jl6 (c : SaysF fa fn K) {fs : List (Str × D)} : pIsX K (CE K) (.exv (He.ga K "InvalidKind") fs) (.ref (He.ga K "Broken")) = some (.bl false) := Jab rfl (Jaa (c.fact 248 (f := JaI)) (by decide +kernel : _ ∈ JaH)) (by simp [CE])
theorem JjR (c : SaysF fa fn K) {fs : List (Str × D)} : pIsX K (CE K) (.exv (He.ga K "InvalidKind") fs) (.ty "ValueError") = some (.bl true) := Jab rfl (Jao (c.fact 249 (f := Jjz)) (by decide +kernel : _ ∈ Jjy)) (by simp [CE])
theorem JhT (c : SaysF fa fn K) {fs : List (Str × D)} : pIsX K (CE K) (.exv (He.ga K "InvalidKind") fs) (.ty "LookupError") = some (.bl false) := Jab rfl (Jao (c.fact 249 (f := Jjz)) (by decide +kernel : _ ∈ Jjy)) (by simp [CE])
theorem Jcg (c : SaysF fa fn K) {fs : List (Str × D)} : pIsX K (CE K) (.exv (He.ga K "InvalidKind") fs) (.ty "ArithmeticError") = some (.bl false) := Jab rfl (Jao (c.fact 249 (f := Jjz)) (by decide +kernel : _ ∈ Jjy)) (by simp [CE])
theorem JfN (c : SaysF fa fn K) {fs : List (Str × D)} : pIsX K (CE K) (.exv (He.ga K "InvalidNumber") fs) (.ref (He.ga K "WrongValue")) = some (.bl true) := Jab rfl (Jaa (c.fact 250 (f := Jaj)) (by decide +kernel : _ ∈ Jai)) (by simp [CE])
theorem JdP (c : SaysF fa fn K) {fs : List (Str × D)} : pIsX K (CE K) (.exv (He.ga K "InvalidNumber") fs) (.ref (He.ga K "InvalidName")) = some (.bl false) := Jab rfl (Jaa (c.fact 250 (f := Jaj)) (by decide +kernel : _ ∈ Jai)) (by simp [CE])
theorem JdQ (c : SaysF fa fn K) {fs : List (Str × D)} : pIsX K (CE K) (.exv (He.ga K "InvalidNumber") fs) (.ref (He.ga K "InvalidMost")) = some (.bl false) := Jab rfl (Jaa (c.fact 250 (f := Jaj)) (by decide +kernel : _ ∈ Jai)) (by simp [CE])
theorem JdR (c : SaysF fa fn K) {fs : List (Str × D)} : pIsX K (CE K) (.exv (He.ga K "InvalidNumber") fs) (.ref (He.ga K "InvalidKind")) = some (.bl false) := Jab rfl (Jaa (c.fact 250 (f := Jaj)) (by decide +kernel : _ ∈ Jai)) (by simp [CE])
theorem Jch (c : SaysF fa fn K) {fs : List (Str × D)} : pIsX K (CE K) (.exv (He.ga K "InvalidNumber") fs) (.ref (He.ga K "InvalidNumber")) = some (.bl true) := Jab rfl (Jaa (c.fact 250 (f := Jaj)) (by decide +kernel : _ ∈ Jai)) (by simp [CE])
theorem JdS (c : SaysF fa fn K) {fs : List (Str × D)} : pIsX K (CE K) (.exv (He.ga K "InvalidNumber") fs) (.ref (He.ga K "InvalidRate")) = some (.bl false) := Jab rfl (Jaa (c.fact 250 (f := Jaj)) (by decide +kernel : _ ∈ Jai)) (by simp [CE])
theorem JdT (c : SaysF fa fn K) {fs : List (Str × D)} : pIsX K (CE K) (.exv (He.ga K "InvalidNumber") fs) (.ref (He.ga K "InvalidText")) = some (.bl false) := Jab rfl (Jaa (c.fact 250 (f := Jaj)) (by decide +kernel : _ ∈ Jai)) (by simp [CE])
theorem JcS (c : SaysF fa fn K) {fs : List (Str × D)} : pIsX K (CE K) (.exv (He.ga K "InvalidNumber") fs) (.ref (He.ga K "InvalidSheet")) = some (.bl false) := Jab rfl (Jaa (c.fact 250 (f := Jaj)) (by decide +kernel : _ ∈ Jai)) (by simp [CE])
theorem JcT (c : SaysF fa fn K) {fs : List (Str × D)} : pIsX K (CE K) (.exv (He.ga K "InvalidNumber") fs) (.ref (He.ga K "InvalidTotal")) = some (.bl false) := Jab rfl (Jaa (c.fact 250 (f := Jaj)) (by decide +kernel : _ ∈ Jai)) (by simp [CE])
theorem JcU (c : SaysF fa fn K) {fs : List (Str × D)} : pIsX K (CE K) (.exv (He.ga K "InvalidNumber") fs) (.ref (He.ga K "InvalidHours")) = some (.bl false) := Jab rfl (Jaa (c.fact 250 (f := Jaj)) (by decide +kernel : _ ∈ Jai)) (by simp [CE])
theorem JdU (c : SaysF fa fn K) {fs : List (Str × D)} : pIsX K (CE K) (.exv (He.ga K "InvalidNumber") fs) (.ref (He.ga K "InvalidWish")) = some (.bl false) := Jab rfl (Jaa (c.fact 250 (f := Jaj)) (by decide +kernel : _ ∈ Jai)) (by simp [CE])
theorem JcV (c : SaysF fa fn K) {fs : List (Str × D)} : pIsX K (CE K) (.exv (He.ga K "InvalidNumber") fs) (.ref (He.ga K "InvalidIndex")) = some (.bl false) := Jab rfl (Jaa (c.fact 250 (f := Jaj)) (by decide +kernel : _ ∈ Jai)) (by simp [CE])
theorem Jks (c : SaysF fa fn K) {fs : List (Str × D)} : pIsX K (CE K) (.exv (He.ga K "InvalidNumber") fs) (.ref (He.ga K "NotPlan")) = some (.bl false) := Jab rfl (Jaa (c.fact 250 (f := Jaj)) (by decide +kernel : _ ∈ Jai)) (by simp [CE])
theorem JdV (c : SaysF fa fn K) {fs : List (Str × D)} : pIsX K (CE K) (.exv (He.ga K "InvalidNumber") fs) (.ref (He.ga K "InvalidDays")) = some (.bl false) := Jab rfl (Jaa (c.fact 250 (f := Jaj)) (by decide +kernel : _ ∈ Jai)) (by simp [CE])
theorem JcW (c : SaysF fa fn K) {fs : List (Str × D)} : pIsX K (CE K) (.exv (He.ga K "InvalidNumber") fs) (.ref (He.ga K "InvalidRules")) = some (.bl false) := Jab rfl (Jaa (c.fact 250 (f := Jaj)) (by decide +kernel : _ ∈ Jai)) (by simp [CE])
theorem JbT (c : SaysF fa fn K) {fs : List (Str × D)} : pIsX K (CE K) (.exv (He.ga K "InvalidNumber") fs) (.ref (He.ga K "InvalidChanges")) = some (.bl false) := Jab rfl (Jaa (c.fact 250 (f := Jaj)) (by decide +kernel : _ ∈ Jai)) (by simp [CE])
theorem Jci (c : SaysF fa fn K) {fs : List (Str × D)} : pIsX K (CE K) (.exv (He.ga K "InvalidNumber") fs) (.ref (He.ga K "InvalidWishes")) = some (.bl false) := Jab rfl (Jaa (c.fact 250 (f := Jaj)) (by decide +kernel : _ ∈ Jai)) (by simp [CE])
theorem JhU (c : SaysF fa fn K) {fs : List (Str × D)} : pIsX K (CE K) (.exv (He.ga K "InvalidNumber") fs) (.ref (He.ga K "WrongName")) = some (.bl false) := Jab rfl (Jaa (c.fact 250 (f := Jaj)) (by decide +kernel : _ ∈ Jai)) (by simp [CE])
theorem JdW (c : SaysF fa fn K) {fs : List (Str × D)} : pIsX K (CE K) (.exv (He.ga K "InvalidNumber") fs) (.ref (He.ga K "UnknownName")) = some (.bl false) := Jab rfl (Jaa (c.fact 250 (f := Jaj)) (by decide +kernel : _ ∈ Jai)) (by simp [CE])
theorem Jlo (c : SaysF fa fn K) {fs : List (Str × D)} : pIsX K (CE K) (.exv (He.ga K "InvalidNumber") fs) (.ref (He.ga K "InUse")) = some (.bl false) := Jab rfl (Jaa (c.fact 250 (f := Jaj)) (by decide +kernel : _ ∈ Jai)) (by simp [CE])
theorem JdX (c : SaysF fa fn K) {fs : List (Str × D)} : pIsX K (CE K) (.exv (He.ga K "InvalidNumber") fs) (.ref (He.ga K "NotPossible")) = some (.bl false) := Jab rfl (Jaa (c.fact 250 (f := Jaj)) (by decide +kernel : _ ∈ Jai)) (by simp [CE])
theorem JhV (c : SaysF fa fn K) {fs : List (Str × D)} : pIsX K (CE K) (.exv (He.ga K "InvalidNumber") fs) (.ref (He.ga K "OtherDays")) = some (.bl false) := Jab rfl (Jaa (c.fact 250 (f := Jaj)) (by decide +kernel : _ ∈ Jai)) (by simp [CE])
theorem JdY (c : SaysF fa fn K) {fs : List (Str × D)} : pIsX K (CE K) (.exv (He.ga K "InvalidNumber") fs) (.ref (He.ga K "OutOfBounds")) = some (.bl false) := Jab rfl (Jaa (c.fact 250 (f := Jaj)) (by decide +kernel : _ ∈ Jai)) (by simp [CE])
theorem Jcj (c : SaysF fa fn K) {fs : List (Str × D)} : pIsX K (CE K) (.exv (He.ga K "InvalidNumber") fs) (.ref (He.ga K "NothingToUndo")) = some (.bl false) := Jab rfl (Jaa (c.fact 250 (f := Jaj)) (by decide +kernel : _ ∈ Jai)) (by simp [CE])
theorem JkZ (c : SaysF fa fn K) {fs : List (Str × D)} : pIsX K (CE K) (.exv (He.ga K "InvalidNumber") fs) (.ref (He.ga K "Broken")) = some (.bl false) := Jab rfl (Jaa (c.fact 250 (f := Jaj)) (by decide +kernel : _ ∈ Jai)) (by simp [CE])
theorem JfO (c : SaysF fa fn K) {fs : List (Str × D)} : pIsX K (CE K) (.exv (He.ga K "InvalidNumber") fs) (.ty "ValueError") = some (.bl true) := Jab rfl (Jao (c.fact 251 (f := JcK)) (by decide +kernel : _ ∈ JcJ)) (by simp [CE])
theorem JdZ (c : SaysF fa fn K) {fs : List (Str × D)} : pIsX K (CE K) (.exv (He.ga K "InvalidNumber") fs) (.ty "LookupError") = some (.bl false) := Jab rfl (Jao (c.fact 251 (f := JcK)) (by decide +kernel : _ ∈ JcJ)) (by simp [CE])
theorem JbN (c : SaysF fa fn K) {fs : List (Str × D)} : pIsX K (CE K) (.exv (He.ga K "InvalidNumber") fs) (.ty "ArithmeticError") = some (.bl false) := Jab rfl (Jao (c.fact 251 (f := JcK)) (by decide +kernel : _ ∈ JcJ)) (by simp [CE])
theorem JjS (c : SaysF fa fn K) {fs : List (Str × D)} : pIsX K (CE K) (.exv (He.ga K "InvalidRate") fs) (.ref (He.ga K "WrongValue")) = some (.bl true) := Jab rfl (Jaa (c.fact 252 (f := JaK)) (by decide +kernel : _ ∈ JaJ)) (by simp [CE])
theorem JhW (c : SaysF fa fn K) {fs : List (Str × D)} : pIsX K (CE K) (.exv (He.ga K "InvalidRate") fs) (.ref (He.ga K "InvalidName")) = some (.bl false) := Jab rfl (Jaa (c.fact 252 (f := JaK)) (by decide +kernel : _ ∈ JaJ)) (by simp [CE])
theorem JhX (c : SaysF fa fn K) {fs : List (Str × D)} : pIsX K (CE K) (.exv (He.ga K "InvalidRate") fs) (.ref (He.ga K "InvalidMost")) = some (.bl false) := Jab rfl (Jaa (c.fact 252 (f := JaK)) (by decide +kernel : _ ∈ JaJ)) (by simp [CE])
theorem JhY (c : SaysF fa fn K) {fs : List (Str × D)} : pIsX K (CE K) (.exv (He.ga K "InvalidRate") fs) (.ref (He.ga K "InvalidKind")) = some (.bl false) := Jab rfl (Jaa (c.fact 252 (f := JaK)) (by decide +kernel : _ ∈ JaJ)) (by simp [CE])
theorem Jd0 (c : SaysF fa fn K) {fs : List (Str × D)} : pIsX K (CE K) (.exv (He.ga K "InvalidRate") fs) (.ref (He.ga K "InvalidNumber")) = some (.bl false) := Jab rfl (Jaa (c.fact 252 (f := JaK)) (by decide +kernel : _ ∈ JaJ)) (by simp [CE])
theorem JhZ (c : SaysF fa fn K) {fs : List (Str × D)} : pIsX K (CE K) (.exv (He.ga K "InvalidRate") fs) (.ref (He.ga K "InvalidRate")) = some (.bl true) := Jab rfl (Jaa (c.fact 252 (f := JaK)) (by decide +kernel : _ ∈ JaJ)) (by simp [CE])
theorem Jh0 (c : SaysF fa fn K) {fs : List (Str × D)} : pIsX K (CE K) (.exv (He.ga K "InvalidRate") fs) (.ref (He.ga K "InvalidText")) = some (.bl false) := Jab rfl (Jaa (c.fact 252 (f := JaK)) (by decide +kernel : _ ∈ JaJ)) (by simp [CE])
theorem JfP (c : SaysF fa fn K) {fs : List (Str × D)} : pIsX K (CE K) (.exv (He.ga K "InvalidRate") fs) (.ref (He.ga K "InvalidSheet")) = some (.bl false) := Jab rfl (Jaa (c.fact 252 (f := JaK)) (by decide +kernel : _ ∈ JaJ)) (by simp [CE])
theorem JfQ (c : SaysF fa fn K) {fs : List (Str × D)} : pIsX K (CE K) (.exv (He.ga K "InvalidRate") fs) (.ref (He.ga K "InvalidTotal")) = some (.bl false) := Jab rfl (Jaa (c.fact 252 (f := JaK)) (by decide +kernel : _ ∈ JaJ)) (by simp [CE])
theorem JfR (c : SaysF fa fn K) {fs : List (Str × D)} : pIsX K (CE K) (.exv (He.ga K "InvalidRate") fs) (.ref (He.ga K "InvalidHours")) = some (.bl false) := Jab rfl (Jaa (c.fact 252 (f := JaK)) (by decide +kernel : _ ∈ JaJ)) (by simp [CE])
theorem Jh1 (c : SaysF fa fn K) {fs : List (Str × D)} : pIsX K (CE K) (.exv (He.ga K "InvalidRate") fs) (.ref (He.ga K "InvalidWish")) = some (.bl false) := Jab rfl (Jaa (c.fact 252 (f := JaK)) (by decide +kernel : _ ∈ JaJ)) (by simp [CE])
theorem JfS (c : SaysF fa fn K) {fs : List (Str × D)} : pIsX K (CE K) (.exv (He.ga K "InvalidRate") fs) (.ref (He.ga K "InvalidIndex")) = some (.bl false) := Jab rfl (Jaa (c.fact 252 (f := JaK)) (by decide +kernel : _ ∈ JaJ)) (by simp [CE])
theorem Jlp (c : SaysF fa fn K) {fs : List (Str × D)} : pIsX K (CE K) (.exv (He.ga K "InvalidRate") fs) (.ref (He.ga K "NotPlan")) = some (.bl false) := Jab rfl (Jaa (c.fact 252 (f := JaK)) (by decide +kernel : _ ∈ JaJ)) (by simp [CE])
theorem Jh2 (c : SaysF fa fn K) {fs : List (Str × D)} : pIsX K (CE K) (.exv (He.ga K "InvalidRate") fs) (.ref (He.ga K "InvalidDays")) = some (.bl false) := Jab rfl (Jaa (c.fact 252 (f := JaK)) (by decide +kernel : _ ∈ JaJ)) (by simp [CE])
theorem JfT (c : SaysF fa fn K) {fs : List (Str × D)} : pIsX K (CE K) (.exv (He.ga K "InvalidRate") fs) (.ref (He.ga K "InvalidRules")) = some (.bl false) := Jab rfl (Jaa (c.fact 252 (f := JaK)) (by decide +kernel : _ ∈ JaJ)) (by simp [CE])
theorem JcX (c : SaysF fa fn K) {fs : List (Str × D)} : pIsX K (CE K) (.exv (He.ga K "InvalidRate") fs) (.ref (He.ga K "InvalidChanges")) = some (.bl false) := Jab rfl (Jaa (c.fact 252 (f := JaK)) (by decide +kernel : _ ∈ JaJ)) (by simp [CE])
theorem Jd1 (c : SaysF fa fn K) {fs : List (Str × D)} : pIsX K (CE K) (.exv (He.ga K "InvalidRate") fs) (.ref (He.ga K "InvalidWishes")) = some (.bl false) := Jab rfl (Jaa (c.fact 252 (f := JaK)) (by decide +kernel : _ ∈ JaJ)) (by simp [CE])
theorem Jkt (c : SaysF fa fn K) {fs : List (Str × D)} : pIsX K (CE K) (.exv (He.ga K "InvalidRate") fs) (.ref (He.ga K "WrongName")) = some (.bl false) := Jab rfl (Jaa (c.fact 252 (f := JaK)) (by decide +kernel : _ ∈ JaJ)) (by simp [CE])
theorem Jh3 (c : SaysF fa fn K) {fs : List (Str × D)} : pIsX K (CE K) (.exv (He.ga K "InvalidRate") fs) (.ref (He.ga K "UnknownName")) = some (.bl false) := Jab rfl (Jaa (c.fact 252 (f := JaK)) (by decide +kernel : _ ∈ JaJ)) (by simp [CE])
theorem JmI (c : SaysF fa fn K) {fs : List (Str × D)} : pIsX K (CE K) (.exv (He.ga K "InvalidRate") fs) (.ref (He.ga K "InUse")) = some (.bl false) := Jab rfl (Jaa (c.fact 252 (f := JaK)) (by decide +kernel : _ ∈ JaJ)) (by simp [CE])
theorem Jh4 (c : SaysF fa fn K) {fs : List (Str × D)} : pIsX K (CE K) (.exv (He.ga K "InvalidRate") fs) (.ref (He.ga K "NotPossible")) = some (.bl false) := Jab rfl (Jaa (c.fact 252 (f := JaK)) (by decide +kernel : _ ∈ JaJ)) (by simp [CE])
theorem Jku (c : SaysF fa fn K) {fs : List (Str × D)} : pIsX K (CE K) (.exv (He.ga K "InvalidRate") fs) (.ref (He.ga K "OtherDays")) = some (.bl false) := Jab rfl (Jaa (c.fact 252 (f := JaK)) (by decide +kernel : _ ∈ JaJ)) (by simp [CE])
theorem Jh5 (c : SaysF fa fn K) {fs : List (Str × D)} : pIsX K (CE K) (.exv (He.ga K "InvalidRate") fs) (.ref (He.ga K "OutOfBounds")) = some (.bl false) := Jab rfl (Jaa (c.fact 252 (f := JaK)) (by decide +kernel : _ ∈ JaJ)) (by simp [CE])
theorem Jd2 (c : SaysF fa fn K) {fs : List (Str × D)} : pIsX K (CE K) (.exv (He.ga K "InvalidRate") fs) (.ref (He.ga K "NothingToUndo")) = some (.bl false) := Jab rfl (Jaa (c.fact 252 (f := JaK)) (by decide +kernel : _ ∈ JaJ)) (by simp [CE])
theorem Jl7 (c : SaysF fa fn K) {fs : List (Str × D)} : pIsX K (CE K) (.exv (He.ga K "InvalidRate") fs) (.ref (He.ga K "Broken")) = some (.bl false) := Jab rfl (Jaa (c.fact 252 (f := JaK)) (by decide +kernel : _ ∈ JaJ)) (by simp [CE])
theorem JjT (c : SaysF fa fn K) {fs : List (Str × D)} : pIsX K (CE K) (.exv (He.ga K "InvalidRate") fs) (.ty "ValueError") = some (.bl true) := Jab rfl (Jao (c.fact 253 (f := JjB)) (by decide +kernel : _ ∈ JjA)) (by simp [CE])
theorem Jh6 (c : SaysF fa fn K) {fs : List (Str × D)} : pIsX K (CE K) (.exv (He.ga K "InvalidRate") fs) (.ty "LookupError") = some (.bl false) := Jab rfl (Jao (c.fact 253 (f := JjB)) (by decide +kernel : _ ∈ JjA)) (by simp [CE])
theorem Jck (c : SaysF fa fn K) {fs : List (Str × D)} : pIsX K (CE K) (.exv (He.ga K "InvalidRate") fs) (.ty "ArithmeticError") = some (.bl false) := Jab rfl (Jao (c.fact 253 (f := JjB)) (by decide +kernel : _ ∈ JjA)) (by simp [CE])
theorem JjU (c : SaysF fa fn K) {fs : List (Str × D)} : pIsX K (CE K) (.exv (He.ga K "InvalidText") fs) (.ref (He.ga K "WrongValue")) = some (.bl true) := Jab rfl (Jaa (c.fact 254 (f := JaM)) (by decide +kernel : _ ∈ JaL)) (by simp [CE])
theorem Jh7 (c : SaysF fa fn K) {fs : List (Str × D)} : pIsX K (CE K) (.exv (He.ga K "InvalidText") fs) (.ref (He.ga K "InvalidName")) = some (.bl false) := Jab rfl (Jaa (c.fact 254 (f := JaM)) (by decide +kernel : _ ∈ JaL)) (by simp [CE])
theorem Jh8 (c : SaysF fa fn K) {fs : List (Str × D)} : pIsX K (CE K) (.exv (He.ga K "InvalidText") fs) (.ref (He.ga K "InvalidMost")) = some (.bl false) := Jab rfl (Jaa (c.fact 254 (f := JaM)) (by decide +kernel : _ ∈ JaL)) (by simp [CE])
theorem Jh9 (c : SaysF fa fn K) {fs : List (Str × D)} : pIsX K (CE K) (.exv (He.ga K "InvalidText") fs) (.ref (He.ga K "InvalidKind")) = some (.bl false) := Jab rfl (Jaa (c.fact 254 (f := JaM)) (by decide +kernel : _ ∈ JaL)) (by simp [CE])
theorem Jd3 (c : SaysF fa fn K) {fs : List (Str × D)} : pIsX K (CE K) (.exv (He.ga K "InvalidText") fs) (.ref (He.ga K "InvalidNumber")) = some (.bl false) := Jab rfl (Jaa (c.fact 254 (f := JaM)) (by decide +kernel : _ ∈ JaL)) (by simp [CE])
theorem Jia (c : SaysF fa fn K) {fs : List (Str × D)} : pIsX K (CE K) (.exv (He.ga K "InvalidText") fs) (.ref (He.ga K "InvalidRate")) = some (.bl false) := Jab rfl (Jaa (c.fact 254 (f := JaM)) (by decide +kernel : _ ∈ JaL)) (by simp [CE])
theorem Jib (c : SaysF fa fn K) {fs : List (Str × D)} : pIsX K (CE K) (.exv (He.ga K "InvalidText") fs) (.ref (He.ga K "InvalidText")) = some (.bl true) := Jab rfl (Jaa (c.fact 254 (f := JaM)) (by decide +kernel : _ ∈ JaL)) (by simp [CE])
theorem JfU (c : SaysF fa fn K) {fs : List (Str × D)} : pIsX K (CE K) (.exv (He.ga K "InvalidText") fs) (.ref (He.ga K "InvalidSheet")) = some (.bl false) := Jab rfl (Jaa (c.fact 254 (f := JaM)) (by decide +kernel : _ ∈ JaL)) (by simp [CE])
theorem JfV (c : SaysF fa fn K) {fs : List (Str × D)} : pIsX K (CE K) (.exv (He.ga K "InvalidText") fs) (.ref (He.ga K "InvalidTotal")) = some (.bl false) := Jab rfl (Jaa (c.fact 254 (f := JaM)) (by decide +kernel : _ ∈ JaL)) (by simp [CE])
theorem JfW (c : SaysF fa fn K) {fs : List (Str × D)} : pIsX K (CE K) (.exv (He.ga K "InvalidText") fs) (.ref (He.ga K "InvalidHours")) = some (.bl false) := Jab rfl (Jaa (c.fact 254 (f := JaM)) (by decide +kernel : _ ∈ JaL)) (by simp [CE])
theorem Jic (c : SaysF fa fn K) {fs : List (Str × D)} : pIsX K (CE K) (.exv (He.ga K "InvalidText") fs) (.ref (He.ga K "InvalidWish")) = some (.bl false) := Jab rfl (Jaa (c.fact 254 (f := JaM)) (by decide +kernel : _ ∈ JaL)) (by simp [CE])
theorem JfX (c : SaysF fa fn K) {fs : List (Str × D)} : pIsX K (CE K) (.exv (He.ga K "InvalidText") fs) (.ref (He.ga K "InvalidIndex")) = some (.bl false) := Jab rfl (Jaa (c.fact 254 (f := JaM)) (by decide +kernel : _ ∈ JaL)) (by simp [CE])
theorem Jlq (c : SaysF fa fn K) {fs : List (Str × D)} : pIsX K (CE K) (.exv (He.ga K "InvalidText") fs) (.ref (He.ga K "NotPlan")) = some (.bl false) := Jab rfl (Jaa (c.fact 254 (f := JaM)) (by decide +kernel : _ ∈ JaL)) (by simp [CE])
theorem Jid (c : SaysF fa fn K) {fs : List (Str × D)} : pIsX K (CE K) (.exv (He.ga K "InvalidText") fs) (.ref (He.ga K "InvalidDays")) = some (.bl false) := Jab rfl (Jaa (c.fact 254 (f := JaM)) (by decide +kernel : _ ∈ JaL)) (by simp [CE])
theorem JfY (c : SaysF fa fn K) {fs : List (Str × D)} : pIsX K (CE K) (.exv (He.ga K "InvalidText") fs) (.ref (He.ga K "InvalidRules")) = some (.bl false) := Jab rfl (Jaa (c.fact 254 (f := JaM)) (by decide +kernel : _ ∈ JaL)) (by simp [CE])
theorem JcY (c : SaysF fa fn K) {fs : List (Str × D)} : pIsX K (CE K) (.exv (He.ga K "InvalidText") fs) (.ref (He.ga K "InvalidChanges")) = some (.bl false) := Jab rfl (Jaa (c.fact 254 (f := JaM)) (by decide +kernel : _ ∈ JaL)) (by simp [CE])
theorem Jd4 (c : SaysF fa fn K) {fs : List (Str × D)} : pIsX K (CE K) (.exv (He.ga K "InvalidText") fs) (.ref (He.ga K "InvalidWishes")) = some (.bl false) := Jab rfl (Jaa (c.fact 254 (f := JaM)) (by decide +kernel : _ ∈ JaL)) (by simp [CE])
theorem Jkv (c : SaysF fa fn K) {fs : List (Str × D)} : pIsX K (CE K) (.exv (He.ga K "InvalidText") fs) (.ref (He.ga K "WrongName")) = some (.bl false) := Jab rfl (Jaa (c.fact 254 (f := JaM)) (by decide +kernel : _ ∈ JaL)) (by simp [CE])
theorem Jie (c : SaysF fa fn K) {fs : List (Str × D)} : pIsX K (CE K) (.exv (He.ga K "InvalidText") fs) (.ref (He.ga K "UnknownName")) = some (.bl false) := Jab rfl (Jaa (c.fact 254 (f := JaM)) (by decide +kernel : _ ∈ JaL)) (by simp [CE])
theorem JmJ (c : SaysF fa fn K) {fs : List (Str × D)} : pIsX K (CE K) (.exv (He.ga K "InvalidText") fs) (.ref (He.ga K "InUse")) = some (.bl false) := Jab rfl (Jaa (c.fact 254 (f := JaM)) (by decide +kernel : _ ∈ JaL)) (by simp [CE])
theorem Jif (c : SaysF fa fn K) {fs : List (Str × D)} : pIsX K (CE K) (.exv (He.ga K "InvalidText") fs) (.ref (He.ga K "NotPossible")) = some (.bl false) := Jab rfl (Jaa (c.fact 254 (f := JaM)) (by decide +kernel : _ ∈ JaL)) (by simp [CE])
theorem Jkw (c : SaysF fa fn K) {fs : List (Str × D)} : pIsX K (CE K) (.exv (He.ga K "InvalidText") fs) (.ref (He.ga K "OtherDays")) = some (.bl false) := Jab rfl (Jaa (c.fact 254 (f := JaM)) (by decide +kernel : _ ∈ JaL)) (by simp [CE])
theorem Jig (c : SaysF fa fn K) {fs : List (Str × D)} : pIsX K (CE K) (.exv (He.ga K "InvalidText") fs) (.ref (He.ga K "OutOfBounds")) = some (.bl false) := Jab rfl (Jaa (c.fact 254 (f := JaM)) (by decide +kernel : _ ∈ JaL)) (by simp [CE])
theorem Jd5 (c : SaysF fa fn K) {fs : List (Str × D)} : pIsX K (CE K) (.exv (He.ga K "InvalidText") fs) (.ref (He.ga K "NothingToUndo")) = some (.bl false) := Jab rfl (Jaa (c.fact 254 (f := JaM)) (by decide +kernel : _ ∈ JaL)) (by simp [CE])
theorem Jl8 (c : SaysF fa fn K) {fs : List (Str × D)} : pIsX K (CE K) (.exv (He.ga K "InvalidText") fs) (.ref (He.ga K "Broken")) = some (.bl false) := Jab rfl (Jaa (c.fact 254 (f := JaM)) (by decide +kernel : _ ∈ JaL)) (by simp [CE])
theorem JjV (c : SaysF fa fn K) {fs : List (Str × D)} : pIsX K (CE K) (.exv (He.ga K "InvalidText") fs) (.ty "ValueError") = some (.bl true) := Jab rfl (Jao (c.fact 255 (f := JjD)) (by decide +kernel : _ ∈ JjC)) (by simp [CE])
theorem Jih (c : SaysF fa fn K) {fs : List (Str × D)} : pIsX K (CE K) (.exv (He.ga K "InvalidText") fs) (.ty "LookupError") = some (.bl false) := Jab rfl (Jao (c.fact 255 (f := JjD)) (by decide +kernel : _ ∈ JjC)) (by simp [CE])
theorem Jcl (c : SaysF fa fn K) {fs : List (Str × D)} : pIsX K (CE K) (.exv (He.ga K "InvalidText") fs) (.ty "ArithmeticError") = some (.bl false) := Jab rfl (Jao (c.fact 255 (f := JjD)) (by decide +kernel : _ ∈ JjC)) (by simp [CE])
theorem Jii (c : SaysF fa fn K) {fs : List (Str × D)} : pIsX K (CE K) (.exv (He.ga K "InvalidSheet") fs) (.ref (He.ga K "WrongValue")) = some (.bl true) := Jab rfl (Jaa (c.fact 256 (f := Jar)) (by decide +kernel : _ ∈ Jaq)) (by simp [CE])
theorem JfZ (c : SaysF fa fn K) {fs : List (Str × D)} : pIsX K (CE K) (.exv (He.ga K "InvalidSheet") fs) (.ref (He.ga K "InvalidName")) = some (.bl false) := Jab rfl (Jaa (c.fact 256 (f := Jar)) (by decide +kernel : _ ∈ Jaq)) (by simp [CE])
theorem Jf0 (c : SaysF fa fn K) {fs : List (Str × D)} : pIsX K (CE K) (.exv (He.ga K "InvalidSheet") fs) (.ref (He.ga K "InvalidMost")) = some (.bl false) := Jab rfl (Jaa (c.fact 256 (f := Jar)) (by decide +kernel : _ ∈ Jaq)) (by simp [CE])
theorem Jf1 (c : SaysF fa fn K) {fs : List (Str × D)} : pIsX K (CE K) (.exv (He.ga K "InvalidSheet") fs) (.ref (He.ga K "InvalidKind")) = some (.bl false) := Jab rfl (Jaa (c.fact 256 (f := Jar)) (by decide +kernel : _ ∈ Jaq)) (by simp [CE])
theorem JcZ (c : SaysF fa fn K) {fs : List (Str × D)} : pIsX K (CE K) (.exv (He.ga K "InvalidSheet") fs) (.ref (He.ga K "InvalidNumber")) = some (.bl false) := Jab rfl (Jaa (c.fact 256 (f := Jar)) (by decide +kernel : _ ∈ Jaq)) (by simp [CE])
theorem Jf2 (c : SaysF fa fn K) {fs : List (Str × D)} : pIsX K (CE K) (.exv (He.ga K "InvalidSheet") fs) (.ref (He.ga K "InvalidRate")) = some (.bl false) := Jab rfl (Jaa (c.fact 256 (f := Jar)) (by decide +kernel : _ ∈ Jaq)) (by simp [CE])
theorem Jf3 (c : SaysF fa fn K) {fs : List (Str × D)} : pIsX K (CE K) (.exv (He.ga K "InvalidSheet") fs) (.ref (He.ga K "InvalidText")) = some (.bl false) := Jab rfl (Jaa (c.fact 256 (f := Jar)) (by decide +kernel : _ ∈ Jaq)) (by simp [CE])
theorem Jd6 (c : SaysF fa fn K) {fs : List (Str × D)} : pIsX K (CE K) (.exv (He.ga K "InvalidSheet") fs) (.ref (He.ga K "InvalidSheet")) = some (.bl true) := Jab rfl (Jaa (c.fact 256 (f := Jar)) (by decide +kernel : _ ∈ Jaq)) (by simp [CE])
theorem Jd7 (c : SaysF fa fn K) {fs : List (Str × D)} : pIsX K (CE K) (.exv (He.ga K "InvalidSheet") fs) (.ref (He.ga K "InvalidTotal")) = some (.bl false) := Jab rfl (Jaa (c.fact 256 (f := Jar)) (by decide +kernel : _ ∈ Jaq)) (by simp [CE])
theorem Jd8 (c : SaysF fa fn K) {fs : List (Str × D)} : pIsX K (CE K) (.exv (He.ga K "InvalidSheet") fs) (.ref (He.ga K "InvalidHours")) = some (.bl false) := Jab rfl (Jaa (c.fact 256 (f := Jar)) (by decide +kernel : _ ∈ Jaq)) (by simp [CE])
theorem Jf4 (c : SaysF fa fn K) {fs : List (Str × D)} : pIsX K (CE K) (.exv (He.ga K "InvalidSheet") fs) (.ref (He.ga K "InvalidWish")) = some (.bl false) := Jab rfl (Jaa (c.fact 256 (f := Jar)) (by decide +kernel : _ ∈ Jaq)) (by simp [CE])
theorem Jd9 (c : SaysF fa fn K) {fs : List (Str × D)} : pIsX K (CE K) (.exv (He.ga K "InvalidSheet") fs) (.ref (He.ga K "InvalidIndex")) = some (.bl false) := Jab rfl (Jaa (c.fact 256 (f := Jar)) (by decide +kernel : _ ∈ Jaq)) (by simp [CE])
theorem Jk0 (c : SaysF fa fn K) {fs : List (Str × D)} : pIsX K (CE K) (.exv (He.ga K "InvalidSheet") fs) (.ref (He.ga K "NotPlan")) = some (.bl false) := Jab rfl (Jaa (c.fact 256 (f := Jar)) (by decide +kernel : _ ∈ Jaq)) (by simp [CE])
theorem Jf5 (c : SaysF fa fn K) {fs : List (Str × D)} : pIsX K (CE K) (.exv (He.ga K "InvalidSheet") fs) (.ref (He.ga K "InvalidDays")) = some (.bl false) := Jab rfl (Jaa (c.fact 256 (f := Jar)) (by decide +kernel : _ ∈ Jaq)) (by simp [CE])
theorem Jea (c : SaysF fa fn K) {fs : List (Str × D)} : pIsX K (CE K) (.exv (He.ga K "InvalidSheet") fs) (.ref (He.ga K "InvalidRules")) = some (.bl false) := Jab rfl (Jaa (c.fact 256 (f := Jar)) (by decide +kernel : _ ∈ Jaq)) (by simp [CE])
theorem Jcm (c : SaysF fa fn K) {fs : List (Str × D)} : pIsX K (CE K) (.exv (He.ga K "InvalidSheet") fs) (.ref (He.ga K "InvalidChanges")) = some (.bl false) := Jab rfl (Jaa (c.fact 256 (f := Jar)) (by decide +kernel : _ ∈ Jaq)) (by simp [CE])
theorem Jc0 (c : SaysF fa fn K) {fs : List (Str × D)} : pIsX K (CE K) (.exv (He.ga K "InvalidSheet") fs) (.ref (He.ga K "InvalidWishes")) = some (.bl false) := Jab rfl (Jaa (c.fact 256 (f := Jar)) (by decide +kernel : _ ∈ Jaq)) (by simp [CE])
theorem JjW (c : SaysF fa fn K) {fs : List (Str × D)} : pIsX K (CE K) (.exv (He.ga K "InvalidSheet") fs) (.ref (He.ga K "WrongName")) = some (.bl false) := Jab rfl (Jaa (c.fact 256 (f := Jar)) (by decide +kernel : _ ∈ Jaq)) (by simp [CE])
theorem Jf6 (c : SaysF fa fn K) {fs : List (Str × D)} : pIsX K (CE K) (.exv (He.ga K "InvalidSheet") fs) (.ref (He.ga K "UnknownName")) = some (.bl false) := Jab rfl (Jaa (c.fact 256 (f := Jar)) (by decide +kernel : _ ∈ Jaq)) (by simp [CE])
theorem Jl9 (c : SaysF fa fn K) {fs : List (Str × D)} : pIsX K (CE K) (.exv (He.ga K "InvalidSheet") fs) (.ref (He.ga K "InUse")) = some (.bl false) := Jab rfl (Jaa (c.fact 256 (f := Jar)) (by decide +kernel : _ ∈ Jaq)) (by simp [CE])
theorem Jf7 (c : SaysF fa fn K) {fs : List (Str × D)} : pIsX K (CE K) (.exv (He.ga K "InvalidSheet") fs) (.ref (He.ga K "NotPossible")) = some (.bl false) := Jab rfl (Jaa (c.fact 256 (f := Jar)) (by decide +kernel : _ ∈ Jaq)) (by simp [CE])
theorem JjX (c : SaysF fa fn K) {fs : List (Str × D)} : pIsX K (CE K) (.exv (He.ga K "InvalidSheet") fs) (.ref (He.ga K "OtherDays")) = some (.bl false) := Jab rfl (Jaa (c.fact 256 (f := Jar)) (by decide +kernel : _ ∈ Jaq)) (by simp [CE])
theorem Jf8 (c : SaysF fa fn K) {fs : List (Str × D)} : pIsX K (CE K) (.exv (He.ga K "InvalidSheet") fs) (.ref (He.ga K "OutOfBounds")) = some (.bl false) := Jab rfl (Jaa (c.fact 256 (f := Jar)) (by decide +kernel : _ ∈ Jaq)) (by simp [CE])
theorem Jc1 (c : SaysF fa fn K) {fs : List (Str × D)} : pIsX K (CE K) (.exv (He.ga K "InvalidSheet") fs) (.ref (He.ga K "NothingToUndo")) = some (.bl false) := Jab rfl (Jaa (c.fact 256 (f := Jar)) (by decide +kernel : _ ∈ Jaq)) (by simp [CE])
theorem Jlr (c : SaysF fa fn K) {fs : List (Str × D)} : pIsX K (CE K) (.exv (He.ga K "InvalidSheet") fs) (.ref (He.ga K "Broken")) = some (.bl false) := Jab rfl (Jaa (c.fact 256 (f := Jar)) (by decide +kernel : _ ∈ Jaq)) (by simp [CE])
theorem Jij (c : SaysF fa fn K) {fs : List (Str × D)} : pIsX K (CE K) (.exv (He.ga K "InvalidSheet") fs) (.ty "ValueError") = some (.bl true) := Jab rfl (Jao (c.fact 257 (f := Jfp)) (by decide +kernel : _ ∈ Jfo)) (by simp [CE])
theorem Jf9 (c : SaysF fa fn K) {fs : List (Str × D)} : pIsX K (CE K) (.exv (He.ga K "InvalidSheet") fs) (.ty "LookupError") = some (.bl false) := Jab rfl (Jao (c.fact 257 (f := Jfp)) (by decide +kernel : _ ∈ Jfo)) (by simp [CE])
theorem JbU (c : SaysF fa fn K) {fs : List (Str × D)} : pIsX K (CE K) (.exv (He.ga K "InvalidSheet") fs) (.ty "ArithmeticError") = some (.bl false) := Jab rfl (Jao (c.fact 257 (f := Jfp)) (by decide +kernel : _ ∈ Jfo)) (by simp [CE])
theorem Jik (c : SaysF fa fn K) {fs : List (Str × D)} : pIsX K (CE K) (.exv (He.ga K "InvalidTotal") fs) (.ref (He.ga K "WrongValue")) = some (.bl true) := Jab rfl (Jaa (c.fact 258 (f := Jat)) (by decide +kernel : _ ∈ Jas)) (by simp [CE])
theorem Jga (c : SaysF fa fn K) {fs : List (Str × D)} : pIsX K (CE K) (.exv (He.ga K "InvalidTotal") fs) (.ref (He.ga K "InvalidName")) = some (.bl false) := Jab rfl (Jaa (c.fact 258 (f := Jat)) (by decide +kernel : _ ∈ Jas)) (by simp [CE])
theorem Jgb (c : SaysF fa fn K) {fs : List (Str × D)} : pIsX K (CE K) (.exv (He.ga K "InvalidTotal") fs) (.ref (He.ga K "InvalidMost")) = some (.bl false) := Jab rfl (Jaa (c.fact 258 (f := Jat)) (by decide +kernel : _ ∈ Jas)) (by simp [CE])
theorem Jgc (c : SaysF fa fn K) {fs : List (Str × D)} : pIsX K (CE K) (.exv (He.ga K "InvalidTotal") fs) (.ref (He.ga K "InvalidKind")) = some (.bl false) := Jab rfl (Jaa (c.fact 258 (f := Jat)) (by decide +kernel : _ ∈ Jas)) (by simp [CE])
theorem Jc2 (c : SaysF fa fn K) {fs : List (Str × D)} : pIsX K (CE K) (.exv (He.ga K "InvalidTotal") fs) (.ref (He.ga K "InvalidNumber")) = some (.bl false) := Jab rfl (Jaa (c.fact 258 (f := Jat)) (by decide +kernel : _ ∈ Jas)) (by simp [CE])
theorem Jgd (c : SaysF fa fn K) {fs : List (Str × D)} : pIsX K (CE K) (.exv (He.ga K "InvalidTotal") fs) (.ref (He.ga K "InvalidRate")) = some (.bl false) := Jab rfl (Jaa (c.fact 258 (f := Jat)) (by decide +kernel : _ ∈ Jas)) (by simp [CE])
theorem Jge (c : SaysF fa fn K) {fs : List (Str × D)} : pIsX K (CE K) (.exv (He.ga K "InvalidTotal") fs) (.ref (He.ga K "InvalidText")) = some (.bl false) := Jab rfl (Jaa (c.fact 258 (f := Jat)) (by decide +kernel : _ ∈ Jas)) (by simp [CE])
theorem Jeb (c : SaysF fa fn K) {fs : List (Str × D)} : pIsX K (CE K) (.exv (He.ga K "InvalidTotal") fs) (.ref (He.ga K "InvalidSheet")) = some (.bl false) := Jab rfl (Jaa (c.fact 258 (f := Jat)) (by decide +kernel : _ ∈ Jas)) (by simp [CE])
theorem Jec (c : SaysF fa fn K) {fs : List (Str × D)} : pIsX K (CE K) (.exv (He.ga K "InvalidTotal") fs) (.ref (He.ga K "InvalidTotal")) = some (.bl true) := Jab rfl (Jaa (c.fact 258 (f := Jat)) (by decide +kernel : _ ∈ Jas)) (by simp [CE])
theorem Jed (c : SaysF fa fn K) {fs : List (Str × D)} : pIsX K (CE K) (.exv (He.ga K "InvalidTotal") fs) (.ref (He.ga K "InvalidHours")) = some (.bl false) := Jab rfl (Jaa (c.fact 258 (f := Jat)) (by decide +kernel : _ ∈ Jas)) (by simp [CE])
theorem Jgf (c : SaysF fa fn K) {fs : List (Str × D)} : pIsX K (CE K) (.exv (He.ga K "InvalidTotal") fs) (.ref (He.ga K "InvalidWish")) = some (.bl false) := Jab rfl (Jaa (c.fact 258 (f := Jat)) (by decide +kernel : _ ∈ Jas)) (by simp [CE])
theorem Jee (c : SaysF fa fn K) {fs : List (Str × D)} : pIsX K (CE K) (.exv (He.ga K "InvalidTotal") fs) (.ref (He.ga K "InvalidIndex")) = some (.bl false) := Jab rfl (Jaa (c.fact 258 (f := Jat)) (by decide +kernel : _ ∈ Jas)) (by simp [CE])
theorem Jk1 (c : SaysF fa fn K) {fs : List (Str × D)} : pIsX K (CE K) (.exv (He.ga K "InvalidTotal") fs) (.ref (He.ga K "NotPlan")) = some (.bl false) := Jab rfl (Jaa (c.fact 258 (f := Jat)) (by decide +kernel : _ ∈ Jas)) (by simp [CE])
theorem Jgg (c : SaysF fa fn K) {fs : List (Str × D)} : pIsX K (CE K) (.exv (He.ga K "InvalidTotal") fs) (.ref (He.ga K "InvalidDays")) = some (.bl false) := Jab rfl (Jaa (c.fact 258 (f := Jat)) (by decide +kernel : _ ∈ Jas)) (by simp [CE])
theorem Jef (c : SaysF fa fn K) {fs : List (Str × D)} : pIsX K (CE K) (.exv (He.ga K "InvalidTotal") fs) (.ref (He.ga K "InvalidRules")) = some (.bl false) := Jab rfl (Jaa (c.fact 258 (f := Jat)) (by decide +kernel : _ ∈ Jas)) (by simp [CE])
theorem Jcn (c : SaysF fa fn K) {fs : List (Str × D)} : pIsX K (CE K) (.exv (He.ga K "InvalidTotal") fs) (.ref (He.ga K "InvalidChanges")) = some (.bl false) := Jab rfl (Jaa (c.fact 258 (f := Jat)) (by decide +kernel : _ ∈ Jas)) (by simp [CE])
theorem Jc3 (c : SaysF fa fn K) {fs : List (Str × D)} : pIsX K (CE K) (.exv (He.ga K "InvalidTotal") fs) (.ref (He.ga K "InvalidWishes")) = some (.bl false) := Jab rfl (Jaa (c.fact 258 (f := Jat)) (by decide +kernel : _ ∈ Jas)) (by simp [CE])
theorem JjY (c : SaysF fa fn K) {fs : List (Str × D)} : pIsX K (CE K) (.exv (He.ga K "InvalidTotal") fs) (.ref (He.ga K "WrongName")) = some (.bl false) := Jab rfl (Jaa (c.fact 258 (f := Jat)) (by decide +kernel : _ ∈ Jas)) (by simp [CE])
theorem Jgh (c : SaysF fa fn K) {fs : List (Str × D)} : pIsX K (CE K) (.exv (He.ga K "InvalidTotal") fs) (.ref (He.ga K "UnknownName")) = some (.bl false) := Jab rfl (Jaa (c.fact 258 (f := Jat)) (by decide +kernel : _ ∈ Jas)) (by simp [CE])
theorem Jma (c : SaysF fa fn K) {fs : List (Str × D)} : pIsX K (CE K) (.exv (He.ga K "InvalidTotal") fs) (.ref (He.ga K "InUse")) = some (.bl false) := Jab rfl (Jaa (c.fact 258 (f := Jat)) (by decide +kernel : _ ∈ Jas)) (by simp [CE])
theorem Jgi (c : SaysF fa fn K) {fs : List (Str × D)} : pIsX K (CE K) (.exv (He.ga K "InvalidTotal") fs) (.ref (He.ga K "NotPossible")) = some (.bl false) := Jab rfl (Jaa (c.fact 258 (f := Jat)) (by decide +kernel : _ ∈ Jas)) (by simp [CE])
theorem JjZ (c : SaysF fa fn K) {fs : List (Str × D)} : pIsX K (CE K) (.exv (He.ga K "InvalidTotal") fs) (.ref (He.ga K "OtherDays")) = some (.bl false) := Jab rfl (Jaa (c.fact 258 (f := Jat)) (by decide +kernel : _ ∈ Jas)) (by simp [CE])
theorem Jgj (c : SaysF fa fn K) {fs : List (Str × D)} : pIsX K (CE K) (.exv (He.ga K "InvalidTotal") fs) (.ref (He.ga K "OutOfBounds")) = some (.bl false) := Jab rfl (Jaa (c.fact 258 (f := Jat)) (by decide +kernel : _ ∈ Jas)) (by simp [CE])
theorem Jc4 (c : SaysF fa fn K) {fs : List (Str × D)} : pIsX K (CE K) (.exv (He.ga K "InvalidTotal") fs) (.ref (He.ga K "NothingToUndo")) = some (.bl false) := Jab rfl (Jaa (c.fact 258 (f := Jat)) (by decide +kernel : _ ∈ Jas)) (by simp [CE])
theorem Jls (c : SaysF fa fn K) {fs : List (Str × D)} : pIsX K (CE K) (.exv (He.ga K "InvalidTotal") fs) (.ref (He.ga K "Broken")) = some (.bl false) := Jab rfl (Jaa (c.fact 258 (f := Jat)) (by decide +kernel : _ ∈ Jas)) (by simp [CE])
theorem Jil (c : SaysF fa fn K) {fs : List (Str × D)} : pIsX K (CE K) (.exv (He.ga K "InvalidTotal") fs) (.ty "ValueError") = some (.bl true) := Jab rfl (Jao (c.fact 259 (f := Jfr)) (by decide +kernel : _ ∈ Jfq)) (by simp [CE])
theorem Jgk (c : SaysF fa fn K) {fs : List (Str × D)} : pIsX K (CE K) (.exv (He.ga K "InvalidTotal") fs) (.ty "LookupError") = some (.bl false) := Jab rfl (Jao (c.fact 259 (f := Jfr)) (by decide +kernel : _ ∈ Jfq)) (by simp [CE])
theorem JbV (c : SaysF fa fn K) {fs : List (Str × D)} : pIsX K (CE K) (.exv (He.ga K "InvalidTotal") fs) (.ty "ArithmeticError") = some (.bl false) := Jab rfl (Jao (c.fact 259 (f := Jfr)) (by decide +kernel : _ ∈ Jfq)) (by simp [CE])
theorem Jim (c : SaysF fa fn K) {fs : List (Str × D)} : pIsX K (CE K) (.exv (He.ga K "InvalidHours") fs) (.ref (He.ga K "WrongValue")) = some (.bl true) := Jab rfl (Jaa (c.fact 260 (f := Jav)) (by decide +kernel : _ ∈ Jau)) (by simp [CE])
theorem Jgl (c : SaysF fa fn K) {fs : List (Str × D)} : pIsX K (CE K) (.exv (He.ga K "InvalidHours") fs) (.ref (He.ga K "InvalidName")) = some (.bl false) := Jab rfl (Jaa (c.fact 260 (f := Jav)) (by decide +kernel : _ ∈ Jau)) (by simp [CE])
theorem Jgm (c : SaysF fa fn K) {fs : List (Str × D)} : pIsX K (CE K) (.exv (He.ga K "InvalidHours") fs) (.ref (He.ga K "InvalidMost")) = some (.bl false) := Jab rfl (Jaa (c.fact 260 (f := Jav)) (by decide +kernel : _ ∈ Jau)) (by simp [CE])
theorem Jgn (c : SaysF fa fn K) {fs : List (Str × D)} : pIsX K (CE K) (.exv (He.ga K "InvalidHours") fs) (.ref (He.ga K "InvalidKind")) = some (.bl false) := Jab rfl (Jaa (c.fact 260 (f := Jav)) (by decide +kernel : _ ∈ Jau)) (by simp [CE])
theorem Jc5 (c : SaysF fa fn K) {fs : List (Str × D)} : pIsX K (CE K) (.exv (He.ga K "InvalidHours") fs) (.ref (He.ga K "InvalidNumber")) = some (.bl false) := Jab rfl (Jaa (c.fact 260 (f := Jav)) (by decide +kernel : _ ∈ Jau)) (by simp [CE])
theorem Jgo (c : SaysF fa fn K) {fs : List (Str × D)} : pIsX K (CE K) (.exv (He.ga K "InvalidHours") fs) (.ref (He.ga K "InvalidRate")) = some (.bl false) := Jab rfl (Jaa (c.fact 260 (f := Jav)) (by decide +kernel : _ ∈ Jau)) (by simp [CE])
theorem Jgp (c : SaysF fa fn K) {fs : List (Str × D)} : pIsX K (CE K) (.exv (He.ga K "InvalidHours") fs) (.ref (He.ga K "InvalidText")) = some (.bl false) := Jab rfl (Jaa (c.fact 260 (f := Jav)) (by decide +kernel : _ ∈ Jau)) (by simp [CE])
theorem Jeg (c : SaysF fa fn K) {fs : List (Str × D)} : pIsX K (CE K) (.exv (He.ga K "InvalidHours") fs) (.ref (He.ga K "InvalidSheet")) = some (.bl false) := Jab rfl (Jaa (c.fact 260 (f := Jav)) (by decide +kernel : _ ∈ Jau)) (by simp [CE])
theorem Jeh (c : SaysF fa fn K) {fs : List (Str × D)} : pIsX K (CE K) (.exv (He.ga K "InvalidHours") fs) (.ref (He.ga K "InvalidTotal")) = some (.bl false) := Jab rfl (Jaa (c.fact 260 (f := Jav)) (by decide +kernel : _ ∈ Jau)) (by simp [CE])
theorem Jei (c : SaysF fa fn K) {fs : List (Str × D)} : pIsX K (CE K) (.exv (He.ga K "InvalidHours") fs) (.ref (He.ga K "InvalidHours")) = some (.bl true) := Jab rfl (Jaa (c.fact 260 (f := Jav)) (by decide +kernel : _ ∈ Jau)) (by simp [CE])
theorem Jgq (c : SaysF fa fn K) {fs : List (Str × D)} : pIsX K (CE K) (.exv (He.ga K "InvalidHours") fs) (.ref (He.ga K "InvalidWish")) = some (.bl false) := Jab rfl (Jaa (c.fact 260 (f := Jav)) (by decide +kernel : _ ∈ Jau)) (by simp [CE])
theorem Jej (c : SaysF fa fn K) {fs : List (Str × D)} : pIsX K (CE K) (.exv (He.ga K "InvalidHours") fs) (.ref (He.ga K "InvalidIndex")) = some (.bl false) := Jab rfl (Jaa (c.fact 260 (f := Jav)) (by decide +kernel : _ ∈ Jau)) (by simp [CE])
theorem Jk2 (c : SaysF fa fn K) {fs : List (Str × D)} : pIsX K (CE K) (.exv (He.ga K "InvalidHours") fs) (.ref (He.ga K "NotPlan")) = some (.bl false) := Jab rfl (Jaa (c.fact 260 (f := Jav)) (by decide +kernel : _ ∈ Jau)) (by simp [CE])
theorem Jgr (c : SaysF fa fn K) {fs : List (Str × D)} : pIsX K (CE K) (.exv (He.ga K "InvalidHours") fs) (.ref (He.ga K "InvalidDays")) = some (.bl false) := Jab rfl (Jaa (c.fact 260 (f := Jav)) (by decide +kernel : _ ∈ Jau)) (by simp [CE])
theorem Jek (c : SaysF fa fn K) {fs : List (Str × D)} : pIsX K (CE K) (.exv (He.ga K "InvalidHours") fs) (.ref (He.ga K "InvalidRules")) = some (.bl false) := Jab rfl (Jaa (c.fact 260 (f := Jav)) (by decide +kernel : _ ∈ Jau)) (by simp [CE])
theorem Jco (c : SaysF fa fn K) {fs : List (Str × D)} : pIsX K (CE K) (.exv (He.ga K "InvalidHours") fs) (.ref (He.ga K "InvalidChanges")) = some (.bl false) := Jab rfl (Jaa (c.fact 260 (f := Jav)) (by decide +kernel : _ ∈ Jau)) (by simp [CE])
theorem Jc6 (c : SaysF fa fn K) {fs : List (Str × D)} : pIsX K (CE K) (.exv (He.ga K "InvalidHours") fs) (.ref (He.ga K "InvalidWishes")) = some (.bl false) := Jab rfl (Jaa (c.fact 260 (f := Jav)) (by decide +kernel : _ ∈ Jau)) (by simp [CE])
theorem Jj0 (c : SaysF fa fn K) {fs : List (Str × D)} : pIsX K (CE K) (.exv (He.ga K "InvalidHours") fs) (.ref (He.ga K "WrongName")) = some (.bl false) := Jab rfl (Jaa (c.fact 260 (f := Jav)) (by decide +kernel : _ ∈ Jau)) (by simp [CE])
theorem Jgs (c : SaysF fa fn K) {fs : List (Str × D)} : pIsX K (CE K) (.exv (He.ga K "InvalidHours") fs) (.ref (He.ga K "UnknownName")) = some (.bl false) := Jab rfl (Jaa (c.fact 260 (f := Jav)) (by decide +kernel : _ ∈ Jau)) (by simp [CE])
theorem Jmb (c : SaysF fa fn K) {fs : List (Str × D)} : pIsX K (CE K) (.exv (He.ga K "InvalidHours") fs) (.ref (He.ga K "InUse")) = some (.bl false) := Jab rfl (Jaa (c.fact 260 (f := Jav)) (by decide +kernel : _ ∈ Jau)) (by simp [CE])
theorem Jgt (c : SaysF fa fn K) {fs : List (Str × D)} : pIsX K (CE K) (.exv (He.ga K "InvalidHours") fs) (.ref (He.ga K "NotPossible")) = some (.bl false) := Jab rfl (Jaa (c.fact 260 (f := Jav)) (by decide +kernel : _ ∈ Jau)) (by simp [CE])
theorem Jj1 (c : SaysF fa fn K) {fs : List (Str × D)} : pIsX K (CE K) (.exv (He.ga K "InvalidHours") fs) (.ref (He.ga K "OtherDays")) = some (.bl false) := Jab rfl (Jaa (c.fact 260 (f := Jav)) (by decide +kernel : _ ∈ Jau)) (by simp [CE])
theorem Jgu (c : SaysF fa fn K) {fs : List (Str × D)} : pIsX K (CE K) (.exv (He.ga K "InvalidHours") fs) (.ref (He.ga K "OutOfBounds")) = some (.bl false) := Jab rfl (Jaa (c.fact 260 (f := Jav)) (by decide +kernel : _ ∈ Jau)) (by simp [CE])
theorem Jc7 (c : SaysF fa fn K) {fs : List (Str × D)} : pIsX K (CE K) (.exv (He.ga K "InvalidHours") fs) (.ref (He.ga K "NothingToUndo")) = some (.bl false) := Jab rfl (Jaa (c.fact 260 (f := Jav)) (by decide +kernel : _ ∈ Jau)) (by simp [CE])
theorem Jlt (c : SaysF fa fn K) {fs : List (Str × D)} : pIsX K (CE K) (.exv (He.ga K "InvalidHours") fs) (.ref (He.ga K "Broken")) = some (.bl false) := Jab rfl (Jaa (c.fact 260 (f := Jav)) (by decide +kernel : _ ∈ Jau)) (by simp [CE])
theorem Jin (c : SaysF fa fn K) {fs : List (Str × D)} : pIsX K (CE K) (.exv (He.ga K "InvalidHours") fs) (.ty "ValueError") = some (.bl true) := Jab rfl (Jao (c.fact 261 (f := Jft)) (by decide +kernel : _ ∈ Jfs)) (by simp [CE])
theorem Jgv (c : SaysF fa fn K) {fs : List (Str × D)} : pIsX K (CE K) (.exv (He.ga K "InvalidHours") fs) (.ty "LookupError") = some (.bl false) := Jab rfl (Jao (c.fact 261 (f := Jft)) (by decide +kernel : _ ∈ Jfs)) (by simp [CE])
theorem JbW (c : SaysF fa fn K) {fs : List (Str × D)} : pIsX K (CE K) (.exv (He.ga K "InvalidHours") fs) (.ty "ArithmeticError") = some (.bl false) := Jab rfl (Jao (c.fact 261 (f := Jft)) (by decide +kernel : _ ∈ Jfs)) (by simp [CE])
theorem Jj2 (c : SaysF fa fn K) {fs : List (Str × D)} : pIsX K (CE K) (.exv (He.ga K "InvalidWish") fs) (.ref (He.ga K "WrongValue")) = some (.bl true) := Jab rfl (Jaa (c.fact 262 (f := JaO)) (by decide +kernel : _ ∈ JaN)) (by simp [CE])
theorem Jio (c : SaysF fa fn K) {fs : List (Str × D)} : pIsX K (CE K) (.exv (He.ga K "InvalidWish") fs) (.ref (He.ga K "InvalidName")) = some (.bl false) := Jab rfl (Jaa (c.fact 262 (f := JaO)) (by decide +kernel : _ ∈ JaN)) (by simp [CE])
theorem Jip (c : SaysF fa fn K) {fs : List (Str × D)} : pIsX K (CE K) (.exv (He.ga K "InvalidWish") fs) (.ref (He.ga K "InvalidMost")) = some (.bl false) := Jab rfl (Jaa (c.fact 262 (f := JaO)) (by decide +kernel : _ ∈ JaN)) (by simp [CE])
theorem Jiq (c : SaysF fa fn K) {fs : List (Str × D)} : pIsX K (CE K) (.exv (He.ga K "InvalidWish") fs) (.ref (He.ga K "InvalidKind")) = some (.bl false) := Jab rfl (Jaa (c.fact 262 (f := JaO)) (by decide +kernel : _ ∈ JaN)) (by simp [CE])
theorem Jel (c : SaysF fa fn K) {fs : List (Str × D)} : pIsX K (CE K) (.exv (He.ga K "InvalidWish") fs) (.ref (He.ga K "InvalidNumber")) = some (.bl false) := Jab rfl (Jaa (c.fact 262 (f := JaO)) (by decide +kernel : _ ∈ JaN)) (by simp [CE])
theorem Jir (c : SaysF fa fn K) {fs : List (Str × D)} : pIsX K (CE K) (.exv (He.ga K "InvalidWish") fs) (.ref (He.ga K "InvalidRate")) = some (.bl false) := Jab rfl (Jaa (c.fact 262 (f := JaO)) (by decide +kernel : _ ∈ JaN)) (by simp [CE])
theorem Jis (c : SaysF fa fn K) {fs : List (Str × D)} : pIsX K (CE K) (.exv (He.ga K "InvalidWish") fs) (.ref (He.ga K "InvalidText")) = some (.bl false) := Jab rfl (Jaa (c.fact 262 (f := JaO)) (by decide +kernel : _ ∈ JaN)) (by simp [CE])
theorem Jgw (c : SaysF fa fn K) {fs : List (Str × D)} : pIsX K (CE K) (.exv (He.ga K "InvalidWish") fs) (.ref (He.ga K "InvalidSheet")) = some (.bl false) := Jab rfl (Jaa (c.fact 262 (f := JaO)) (by decide +kernel : _ ∈ JaN)) (by simp [CE])
theorem Jgx (c : SaysF fa fn K) {fs : List (Str × D)} : pIsX K (CE K) (.exv (He.ga K "InvalidWish") fs) (.ref (He.ga K "InvalidTotal")) = some (.bl false) := Jab rfl (Jaa (c.fact 262 (f := JaO)) (by decide +kernel : _ ∈ JaN)) (by simp [CE])
theorem Jgy (c : SaysF fa fn K) {fs : List (Str × D)} : pIsX K (CE K) (.exv (He.ga K "InvalidWish") fs) (.ref (He.ga K "InvalidHours")) = some (.bl false) := Jab rfl (Jaa (c.fact 262 (f := JaO)) (by decide +kernel : _ ∈ JaN)) (by simp [CE])
theorem Jit (c : SaysF fa fn K) {fs : List (Str × D)} : pIsX K (CE K) (.exv (He.ga K "InvalidWish") fs) (.ref (He.ga K "InvalidWish")) = some (.bl true) := Jab rfl (Jaa (c.fact 262 (f := JaO)) (by decide +kernel : _ ∈ JaN)) (by simp [CE])
theorem Jgz (c : SaysF fa fn K) {fs : List (Str × D)} : pIsX K (CE K) (.exv (He.ga K "InvalidWish") fs) (.ref (He.ga K "InvalidIndex")) = some (.bl false) := Jab rfl (Jaa (c.fact 262 (f := JaO)) (by decide +kernel : _ ∈ JaN)) (by simp [CE])
theorem Jlu (c : SaysF fa fn K) {fs : List (Str × D)} : pIsX K (CE K) (.exv (He.ga K "InvalidWish") fs) (.ref (He.ga K "NotPlan")) = some (.bl false) := Jab rfl (Jaa (c.fact 262 (f := JaO)) (by decide +kernel : _ ∈ JaN)) (by simp [CE])
theorem Jiu (c : SaysF fa fn K) {fs : List (Str × D)} : pIsX K (CE K) (.exv (He.ga K "InvalidWish") fs) (.ref (He.ga K "InvalidDays")) = some (.bl false) := Jab rfl (Jaa (c.fact 262 (f := JaO)) (by decide +kernel : _ ∈ JaN)) (by simp [CE])
theorem JgA (c : SaysF fa fn K) {fs : List (Str × D)} : pIsX K (CE K) (.exv (He.ga K "InvalidWish") fs) (.ref (He.ga K "InvalidRules")) = some (.bl false) := Jab rfl (Jaa (c.fact 262 (f := JaO)) (by decide +kernel : _ ∈ JaN)) (by simp [CE])
theorem Jc8 (c : SaysF fa fn K) {fs : List (Str × D)} : pIsX K (CE K) (.exv (He.ga K "InvalidWish") fs) (.ref (He.ga K "InvalidChanges")) = some (.bl false) := Jab rfl (Jaa (c.fact 262 (f := JaO)) (by decide +kernel : _ ∈ JaN)) (by simp [CE])
theorem Jem (c : SaysF fa fn K) {fs : List (Str × D)} : pIsX K (CE K) (.exv (He.ga K "InvalidWish") fs) (.ref (He.ga K "InvalidWishes")) = some (.bl false) := Jab rfl (Jaa (c.fact 262 (f := JaO)) (by decide +kernel : _ ∈ JaN)) (by simp [CE])
theorem Jkx (c : SaysF fa fn K) {fs : List (Str × D)} : pIsX K (CE K) (.exv (He.ga K "InvalidWish") fs) (.ref (He.ga K "WrongName")) = some (.bl false) := Jab rfl (Jaa (c.fact 262 (f := JaO)) (by decide +kernel : _ ∈ JaN)) (by simp [CE])
theorem Jiv (c : SaysF fa fn K) {fs : List (Str × D)} : pIsX K (CE K) (.exv (He.ga K "InvalidWish") fs) (.ref (He.ga K "UnknownName")) = some (.bl false) := Jab rfl (Jaa (c.fact 262 (f := JaO)) (by decide +kernel : _ ∈ JaN)) (by simp [CE])
theorem JmK (c : SaysF fa fn K) {fs : List (Str × D)} : pIsX K (CE K) (.exv (He.ga K "InvalidWish") fs) (.ref (He.ga K "InUse")) = some (.bl false) := Jab rfl (Jaa (c.fact 262 (f := JaO)) (by decide +kernel : _ ∈ JaN)) (by simp [CE])
theorem Jiw (c : SaysF fa fn K) {fs : List (Str × D)} : pIsX K (CE K) (.exv (He.ga K "InvalidWish") fs) (.ref (He.ga K "NotPossible")) = some (.bl false) := Jab rfl (Jaa (c.fact 262 (f := JaO)) (by decide +kernel : _ ∈ JaN)) (by simp [CE])
theorem Jky (c : SaysF fa fn K) {fs : List (Str × D)} : pIsX K (CE K) (.exv (He.ga K "InvalidWish") fs) (.ref (He.ga K "OtherDays")) = some (.bl false) := Jab rfl (Jaa (c.fact 262 (f := JaO)) (by decide +kernel : _ ∈ JaN)) (by simp [CE])
theorem Jix (c : SaysF fa fn K) {fs : List (Str × D)} : pIsX K (CE K) (.exv (He.ga K "InvalidWish") fs) (.ref (He.ga K "OutOfBounds")) = some (.bl false) := Jab rfl (Jaa (c.fact 262 (f := JaO)) (by decide +kernel : _ ∈ JaN)) (by simp [CE])
theorem Jen (c : SaysF fa fn K) {fs : List (Str × D)} : pIsX K (CE K) (.exv (He.ga K "InvalidWish") fs) (.ref (He.ga K "NothingToUndo")) = some (.bl false) := Jab rfl (Jaa (c.fact 262 (f := JaO)) (by decide +kernel : _ ∈ JaN)) (by simp [CE])
theorem Jmc (c : SaysF fa fn K) {fs : List (Str × D)} : pIsX K (CE K) (.exv (He.ga K "InvalidWish") fs) (.ref (He.ga K "Broken")) = some (.bl false) := Jab rfl (Jaa (c.fact 262 (f := JaO)) (by decide +kernel : _ ∈ JaN)) (by simp [CE])
theorem Jj3 (c : SaysF fa fn K) {fs : List (Str × D)} : pIsX K (CE K) (.exv (He.ga K "InvalidWish") fs) (.ty "ValueError") = some (.bl true) := Jab rfl (Jao (c.fact 263 (f := JjF)) (by decide +kernel : _ ∈ JjE)) (by simp [CE])
theorem Jiy (c : SaysF fa fn K) {fs : List (Str × D)} : pIsX K (CE K) (.exv (He.ga K "InvalidWish") fs) (.ty "LookupError") = some (.bl false) := Jab rfl (Jao (c.fact 263 (f := JjF)) (by decide +kernel : _ ∈ JjE)) (by simp [CE])
theorem Jcp (c : SaysF fa fn K) {fs : List (Str × D)} : pIsX K (CE K) (.exv (He.ga K "InvalidWish") fs) (.ty "ArithmeticError") = some (.bl false) := Jab rfl (Jao (c.fact 263 (f := JjF)) (by decide +kernel : _ ∈ JjE)) (by simp [CE])
theorem Jiz (c : SaysF fa fn K) {fs : List (Str × D)} : pIsX K (CE K) (.exv (He.ga K "InvalidIndex") fs) (.ref (He.ga K "WrongValue")) = some (.bl true) := Jab rfl (Jaa (c.fact 264 (f := Jax)) (by decide +kernel : _ ∈ Jaw)) (by simp [CE])
theorem JgB (c : SaysF fa fn K) {fs : List (Str × D)} : pIsX K (CE K) (.exv (He.ga K "InvalidIndex") fs) (.ref (He.ga K "InvalidName")) = some (.bl false) := Jab rfl (Jaa (c.fact 264 (f := Jax)) (by decide +kernel : _ ∈ Jaw)) (by simp [CE])
theorem JgC (c : SaysF fa fn K) {fs : List (Str × D)} : pIsX K (CE K) (.exv (He.ga K "InvalidIndex") fs) (.ref (He.ga K "InvalidMost")) = some (.bl false) := Jab rfl (Jaa (c.fact 264 (f := Jax)) (by decide +kernel : _ ∈ Jaw)) (by simp [CE])
theorem JgD (c : SaysF fa fn K) {fs : List (Str × D)} : pIsX K (CE K) (.exv (He.ga K "InvalidIndex") fs) (.ref (He.ga K "InvalidKind")) = some (.bl false) := Jab rfl (Jaa (c.fact 264 (f := Jax)) (by decide +kernel : _ ∈ Jaw)) (by simp [CE])
theorem Jc9 (c : SaysF fa fn K) {fs : List (Str × D)} : pIsX K (CE K) (.exv (He.ga K "InvalidIndex") fs) (.ref (He.ga K "InvalidNumber")) = some (.bl false) := Jab rfl (Jaa (c.fact 264 (f := Jax)) (by decide +kernel : _ ∈ Jaw)) (by simp [CE])
theorem JgE (c : SaysF fa fn K) {fs : List (Str × D)} : pIsX K (CE K) (.exv (He.ga K "InvalidIndex") fs) (.ref (He.ga K "InvalidRate")) = some (.bl false) := Jab rfl (Jaa (c.fact 264 (f := Jax)) (by decide +kernel : _ ∈ Jaw)) (by simp [CE])
theorem JgF (c : SaysF fa fn K) {fs : List (Str × D)} : pIsX K (CE K) (.exv (He.ga K "InvalidIndex") fs) (.ref (He.ga K "InvalidText")) = some (.bl false) := Jab rfl (Jaa (c.fact 264 (f := Jax)) (by decide +kernel : _ ∈ Jaw)) (by simp [CE])
theorem Jeo (c : SaysF fa fn K) {fs : List (Str × D)} : pIsX K (CE K) (.exv (He.ga K "InvalidIndex") fs) (.ref (He.ga K "InvalidSheet")) = some (.bl false) := Jab rfl (Jaa (c.fact 264 (f := Jax)) (by decide +kernel : _ ∈ Jaw)) (by simp [CE])
theorem Jep (c : SaysF fa fn K) {fs : List (Str × D)} : pIsX K (CE K) (.exv (He.ga K "InvalidIndex") fs) (.ref (He.ga K "InvalidTotal")) = some (.bl false) := Jab rfl (Jaa (c.fact 264 (f := Jax)) (by decide +kernel : _ ∈ Jaw)) (by simp [CE])
theorem Jeq (c : SaysF fa fn K) {fs : List (Str × D)} : pIsX K (CE K) (.exv (He.ga K "InvalidIndex") fs) (.ref (He.ga K "InvalidHours")) = some (.bl false) := Jab rfl (Jaa (c.fact 264 (f := Jax)) (by decide +kernel : _ ∈ Jaw)) (by simp [CE])
theorem JgG (c : SaysF fa fn K) {fs : List (Str × D)} : pIsX K (CE K) (.exv (He.ga K "InvalidIndex") fs) (.ref (He.ga K "InvalidWish")) = some (.bl false) := Jab rfl (Jaa (c.fact 264 (f := Jax)) (by decide +kernel : _ ∈ Jaw)) (by simp [CE])
theorem Jer (c : SaysF fa fn K) {fs : List (Str × D)} : pIsX K (CE K) (.exv (He.ga K "InvalidIndex") fs) (.ref (He.ga K "InvalidIndex")) = some (.bl true) := Jab rfl (Jaa (c.fact 264 (f := Jax)) (by decide +kernel : _ ∈ Jaw)) (by simp [CE])
theorem Jk3 (c : SaysF fa fn K) {fs : List (Str × D)} : pIsX K (CE K) (.exv (He.ga K "InvalidIndex") fs) (.ref (He.ga K "NotPlan")) = some (.bl false) := Jab rfl (Jaa (c.fact 264 (f := Jax)) (by decide +kernel : _ ∈ Jaw)) (by simp [CE])
theorem JgH (c : SaysF fa fn K) {fs : List (Str × D)} : pIsX K (CE K) (.exv (He.ga K "InvalidIndex") fs) (.ref (He.ga K "InvalidDays")) = some (.bl false) := Jab rfl (Jaa (c.fact 264 (f := Jax)) (by decide +kernel : _ ∈ Jaw)) (by simp [CE])
theorem Jes (c : SaysF fa fn K) {fs : List (Str × D)} : pIsX K (CE K) (.exv (He.ga K "InvalidIndex") fs) (.ref (He.ga K "InvalidRules")) = some (.bl false) := Jab rfl (Jaa (c.fact 264 (f := Jax)) (by decide +kernel : _ ∈ Jaw)) (by simp [CE])
theorem Jcq (c : SaysF fa fn K) {fs : List (Str × D)} : pIsX K (CE K) (.exv (He.ga K "InvalidIndex") fs) (.ref (He.ga K "InvalidChanges")) = some (.bl false) := Jab rfl (Jaa (c.fact 264 (f := Jax)) (by decide +kernel : _ ∈ Jaw)) (by simp [CE])
theorem Jda (c : SaysF fa fn K) {fs : List (Str × D)} : pIsX K (CE K) (.exv (He.ga K "InvalidIndex") fs) (.ref (He.ga K "InvalidWishes")) = some (.bl false) := Jab rfl (Jaa (c.fact 264 (f := Jax)) (by decide +kernel : _ ∈ Jaw)) (by simp [CE])
theorem Jj4 (c : SaysF fa fn K) {fs : List (Str × D)} : pIsX K (CE K) (.exv (He.ga K "InvalidIndex") fs) (.ref (He.ga K "WrongName")) = some (.bl false) := Jab rfl (Jaa (c.fact 264 (f := Jax)) (by decide +kernel : _ ∈ Jaw)) (by simp [CE])
theorem JgI (c : SaysF fa fn K) {fs : List (Str × D)} : pIsX K (CE K) (.exv (He.ga K "InvalidIndex") fs) (.ref (He.ga K "UnknownName")) = some (.bl false) := Jab rfl (Jaa (c.fact 264 (f := Jax)) (by decide +kernel : _ ∈ Jaw)) (by simp [CE])
theorem Jmd (c : SaysF fa fn K) {fs : List (Str × D)} : pIsX K (CE K) (.exv (He.ga K "InvalidIndex") fs) (.ref (He.ga K "InUse")) = some (.bl false) := Jab rfl (Jaa (c.fact 264 (f := Jax)) (by decide +kernel : _ ∈ Jaw)) (by simp [CE])
theorem JgJ (c : SaysF fa fn K) {fs : List (Str × D)} : pIsX K (CE K) (.exv (He.ga K "InvalidIndex") fs) (.ref (He.ga K "NotPossible")) = some (.bl false) := Jab rfl (Jaa (c.fact 264 (f := Jax)) (by decide +kernel : _ ∈ Jaw)) (by simp [CE])
theorem Jj5 (c : SaysF fa fn K) {fs : List (Str × D)} : pIsX K (CE K) (.exv (He.ga K "InvalidIndex") fs) (.ref (He.ga K "OtherDays")) = some (.bl false) := Jab rfl (Jaa (c.fact 264 (f := Jax)) (by decide +kernel : _ ∈ Jaw)) (by simp [CE])
theorem JgK (c : SaysF fa fn K) {fs : List (Str × D)} : pIsX K (CE K) (.exv (He.ga K "InvalidIndex") fs) (.ref (He.ga K "OutOfBounds")) = some (.bl false) := Jab rfl (Jaa (c.fact 264 (f := Jax)) (by decide +kernel : _ ∈ Jaw)) (by simp [CE])
theorem Jdb (c : SaysF fa fn K) {fs : List (Str × D)} : pIsX K (CE K) (.exv (He.ga K "InvalidIndex") fs) (.ref (He.ga K "NothingToUndo")) = some (.bl false) := Jab rfl (Jaa (c.fact 264 (f := Jax)) (by decide +kernel : _ ∈ Jaw)) (by simp [CE])
theorem Jlv (c : SaysF fa fn K) {fs : List (Str × D)} : pIsX K (CE K) (.exv (He.ga K "InvalidIndex") fs) (.ref (He.ga K "Broken")) = some (.bl false) := Jab rfl (Jaa (c.fact 264 (f := Jax)) (by decide +kernel : _ ∈ Jaw)) (by simp [CE])
theorem JiA (c : SaysF fa fn K) {fs : List (Str × D)} : pIsX K (CE K) (.exv (He.ga K "InvalidIndex") fs) (.ty "ValueError") = some (.bl true) := Jab rfl (Jao (c.fact 265 (f := Jfv)) (by decide +kernel : _ ∈ Jfu)) (by simp [CE])
theorem JgL (c : SaysF fa fn K) {fs : List (Str × D)} : pIsX K (CE K) (.exv (He.ga K "InvalidIndex") fs) (.ty "LookupError") = some (.bl false) := Jab rfl (Jao (c.fact 265 (f := Jfv)) (by decide +kernel : _ ∈ Jfu)) (by simp [CE])
theorem JbX (c : SaysF fa fn K) {fs : List (Str × D)} : pIsX K (CE K) (.exv (He.ga K "InvalidIndex") fs) (.ty "ArithmeticError") = some (.bl false) := Jab rfl (Jao (c.fact 265 (f := Jfv)) (by decide +kernel : _ ∈ Jfu)) (by simp [CE])
theorem Jme (c : SaysF fa fn K) {fs : List (Str × D)} : pIsX K (CE K) (.exv (He.ga K "NotPlan") fs) (.ref (He.ga K "WrongValue")) = some (.bl true) := Jab rfl (Jaa (c.fact 266 (f := Ja7)) (by decide +kernel : _ ∈ Ja6)) (by simp [CE])
theorem Jlw (c : SaysF fa fn K) {fs : List (Str × D)} : pIsX K (CE K) (.exv (He.ga K "NotPlan") fs) (.ref (He.ga K "InvalidName")) = some (.bl false) := Jab rfl (Jaa (c.fact 266 (f := Ja7)) (by decide +kernel : _ ∈ Ja6)) (by simp [CE])
theorem Jlx (c : SaysF fa fn K) {fs : List (Str × D)} : pIsX K (CE K) (.exv (He.ga K "NotPlan") fs) (.ref (He.ga K "InvalidMost")) = some (.bl false) := Jab rfl (Jaa (c.fact 266 (f := Ja7)) (by decide +kernel : _ ∈ Ja6)) (by simp [CE])
theorem Jly (c : SaysF fa fn K) {fs : List (Str × D)} : pIsX K (CE K) (.exv (He.ga K "NotPlan") fs) (.ref (He.ga K "InvalidKind")) = some (.bl false) := Jab rfl (Jaa (c.fact 266 (f := Ja7)) (by decide +kernel : _ ∈ Ja6)) (by simp [CE])
theorem Jkz (c : SaysF fa fn K) {fs : List (Str × D)} : pIsX K (CE K) (.exv (He.ga K "NotPlan") fs) (.ref (He.ga K "InvalidNumber")) = some (.bl false) := Jab rfl (Jaa (c.fact 266 (f := Ja7)) (by decide +kernel : _ ∈ Ja6)) (by simp [CE])
theorem Jlz (c : SaysF fa fn K) {fs : List (Str × D)} : pIsX K (CE K) (.exv (He.ga K "NotPlan") fs) (.ref (He.ga K "InvalidRate")) = some (.bl false) := Jab rfl (Jaa (c.fact 266 (f := Ja7)) (by decide +kernel : _ ∈ Ja6)) (by simp [CE])
theorem JlA (c : SaysF fa fn K) {fs : List (Str × D)} : pIsX K (CE K) (.exv (He.ga K "NotPlan") fs) (.ref (He.ga K "InvalidText")) = some (.bl false) := Jab rfl (Jaa (c.fact 266 (f := Ja7)) (by decide +kernel : _ ∈ Ja6)) (by simp [CE])
theorem Jk4 (c : SaysF fa fn K) {fs : List (Str × D)} : pIsX K (CE K) (.exv (He.ga K "NotPlan") fs) (.ref (He.ga K "InvalidSheet")) = some (.bl false) := Jab rfl (Jaa (c.fact 266 (f := Ja7)) (by decide +kernel : _ ∈ Ja6)) (by simp [CE])
theorem Jk5 (c : SaysF fa fn K) {fs : List (Str × D)} : pIsX K (CE K) (.exv (He.ga K "NotPlan") fs) (.ref (He.ga K "InvalidTotal")) = some (.bl false) := Jab rfl (Jaa (c.fact 266 (f := Ja7)) (by decide +kernel : _ ∈ Ja6)) (by simp [CE])
theorem Jk6 (c : SaysF fa fn K) {fs : List (Str × D)} : pIsX K (CE K) (.exv (He.ga K "NotPlan") fs) (.ref (He.ga K "InvalidHours")) = some (.bl false) := Jab rfl (Jaa (c.fact 266 (f := Ja7)) (by decide +kernel : _ ∈ Ja6)) (by simp [CE])
theorem JlB (c : SaysF fa fn K) {fs : List (Str × D)} : pIsX K (CE K) (.exv (He.ga K "NotPlan") fs) (.ref (He.ga K "InvalidWish")) = some (.bl false) := Jab rfl (Jaa (c.fact 266 (f := Ja7)) (by decide +kernel : _ ∈ Ja6)) (by simp [CE])
theorem Jk7 (c : SaysF fa fn K) {fs : List (Str × D)} : pIsX K (CE K) (.exv (He.ga K "NotPlan") fs) (.ref (He.ga K "InvalidIndex")) = some (.bl false) := Jab rfl (Jaa (c.fact 266 (f := Ja7)) (by decide +kernel : _ ∈ Ja6)) (by simp [CE])
theorem JnE (c : SaysF fa fn K) {fs : List (Str × D)} : pIsX K (CE K) (.exv (He.ga K "NotPlan") fs) (.ref (He.ga K "NotPlan")) = some (.bl true) := Jab rfl (Jaa (c.fact 266 (f := Ja7)) (by decide +kernel : _ ∈ Ja6)) (by simp [CE])
theorem JlC (c : SaysF fa fn K) {fs : List (Str × D)} : pIsX K (CE K) (.exv (He.ga K "NotPlan") fs) (.ref (He.ga K "InvalidDays")) = some (.bl false) := Jab rfl (Jaa (c.fact 266 (f := Ja7)) (by decide +kernel : _ ∈ Ja6)) (by simp [CE])
theorem Jk8 (c : SaysF fa fn K) {fs : List (Str × D)} : pIsX K (CE K) (.exv (He.ga K "NotPlan") fs) (.ref (He.ga K "InvalidRules")) = some (.bl false) := Jab rfl (Jaa (c.fact 266 (f := Ja7)) (by decide +kernel : _ ∈ Ja6)) (by simp [CE])
theorem Jj6 (c : SaysF fa fn K) {fs : List (Str × D)} : pIsX K (CE K) (.exv (He.ga K "NotPlan") fs) (.ref (He.ga K "InvalidChanges")) = some (.bl false) := Jab rfl (Jaa (c.fact 266 (f := Ja7)) (by decide +kernel : _ ∈ Ja6)) (by simp [CE])
theorem JkA (c : SaysF fa fn K) {fs : List (Str × D)} : pIsX K (CE K) (.exv (He.ga K "NotPlan") fs) (.ref (He.ga K "InvalidWishes")) = some (.bl false) := Jab rfl (Jaa (c.fact 266 (f := Ja7)) (by decide +kernel : _ ∈ Ja6)) (by simp [CE])
theorem JmL (c : SaysF fa fn K) {fs : List (Str × D)} : pIsX K (CE K) (.exv (He.ga K "NotPlan") fs) (.ref (He.ga K "WrongName")) = some (.bl false) := Jab rfl (Jaa (c.fact 266 (f := Ja7)) (by decide +kernel : _ ∈ Ja6)) (by simp [CE])
theorem JlD (c : SaysF fa fn K) {fs : List (Str × D)} : pIsX K (CE K) (.exv (He.ga K "NotPlan") fs) (.ref (He.ga K "UnknownName")) = some (.bl false) := Jab rfl (Jaa (c.fact 266 (f := Ja7)) (by decide +kernel : _ ∈ Ja6)) (by simp [CE])
theorem Jn6 (c : SaysF fa fn K) {fs : List (Str × D)} : pIsX K (CE K) (.exv (He.ga K "NotPlan") fs) (.ref (He.ga K "InUse")) = some (.bl false) := Jab rfl (Jaa (c.fact 266 (f := Ja7)) (by decide +kernel : _ ∈ Ja6)) (by simp [CE])
theorem JlE (c : SaysF fa fn K) {fs : List (Str × D)} : pIsX K (CE K) (.exv (He.ga K "NotPlan") fs) (.ref (He.ga K "NotPossible")) = some (.bl false) := Jab rfl (Jaa (c.fact 266 (f := Ja7)) (by decide +kernel : _ ∈ Ja6)) (by simp [CE])
theorem JmM (c : SaysF fa fn K) {fs : List (Str × D)} : pIsX K (CE K) (.exv (He.ga K "NotPlan") fs) (.ref (He.ga K "OtherDays")) = some (.bl false) := Jab rfl (Jaa (c.fact 266 (f := Ja7)) (by decide +kernel : _ ∈ Ja6)) (by simp [CE])
theorem JlF (c : SaysF fa fn K) {fs : List (Str × D)} : pIsX K (CE K) (.exv (He.ga K "NotPlan") fs) (.ref (He.ga K "OutOfBounds")) = some (.bl false) := Jab rfl (Jaa (c.fact 266 (f := Ja7)) (by decide +kernel : _ ∈ Ja6)) (by simp [CE])
theorem JkB (c : SaysF fa fn K) {fs : List (Str × D)} : pIsX K (CE K) (.exv (He.ga K "NotPlan") fs) (.ref (He.ga K "NothingToUndo")) = some (.bl false) := Jab rfl (Jaa (c.fact 266 (f := Ja7)) (by decide +kernel : _ ∈ Ja6)) (by simp [CE])
theorem JnT (c : SaysF fa fn K) {fs : List (Str × D)} : pIsX K (CE K) (.exv (He.ga K "NotPlan") fs) (.ref (He.ga K "Broken")) = some (.bl false) := Jab rfl (Jaa (c.fact 266 (f := Ja7)) (by decide +kernel : _ ∈ Ja6)) (by simp [CE])
theorem Jmf (c : SaysF fa fn K) {fs : List (Str × D)} : pIsX K (CE K) (.exv (He.ga K "NotPlan") fs) (.ty "ValueError") = some (.bl true) := Jab rfl (Jao (c.fact 267 (f := JnS)) (by decide +kernel : _ ∈ JnR)) (by simp [CE])
theorem JlG (c : SaysF fa fn K) {fs : List (Str × D)} : pIsX K (CE K) (.exv (He.ga K "NotPlan") fs) (.ty "LookupError") = some (.bl false) := Jab rfl (Jao (c.fact 267 (f := JnS)) (by decide +kernel : _ ∈ JnR)) (by simp [CE])
theorem JiB (c : SaysF fa fn K) {fs : List (Str × D)} : pIsX K (CE K) (.exv (He.ga K "NotPlan") fs) (.ty "ArithmeticError") = some (.bl false) := Jab rfl (Jao (c.fact 267 (f := JnS)) (by decide +kernel : _ ∈ JnR)) (by simp [CE])
theorem Jj7 (c : SaysF fa fn K) {fs : List (Str × D)} : pIsX K (CE K) (.exv (He.ga K "UnknownName") fs) (.ref (He.ga K "WrongValue")) = some (.bl false) := Jab rfl (Jaa (c.fact 268 (f := JaQ)) (by decide +kernel : _ ∈ JaP)) (by simp [CE])
theorem JiC (c : SaysF fa fn K) {fs : List (Str × D)} : pIsX K (CE K) (.exv (He.ga K "UnknownName") fs) (.ref (He.ga K "InvalidName")) = some (.bl false) := Jab rfl (Jaa (c.fact 268 (f := JaQ)) (by decide +kernel : _ ∈ JaP)) (by simp [CE])
theorem JiD (c : SaysF fa fn K) {fs : List (Str × D)} : pIsX K (CE K) (.exv (He.ga K "UnknownName") fs) (.ref (He.ga K "InvalidMost")) = some (.bl false) := Jab rfl (Jaa (c.fact 268 (f := JaQ)) (by decide +kernel : _ ∈ JaP)) (by simp [CE])
theorem JiE (c : SaysF fa fn K) {fs : List (Str × D)} : pIsX K (CE K) (.exv (He.ga K "UnknownName") fs) (.ref (He.ga K "InvalidKind")) = some (.bl false) := Jab rfl (Jaa (c.fact 268 (f := JaQ)) (by decide +kernel : _ ∈ JaP)) (by simp [CE])
theorem Jet (c : SaysF fa fn K) {fs : List (Str × D)} : pIsX K (CE K) (.exv (He.ga K "UnknownName") fs) (.ref (He.ga K "InvalidNumber")) = some (.bl false) := Jab rfl (Jaa (c.fact 268 (f := JaQ)) (by decide +kernel : _ ∈ JaP)) (by simp [CE])
theorem JiF (c : SaysF fa fn K) {fs : List (Str × D)} : pIsX K (CE K) (.exv (He.ga K "UnknownName") fs) (.ref (He.ga K "InvalidRate")) = some (.bl false) := Jab rfl (Jaa (c.fact 268 (f := JaQ)) (by decide +kernel : _ ∈ JaP)) (by simp [CE])
theorem JiG (c : SaysF fa fn K) {fs : List (Str × D)} : pIsX K (CE K) (.exv (He.ga K "UnknownName") fs) (.ref (He.ga K "InvalidText")) = some (.bl false) := Jab rfl (Jaa (c.fact 268 (f := JaQ)) (by decide +kernel : _ ∈ JaP)) (by simp [CE])
theorem JgM (c : SaysF fa fn K) {fs : List (Str × D)} : pIsX K (CE K) (.exv (He.ga K "UnknownName") fs) (.ref (He.ga K "InvalidSheet")) = some (.bl false) := Jab rfl (Jaa (c.fact 268 (f := JaQ)) (by decide +kernel : _ ∈ JaP)) (by simp [CE])
theorem JgN (c : SaysF fa fn K) {fs : List (Str × D)} : pIsX K (CE K) (.exv (He.ga K "UnknownName") fs) (.ref (He.ga K "InvalidTotal")) = some (.bl false) := Jab rfl (Jaa (c.fact 268 (f := JaQ)) (by decide +kernel : _ ∈ JaP)) (by simp [CE])
theorem JgO (c : SaysF fa fn K) {fs : List (Str × D)} : pIsX K (CE K) (.exv (He.ga K "UnknownName") fs) (.ref (He.ga K "InvalidHours")) = some (.bl false) := Jab rfl (Jaa (c.fact 268 (f := JaQ)) (by decide +kernel : _ ∈ JaP)) (by simp [CE])
theorem JiH (c : SaysF fa fn K) {fs : List (Str × D)} : pIsX K (CE K) (.exv (He.ga K "UnknownName") fs) (.ref (He.ga K "InvalidWish")) = some (.bl false) := Jab rfl (Jaa (c.fact 268 (f := JaQ)) (by decide +kernel : _ ∈ JaP)) (by simp [CE])
theorem JgP (c : SaysF fa fn K) {fs : List (Str × D)} : pIsX K (CE K) (.exv (He.ga K "UnknownName") fs) (.ref (He.ga K "InvalidIndex")) = some (.bl false) := Jab rfl (Jaa (c.fact 268 (f := JaQ)) (by decide +kernel : _ ∈ JaP)) (by simp [CE])
theorem JlH (c : SaysF fa fn K) {fs : List (Str × D)} : pIsX K (CE K) (.exv (He.ga K "UnknownName") fs) (.ref (He.ga K "NotPlan")) = some (.bl false) := Jab rfl (Jaa (c.fact 268 (f := JaQ)) (by decide +kernel : _ ∈ JaP)) (by simp [CE])
theorem JiI (c : SaysF fa fn K) {fs : List (Str × D)} : pIsX K (CE K) (.exv (He.ga K "UnknownName") fs) (.ref (He.ga K "InvalidDays")) = some (.bl false) := Jab rfl (Jaa (c.fact 268 (f := JaQ)) (by decide +kernel : _ ∈ JaP)) (by simp [CE])
theorem JgQ (c : SaysF fa fn K) {fs : List (Str × D)} : pIsX K (CE K) (.exv (He.ga K "UnknownName") fs) (.ref (He.ga K "InvalidRules")) = some (.bl false) := Jab rfl (Jaa (c.fact 268 (f := JaQ)) (by decide +kernel : _ ∈ JaP)) (by simp [CE])
theorem Jdc (c : SaysF fa fn K) {fs : List (Str × D)} : pIsX K (CE K) (.exv (He.ga K "UnknownName") fs) (.ref (He.ga K "InvalidChanges")) = some (.bl false) := Jab rfl (Jaa (c.fact 268 (f := JaQ)) (by decide +kernel : _ ∈ JaP)) (by simp [CE])
theorem Jeu (c : SaysF fa fn K) {fs : List (Str × D)} : pIsX K (CE K) (.exv (He.ga K "UnknownName") fs) (.ref (He.ga K "InvalidWishes")) = some (.bl false) := Jab rfl (Jaa (c.fact 268 (f := JaQ)) (by decide +kernel : _ ∈ JaP)) (by simp [CE])
theorem JkC (c : SaysF fa fn K) {fs : List (Str × D)} : pIsX K (CE K) (.exv (He.ga K "UnknownName") fs) (.ref (He.ga K "WrongName")) = some (.bl true) := Jab rfl (Jaa (c.fact 268 (f := JaQ)) (by decide +kernel : _ ∈ JaP)) (by simp [CE])
theorem JiJ (c : SaysF fa fn K) {fs : List (Str × D)} : pIsX K (CE K) (.exv (He.ga K "UnknownName") fs) (.ref (He.ga K "UnknownName")) = some (.bl true) := Jab rfl (Jaa (c.fact 268 (f := JaQ)) (by decide +kernel : _ ∈ JaP)) (by simp [CE])
theorem JmN (c : SaysF fa fn K) {fs : List (Str × D)} : pIsX K (CE K) (.exv (He.ga K "UnknownName") fs) (.ref (He.ga K "InUse")) = some (.bl false) := Jab rfl (Jaa (c.fact 268 (f := JaQ)) (by decide +kernel : _ ∈ JaP)) (by simp [CE])
theorem JiK (c : SaysF fa fn K) {fs : List (Str × D)} : pIsX K (CE K) (.exv (He.ga K "UnknownName") fs) (.ref (He.ga K "NotPossible")) = some (.bl false) := Jab rfl (Jaa (c.fact 268 (f := JaQ)) (by decide +kernel : _ ∈ JaP)) (by simp [CE])
theorem JkD (c : SaysF fa fn K) {fs : List (Str × D)} : pIsX K (CE K) (.exv (He.ga K "UnknownName") fs) (.ref (He.ga K "OtherDays")) = some (.bl false) := Jab rfl (Jaa (c.fact 268 (f := JaQ)) (by decide +kernel : _ ∈ JaP)) (by simp [CE])
theorem JiL (c : SaysF fa fn K) {fs : List (Str × D)} : pIsX K (CE K) (.exv (He.ga K "UnknownName") fs) (.ref (He.ga K "OutOfBounds")) = some (.bl false) := Jab rfl (Jaa (c.fact 268 (f := JaQ)) (by decide +kernel : _ ∈ JaP)) (by simp [CE])
theorem Jev (c : SaysF fa fn K) {fs : List (Str × D)} : pIsX K (CE K) (.exv (He.ga K "UnknownName") fs) (.ref (He.ga K "NothingToUndo")) = some (.bl false) := Jab rfl (Jaa (c.fact 268 (f := JaQ)) (by decide +kernel : _ ∈ JaP)) (by simp [CE])
theorem Jmg (c : SaysF fa fn K) {fs : List (Str × D)} : pIsX K (CE K) (.exv (He.ga K "UnknownName") fs) (.ref (He.ga K "Broken")) = some (.bl false) := Jab rfl (Jaa (c.fact 268 (f := JaQ)) (by decide +kernel : _ ∈ JaP)) (by simp [CE])
theorem Jj8 (c : SaysF fa fn K) {fs : List (Str × D)} : pIsX K (CE K) (.exv (He.ga K "UnknownName") fs) (.ty "ValueError") = some (.bl false) := Jab rfl (Jao (c.fact 269 (f := JjH)) (by decide +kernel : _ ∈ JjG)) (by simp [CE])
theorem JiM (c : SaysF fa fn K) {fs : List (Str × D)} : pIsX K (CE K) (.exv (He.ga K "UnknownName") fs) (.ty "LookupError") = some (.bl true) := Jab rfl (Jao (c.fact 269 (f := JjH)) (by decide +kernel : _ ∈ JjG)) (by simp [CE])
theorem Jcr (c : SaysF fa fn K) {fs : List (Str × D)} : pIsX K (CE K) (.exv (He.ga K "UnknownName") fs) (.ty "ArithmeticError") = some (.bl false) := Jab rfl (Jao (c.fact 269 (f := JjH)) (by decide +kernel : _ ∈ JjG)) (by simp [CE])
theorem Jk9 (c : SaysF fa fn K) {fs : List (Str × D)} : pIsX K (CE K) (.exv (He.ga K "OtherDays") fs) (.ref (He.ga K "WrongValue")) = some (.bl false) := Jab rfl (Jaa (c.fact 270 (f := Ja0)) (by decide +kernel : _ ∈ JaZ)) (by simp [CE])
theorem JkE (c : SaysF fa fn K) {fs : List (Str × D)} : pIsX K (CE K) (.exv (He.ga K "OtherDays") fs) (.ref (He.ga K "InvalidName")) = some (.bl false) := Jab rfl (Jaa (c.fact 270 (f := Ja0)) (by decide +kernel : _ ∈ JaZ)) (by simp [CE])
theorem JkF (c : SaysF fa fn K) {fs : List (Str × D)} : pIsX K (CE K) (.exv (He.ga K "OtherDays") fs) (.ref (He.ga K "InvalidMost")) = some (.bl false) := Jab rfl (Jaa (c.fact 270 (f := Ja0)) (by decide +kernel : _ ∈ JaZ)) (by simp [CE])
theorem JkG (c : SaysF fa fn K) {fs : List (Str × D)} : pIsX K (CE K) (.exv (He.ga K "OtherDays") fs) (.ref (He.ga K "InvalidKind")) = some (.bl false) := Jab rfl (Jaa (c.fact 270 (f := Ja0)) (by decide +kernel : _ ∈ JaZ)) (by simp [CE])
theorem JiN (c : SaysF fa fn K) {fs : List (Str × D)} : pIsX K (CE K) (.exv (He.ga K "OtherDays") fs) (.ref (He.ga K "InvalidNumber")) = some (.bl false) := Jab rfl (Jaa (c.fact 270 (f := Ja0)) (by decide +kernel : _ ∈ JaZ)) (by simp [CE])
theorem JkH (c : SaysF fa fn K) {fs : List (Str × D)} : pIsX K (CE K) (.exv (He.ga K "OtherDays") fs) (.ref (He.ga K "InvalidRate")) = some (.bl false) := Jab rfl (Jaa (c.fact 270 (f := Ja0)) (by decide +kernel : _ ∈ JaZ)) (by simp [CE])
theorem JkI (c : SaysF fa fn K) {fs : List (Str × D)} : pIsX K (CE K) (.exv (He.ga K "OtherDays") fs) (.ref (He.ga K "InvalidText")) = some (.bl false) := Jab rfl (Jaa (c.fact 270 (f := Ja0)) (by decide +kernel : _ ∈ JaZ)) (by simp [CE])
theorem Jj9 (c : SaysF fa fn K) {fs : List (Str × D)} : pIsX K (CE K) (.exv (He.ga K "OtherDays") fs) (.ref (He.ga K "InvalidSheet")) = some (.bl false) := Jab rfl (Jaa (c.fact 270 (f := Ja0)) (by decide +kernel : _ ∈ JaZ)) (by simp [CE])
theorem Jka (c : SaysF fa fn K) {fs : List (Str × D)} : pIsX K (CE K) (.exv (He.ga K "OtherDays") fs) (.ref (He.ga K "InvalidTotal")) = some (.bl false) := Jab rfl (Jaa (c.fact 270 (f := Ja0)) (by decide +kernel : _ ∈ JaZ)) (by simp [CE])
theorem Jkb (c : SaysF fa fn K) {fs : List (Str × D)} : pIsX K (CE K) (.exv (He.ga K "OtherDays") fs) (.ref (He.ga K "InvalidHours")) = some (.bl false) := Jab rfl (Jaa (c.fact 270 (f := Ja0)) (by decide +kernel : _ ∈ JaZ)) (by simp [CE])
theorem JkJ (c : SaysF fa fn K) {fs : List (Str × D)} : pIsX K (CE K) (.exv (He.ga K "OtherDays") fs) (.ref (He.ga K "InvalidWish")) = some (.bl false) := Jab rfl (Jaa (c.fact 270 (f := Ja0)) (by decide +kernel : _ ∈ JaZ)) (by simp [CE])
theorem Jkc (c : SaysF fa fn K) {fs : List (Str × D)} : pIsX K (CE K) (.exv (He.ga K "OtherDays") fs) (.ref (He.ga K "InvalidIndex")) = some (.bl false) := Jab rfl (Jaa (c.fact 270 (f := Ja0)) (by decide +kernel : _ ∈ JaZ)) (by simp [CE])
theorem JmO (c : SaysF fa fn K) {fs : List (Str × D)} : pIsX K (CE K) (.exv (He.ga K "OtherDays") fs) (.ref (He.ga K "NotPlan")) = some (.bl false) := Jab rfl (Jaa (c.fact 270 (f := Ja0)) (by decide +kernel : _ ∈ JaZ)) (by simp [CE])
theorem JkK (c : SaysF fa fn K) {fs : List (Str × D)} : pIsX K (CE K) (.exv (He.ga K "OtherDays") fs) (.ref (He.ga K "InvalidDays")) = some (.bl false) := Jab rfl (Jaa (c.fact 270 (f := Ja0)) (by decide +kernel : _ ∈ JaZ)) (by simp [CE])
theorem Jkd (c : SaysF fa fn K) {fs : List (Str × D)} : pIsX K (CE K) (.exv (He.ga K "OtherDays") fs) (.ref (He.ga K "InvalidRules")) = some (.bl false) := Jab rfl (Jaa (c.fact 270 (f := Ja0)) (by decide +kernel : _ ∈ JaZ)) (by simp [CE])
theorem JgR (c : SaysF fa fn K) {fs : List (Str × D)} : pIsX K (CE K) (.exv (He.ga K "OtherDays") fs) (.ref (He.ga K "InvalidChanges")) = some (.bl false) := Jab rfl (Jaa (c.fact 270 (f := Ja0)) (by decide +kernel : _ ∈ JaZ)) (by simp [CE])
theorem JiO (c : SaysF fa fn K) {fs : List (Str × D)} : pIsX K (CE K) (.exv (He.ga K "OtherDays") fs) (.ref (He.ga K "InvalidWishes")) = some (.bl false) := Jab rfl (Jaa (c.fact 270 (f := Ja0)) (by decide +kernel : _ ∈ JaZ)) (by simp [CE])
theorem JlI (c : SaysF fa fn K) {fs : List (Str × D)} : pIsX K (CE K) (.exv (He.ga K "OtherDays") fs) (.ref (He.ga K "WrongName")) = some (.bl false) := Jab rfl (Jaa (c.fact 270 (f := Ja0)) (by decide +kernel : _ ∈ JaZ)) (by simp [CE])
theorem JkL (c : SaysF fa fn K) {fs : List (Str × D)} : pIsX K (CE K) (.exv (He.ga K "OtherDays") fs) (.ref (He.ga K "UnknownName")) = some (.bl false) := Jab rfl (Jaa (c.fact 270 (f := Ja0)) (by decide +kernel : _ ∈ JaZ)) (by simp [CE])
theorem JnF (c : SaysF fa fn K) {fs : List (Str × D)} : pIsX K (CE K) (.exv (He.ga K "OtherDays") fs) (.ref (He.ga K "InUse")) = some (.bl false) := Jab rfl (Jaa (c.fact 270 (f := Ja0)) (by decide +kernel : _ ∈ JaZ)) (by simp [CE])
theorem JkM (c : SaysF fa fn K) {fs : List (Str × D)} : pIsX K (CE K) (.exv (He.ga K "OtherDays") fs) (.ref (He.ga K "NotPossible")) = some (.bl true) := Jab rfl (Jaa (c.fact 270 (f := Ja0)) (by decide +kernel : _ ∈ JaZ)) (by simp [CE])
theorem JlJ (c : SaysF fa fn K) {fs : List (Str × D)} : pIsX K (CE K) (.exv (He.ga K "OtherDays") fs) (.ref (He.ga K "OtherDays")) = some (.bl true) := Jab rfl (Jaa (c.fact 270 (f := Ja0)) (by decide +kernel : _ ∈ JaZ)) (by simp [CE])
theorem JkN (c : SaysF fa fn K) {fs : List (Str × D)} : pIsX K (CE K) (.exv (He.ga K "OtherDays") fs) (.ref (He.ga K "OutOfBounds")) = some (.bl false) := Jab rfl (Jaa (c.fact 270 (f := Ja0)) (by decide +kernel : _ ∈ JaZ)) (by simp [CE])
theorem JiP (c : SaysF fa fn K) {fs : List (Str × D)} : pIsX K (CE K) (.exv (He.ga K "OtherDays") fs) (.ref (He.ga K "NothingToUndo")) = some (.bl false) := Jab rfl (Jaa (c.fact 270 (f := Ja0)) (by decide +kernel : _ ∈ JaZ)) (by simp [CE])
theorem Jnh (c : SaysF fa fn K) {fs : List (Str × D)} : pIsX K (CE K) (.exv (He.ga K "OtherDays") fs) (.ref (He.ga K "Broken")) = some (.bl false) := Jab rfl (Jaa (c.fact 270 (f := Ja0)) (by decide +kernel : _ ∈ JaZ)) (by simp [CE])
theorem Jla (c : SaysF fa fn K) {fs : List (Str × D)} : pIsX K (CE K) (.exv (He.ga K "OtherDays") fs) (.ty "ValueError") = some (.bl false) := Jab rfl (Jao (c.fact 271 (f := Jl3)) (by decide +kernel : _ ∈ Jl2)) (by simp [CE])
theorem JkO (c : SaysF fa fn K) {fs : List (Str × D)} : pIsX K (CE K) (.exv (He.ga K "OtherDays") fs) (.ty "LookupError") = some (.bl false) := Jab rfl (Jao (c.fact 271 (f := Jl3)) (by decide +kernel : _ ∈ Jl2)) (by simp [CE])
theorem Jew (c : SaysF fa fn K) {fs : List (Str × D)} : pIsX K (CE K) (.exv (He.ga K "OtherDays") fs) (.ty "ArithmeticError") = some (.bl true) := Jab rfl (Jao (c.fact 271 (f := Jl3)) (by decide +kernel : _ ∈ Jl2)) (by simp [CE])
theorem Jke (c : SaysF fa fn K) {fs : List (Str × D)} : pIsX K (CE K) (.exv (He.ga K "OutOfBounds") fs) (.ref (He.ga K "WrongValue")) = some (.bl false) := Jab rfl (Jaa (c.fact 272 (f := JaS)) (by decide +kernel : _ ∈ JaR)) (by simp [CE])
theorem JiQ (c : SaysF fa fn K) {fs : List (Str × D)} : pIsX K (CE K) (.exv (He.ga K "OutOfBounds") fs) (.ref (He.ga K "InvalidName")) = some (.bl false) := Jab rfl (Jaa (c.fact 272 (f := JaS)) (by decide +kernel : _ ∈ JaR)) (by simp [CE])
theorem JiR (c : SaysF fa fn K) {fs : List (Str × D)} : pIsX K (CE K) (.exv (He.ga K "OutOfBounds") fs) (.ref (He.ga K "InvalidMost")) = some (.bl false) := Jab rfl (Jaa (c.fact 272 (f := JaS)) (by decide +kernel : _ ∈ JaR)) (by simp [CE])
theorem JiS (c : SaysF fa fn K) {fs : List (Str × D)} : pIsX K (CE K) (.exv (He.ga K "OutOfBounds") fs) (.ref (He.ga K "InvalidKind")) = some (.bl false) := Jab rfl (Jaa (c.fact 272 (f := JaS)) (by decide +kernel : _ ∈ JaR)) (by simp [CE])
theorem Jex (c : SaysF fa fn K) {fs : List (Str × D)} : pIsX K (CE K) (.exv (He.ga K "OutOfBounds") fs) (.ref (He.ga K "InvalidNumber")) = some (.bl false) := Jab rfl (Jaa (c.fact 272 (f := JaS)) (by decide +kernel : _ ∈ JaR)) (by simp [CE])
theorem JiT (c : SaysF fa fn K) {fs : List (Str × D)} : pIsX K (CE K) (.exv (He.ga K "OutOfBounds") fs) (.ref (He.ga K "InvalidRate")) = some (.bl false) := Jab rfl (Jaa (c.fact 272 (f := JaS)) (by decide +kernel : _ ∈ JaR)) (by simp [CE])
theorem JiU (c : SaysF fa fn K) {fs : List (Str × D)} : pIsX K (CE K) (.exv (He.ga K "OutOfBounds") fs) (.ref (He.ga K "InvalidText")) = some (.bl false) := Jab rfl (Jaa (c.fact 272 (f := JaS)) (by decide +kernel : _ ∈ JaR)) (by simp [CE])
theorem JgS (c : SaysF fa fn K) {fs : List (Str × D)} : pIsX K (CE K) (.exv (He.ga K "OutOfBounds") fs) (.ref (He.ga K "InvalidSheet")) = some (.bl false) := Jab rfl (Jaa (c.fact 272 (f := JaS)) (by decide +kernel : _ ∈ JaR)) (by simp [CE])
theorem JgT (c : SaysF fa fn K) {fs : List (Str × D)} : pIsX K (CE K) (.exv (He.ga K "OutOfBounds") fs) (.ref (He.ga K "InvalidTotal")) = some (.bl false) := Jab rfl (Jaa (c.fact 272 (f := JaS)) (by decide +kernel : _ ∈ JaR)) (by simp [CE])
theorem JgU (c : SaysF fa fn K) {fs : List (Str × D)} : pIsX K (CE K) (.exv (He.ga K "OutOfBounds") fs) (.ref (He.ga K "InvalidHours")) = some (.bl false) := Jab rfl (Jaa (c.fact 272 (f := JaS)) (by decide +kernel : _ ∈ JaR)) (by simp [CE])
theorem JiV (c : SaysF fa fn K) {fs : List (Str × D)} : pIsX K (CE K) (.exv (He.ga K "OutOfBounds") fs) (.ref (He.ga K "InvalidWish")) = some (.bl false) := Jab rfl (Jaa (c.fact 272 (f := JaS)) (by decide +kernel : _ ∈ JaR)) (by simp [CE])
theorem JgV (c : SaysF fa fn K) {fs : List (Str × D)} : pIsX K (CE K) (.exv (He.ga K "OutOfBounds") fs) (.ref (He.ga K "InvalidIndex")) = some (.bl false) := Jab rfl (Jaa (c.fact 272 (f := JaS)) (by decide +kernel : _ ∈ JaR)) (by simp [CE])
theorem JlK (c : SaysF fa fn K) {fs : List (Str × D)} : pIsX K (CE K) (.exv (He.ga K "OutOfBounds") fs) (.ref (He.ga K "NotPlan")) = some (.bl false) := Jab rfl (Jaa (c.fact 272 (f := JaS)) (by decide +kernel : _ ∈ JaR)) (by simp [CE])
theorem JiW (c : SaysF fa fn K) {fs : List (Str × D)} : pIsX K (CE K) (.exv (He.ga K "OutOfBounds") fs) (.ref (He.ga K "InvalidDays")) = some (.bl false) := Jab rfl (Jaa (c.fact 272 (f := JaS)) (by decide +kernel : _ ∈ JaR)) (by simp [CE])
theorem JgW (c : SaysF fa fn K) {fs : List (Str × D)} : pIsX K (CE K) (.exv (He.ga K "OutOfBounds") fs) (.ref (He.ga K "InvalidRules")) = some (.bl false) := Jab rfl (Jaa (c.fact 272 (f := JaS)) (by decide +kernel : _ ∈ JaR)) (by simp [CE])
theorem Jdd (c : SaysF fa fn K) {fs : List (Str × D)} : pIsX K (CE K) (.exv (He.ga K "OutOfBounds") fs) (.ref (He.ga K "InvalidChanges")) = some (.bl false) := Jab rfl (Jaa (c.fact 272 (f := JaS)) (by decide +kernel : _ ∈ JaR)) (by simp [CE])
theorem Jey (c : SaysF fa fn K) {fs : List (Str × D)} : pIsX K (CE K) (.exv (He.ga K "OutOfBounds") fs) (.ref (He.ga K "InvalidWishes")) = some (.bl false) := Jab rfl (Jaa (c.fact 272 (f := JaS)) (by decide +kernel : _ ∈ JaR)) (by simp [CE])
theorem JkP (c : SaysF fa fn K) {fs : List (Str × D)} : pIsX K (CE K) (.exv (He.ga K "OutOfBounds") fs) (.ref (He.ga K "WrongName")) = some (.bl false) := Jab rfl (Jaa (c.fact 272 (f := JaS)) (by decide +kernel : _ ∈ JaR)) (by simp [CE])
theorem JiX (c : SaysF fa fn K) {fs : List (Str × D)} : pIsX K (CE K) (.exv (He.ga K "OutOfBounds") fs) (.ref (He.ga K "UnknownName")) = some (.bl false) := Jab rfl (Jaa (c.fact 272 (f := JaS)) (by decide +kernel : _ ∈ JaR)) (by simp [CE])
theorem JmP (c : SaysF fa fn K) {fs : List (Str × D)} : pIsX K (CE K) (.exv (He.ga K "OutOfBounds") fs) (.ref (He.ga K "InUse")) = some (.bl false) := Jab rfl (Jaa (c.fact 272 (f := JaS)) (by decide +kernel : _ ∈ JaR)) (by simp [CE])
theorem JiY (c : SaysF fa fn K) {fs : List (Str × D)} : pIsX K (CE K) (.exv (He.ga K "OutOfBounds") fs) (.ref (He.ga K "NotPossible")) = some (.bl true) := Jab rfl (Jaa (c.fact 272 (f := JaS)) (by decide +kernel : _ ∈ JaR)) (by simp [CE])
theorem JkQ (c : SaysF fa fn K) {fs : List (Str × D)} : pIsX K (CE K) (.exv (He.ga K "OutOfBounds") fs) (.ref (He.ga K "OtherDays")) = some (.bl false) := Jab rfl (Jaa (c.fact 272 (f := JaS)) (by decide +kernel : _ ∈ JaR)) (by simp [CE])
theorem JiZ (c : SaysF fa fn K) {fs : List (Str × D)} : pIsX K (CE K) (.exv (He.ga K "OutOfBounds") fs) (.ref (He.ga K "OutOfBounds")) = some (.bl true) := Jab rfl (Jaa (c.fact 272 (f := JaS)) (by decide +kernel : _ ∈ JaR)) (by simp [CE])
theorem Jez (c : SaysF fa fn K) {fs : List (Str × D)} : pIsX K (CE K) (.exv (He.ga K "OutOfBounds") fs) (.ref (He.ga K "NothingToUndo")) = some (.bl false) := Jab rfl (Jaa (c.fact 272 (f := JaS)) (by decide +kernel : _ ∈ JaR)) (by simp [CE])
theorem Jmh (c : SaysF fa fn K) {fs : List (Str × D)} : pIsX K (CE K) (.exv (He.ga K "OutOfBounds") fs) (.ref (He.ga K "Broken")) = some (.bl false) := Jab rfl (Jaa (c.fact 272 (f := JaS)) (by decide +kernel : _ ∈ JaR)) (by simp [CE])
theorem Jkf (c : SaysF fa fn K) {fs : List (Str × D)} : pIsX K (CE K) (.exv (He.ga K "OutOfBounds") fs) (.ty "ValueError") = some (.bl false) := Jab rfl (Jao (c.fact 273 (f := JjJ)) (by decide +kernel : _ ∈ JjI)) (by simp [CE])
theorem Ji0 (c : SaysF fa fn K) {fs : List (Str × D)} : pIsX K (CE K) (.exv (He.ga K "OutOfBounds") fs) (.ty "LookupError") = some (.bl false) := Jab rfl (Jao (c.fact 273 (f := JjJ)) (by decide +kernel : _ ∈ JjI)) (by simp [CE])
theorem Jcs (c : SaysF fa fn K) {fs : List (Str × D)} : pIsX K (CE K) (.exv (He.ga K "OutOfBounds") fs) (.ty "ArithmeticError") = some (.bl true) := Jab rfl (Jao (c.fact 273 (f := JjJ)) (by decide +kernel : _ ∈ JjI)) (by simp [CE])
theorem Jkg (c : SaysF fa fn K) {fs : List (Str × D)} : pIsX K (CE K) (.exv (He.ga K "InvalidDays") fs) (.ref (He.ga K "WrongValue")) = some (.bl true) := Jab rfl (Jaa (c.fact 274 (f := JaU)) (by decide +kernel : _ ∈ JaT)) (by simp [CE])
theorem Ji1 (c : SaysF fa fn K) {fs : List (Str × D)} : pIsX K (CE K) (.exv (He.ga K "InvalidDays") fs) (.ref (He.ga K "InvalidName")) = some (.bl false) := Jab rfl (Jaa (c.fact 274 (f := JaU)) (by decide +kernel : _ ∈ JaT)) (by simp [CE])
theorem Ji2 (c : SaysF fa fn K) {fs : List (Str × D)} : pIsX K (CE K) (.exv (He.ga K "InvalidDays") fs) (.ref (He.ga K "InvalidMost")) = some (.bl false) := Jab rfl (Jaa (c.fact 274 (f := JaU)) (by decide +kernel : _ ∈ JaT)) (by simp [CE])
theorem Ji3 (c : SaysF fa fn K) {fs : List (Str × D)} : pIsX K (CE K) (.exv (He.ga K "InvalidDays") fs) (.ref (He.ga K "InvalidKind")) = some (.bl false) := Jab rfl (Jaa (c.fact 274 (f := JaU)) (by decide +kernel : _ ∈ JaT)) (by simp [CE])
theorem JeA (c : SaysF fa fn K) {fs : List (Str × D)} : pIsX K (CE K) (.exv (He.ga K "InvalidDays") fs) (.ref (He.ga K "InvalidNumber")) = some (.bl false) := Jab rfl (Jaa (c.fact 274 (f := JaU)) (by decide +kernel : _ ∈ JaT)) (by simp [CE])
theorem Ji4 (c : SaysF fa fn K) {fs : List (Str × D)} : pIsX K (CE K) (.exv (He.ga K "InvalidDays") fs) (.ref (He.ga K "InvalidRate")) = some (.bl false) := Jab rfl (Jaa (c.fact 274 (f := JaU)) (by decide +kernel : _ ∈ JaT)) (by simp [CE])
theorem Ji5 (c : SaysF fa fn K) {fs : List (Str × D)} : pIsX K (CE K) (.exv (He.ga K "InvalidDays") fs) (.ref (He.ga K "InvalidText")) = some (.bl false) := Jab rfl (Jaa (c.fact 274 (f := JaU)) (by decide +kernel : _ ∈ JaT)) (by simp [CE])
theorem JgX (c : SaysF fa fn K) {fs : List (Str × D)} : pIsX K (CE K) (.exv (He.ga K "InvalidDays") fs) (.ref (He.ga K "InvalidSheet")) = some (.bl false) := Jab rfl (Jaa (c.fact 274 (f := JaU)) (by decide +kernel : _ ∈ JaT)) (by simp [CE])
theorem JgY (c : SaysF fa fn K) {fs : List (Str × D)} : pIsX K (CE K) (.exv (He.ga K "InvalidDays") fs) (.ref (He.ga K "InvalidTotal")) = some (.bl false) := Jab rfl (Jaa (c.fact 274 (f := JaU)) (by decide +kernel : _ ∈ JaT)) (by simp [CE])
theorem JgZ (c : SaysF fa fn K) {fs : List (Str × D)} : pIsX K (CE K) (.exv (He.ga K "InvalidDays") fs) (.ref (He.ga K "InvalidHours")) = some (.bl false) := Jab rfl (Jaa (c.fact 274 (f := JaU)) (by decide +kernel : _ ∈ JaT)) (by simp [CE])
theorem Ji6 (c : SaysF fa fn K) {fs : List (Str × D)} : pIsX K (CE K) (.exv (He.ga K "InvalidDays") fs) (.ref (He.ga K "InvalidWish")) = some (.bl false) := Jab rfl (Jaa (c.fact 274 (f := JaU)) (by decide +kernel : _ ∈ JaT)) (by simp [CE])
theorem Jg0 (c : SaysF fa fn K) {fs : List (Str × D)} : pIsX K (CE K) (.exv (He.ga K "InvalidDays") fs) (.ref (He.ga K "InvalidIndex")) = some (.bl false) := Jab rfl (Jaa (c.fact 274 (f := JaU)) (by decide +kernel : _ ∈ JaT)) (by simp [CE])
theorem JlL (c : SaysF fa fn K) {fs : List (Str × D)} : pIsX K (CE K) (.exv (He.ga K "InvalidDays") fs) (.ref (He.ga K "NotPlan")) = some (.bl false) := Jab rfl (Jaa (c.fact 274 (f := JaU)) (by decide +kernel : _ ∈ JaT)) (by simp [CE])
theorem Ji7 (c : SaysF fa fn K) {fs : List (Str × D)} : pIsX K (CE K) (.exv (He.ga K "InvalidDays") fs) (.ref (He.ga K "InvalidDays")) = some (.bl true) := Jab rfl (Jaa (c.fact 274 (f := JaU)) (by decide +kernel : _ ∈ JaT)) (by simp [CE])
theorem Jg1 (c : SaysF fa fn K) {fs : List (Str × D)} : pIsX K (CE K) (.exv (He.ga K "InvalidDays") fs) (.ref (He.ga K "InvalidRules")) = some (.bl false) := Jab rfl (Jaa (c.fact 274 (f := JaU)) (by decide +kernel : _ ∈ JaT)) (by simp [CE])
theorem Jde (c : SaysF fa fn K) {fs : List (Str × D)} : pIsX K (CE K) (.exv (He.ga K "InvalidDays") fs) (.ref (He.ga K "InvalidChanges")) = some (.bl false) := Jab rfl (Jaa (c.fact 274 (f := JaU)) (by decide +kernel : _ ∈ JaT)) (by simp [CE])
theorem JeB (c : SaysF fa fn K) {fs : List (Str × D)} : pIsX K (CE K) (.exv (He.ga K "InvalidDays") fs) (.ref (He.ga K "InvalidWishes")) = some (.bl false) := Jab rfl (Jaa (c.fact 274 (f := JaU)) (by decide +kernel : _ ∈ JaT)) (by simp [CE])
theorem JkR (c : SaysF fa fn K) {fs : List (Str × D)} : pIsX K (CE K) (.exv (He.ga K "InvalidDays") fs) (.ref (He.ga K "WrongName")) = some (.bl false) := Jab rfl (Jaa (c.fact 274 (f := JaU)) (by decide +kernel : _ ∈ JaT)) (by simp [CE])
theorem Ji8 (c : SaysF fa fn K) {fs : List (Str × D)} : pIsX K (CE K) (.exv (He.ga K "InvalidDays") fs) (.ref (He.ga K "UnknownName")) = some (.bl false) := Jab rfl (Jaa (c.fact 274 (f := JaU)) (by decide +kernel : _ ∈ JaT)) (by simp [CE])
theorem JmQ (c : SaysF fa fn K) {fs : List (Str × D)} : pIsX K (CE K) (.exv (He.ga K "InvalidDays") fs) (.ref (He.ga K "InUse")) = some (.bl false) := Jab rfl (Jaa (c.fact 274 (f := JaU)) (by decide +kernel : _ ∈ JaT)) (by simp [CE])
theorem Ji9 (c : SaysF fa fn K) {fs : List (Str × D)} : pIsX K (CE K) (.exv (He.ga K "InvalidDays") fs) (.ref (He.ga K "NotPossible")) = some (.bl false) := Jab rfl (Jaa (c.fact 274 (f := JaU)) (by decide +kernel : _ ∈ JaT)) (by simp [CE])
theorem JkS (c : SaysF fa fn K) {fs : List (Str × D)} : pIsX K (CE K) (.exv (He.ga K "InvalidDays") fs) (.ref (He.ga K "OtherDays")) = some (.bl false) := Jab rfl (Jaa (c.fact 274 (f := JaU)) (by decide +kernel : _ ∈ JaT)) (by simp [CE])
theorem Jja (c : SaysF fa fn K) {fs : List (Str × D)} : pIsX K (CE K) (.exv (He.ga K "InvalidDays") fs) (.ref (He.ga K "OutOfBounds")) = some (.bl false) := Jab rfl (Jaa (c.fact 274 (f := JaU)) (by decide +kernel : _ ∈ JaT)) (by simp [CE])
theorem JeC (c : SaysF fa fn K) {fs : List (Str × D)} : pIsX K (CE K) (.exv (He.ga K "InvalidDays") fs) (.ref (He.ga K "NothingToUndo")) = some (.bl false) := Jab rfl (Jaa (c.fact 274 (f := JaU)) (by decide +kernel : _ ∈ JaT)) (by simp [CE])
theorem Jmi (c : SaysF fa fn K) {fs : List (Str × D)} : pIsX K (CE K) (.exv (He.ga K "InvalidDays") fs) (.ref (He.ga K "Broken")) = some (.bl false) := Jab rfl (Jaa (c.fact 274 (f := JaU)) (by decide +kernel : _ ∈ JaT)) (by simp [CE])
theorem Jkh (c : SaysF fa fn K) {fs : List (Str × D)} : pIsX K (CE K) (.exv (He.ga K "InvalidDays") fs) (.ty "ValueError") = some (.bl true) := Jab rfl (Jao (c.fact 275 (f := JjL)) (by decide +kernel : _ ∈ JjK)) (by simp [CE])
theorem Jjb (c : SaysF fa fn K) {fs : List (Str × D)} : pIsX K (CE K) (.exv (He.ga K "InvalidDays") fs) (.ty "LookupError") = some (.bl false) := Jab rfl (Jao (c.fact 275 (f := JjL)) (by decide +kernel : _ ∈ JjK)) (by simp [CE])
theorem Jct (c : SaysF fa fn K) {fs : List (Str × D)} : pIsX K (CE K) (.exv (He.ga K "InvalidDays") fs) (.ty "ArithmeticError") = some (.bl false) := Jab rfl (Jao (c.fact 275 (f := JjL)) (by decide +kernel : _ ∈ JjK)) (by simp [CE])
theorem Jjc (c : SaysF fa fn K) {fs : List (Str × D)} : pIsX K (CE K) (.exv (He.ga K "InvalidRules") fs) (.ref (He.ga K "WrongValue")) = some (.bl true) := Jab rfl (Jaa (c.fact 276 (f := Jaz)) (by decide +kernel : _ ∈ Jay)) (by simp [CE])
theorem Jg2 (c : SaysF fa fn K) {fs : List (Str × D)} : pIsX K (CE K) (.exv (He.ga K "InvalidRules") fs) (.ref (He.ga K "InvalidName")) = some (.bl false) := Jab rfl (Jaa (c.fact 276 (f := Jaz)) (by decide +kernel : _ ∈ Jay)) (by simp [CE])
theorem Jg3 (c : SaysF fa fn K) {fs : List (Str × D)} : pIsX K (CE K) (.exv (He.ga K "InvalidRules") fs) (.ref (He.ga K "InvalidMost")) = some (.bl false) := Jab rfl (Jaa (c.fact 276 (f := Jaz)) (by decide +kernel : _ ∈ Jay)) (by simp [CE])
theorem Jg4 (c : SaysF fa fn K) {fs : List (Str × D)} : pIsX K (CE K) (.exv (He.ga K "InvalidRules") fs) (.ref (He.ga K "InvalidKind")) = some (.bl false) := Jab rfl (Jaa (c.fact 276 (f := Jaz)) (by decide +kernel : _ ∈ Jay)) (by simp [CE])
theorem Jdf (c : SaysF fa fn K) {fs : List (Str × D)} : pIsX K (CE K) (.exv (He.ga K "InvalidRules") fs) (.ref (He.ga K "InvalidNumber")) = some (.bl false) := Jab rfl (Jaa (c.fact 276 (f := Jaz)) (by decide +kernel : _ ∈ Jay)) (by simp [CE])
theorem Jg5 (c : SaysF fa fn K) {fs : List (Str × D)} : pIsX K (CE K) (.exv (He.ga K "InvalidRules") fs) (.ref (He.ga K "InvalidRate")) = some (.bl false) := Jab rfl (Jaa (c.fact 276 (f := Jaz)) (by decide +kernel : _ ∈ Jay)) (by simp [CE])
theorem Jg6 (c : SaysF fa fn K) {fs : List (Str × D)} : pIsX K (CE K) (.exv (He.ga K "InvalidRules") fs) (.ref (He.ga K "InvalidText")) = some (.bl false) := Jab rfl (Jaa (c.fact 276 (f := Jaz)) (by decide +kernel : _ ∈ Jay)) (by simp [CE])
theorem JeD (c : SaysF fa fn K) {fs : List (Str × D)} : pIsX K (CE K) (.exv (He.ga K "InvalidRules") fs) (.ref (He.ga K "InvalidSheet")) = some (.bl false) := Jab rfl (Jaa (c.fact 276 (f := Jaz)) (by decide +kernel : _ ∈ Jay)) (by simp [CE])
theorem JeE (c : SaysF fa fn K) {fs : List (Str × D)} : pIsX K (CE K) (.exv (He.ga K "InvalidRules") fs) (.ref (He.ga K "InvalidTotal")) = some (.bl false) := Jab rfl (Jaa (c.fact 276 (f := Jaz)) (by decide +kernel : _ ∈ Jay)) (by simp [CE])
theorem JeF (c : SaysF fa fn K) {fs : List (Str × D)} : pIsX K (CE K) (.exv (He.ga K "InvalidRules") fs) (.ref (He.ga K "InvalidHours")) = some (.bl false) := Jab rfl (Jaa (c.fact 276 (f := Jaz)) (by decide +kernel : _ ∈ Jay)) (by simp [CE])
theorem Jg7 (c : SaysF fa fn K) {fs : List (Str × D)} : pIsX K (CE K) (.exv (He.ga K "InvalidRules") fs) (.ref (He.ga K "InvalidWish")) = some (.bl false) := Jab rfl (Jaa (c.fact 276 (f := Jaz)) (by decide +kernel : _ ∈ Jay)) (by simp [CE])
theorem JeG (c : SaysF fa fn K) {fs : List (Str × D)} : pIsX K (CE K) (.exv (He.ga K "InvalidRules") fs) (.ref (He.ga K "InvalidIndex")) = some (.bl false) := Jab rfl (Jaa (c.fact 276 (f := Jaz)) (by decide +kernel : _ ∈ Jay)) (by simp [CE])
theorem Jlb (c : SaysF fa fn K) {fs : List (Str × D)} : pIsX K (CE K) (.exv (He.ga K "InvalidRules") fs) (.ref (He.ga K "NotPlan")) = some (.bl false) := Jab rfl (Jaa (c.fact 276 (f := Jaz)) (by decide +kernel : _ ∈ Jay)) (by simp [CE])
theorem Jg8 (c : SaysF fa fn K) {fs : List (Str × D)} : pIsX K (CE K) (.exv (He.ga K "InvalidRules") fs) (.ref (He.ga K "InvalidDays")) = some (.bl false) := Jab rfl (Jaa (c.fact 276 (f := Jaz)) (by decide +kernel : _ ∈ Jay)) (by simp [CE])
theorem JeH (c : SaysF fa fn K) {fs : List (Str × D)} : pIsX K (CE K) (.exv (He.ga K "InvalidRules") fs) (.ref (He.ga K "InvalidRules")) = some (.bl true) := Jab rfl (Jaa (c.fact 276 (f := Jaz)) (by decide +kernel : _ ∈ Jay)) (by simp [CE])
theorem Jcu (c : SaysF fa fn K) {fs : List (Str × D)} : pIsX K (CE K) (.exv (He.ga K "InvalidRules") fs) (.ref (He.ga K "InvalidChanges")) = some (.bl false) := Jab rfl (Jaa (c.fact 276 (f := Jaz)) (by decide +kernel : _ ∈ Jay)) (by simp [CE])
theorem Jdg (c : SaysF fa fn K) {fs : List (Str × D)} : pIsX K (CE K) (.exv (He.ga K "InvalidRules") fs) (.ref (He.ga K "InvalidWishes")) = some (.bl false) := Jab rfl (Jaa (c.fact 276 (f := Jaz)) (by decide +kernel : _ ∈ Jay)) (by simp [CE])
theorem Jki (c : SaysF fa fn K) {fs : List (Str × D)} : pIsX K (CE K) (.exv (He.ga K "InvalidRules") fs) (.ref (He.ga K "WrongName")) = some (.bl false) := Jab rfl (Jaa (c.fact 276 (f := Jaz)) (by decide +kernel : _ ∈ Jay)) (by simp [CE])
theorem Jg9 (c : SaysF fa fn K) {fs : List (Str × D)} : pIsX K (CE K) (.exv (He.ga K "InvalidRules") fs) (.ref (He.ga K "UnknownName")) = some (.bl false) := Jab rfl (Jaa (c.fact 276 (f := Jaz)) (by decide +kernel : _ ∈ Jay)) (by simp [CE])
theorem Jmj (c : SaysF fa fn K) {fs : List (Str × D)} : pIsX K (CE K) (.exv (He.ga K "InvalidRules") fs) (.ref (He.ga K "InUse")) = some (.bl false) := Jab rfl (Jaa (c.fact 276 (f := Jaz)) (by decide +kernel : _ ∈ Jay)) (by simp [CE])
theorem Jha (c : SaysF fa fn K) {fs : List (Str × D)} : pIsX K (CE K) (.exv (He.ga K "InvalidRules") fs) (.ref (He.ga K "NotPossible")) = some (.bl false) := Jab rfl (Jaa (c.fact 276 (f := Jaz)) (by decide +kernel : _ ∈ Jay)) (by simp [CE])
theorem Jkj (c : SaysF fa fn K) {fs : List (Str × D)} : pIsX K (CE K) (.exv (He.ga K "InvalidRules") fs) (.ref (He.ga K "OtherDays")) = some (.bl false) := Jab rfl (Jaa (c.fact 276 (f := Jaz)) (by decide +kernel : _ ∈ Jay)) (by simp [CE])
theorem Jhb (c : SaysF fa fn K) {fs : List (Str × D)} : pIsX K (CE K) (.exv (He.ga K "InvalidRules") fs) (.ref (He.ga K "OutOfBounds")) = some (.bl false) := Jab rfl (Jaa (c.fact 276 (f := Jaz)) (by decide +kernel : _ ∈ Jay)) (by simp [CE])
theorem Jdh (c : SaysF fa fn K) {fs : List (Str × D)} : pIsX K (CE K) (.exv (He.ga K "InvalidRules") fs) (.ref (He.ga K "NothingToUndo")) = some (.bl false) := Jab rfl (Jaa (c.fact 276 (f := Jaz)) (by decide +kernel : _ ∈ Jay)) (by simp [CE])
theorem JlM (c : SaysF fa fn K) {fs : List (Str × D)} : pIsX K (CE K) (.exv (He.ga K "InvalidRules") fs) (.ref (He.ga K "Broken")) = some (.bl false) := Jab rfl (Jaa (c.fact 276 (f := Jaz)) (by decide +kernel : _ ∈ Jay)) (by simp [CE])
theorem Jjd (c : SaysF fa fn K) {fs : List (Str × D)} : pIsX K (CE K) (.exv (He.ga K "InvalidRules") fs) (.ty "ValueError") = some (.bl true) := Jab rfl (Jao (c.fact 277 (f := Jfx)) (by decide +kernel : _ ∈ Jfw)) (by simp [CE])
theorem Jhc (c : SaysF fa fn K) {fs : List (Str × D)} : pIsX K (CE K) (.exv (He.ga K "InvalidRules") fs) (.ty "LookupError") = some (.bl false) := Jab rfl (Jao (c.fact 277 (f := Jfx)) (by decide +kernel : _ ∈ Jfw)) (by simp [CE])
theorem JbY (c : SaysF fa fn K) {fs : List (Str × D)} : pIsX K (CE K) (.exv (He.ga K "InvalidRules") fs) (.ty "ArithmeticError") = some (.bl false) := Jab rfl (Jao (c.fact 277 (f := Jfx)) (by decide +kernel : _ ∈ Jfw)) (by simp [CE])
theorem JeI (c : SaysF fa fn K) {fs : List (Str × D)} : pIsX K (CE K) (.exv (He.ga K "InvalidChanges") fs) (.ref (He.ga K "WrongValue")) = some (.bl true) := Jab rfl (Jaa (c.fact 278 (f := Jag)) (by decide +kernel : _ ∈ Jaf)) (by simp [CE])
theorem Jdi (c : SaysF fa fn K) {fs : List (Str × D)} : pIsX K (CE K) (.exv (He.ga K "InvalidChanges") fs) (.ref (He.ga K "InvalidName")) = some (.bl false) := Jab rfl (Jaa (c.fact 278 (f := Jag)) (by decide +kernel : _ ∈ Jaf)) (by simp [CE])
theorem Jdj (c : SaysF fa fn K) {fs : List (Str × D)} : pIsX K (CE K) (.exv (He.ga K "InvalidChanges") fs) (.ref (He.ga K "InvalidMost")) = some (.bl false) := Jab rfl (Jaa (c.fact 278 (f := Jag)) (by decide +kernel : _ ∈ Jaf)) (by simp [CE])
theorem Jdk (c : SaysF fa fn K) {fs : List (Str × D)} : pIsX K (CE K) (.exv (He.ga K "InvalidChanges") fs) (.ref (He.ga K "InvalidKind")) = some (.bl false) := Jab rfl (Jaa (c.fact 278 (f := Jag)) (by decide +kernel : _ ∈ Jaf)) (by simp [CE])
theorem JbZ (c : SaysF fa fn K) {fs : List (Str × D)} : pIsX K (CE K) (.exv (He.ga K "InvalidChanges") fs) (.ref (He.ga K "InvalidNumber")) = some (.bl false) := Jab rfl (Jaa (c.fact 278 (f := Jag)) (by decide +kernel : _ ∈ Jaf)) (by simp [CE])
theorem Jdl (c : SaysF fa fn K) {fs : List (Str × D)} : pIsX K (CE K) (.exv (He.ga K "InvalidChanges") fs) (.ref (He.ga K "InvalidRate")) = some (.bl false) := Jab rfl (Jaa (c.fact 278 (f := Jag)) (by decide +kernel : _ ∈ Jaf)) (by simp [CE])
theorem Jdm (c : SaysF fa fn K) {fs : List (Str × D)} : pIsX K (CE K) (.exv (He.ga K "InvalidChanges") fs) (.ref (He.ga K "InvalidText")) = some (.bl false) := Jab rfl (Jaa (c.fact 278 (f := Jag)) (by decide +kernel : _ ∈ Jaf)) (by simp [CE])
theorem Jcv (c : SaysF fa fn K) {fs : List (Str × D)} : pIsX K (CE K) (.exv (He.ga K "InvalidChanges") fs) (.ref (He.ga K "InvalidSheet")) = some (.bl false) := Jab rfl (Jaa (c.fact 278 (f := Jag)) (by decide +kernel : _ ∈ Jaf)) (by simp [CE])
theorem Jcw (c : SaysF fa fn K) {fs : List (Str × D)} : pIsX K (CE K) (.exv (He.ga K "InvalidChanges") fs) (.ref (He.ga K "InvalidTotal")) = some (.bl false) := Jab rfl (Jaa (c.fact 278 (f := Jag)) (by decide +kernel : _ ∈ Jaf)) (by simp [CE])
theorem Jcx (c : SaysF fa fn K) {fs : List (Str × D)} : pIsX K (CE K) (.exv (He.ga K "InvalidChanges") fs) (.ref (He.ga K "InvalidHours")) = some (.bl false) := Jab rfl (Jaa (c.fact 278 (f := Jag)) (by decide +kernel : _ ∈ Jaf)) (by simp [CE])
theorem Jdn (c : SaysF fa fn K) {fs : List (Str × D)} : pIsX K (CE K) (.exv (He.ga K "InvalidChanges") fs) (.ref (He.ga K "InvalidWish")) = some (.bl false) := Jab rfl (Jaa (c.fact 278 (f := Jag)) (by decide +kernel : _ ∈ Jaf)) (by simp [CE])
theorem Jcy (c : SaysF fa fn K) {fs : List (Str × D)} : pIsX K (CE K) (.exv (He.ga K "InvalidChanges") fs) (.ref (He.ga K "InvalidIndex")) = some (.bl false) := Jab rfl (Jaa (c.fact 278 (f := Jag)) (by decide +kernel : _ ∈ Jaf)) (by simp [CE])
theorem Jkk (c : SaysF fa fn K) {fs : List (Str × D)} : pIsX K (CE K) (.exv (He.ga K "InvalidChanges") fs) (.ref (He.ga K "NotPlan")) = some (.bl false) := Jab rfl (Jaa (c.fact 278 (f := Jag)) (by decide +kernel : _ ∈ Jaf)) (by simp [CE])
theorem Jdo (c : SaysF fa fn K) {fs : List (Str × D)} : pIsX K (CE K) (.exv (He.ga K "InvalidChanges") fs) (.ref (He.ga K "InvalidDays")) = some (.bl false) := Jab rfl (Jaa (c.fact 278 (f := Jag)) (by decide +kernel : _ ∈ Jaf)) (by simp [CE])
theorem Jcz (c : SaysF fa fn K) {fs : List (Str × D)} : pIsX K (CE K) (.exv (He.ga K "InvalidChanges") fs) (.ref (He.ga K "InvalidRules")) = some (.bl false) := Jab rfl (Jaa (c.fact 278 (f := Jag)) (by decide +kernel : _ ∈ Jaf)) (by simp [CE])
theorem JbO (c : SaysF fa fn K) {fs : List (Str × D)} : pIsX K (CE K) (.exv (He.ga K "InvalidChanges") fs) (.ref (He.ga K "InvalidChanges")) = some (.bl true) := Jab rfl (Jaa (c.fact 278 (f := Jag)) (by decide +kernel : _ ∈ Jaf)) (by simp [CE])
theorem Jb0 (c : SaysF fa fn K) {fs : List (Str × D)} : pIsX K (CE K) (.exv (He.ga K "InvalidChanges") fs) (.ref (He.ga K "InvalidWishes")) = some (.bl false) := Jab rfl (Jaa (c.fact 278 (f := Jag)) (by decide +kernel : _ ∈ Jaf)) (by simp [CE])
theorem Jhd (c : SaysF fa fn K) {fs : List (Str × D)} : pIsX K (CE K) (.exv (He.ga K "InvalidChanges") fs) (.ref (He.ga K "WrongName")) = some (.bl false) := Jab rfl (Jaa (c.fact 278 (f := Jag)) (by decide +kernel : _ ∈ Jaf)) (by simp [CE])
theorem Jdp (c : SaysF fa fn K) {fs : List (Str × D)} : pIsX K (CE K) (.exv (He.ga K "InvalidChanges") fs) (.ref (He.ga K "UnknownName")) = some (.bl false) := Jab rfl (Jaa (c.fact 278 (f := Jag)) (by decide +kernel : _ ∈ Jaf)) (by simp [CE])
theorem Jlc (c : SaysF fa fn K) {fs : List (Str × D)} : pIsX K (CE K) (.exv (He.ga K "InvalidChanges") fs) (.ref (He.ga K "InUse")) = some (.bl false) := Jab rfl (Jaa (c.fact 278 (f := Jag)) (by decide +kernel : _ ∈ Jaf)) (by simp [CE])
theorem Jdq (c : SaysF fa fn K) {fs : List (Str × D)} : pIsX K (CE K) (.exv (He.ga K "InvalidChanges") fs) (.ref (He.ga K "NotPossible")) = some (.bl false) := Jab rfl (Jaa (c.fact 278 (f := Jag)) (by decide +kernel : _ ∈ Jaf)) (by simp [CE])
theorem Jhe (c : SaysF fa fn K) {fs : List (Str × D)} : pIsX K (CE K) (.exv (He.ga K "InvalidChanges") fs) (.ref (He.ga K "OtherDays")) = some (.bl false) := Jab rfl (Jaa (c.fact 278 (f := Jag)) (by decide +kernel : _ ∈ Jaf)) (by simp [CE])
theorem Jdr (c : SaysF fa fn K) {fs : List (Str × D)} : pIsX K (CE K) (.exv (He.ga K "InvalidChanges") fs) (.ref (He.ga K "OutOfBounds")) = some (.bl false) := Jab rfl (Jaa (c.fact 278 (f := Jag)) (by decide +kernel : _ ∈ Jaf)) (by simp [CE])
theorem Jb1 (c : SaysF fa fn K) {fs : List (Str × D)} : pIsX K (CE K) (.exv (He.ga K "InvalidChanges") fs) (.ref (He.ga K "NothingToUndo")) = some (.bl false) := Jab rfl (Jaa (c.fact 278 (f := Jag)) (by decide +kernel : _ ∈ Jaf)) (by simp [CE])
theorem JkT (c : SaysF fa fn K) {fs : List (Str × D)} : pIsX K (CE K) (.exv (He.ga K "InvalidChanges") fs) (.ref (He.ga K "Broken")) = some (.bl false) := Jab rfl (Jaa (c.fact 278 (f := Jag)) (by decide +kernel : _ ∈ Jaf)) (by simp [CE])
theorem JeJ (c : SaysF fa fn K) {fs : List (Str × D)} : pIsX K (CE K) (.exv (He.ga K "InvalidChanges") fs) (.ty "ValueError") = some (.bl true) := Jab rfl (Jao (c.fact 279 (f := JbS)) (by decide +kernel : _ ∈ JbR)) (by simp [CE])
theorem Jds (c : SaysF fa fn K) {fs : List (Str × D)} : pIsX K (CE K) (.exv (He.ga K "InvalidChanges") fs) (.ty "LookupError") = some (.bl false) := Jab rfl (Jao (c.fact 279 (f := JbS)) (by decide +kernel : _ ∈ JbR)) (by simp [CE])
theorem JbJ (c : SaysF fa fn K) {fs : List (Str × D)} : pIsX K (CE K) (.exv (He.ga K "InvalidChanges") fs) (.ty "ArithmeticError") = some (.bl false) := Jab rfl (Jao (c.fact 279 (f := JbS)) (by decide +kernel : _ ∈ JbR)) (by simp [CE])
theorem Jhf (c : SaysF fa fn K) {fs : List (Str × D)} : pIsX K (CE K) (.exv (He.ga K "InvalidWishes") fs) (.ref (He.ga K "WrongValue")) = some (.bl true) := Jab rfl (Jaa (c.fact 280 (f := Jal)) (by decide +kernel : _ ∈ Jak)) (by simp [CE])
theorem JeK (c : SaysF fa fn K) {fs : List (Str × D)} : pIsX K (CE K) (.exv (He.ga K "InvalidWishes") fs) (.ref (He.ga K "InvalidName")) = some (.bl false) := Jab rfl (Jaa (c.fact 280 (f := Jal)) (by decide +kernel : _ ∈ Jak)) (by simp [CE])
theorem JeL (c : SaysF fa fn K) {fs : List (Str × D)} : pIsX K (CE K) (.exv (He.ga K "InvalidWishes") fs) (.ref (He.ga K "InvalidMost")) = some (.bl false) := Jab rfl (Jaa (c.fact 280 (f := Jal)) (by decide +kernel : _ ∈ Jak)) (by simp [CE])
theorem JeM (c : SaysF fa fn K) {fs : List (Str × D)} : pIsX K (CE K) (.exv (He.ga K "InvalidWishes") fs) (.ref (He.ga K "InvalidKind")) = some (.bl false) := Jab rfl (Jaa (c.fact 280 (f := Jal)) (by decide +kernel : _ ∈ Jak)) (by simp [CE])
theorem JcA (c : SaysF fa fn K) {fs : List (Str × D)} : pIsX K (CE K) (.exv (He.ga K "InvalidWishes") fs) (.ref (He.ga K "InvalidNumber")) = some (.bl false) := Jab rfl (Jaa (c.fact 280 (f := Jal)) (by decide +kernel : _ ∈ Jak)) (by simp [CE])
theorem JeN (c : SaysF fa fn K) {fs : List (Str × D)} : pIsX K (CE K) (.exv (He.ga K "InvalidWishes") fs) (.ref (He.ga K "InvalidRate")) = some (.bl false) := Jab rfl (Jaa (c.fact 280 (f := Jal)) (by decide +kernel : _ ∈ Jak)) (by simp [CE])
theorem JeO (c : SaysF fa fn K) {fs : List (Str × D)} : pIsX K (CE K) (.exv (He.ga K "InvalidWishes") fs) (.ref (He.ga K "InvalidText")) = some (.bl false) := Jab rfl (Jaa (c.fact 280 (f := Jal)) (by decide +kernel : _ ∈ Jak)) (by simp [CE])
theorem Jdt (c : SaysF fa fn K) {fs : List (Str × D)} : pIsX K (CE K) (.exv (He.ga K "InvalidWishes") fs) (.ref (He.ga K "InvalidSheet")) = some (.bl false) := Jab rfl (Jaa (c.fact 280 (f := Jal)) (by decide +kernel : _ ∈ Jak)) (by simp [CE])
theorem Jdu (c : SaysF fa fn K) {fs : List (Str × D)} : pIsX K (CE K) (.exv (He.ga K "InvalidWishes") fs) (.ref (He.ga K "InvalidTotal")) = some (.bl false) := Jab rfl (Jaa (c.fact 280 (f := Jal)) (by decide +kernel : _ ∈ Jak)) (by simp [CE])
theorem Jdv (c : SaysF fa fn K) {fs : List (Str × D)} : pIsX K (CE K) (.exv (He.ga K "InvalidWishes") fs) (.ref (He.ga K "InvalidHours")) = some (.bl false) := Jab rfl (Jaa (c.fact 280 (f := Jal)) (by decide +kernel : _ ∈ Jak)) (by simp [CE])
theorem JeP (c : SaysF fa fn K) {fs : List (Str × D)} : pIsX K (CE K) (.exv (He.ga K "InvalidWishes") fs) (.ref (He.ga K "InvalidWish")) = some (.bl false) := Jab rfl (Jaa (c.fact 280 (f := Jal)) (by decide +kernel : _ ∈ Jak)) (by simp [CE])
theorem Jdw (c : SaysF fa fn K) {fs : List (Str × D)} : pIsX K (CE K) (.exv (He.ga K "InvalidWishes") fs) (.ref (He.ga K "InvalidIndex")) = some (.bl false) := Jab rfl (Jaa (c.fact 280 (f := Jal)) (by decide +kernel : _ ∈ Jak)) (by simp [CE])
theorem JkU (c : SaysF fa fn K) {fs : List (Str × D)} : pIsX K (CE K) (.exv (He.ga K "InvalidWishes") fs) (.ref (He.ga K "NotPlan")) = some (.bl false) := Jab rfl (Jaa (c.fact 280 (f := Jal)) (by decide +kernel : _ ∈ Jak)) (by simp [CE])
theorem JeQ (c : SaysF fa fn K) {fs : List (Str × D)} : pIsX K (CE K) (.exv (He.ga K "InvalidWishes") fs) (.ref (He.ga K "InvalidDays")) = some (.bl false) := Jab rfl (Jaa (c.fact 280 (f := Jal)) (by decide +kernel : _ ∈ Jak)) (by simp [CE])
theorem Jdx (c : SaysF fa fn K) {fs : List (Str × D)} : pIsX K (CE K) (.exv (He.ga K "InvalidWishes") fs) (.ref (He.ga K "InvalidRules")) = some (.bl false) := Jab rfl (Jaa (c.fact 280 (f := Jal)) (by decide +kernel : _ ∈ Jak)) (by simp [CE])
theorem Jb2 (c : SaysF fa fn K) {fs : List (Str × D)} : pIsX K (CE K) (.exv (He.ga K "InvalidWishes") fs) (.ref (He.ga K "InvalidChanges")) = some (.bl false) := Jab rfl (Jaa (c.fact 280 (f := Jal)) (by decide +kernel : _ ∈ Jak)) (by simp [CE])
theorem JcB (c : SaysF fa fn K) {fs : List (Str × D)} : pIsX K (CE K) (.exv (He.ga K "InvalidWishes") fs) (.ref (He.ga K "InvalidWishes")) = some (.bl true) := Jab rfl (Jaa (c.fact 280 (f := Jal)) (by decide +kernel : _ ∈ Jak)) (by simp [CE])
theorem Jje (c : SaysF fa fn K) {fs : List (Str × D)} : pIsX K (CE K) (.exv (He.ga K "InvalidWishes") fs) (.ref (He.ga K "WrongName")) = some (.bl false) := Jab rfl (Jaa (c.fact 280 (f := Jal)) (by decide +kernel : _ ∈ Jak)) (by simp [CE])
theorem JeR (c : SaysF fa fn K) {fs : List (Str × D)} : pIsX K (CE K) (.exv (He.ga K "InvalidWishes") fs) (.ref (He.ga K "UnknownName")) = some (.bl false) := Jab rfl (Jaa (c.fact 280 (f := Jal)) (by decide +kernel : _ ∈ Jak)) (by simp [CE])
theorem JlN (c : SaysF fa fn K) {fs : List (Str × D)} : pIsX K (CE K) (.exv (He.ga K "InvalidWishes") fs) (.ref (He.ga K "InUse")) = some (.bl false) := Jab rfl (Jaa (c.fact 280 (f := Jal)) (by decide +kernel : _ ∈ Jak)) (by simp [CE])
theorem JeS (c : SaysF fa fn K) {fs : List (Str × D)} : pIsX K (CE K) (.exv (He.ga K "InvalidWishes") fs) (.ref (He.ga K "NotPossible")) = some (.bl false) := Jab rfl (Jaa (c.fact 280 (f := Jal)) (by decide +kernel : _ ∈ Jak)) (by simp [CE])
theorem Jjf (c : SaysF fa fn K) {fs : List (Str × D)} : pIsX K (CE K) (.exv (He.ga K "InvalidWishes") fs) (.ref (He.ga K "OtherDays")) = some (.bl false) := Jab rfl (Jaa (c.fact 280 (f := Jal)) (by decide +kernel : _ ∈ Jak)) (by simp [CE])
theorem JeT (c : SaysF fa fn K) {fs : List (Str × D)} : pIsX K (CE K) (.exv (He.ga K "InvalidWishes") fs) (.ref (He.ga K "OutOfBounds")) = some (.bl false) := Jab rfl (Jaa (c.fact 280 (f := Jal)) (by decide +kernel : _ ∈ Jak)) (by simp [CE])
theorem JcC (c : SaysF fa fn K) {fs : List (Str × D)} : pIsX K (CE K) (.exv (He.ga K "InvalidWishes") fs) (.ref (He.ga K "NothingToUndo")) = some (.bl false) := Jab rfl (Jaa (c.fact 280 (f := Jal)) (by decide +kernel : _ ∈ Jak)) (by simp [CE])
theorem Jld (c : SaysF fa fn K) {fs : List (Str × D)} : pIsX K (CE K) (.exv (He.ga K "InvalidWishes") fs) (.ref (He.ga K "Broken")) = some (.bl false) := Jab rfl (Jaa (c.fact 280 (f := Jal)) (by decide +kernel : _ ∈ Jak)) (by simp [CE])
theorem Jhg (c : SaysF fa fn K) {fs : List (Str × D)} : pIsX K (CE K) (.exv (He.ga K "InvalidWishes") fs) (.ty "ValueError") = some (.bl true) := Jab rfl (Jao (c.fact 281 (f := JcM)) (by decide +kernel : _ ∈ JcL)) (by simp [CE])
theorem JeU (c : SaysF fa fn K) {fs : List (Str × D)} : pIsX K (CE K) (.exv (He.ga K "InvalidWishes") fs) (.ty "LookupError") = some (.bl false) := Jab rfl (Jao (c.fact 281 (f := JcM)) (by decide +kernel : _ ∈ JcL)) (by simp [CE])
theorem JbP (c : SaysF fa fn K) {fs : List (Str × D)} : pIsX K (CE K) (.exv (He.ga K "InvalidWishes") fs) (.ty "ArithmeticError") = some (.bl false) := Jab rfl (Jao (c.fact 281 (f := JcM)) (by decide +kernel : _ ∈ JcL)) (by simp [CE])
theorem Jni (c : SaysF fa fn K) {fs : List (Str × D)} : pIsX K (CE K) (.exv (He.ga K "InUse") fs) (.ref (He.ga K "WrongValue")) = some (.bl false) := Jab rfl (Jaa (c.fact 282 (f := Jbj)) (by decide +kernel : _ ∈ Jbi)) (by simp [CE])
theorem JmR (c : SaysF fa fn K) {fs : List (Str × D)} : pIsX K (CE K) (.exv (He.ga K "InUse") fs) (.ref (He.ga K "InvalidName")) = some (.bl false) := Jab rfl (Jaa (c.fact 282 (f := Jbj)) (by decide +kernel : _ ∈ Jbi)) (by simp [CE])
theorem JmS (c : SaysF fa fn K) {fs : List (Str × D)} : pIsX K (CE K) (.exv (He.ga K "InUse") fs) (.ref (He.ga K "InvalidMost")) = some (.bl false) := Jab rfl (Jaa (c.fact 282 (f := Jbj)) (by decide +kernel : _ ∈ Jbi)) (by simp [CE])
theorem JmT (c : SaysF fa fn K) {fs : List (Str × D)} : pIsX K (CE K) (.exv (He.ga K "InUse") fs) (.ref (He.ga K "InvalidKind")) = some (.bl false) := Jab rfl (Jaa (c.fact 282 (f := Jbj)) (by decide +kernel : _ ∈ Jbi)) (by simp [CE])
theorem JlO (c : SaysF fa fn K) {fs : List (Str × D)} : pIsX K (CE K) (.exv (He.ga K "InUse") fs) (.ref (He.ga K "InvalidNumber")) = some (.bl false) := Jab rfl (Jaa (c.fact 282 (f := Jbj)) (by decide +kernel : _ ∈ Jbi)) (by simp [CE])
theorem JmU (c : SaysF fa fn K) {fs : List (Str × D)} : pIsX K (CE K) (.exv (He.ga K "InUse") fs) (.ref (He.ga K "InvalidRate")) = some (.bl false) := Jab rfl (Jaa (c.fact 282 (f := Jbj)) (by decide +kernel : _ ∈ Jbi)) (by simp [CE])
theorem JmV (c : SaysF fa fn K) {fs : List (Str × D)} : pIsX K (CE K) (.exv (He.ga K "InUse") fs) (.ref (He.ga K "InvalidText")) = some (.bl false) := Jab rfl (Jaa (c.fact 282 (f := Jbj)) (by decide +kernel : _ ∈ Jbi)) (by simp [CE])
theorem Jmk (c : SaysF fa fn K) {fs : List (Str × D)} : pIsX K (CE K) (.exv (He.ga K "InUse") fs) (.ref (He.ga K "InvalidSheet")) = some (.bl false) := Jab rfl (Jaa (c.fact 282 (f := Jbj)) (by decide +kernel : _ ∈ Jbi)) (by simp [CE])
theorem Jml (c : SaysF fa fn K) {fs : List (Str × D)} : pIsX K (CE K) (.exv (He.ga K "InUse") fs) (.ref (He.ga K "InvalidTotal")) = some (.bl false) := Jab rfl (Jaa (c.fact 282 (f := Jbj)) (by decide +kernel : _ ∈ Jbi)) (by simp [CE])
theorem Jmm (c : SaysF fa fn K) {fs : List (Str × D)} : pIsX K (CE K) (.exv (He.ga K "InUse") fs) (.ref (He.ga K "InvalidHours")) = some (.bl false) := Jab rfl (Jaa (c.fact 282 (f := Jbj)) (by decide +kernel : _ ∈ Jbi)) (by simp [CE])
theorem JmW (c : SaysF fa fn K) {fs : List (Str × D)} : pIsX K (CE K) (.exv (He.ga K "InUse") fs) (.ref (He.ga K "InvalidWish")) = some (.bl false) := Jab rfl (Jaa (c.fact 282 (f := Jbj)) (by decide +kernel : _ ∈ Jbi)) (by simp [CE])
theorem Jmn (c : SaysF fa fn K) {fs : List (Str × D)} : pIsX K (CE K) (.exv (He.ga K "InUse") fs) (.ref (He.ga K "InvalidIndex")) = some (.bl false) := Jab rfl (Jaa (c.fact 282 (f := Jbj)) (by decide +kernel : _ ∈ Jbi)) (by simp [CE])
theorem Jn7 (c : SaysF fa fn K) {fs : List (Str × D)} : pIsX K (CE K) (.exv (He.ga K "InUse") fs) (.ref (He.ga K "NotPlan")) = some (.bl false) := Jab rfl (Jaa (c.fact 282 (f := Jbj)) (by decide +kernel : _ ∈ Jbi)) (by simp [CE])
theorem JmX (c : SaysF fa fn K) {fs : List (Str × D)} : pIsX K (CE K) (.exv (He.ga K "InUse") fs) (.ref (He.ga K "InvalidDays")) = some (.bl false) := Jab rfl (Jaa (c.fact 282 (f := Jbj)) (by decide +kernel : _ ∈ Jbi)) (by simp [CE])
theorem Jmo (c : SaysF fa fn K) {fs : List (Str × D)} : pIsX K (CE K) (.exv (He.ga K "InUse") fs) (.ref (He.ga K "InvalidRules")) = some (.bl false) := Jab rfl (Jaa (c.fact 282 (f := Jbj)) (by decide +kernel : _ ∈ Jbi)) (by simp [CE])
theorem Jle (c : SaysF fa fn K) {fs : List (Str × D)} : pIsX K (CE K) (.exv (He.ga K "InUse") fs) (.ref (He.ga K "InvalidChanges")) = some (.bl false) := Jab rfl (Jaa (c.fact 282 (f := Jbj)) (by decide +kernel : _ ∈ Jbi)) (by simp [CE])
theorem JlP (c : SaysF fa fn K) {fs : List (Str × D)} : pIsX K (CE K) (.exv (He.ga K "InUse") fs) (.ref (He.ga K "InvalidWishes")) = some (.bl false) := Jab rfl (Jaa (c.fact 282 (f := Jbj)) (by decide +kernel : _ ∈ Jbi)) (by simp [CE])
theorem JnG (c : SaysF fa fn K) {fs : List (Str × D)} : pIsX K (CE K) (.exv (He.ga K "InUse") fs) (.ref (He.ga K "WrongName")) = some (.bl true) := Jab rfl (Jaa (c.fact 282 (f := Jbj)) (by decide +kernel : _ ∈ Jbi)) (by simp [CE])
theorem JmY (c : SaysF fa fn K) {fs : List (Str × D)} : pIsX K (CE K) (.exv (He.ga K "InUse") fs) (.ref (He.ga K "UnknownName")) = some (.bl false) := Jab rfl (Jaa (c.fact 282 (f := Jbj)) (by decide +kernel : _ ∈ Jbi)) (by simp [CE])
theorem Jpb (c : SaysF fa fn K) {fs : List (Str × D)} : pIsX K (CE K) (.exv (He.ga K "InUse") fs) (.ref (He.ga K "InUse")) = some (.bl true) := Jab rfl (Jaa (c.fact 282 (f := Jbj)) (by decide +kernel : _ ∈ Jbi)) (by simp [CE])
theorem JmZ (c : SaysF fa fn K) {fs : List (Str × D)} : pIsX K (CE K) (.exv (He.ga K "InUse") fs) (.ref (He.ga K "NotPossible")) = some (.bl false) := Jab rfl (Jaa (c.fact 282 (f := Jbj)) (by decide +kernel : _ ∈ Jbi)) (by simp [CE])
theorem JnH (c : SaysF fa fn K) {fs : List (Str × D)} : pIsX K (CE K) (.exv (He.ga K "InUse") fs) (.ref (He.ga K "OtherDays")) = some (.bl false) := Jab rfl (Jaa (c.fact 282 (f := Jbj)) (by decide +kernel : _ ∈ Jbi)) (by simp [CE])
theorem Jm0 (c : SaysF fa fn K) {fs : List (Str × D)} : pIsX K (CE K) (.exv (He.ga K "InUse") fs) (.ref (He.ga K "OutOfBounds")) = some (.bl false) := Jab rfl (Jaa (c.fact 282 (f := Jbj)) (by decide +kernel : _ ∈ Jbi)) (by simp [CE])
theorem JlQ (c : SaysF fa fn K) {fs : List (Str × D)} : pIsX K (CE K) (.exv (He.ga K "InUse") fs) (.ref (He.ga K "NothingToUndo")) = some (.bl false) := Jab rfl (Jaa (c.fact 282 (f := Jbj)) (by decide +kernel : _ ∈ Jbi)) (by simp [CE])
theorem JoP (c : SaysF fa fn K) {fs : List (Str × D)} : pIsX K (CE K) (.exv (He.ga K "InUse") fs) (.ref (He.ga K "Broken")) = some (.bl false) := Jab rfl (Jaa (c.fact 282 (f := Jbj)) (by decide +kernel : _ ∈ Jbi)) (by simp [CE])
theorem Jnj (c : SaysF fa fn K) {fs : List (Str × D)} : pIsX K (CE K) (.exv (He.ga K "InUse") fs) (.ty "ValueError") = some (.bl false) := Jab rfl (Jao (c.fact 283 (f := JpD)) (by decide +kernel : _ ∈ JpC)) (by simp [CE])
theorem Jm1 (c : SaysF fa fn K) {fs : List (Str × D)} : pIsX K (CE K) (.exv (He.ga K "InUse") fs) (.ty "LookupError") = some (.bl true) := Jab rfl (Jao (c.fact 283 (f := JpD)) (by decide +kernel : _ ∈ JpC)) (by simp [CE])
theorem JkV (c : SaysF fa fn K) {fs : List (Str × D)} : pIsX K (CE K) (.exv (He.ga K "InUse") fs) (.ty "ArithmeticError") = some (.bl false) := Jab rfl (Jao (c.fact 283 (f := JpD)) (by decide +kernel : _ ∈ JpC)) (by simp [CE])
theorem Jm2 (c : SaysF fa fn K) {fs : List (Str × D)} : pIsX K (CE K) (.exv (He.ga K "Broken") fs) (.ref (He.ga K "WrongValue")) = some (.bl false) := Jab rfl (Jaa (c.fact 284 (f := Jbb)) (by decide +kernel : _ ∈ Jba)) (by simp [CE])
theorem Jmp (c : SaysF fa fn K) {fs : List (Str × D)} : pIsX K (CE K) (.exv (He.ga K "Broken") fs) (.ref (He.ga K "InvalidName")) = some (.bl false) := Jab rfl (Jaa (c.fact 284 (f := Jbb)) (by decide +kernel : _ ∈ Jba)) (by simp [CE])
theorem Jmq (c : SaysF fa fn K) {fs : List (Str × D)} : pIsX K (CE K) (.exv (He.ga K "Broken") fs) (.ref (He.ga K "InvalidMost")) = some (.bl false) := Jab rfl (Jaa (c.fact 284 (f := Jbb)) (by decide +kernel : _ ∈ Jba)) (by simp [CE])
theorem Jmr (c : SaysF fa fn K) {fs : List (Str × D)} : pIsX K (CE K) (.exv (He.ga K "Broken") fs) (.ref (He.ga K "InvalidKind")) = some (.bl false) := Jab rfl (Jaa (c.fact 284 (f := Jbb)) (by decide +kernel : _ ∈ Jba)) (by simp [CE])
theorem Jlf (c : SaysF fa fn K) {fs : List (Str × D)} : pIsX K (CE K) (.exv (He.ga K "Broken") fs) (.ref (He.ga K "InvalidNumber")) = some (.bl false) := Jab rfl (Jaa (c.fact 284 (f := Jbb)) (by decide +kernel : _ ∈ Jba)) (by simp [CE])
theorem Jms (c : SaysF fa fn K) {fs : List (Str × D)} : pIsX K (CE K) (.exv (He.ga K "Broken") fs) (.ref (He.ga K "InvalidRate")) = some (.bl false) := Jab rfl (Jaa (c.fact 284 (f := Jbb)) (by decide +kernel : _ ∈ Jba)) (by simp [CE])
theorem Jmt (c : SaysF fa fn K) {fs : List (Str × D)} : pIsX K (CE K) (.exv (He.ga K "Broken") fs) (.ref (He.ga K "InvalidText")) = some (.bl false) := Jab rfl (Jaa (c.fact 284 (f := Jbb)) (by decide +kernel : _ ∈ Jba)) (by simp [CE])
theorem JlR (c : SaysF fa fn K) {fs : List (Str × D)} : pIsX K (CE K) (.exv (He.ga K "Broken") fs) (.ref (He.ga K "InvalidSheet")) = some (.bl false) := Jab rfl (Jaa (c.fact 284 (f := Jbb)) (by decide +kernel : _ ∈ Jba)) (by simp [CE])
theorem JlS (c : SaysF fa fn K) {fs : List (Str × D)} : pIsX K (CE K) (.exv (He.ga K "Broken") fs) (.ref (He.ga K "InvalidTotal")) = some (.bl false) := Jab rfl (Jaa (c.fact 284 (f := Jbb)) (by decide +kernel : _ ∈ Jba)) (by simp [CE])
theorem JlT (c : SaysF fa fn K) {fs : List (Str × D)} : pIsX K (CE K) (.exv (He.ga K "Broken") fs) (.ref (He.ga K "InvalidHours")) = some (.bl false) := Jab rfl (Jaa (c.fact 284 (f := Jbb)) (by decide +kernel : _ ∈ Jba)) (by simp [CE])
theorem Jmu (c : SaysF fa fn K) {fs : List (Str × D)} : pIsX K (CE K) (.exv (He.ga K "Broken") fs) (.ref (He.ga K "InvalidWish")) = some (.bl false) := Jab rfl (Jaa (c.fact 284 (f := Jbb)) (by decide +kernel : _ ∈ Jba)) (by simp [CE])
theorem JlU (c : SaysF fa fn K) {fs : List (Str × D)} : pIsX K (CE K) (.exv (He.ga K "Broken") fs) (.ref (He.ga K "InvalidIndex")) = some (.bl false) := Jab rfl (Jaa (c.fact 284 (f := Jbb)) (by decide +kernel : _ ∈ Jba)) (by simp [CE])
theorem JnU (c : SaysF fa fn K) {fs : List (Str × D)} : pIsX K (CE K) (.exv (He.ga K "Broken") fs) (.ref (He.ga K "NotPlan")) = some (.bl false) := Jab rfl (Jaa (c.fact 284 (f := Jbb)) (by decide +kernel : _ ∈ Jba)) (by simp [CE])
theorem Jmv (c : SaysF fa fn K) {fs : List (Str × D)} : pIsX K (CE K) (.exv (He.ga K "Broken") fs) (.ref (He.ga K "InvalidDays")) = some (.bl false) := Jab rfl (Jaa (c.fact 284 (f := Jbb)) (by decide +kernel : _ ∈ Jba)) (by simp [CE])
theorem JlV (c : SaysF fa fn K) {fs : List (Str × D)} : pIsX K (CE K) (.exv (He.ga K "Broken") fs) (.ref (He.ga K "InvalidRules")) = some (.bl false) := Jab rfl (Jaa (c.fact 284 (f := Jbb)) (by decide +kernel : _ ∈ Jba)) (by simp [CE])
theorem JkW (c : SaysF fa fn K) {fs : List (Str × D)} : pIsX K (CE K) (.exv (He.ga K "Broken") fs) (.ref (He.ga K "InvalidChanges")) = some (.bl false) := Jab rfl (Jaa (c.fact 284 (f := Jbb)) (by decide +kernel : _ ∈ Jba)) (by simp [CE])
theorem Jlg (c : SaysF fa fn K) {fs : List (Str × D)} : pIsX K (CE K) (.exv (He.ga K "Broken") fs) (.ref (He.ga K "InvalidWishes")) = some (.bl false) := Jab rfl (Jaa (c.fact 284 (f := Jbb)) (by decide +kernel : _ ∈ Jba)) (by simp [CE])
theorem Jnk (c : SaysF fa fn K) {fs : List (Str × D)} : pIsX K (CE K) (.exv (He.ga K "Broken") fs) (.ref (He.ga K "WrongName")) = some (.bl false) := Jab rfl (Jaa (c.fact 284 (f := Jbb)) (by decide +kernel : _ ∈ Jba)) (by simp [CE])
theorem Jmw (c : SaysF fa fn K) {fs : List (Str × D)} : pIsX K (CE K) (.exv (He.ga K "Broken") fs) (.ref (He.ga K "UnknownName")) = some (.bl false) := Jab rfl (Jaa (c.fact 284 (f := Jbb)) (by decide +kernel : _ ∈ Jba)) (by simp [CE])
theorem JoQ (c : SaysF fa fn K) {fs : List (Str × D)} : pIsX K (CE K) (.exv (He.ga K "Broken") fs) (.ref (He.ga K "InUse")) = some (.bl false) := Jab rfl (Jaa (c.fact 284 (f := Jbb)) (by decide +kernel : _ ∈ Jba)) (by simp [CE])
theorem Jmx (c : SaysF fa fn K) {fs : List (Str × D)} : pIsX K (CE K) (.exv (He.ga K "Broken") fs) (.ref (He.ga K "NotPossible")) = some (.bl true) := Jab rfl (Jaa (c.fact 284 (f := Jbb)) (by decide +kernel : _ ∈ Jba)) (by simp [CE])
theorem Jnl (c : SaysF fa fn K) {fs : List (Str × D)} : pIsX K (CE K) (.exv (He.ga K "Broken") fs) (.ref (He.ga K "OtherDays")) = some (.bl false) := Jab rfl (Jaa (c.fact 284 (f := Jbb)) (by decide +kernel : _ ∈ Jba)) (by simp [CE])
theorem Jmy (c : SaysF fa fn K) {fs : List (Str × D)} : pIsX K (CE K) (.exv (He.ga K "Broken") fs) (.ref (He.ga K "OutOfBounds")) = some (.bl false) := Jab rfl (Jaa (c.fact 284 (f := Jbb)) (by decide +kernel : _ ∈ Jba)) (by simp [CE])
theorem Jlh (c : SaysF fa fn K) {fs : List (Str × D)} : pIsX K (CE K) (.exv (He.ga K "Broken") fs) (.ref (He.ga K "NothingToUndo")) = some (.bl false) := Jab rfl (Jaa (c.fact 284 (f := Jbb)) (by decide +kernel : _ ∈ Jba)) (by simp [CE])
theorem Jn8 (c : SaysF fa fn K) {fs : List (Str × D)} : pIsX K (CE K) (.exv (He.ga K "Broken") fs) (.ref (He.ga K "Broken")) = some (.bl true) := Jab rfl (Jaa (c.fact 284 (f := Jbb)) (by decide +kernel : _ ∈ Jba)) (by simp [CE])
theorem Jm3 (c : SaysF fa fn K) {fs : List (Str × D)} : pIsX K (CE K) (.exv (He.ga K "Broken") fs) (.ty "ValueError") = some (.bl false) := Jab rfl (Jao (c.fact 285 (f := JoO)) (by decide +kernel : _ ∈ JoN)) (by simp [CE])
theorem Jmz (c : SaysF fa fn K) {fs : List (Str × D)} : pIsX K (CE K) (.exv (He.ga K "Broken") fs) (.ty "LookupError") = some (.bl false) := Jab rfl (Jao (c.fact 285 (f := JoO)) (by decide +kernel : _ ∈ JoN)) (by simp [CE])
theorem Jkl (c : SaysF fa fn K) {fs : List (Str × D)} : pIsX K (CE K) (.exv (He.ga K "Broken") fs) (.ty "ArithmeticError") = some (.bl true) := Jab rfl (Jao (c.fact 285 (f := JoO)) (by decide +kernel : _ ∈ JoN)) (by simp [CE])
theorem Jhh (c : SaysF fa fn K) {fs : List (Str × D)} : pIsX K (CE K) (.exv (He.ga K "NothingToUndo") fs) (.ref (He.ga K "WrongValue")) = some (.bl false) := Jab rfl (Jaa (c.fact 286 (f := Jan)) (by decide +kernel : _ ∈ Jam)) (by simp [CE])
theorem JeV (c : SaysF fa fn K) {fs : List (Str × D)} : pIsX K (CE K) (.exv (He.ga K "NothingToUndo") fs) (.ref (He.ga K "InvalidName")) = some (.bl false) := Jab rfl (Jaa (c.fact 286 (f := Jan)) (by decide +kernel : _ ∈ Jam)) (by simp [CE])
theorem JeW (c : SaysF fa fn K) {fs : List (Str × D)} : pIsX K (CE K) (.exv (He.ga K "NothingToUndo") fs) (.ref (He.ga K "InvalidMost")) = some (.bl false) := Jab rfl (Jaa (c.fact 286 (f := Jan)) (by decide +kernel : _ ∈ Jam)) (by simp [CE])
theorem JeX (c : SaysF fa fn K) {fs : List (Str × D)} : pIsX K (CE K) (.exv (He.ga K "NothingToUndo") fs) (.ref (He.ga K "InvalidKind")) = some (.bl false) := Jab rfl (Jaa (c.fact 286 (f := Jan)) (by decide +kernel : _ ∈ Jam)) (by simp [CE])
theorem JcD (c : SaysF fa fn K) {fs : List (Str × D)} : pIsX K (CE K) (.exv (He.ga K "NothingToUndo") fs) (.ref (He.ga K "InvalidNumber")) = some (.bl false) := Jab rfl (Jaa (c.fact 286 (f := Jan)) (by decide +kernel : _ ∈ Jam)) (by simp [CE])
theorem JeY (c : SaysF fa fn K) {fs : List (Str × D)} : pIsX K (CE K) (.exv (He.ga K "NothingToUndo") fs) (.ref (He.ga K "InvalidRate")) = some (.bl false) := Jab rfl (Jaa (c.fact 286 (f := Jan)) (by decide +kernel : _ ∈ Jam)) (by simp [CE])
theorem JeZ (c : SaysF fa fn K) {fs : List (Str × D)} : pIsX K (CE K) (.exv (He.ga K "NothingToUndo") fs) (.ref (He.ga K "InvalidText")) = some (.bl false) := Jab rfl (Jaa (c.fact 286 (f := Jan)) (by decide +kernel : _ ∈ Jam)) (by simp [CE])
theorem Jdy (c : SaysF fa fn K) {fs : List (Str × D)} : pIsX K (CE K) (.exv (He.ga K "NothingToUndo") fs) (.ref (He.ga K "InvalidSheet")) = some (.bl false) := Jab rfl (Jaa (c.fact 286 (f := Jan)) (by decide +kernel : _ ∈ Jam)) (by simp [CE])
theorem Jdz (c : SaysF fa fn K) {fs : List (Str × D)} : pIsX K (CE K) (.exv (He.ga K "NothingToUndo") fs) (.ref (He.ga K "InvalidTotal")) = some (.bl false) := Jab rfl (Jaa (c.fact 286 (f := Jan)) (by decide +kernel : _ ∈ Jam)) (by simp [CE])
theorem JdA (c : SaysF fa fn K) {fs : List (Str × D)} : pIsX K (CE K) (.exv (He.ga K "NothingToUndo") fs) (.ref (He.ga K "InvalidHours")) = some (.bl false) := Jab rfl (Jaa (c.fact 286 (f := Jan)) (by decide +kernel : _ ∈ Jam)) (by simp [CE])
theorem Je0 (c : SaysF fa fn K) {fs : List (Str × D)} : pIsX K (CE K) (.exv (He.ga K "NothingToUndo") fs) (.ref (He.ga K "InvalidWish")) = some (.bl false) := Jab rfl (Jaa (c.fact 286 (f := Jan)) (by decide +kernel : _ ∈ Jam)) (by simp [CE])
theorem JdB (c : SaysF fa fn K) {fs : List (Str × D)} : pIsX K (CE K) (.exv (He.ga K "NothingToUndo") fs) (.ref (He.ga K "InvalidIndex")) = some (.bl false) := Jab rfl (Jaa (c.fact 286 (f := Jan)) (by decide +kernel : _ ∈ Jam)) (by simp [CE])
theorem JkX (c : SaysF fa fn K) {fs : List (Str × D)} : pIsX K (CE K) (.exv (He.ga K "NothingToUndo") fs) (.ref (He.ga K "NotPlan")) = some (.bl false) := Jab rfl (Jaa (c.fact 286 (f := Jan)) (by decide +kernel : _ ∈ Jam)) (by simp [CE])
theorem Je1 (c : SaysF fa fn K) {fs : List (Str × D)} : pIsX K (CE K) (.exv (He.ga K "NothingToUndo") fs) (.ref (He.ga K "InvalidDays")) = some (.bl false) := Jab rfl (Jaa (c.fact 286 (f := Jan)) (by decide +kernel : _ ∈ Jam)) (by simp [CE])
theorem JdC (c : SaysF fa fn K) {fs : List (Str × D)} : pIsX K (CE K) (.exv (He.ga K "NothingToUndo") fs) (.ref (He.ga K "InvalidRules")) = some (.bl false) := Jab rfl (Jaa (c.fact 286 (f := Jan)) (by decide +kernel : _ ∈ Jam)) (by simp [CE])
theorem Jb3 (c : SaysF fa fn K) {fs : List (Str × D)} : pIsX K (CE K) (.exv (He.ga K "NothingToUndo") fs) (.ref (He.ga K "InvalidChanges")) = some (.bl false) := Jab rfl (Jaa (c.fact 286 (f := Jan)) (by decide +kernel : _ ∈ Jam)) (by simp [CE])
theorem JcE (c : SaysF fa fn K) {fs : List (Str × D)} : pIsX K (CE K) (.exv (He.ga K "NothingToUndo") fs) (.ref (He.ga K "InvalidWishes")) = some (.bl false) := Jab rfl (Jaa (c.fact 286 (f := Jan)) (by decide +kernel : _ ∈ Jam)) (by simp [CE])
theorem Jjg (c : SaysF fa fn K) {fs : List (Str × D)} : pIsX K (CE K) (.exv (He.ga K "NothingToUndo") fs) (.ref (He.ga K "WrongName")) = some (.bl false) := Jab rfl (Jaa (c.fact 286 (f := Jan)) (by decide +kernel : _ ∈ Jam)) (by simp [CE])
theorem Je2 (c : SaysF fa fn K) {fs : List (Str × D)} : pIsX K (CE K) (.exv (He.ga K "NothingToUndo") fs) (.ref (He.ga K "UnknownName")) = some (.bl false) := Jab rfl (Jaa (c.fact 286 (f := Jan)) (by decide +kernel : _ ∈ Jam)) (by simp [CE])
theorem JlW (c : SaysF fa fn K) {fs : List (Str × D)} : pIsX K (CE K) (.exv (He.ga K "NothingToUndo") fs) (.ref (He.ga K "InUse")) = some (.bl false) := Jab rfl (Jaa (c.fact 286 (f := Jan)) (by decide +kernel : _ ∈ Jam)) (by simp [CE])
theorem Je3 (c : SaysF fa fn K) {fs : List (Str × D)} : pIsX K (CE K) (.exv (He.ga K "NothingToUndo") fs) (.ref (He.ga K "NotPossible")) = some (.bl true) := Jab rfl (Jaa (c.fact 286 (f := Jan)) (by decide +kernel : _ ∈ Jam)) (by simp [CE])
theorem Jjh (c : SaysF fa fn K) {fs : List (Str × D)} : pIsX K (CE K) (.exv (He.ga K "NothingToUndo") fs) (.ref (He.ga K "OtherDays")) = some (.bl false) := Jab rfl (Jaa (c.fact 286 (f := Jan)) (by decide +kernel : _ ∈ Jam)) (by simp [CE])
theorem Je4 (c : SaysF fa fn K) {fs : List (Str × D)} : pIsX K (CE K) (.exv (He.ga K "NothingToUndo") fs) (.ref (He.ga K "OutOfBounds")) = some (.bl false) := Jab rfl (Jaa (c.fact 286 (f := Jan)) (by decide +kernel : _ ∈ Jam)) (by simp [CE])
theorem JcF (c : SaysF fa fn K) {fs : List (Str × D)} : pIsX K (CE K) (.exv (He.ga K "NothingToUndo") fs) (.ref (He.ga K "NothingToUndo")) = some (.bl true) := Jab rfl (Jaa (c.fact 286 (f := Jan)) (by decide +kernel : _ ∈ Jam)) (by simp [CE])
theorem Jli (c : SaysF fa fn K) {fs : List (Str × D)} : pIsX K (CE K) (.exv (He.ga K "NothingToUndo") fs) (.ref (He.ga K "Broken")) = some (.bl false) := Jab rfl (Jaa (c.fact 286 (f := Jan)) (by decide +kernel : _ ∈ Jam)) (by simp [CE])
theorem Jhi (c : SaysF fa fn K) {fs : List (Str × D)} : pIsX K (CE K) (.exv (He.ga K "NothingToUndo") fs) (.ty "ValueError") = some (.bl false) := Jab rfl (Jao (c.fact 287 (f := JcO)) (by decide +kernel : _ ∈ JcN)) (by simp [CE])
theorem Je5 (c : SaysF fa fn K) {fs : List (Str × D)} : pIsX K (CE K) (.exv (He.ga K "NothingToUndo") fs) (.ty "LookupError") = some (.bl false) := Jab rfl (Jao (c.fact 287 (f := JcO)) (by decide +kernel : _ ∈ JcN)) (by simp [CE])
theorem JbQ (c : SaysF fa fn K) {fs : List (Str × D)} : pIsX K (CE K) (.exv (He.ga K "NothingToUndo") fs) (.ty "ArithmeticError") = some (.bl true) := Jab rfl (Jao (c.fact 287 (f := JcO)) (by decide +kernel : _ ∈ JcN)) (by simp [CE])
end
def Jqk (K : PySem.W.Frag) : DSp := sp2 (fun a b M Q E => ∃ ns i, a = .scr ns ∧ b = .int i ∧ 0 ≤ i ∧ ∀ c, Q (.int c) M)
def Jrp (K : PySem.W.Frag) : DSp := sp1 (fun a M Q E => ∃ c, a = .int c ∧ ∀ p i j k, M p = none → Jny i j k → Q (.ref p) (mset M p (.lst [.int i, .int j, .int k])))
def Jql (K : PySem.W.Frag) : DSp := sp1 (fun a M Q E => ∃ c, a = .int c ∧ ∀ p, M p = none → Q (.ref p) (mset M p .pool))
def Jrq (K : PySem.W.Frag) : DSp := sp2 (fun a b M Q E => ∃ p n i j k, a = .ref p ∧ b = .int n ∧ M p = some (.lst [.int i, .int j, .int k]) ∧ Jny i j k ∧ 0 < n ∧ n.natAbs.log2 < 9000 ∧
  ∀ m i' j' k', 0 ≤ m → m < n → Jny i' j' k' → Q (.int m) (mset M p (.lst [.int i', .int j', .int k'])))
def Jss (K : PySem.W.Frag) : DSp := sp2 (fun a b M Q E => ∃ p n, a = .ref p ∧ b = .int n ∧ M p = some .pool ∧ 0 < n ∧ n.natAbs.log2 < 9000 ∧ ∀ m, 0 ≤ m → m < n → Q (.int m) M)
def JnI (K : PySem.W.Frag) : List D → T D := fun ds => match ds with
  | [.ref p, .int n] => .dr p n fun m => .v (.int m)
  | _ => .no
def JpE (K : PySem.W.Frag) : FS := (fSeq (fRet (f2 pIx (fV 1) (JnC (JnI K) (fun ds _ => ds) (fCo (fV 0) (fCo (fCB (p1 pLen) (fCo (fV 1) fNil)) fNil)) fNil))) Jbl)
def JnJ (K : PySem.W.Frag) : List D → T D := fun ds => runT (JpE K (JaC ["_law_pool_here", "_law_things"] ds))
def JqT (K : PySem.W.Frag) : FS := (fSeq (fSet 1 (f2 pSub (JnC (JnI K) (fun ds _ => ds) (fCo (fV 0) (fCo (f2 pPow (fC (.int (10))) (fC (.int (6)))) fNil)) fNil) (fC (.int (400000))))) (fSeq (fSet 2 (fLs (fCo (fC .non) (fCo (fC (.int (0))) (fCo (fC (.int (1))) (fCo (fC (.bl true)) (fCo (fC (.bl false)) (fCo (fC (.str "")) (fCo (fC (.str "a b")) (fCo (fC (.str "reach")) (fCo (fTu fNil) (fCo (fTu (fCo (fC (.str "a")) (fCo (fC (.int (0))) fNil))) (fCo (fLs (fCo (fC (.int (1))) fNil)) (fCo (fLs fNil) (fCo (fC (.dic [])) (fCo (JuM (((fC (.str "a")), (fTu (fCo (fC (.int (1))) fNil))) :: [])) (fCo (f1 pNeg (fC (.int (1)))) (fCo (f2 pPow (fC (.int (10))) (fC (.int (39)))) fNil)))))))))))))))))) (fSeq (fSet 2 (f2 pAdd (fV 2) (fLs (fCo (fTu (fCo (fC (.str "a")) (fCo (fC .non) (fCo (fLs (fCo (fC (.int (2))) fNil)) fNil)))) (fCo (fV 1) (fCo (fCB (p1 Js0) (fCo (fV 1) fNil)) (fCo (fTu (fCo (fV 1) fNil)) (fCo (fTu (fCo (fTu (fCo (fC (.str "x")) fNil)) (fCo (fTu fNil) fNil))) (fCo (fLs (fCo (fLs fNil) (fCo (fLs (fCo (fC .non) fNil)) fNil))) (fCo (fC (.int (24))) (fCo (fC (.str "upto")) (fCo (fTu (fCo (fTu fNil) (fCo (fLs fNil) (fCo (fC (.dic [])) fNil)))) fNil)))))))))))) (fSeq (fRet (JnC (JnJ K) (fun ds _ => ds) (fCo (fV 0) (fCo (fV 2) fNil)) fNil)) Jbl))))
def JpF (K : PySem.W.Frag) : List D → T D := fun ds => runT (JqT K (JaC ["_law_pool_here", "_law_many", "_law_menu"] ds))
def Jpn (K : PySem.W.Frag) : FS := (fSeq (fIfS (fB (f2 (pEq false) (fV 0) (fC (.int (0))))) (fSeq (fRet (fIf (fB (fV 2)) (fMkX (He.ga K "InvalidName") "given" (fCo (fV 1) fNil)) (Jhl (He.ga K "InvalidName") "given" (fV 1)))) Jbl) Jbl) (fSeq (fIfS (fB (f2 (pEq false) (fV 0) (fC (.int (1))))) (fSeq (fRet (fIf (fB (fV 2)) (fMkX (He.ga K "InvalidMost") "given" (fCo (fV 1) fNil)) (Jhl (He.ga K "InvalidMost") "given" (fV 1)))) Jbl) Jbl) (fSeq (fIfS (fB (f2 (pEq false) (fV 0) (fC (.int (2))))) (fSeq (fRet (fIf (fB (fV 2)) (fMkX (He.ga K "InvalidKind") "given" (fCo (fV 1) fNil)) (Jhl (He.ga K "InvalidKind") "given" (fV 1)))) Jbl) Jbl) (fSeq (fIfS (fB (f2 (pEq false) (fV 0) (fC (.int (3))))) (fSeq (fRet (fIf (fB (fV 2)) (fMkX (He.ga K "InvalidNumber") "given" (fCo (fV 1) fNil)) (Jhl (He.ga K "InvalidNumber") "given" (fV 1)))) Jbl) Jbl) (fSeq (fIfS (fB (f2 (pEq false) (fV 0) (fC (.int (4))))) (fSeq (fRet (fIf (fB (fV 2)) (fMkX (He.ga K "InvalidRate") "given" (fCo (fV 1) fNil)) (Jhl (He.ga K "InvalidRate") "given" (fV 1)))) Jbl) Jbl) (fSeq (fIfS (fB (f2 (pEq false) (fV 0) (fC (.int (5))))) (fSeq (fRet (fIf (fB (fV 2)) (fMkX (He.ga K "InvalidText") "given" (fCo (fV 1) fNil)) (Jhl (He.ga K "InvalidText") "given" (fV 1)))) Jbl) Jbl) (fSeq (fRet (fIf (fB (fV 2)) (fMkX (He.ga K "InvalidSheet") "given" (fCo (fV 1) fNil)) (Jhl (He.ga K "InvalidSheet") "given" (fV 1)))) Jbl)))))))
def JbF (K : PySem.W.Frag) : List D → T D := fun ds => runT (Jpn K (JaC ["_law_k", "_law_thing", "_law_by_position"] ds))
def JoR (K : PySem.W.Frag) : FS := (fSeq (fIfS (fB (f2 (pEq false) (fV 0) (fC (.int (7))))) (fSeq (fRet (fIf (fB (fV 2)) (fMkX (He.ga K "InvalidTotal") "given" (fCo (fV 1) fNil)) (Jhl (He.ga K "InvalidTotal") "given" (fV 1)))) Jbl) Jbl) (fSeq (fIfS (fB (f2 (pEq false) (fV 0) (fC (.int (8))))) (fSeq (fRet (fIf (fB (fV 2)) (fMkX (He.ga K "InvalidHours") "given" (fCo (fV 1) fNil)) (Jhl (He.ga K "InvalidHours") "given" (fV 1)))) Jbl) Jbl) (fSeq (fIfS (fB (f2 (pEq false) (fV 0) (fC (.int (9))))) (fSeq (fRet (fIf (fB (fV 2)) (fMkX (He.ga K "InvalidWish") "given" (fCo (fV 1) fNil)) (Jhl (He.ga K "InvalidWish") "given" (fV 1)))) Jbl) Jbl) (fSeq (fIfS (fB (f2 (pEq false) (fV 0) (fC (.int (10))))) (fSeq (fRet (fIf (fB (fV 2)) (fMkX (He.ga K "InvalidIndex") "given" (fCo (fV 1) fNil)) (Jhl (He.ga K "InvalidIndex") "given" (fV 1)))) Jbl) Jbl) (fSeq (fIfS (fB (f2 (pEq false) (fV 0) (fC (.int (11))))) (fSeq (fRet (fIf (fB (fV 2)) (fMkX (He.ga K "NotPlan") "given" (fCo (fV 1) fNil)) (Jhl (He.ga K "NotPlan") "given" (fV 1)))) Jbl) Jbl) (fSeq (fIfS (fB (f2 (pEq false) (fV 0) (fC (.int (16))))) (fSeq (fRet (fIf (fB (fV 2)) (fMkX (He.ga K "UnknownName") "given" (fCo (fV 1) fNil)) (Jhl (He.ga K "UnknownName") "given" (fV 1)))) Jbl) Jbl) (fSeq (fIfS (fB (f2 (pEq false) (fV 0) (fC (.int (18))))) (fSeq (fRet (fIf (fB (fV 2)) (fMkX (He.ga K "OtherDays") "given" (fCo (fV 1) fNil)) (Jhl (He.ga K "OtherDays") "given" (fV 1)))) Jbl) Jbl) (fSeq (fRet (fIf (fB (fV 2)) (fMkX (He.ga K "OutOfBounds") "given" (fCo (fV 1) fNil)) (Jhl (He.ga K "OutOfBounds") "given" (fV 1)))) Jbl))))))))
def Jby (K : PySem.W.Frag) : List D → T D := fun ds => runT (JoR K (JaC ["_law_k", "_law_thing", "_law_by_position"] ds))
def JoS (K : PySem.W.Frag) : FS := (fSeq (fIfS (fB (f2 (pEq false) (fV 0) (fC (.int (12))))) (fSeq (fRet (fIf (fB (fV 2)) (fMkX (He.ga K "InvalidDays") "index" (fCo (fV 1) fNil)) (Jhl (He.ga K "InvalidDays") "index" (fV 1)))) Jbl) Jbl) (fSeq (fIfS (fB (f2 (pEq false) (fV 0) (fC (.int (13))))) (fSeq (fRet (fIf (fB (fV 2)) (fMkX (He.ga K "InvalidRules") "index" (fCo (fV 1) fNil)) (Jhl (He.ga K "InvalidRules") "index" (fV 1)))) Jbl) Jbl) (fSeq (fIfS (fB (f2 (pEq false) (fV 0) (fC (.int (14))))) (fSeq (fRet (fIf (fB (fV 2)) (fMkX (He.ga K "InvalidChanges") "index" (fCo (fV 1) fNil)) (Jhl (He.ga K "InvalidChanges") "index" (fV 1)))) Jbl) Jbl) (fSeq (fIfS (fB (f2 (pEq false) (fV 0) (fC (.int (15))))) (fSeq (fRet (fIf (fB (fV 2)) (fMkX (He.ga K "InvalidWishes") "index" (fCo (fV 1) fNil)) (Jhl (He.ga K "InvalidWishes") "index" (fV 1)))) Jbl) Jbl) (fSeq (fIfS (fB (f2 (pEq false) (fV 0) (fC (.int (17))))) (fSeq (fRet (fIf (fB (fV 2)) (fMkX (He.ga K "InUse") "index" (fCo (fV 1) fNil)) (Jhl (He.ga K "InUse") "index" (fV 1)))) Jbl) Jbl) (fSeq (fIfS (fB (f2 (pEq false) (fV 0) (fC (.int (20))))) (fSeq (fRet (JwX (He.ga K "NothingToUndo"))) Jbl) Jbl) (fSeq (fRet (fIf (fB (fV 2)) (fMkX (He.ga K "Broken") "index" (fCo (fV 1) fNil)) (Jhl (He.ga K "Broken") "index" (fV 1)))) Jbl)))))))
def JbA (K : PySem.W.Frag) : List D → T D := fun ds => runT (JoS K (JaC ["_law_k", "_law_thing", "_law_by_position"] ds))
def Jbc (K : PySem.W.Frag) : FS := (fSeq (fSet 1 (fLs (fCo (fCB (p2 (pIsX K (CE K))) (fCo (fV 0) (fCo (fC (.ref (He.ga K "InvalidName"))) fNil))) (fCo (fCB (p2 (pIsX K (CE K))) (fCo (fV 0) (fCo (fC (.ref (He.ga K "InvalidMost"))) fNil))) (fCo (fCB (p2 (pIsX K (CE K))) (fCo (fV 0) (fCo (fC (.ref (He.ga K "InvalidKind"))) fNil))) fNil))))) (fSeq (fSet 1 (f2 pAdd (fV 1) (fLs (fCo (fCB (p2 (pIsX K (CE K))) (fCo (fV 0) (fCo (fC (.ref (He.ga K "InvalidNumber"))) fNil))) (fCo (fCB (p2 (pIsX K (CE K))) (fCo (fV 0) (fCo (fC (.ref (He.ga K "InvalidRate"))) fNil))) (fCo (fCB (p2 (pIsX K (CE K))) (fCo (fV 0) (fCo (fC (.ref (He.ga K "InvalidText"))) fNil))) fNil)))))) (fSeq (fSet 1 (f2 pAdd (fV 1) (fLs (fCo (fCB (p2 (pIsX K (CE K))) (fCo (fV 0) (fCo (fC (.ref (He.ga K "InvalidSheet"))) fNil))) (fCo (fCB (p2 (pIsX K (CE K))) (fCo (fV 0) (fCo (fC (.ref (He.ga K "InvalidTotal"))) fNil))) (fCo (fCB (p2 (pIsX K (CE K))) (fCo (fV 0) (fCo (fC (.ref (He.ga K "InvalidHours"))) fNil))) fNil)))))) (fSeq (fSet 1 (f2 pAdd (fV 1) (fLs (fCo (fCB (p2 (pIsX K (CE K))) (fCo (fV 0) (fCo (fC (.ref (He.ga K "InvalidWish"))) fNil))) (fCo (fCB (p2 (pIsX K (CE K))) (fCo (fV 0) (fCo (fC (.ref (He.ga K "InvalidIndex"))) fNil))) (fCo (fCB (p2 (pIsX K (CE K))) (fCo (fV 0) (fCo (fC (.ref (He.ga K "NotPlan"))) fNil))) fNil)))))) (fSeq (fSet 1 (f2 pAdd (fV 1) (fLs (fCo (fCB (p2 (pIsX K (CE K))) (fCo (fV 0) (fCo (fC (.ref (He.ga K "InvalidDays"))) fNil))) (fCo (fCB (p2 (pIsX K (CE K))) (fCo (fV 0) (fCo (fC (.ref (He.ga K "InvalidRules"))) fNil))) (fCo (fCB (p2 (pIsX K (CE K))) (fCo (fV 0) (fCo (fC (.ref (He.ga K "InvalidChanges"))) fNil))) fNil)))))) (fSeq (fSet 1 (f2 pAdd (fV 1) (fLs (fCo (fCB (p2 (pIsX K (CE K))) (fCo (fV 0) (fCo (fC (.ref (He.ga K "InvalidWishes"))) fNil))) (fCo (fCB (p2 (pIsX K (CE K))) (fCo (fV 0) (fCo (fC (.ref (He.ga K "UnknownName"))) fNil))) (fCo (fCB (p2 (pIsX K (CE K))) (fCo (fV 0) (fCo (fC (.ref (He.ga K "InUse"))) fNil))) fNil)))))) (fSeq (fSet 1 (f2 pAdd (fV 1) (fLs (fCo (fCB (p2 (pIsX K (CE K))) (fCo (fV 0) (fCo (fC (.ref (He.ga K "OtherDays"))) fNil))) (fCo (fCB (p2 (pIsX K (CE K))) (fCo (fV 0) (fCo (fC (.ref (He.ga K "OutOfBounds"))) fNil))) (fCo (fCB (p2 (pIsX K (CE K))) (fCo (fV 0) (fCo (fC (.ref (He.ga K "NothingToUndo"))) fNil))) fNil)))))) (fSeq (fRet (f2 pAdd (fV 1) (fLs (fCo (fCB (p2 (pIsX K (CE K))) (fCo (fV 0) (fCo (fC (.ref (He.ga K "Broken"))) fNil))) fNil)))) Jbl))))))))
def JaV (K : PySem.W.Frag) : List D → T D := fun ds => runT (Jbc K (JaC ["_law_e", "_law_found"] ds))
def Jbd (K : PySem.W.Frag) : FS := (fSeq (fSet 1 (fLs (fCo (fCB (p2 (pIsX K (CE K))) (fCo (fV 0) (fCo (fC (.ref (He.ga K "WrongValue"))) fNil))) (fCo (fCB (p2 (pIsX K (CE K))) (fCo (fV 0) (fCo (fC (.ref (He.ga K "WrongName"))) fNil))) (fCo (fCB (p2 (pIsX K (CE K))) (fCo (fV 0) (fCo (fC (.ref (He.ga K "NotPossible"))) fNil))) fNil))))) (fSeq (fRet (f2 pAdd (fV 1) (fLs (fCo (fCB (p2 (pIsX K (CE K))) (fCo (fV 0) (fCo (fC (.ty "ValueError")) fNil))) (fCo (fCB (p2 (pIsX K (CE K))) (fCo (fV 0) (fCo (fC (.ty "LookupError")) fNil))) (fCo (fCB (p2 (pIsX K (CE K))) (fCo (fV 0) (fCo (fC (.ty "ArithmeticError")) fNil))) fNil)))))) Jbl))
def JaW (K : PySem.W.Frag) : List D → T D := fun ds => runT (Jbd K (JaC ["_law_e", "_law_found"] ds))
def Ja1 (K : PySem.W.Frag) : FS := (fSeq (fIfS (fB (f2 pLt (fV 0) (fC (.int (7))))) (fSeq (fSet 3 (JnC (JbF K) (fun ds _ => ds) (fCo (fV 0) (fCo (fV 1) (fCo (fV 2) fNil))) fNil)) Jbl) (fSeq (fIfS (fOr (fB (f2 pLt (fV 0) (fC (.int (12))))) (fB (f2 (pIn false) (fV 0) (fLs (fCo (fC (.int (16))) (fCo (fC (.int (18))) (fCo (fC (.int (19))) fNil))))))) (fSeq (fSet 3 (JnC (Jby K) (fun ds _ => ds) (fCo (fV 0) (fCo (fV 1) (fCo (fV 2) fNil))) fNil)) Jbl) (fSeq (fSet 3 (JnC (JbA K) (fun ds _ => ds) (fCo (fV 0) (fCo (fV 1) (fCo (fV 2) fNil))) fNil)) Jbl)) Jbl)) (fSeq (fSet 4 (fIf (fB (f2 pLt (fV 0) (fC (.int (16))))) (fC (.int (0))) (fIf (fB (f2 pLt (fV 0) (fC (.int (18))))) (fC (.int (1))) (fC (.int (2)))))) (fSeq (fIfS (fB (f2 (pEq true) (JnC (JaV K) (fun ds _ => ds) (fCo (fV 3) fNil) fNil) (fLc (Jbr (fCo (fC (.int (22))) fNil)) (.one 6) fYes (f2 (pEq false) (fV 6) (fV 0)) [6]))) (fSeq (fRet (fC (.bl false))) Jbl) Jbl) (fSeq (fIfS (fB (f2 (pEq true) (JnC (JaW K) (fun ds _ => ds) (fCo (fV 3) fNil) fNil) (fLc (Jbr (fCo (fC (.int (6))) fNil)) (.one 6) fYes (f2 (pEq false) (f2 pMod (fCB (p1 JcI) (fCo (fV 6) fNil)) (fC (.int (3)))) (fV 4)) [6]))) (fSeq (fRet (fC (.bl false))) Jbl) Jbl) (fSeq (fIfS (fB (f2 (pEq false) (fV 0) (fC (.int (20))))) (fSeq (fRet (fC (.bl true))) Jbl) Jbl) (fSeq (fSet 5 (fIf (fOr (fB (f2 pLt (fV 0) (fC (.int (12))))) (fB (f2 (pIn false) (fV 0) (fLs (fCo (fC (.int (16))) (fCo (fC (.int (18))) (fCo (fC (.int (19))) fNil))))))) (fXv "given" (Ja9 K) (fV 3)) (fXv "index" (Jbz K) (fV 3)))) (fSeq (fRet (f2 (pEqT false) (fCB (p1 Jpj) (fCo (fLs (fCo (fV 5) fNil)) fNil)) (fCB (p1 Jpj) (fCo (fLs (fCo (fV 1) fNil)) fNil)))) Jbl)))))))
def Jae (K : PySem.W.Frag) : List D → T D := fun ds => runT (Ja1 K (JaC ["_law_k", "_law_thing", "_law_by_position", "_law_e", "_law_group", "_law_held", "_law_at"] ds))
def JoT (K : PySem.W.Frag) : FS := (fIfS (fOr (fNot (fB (JnC (Jae K) (fun ds _ => ds) (fCo (fV 1) (fCo (fV 2) (fCo (fC (.bl true)) fNil))) fNil))) (fNot (fB (JnC (Jae K) (fun ds _ => ds) (fCo (fV 1) (fCo (fV 2) (fCo (fC (.bl false)) fNil))) fNil)))) (fSeq (fRet (fC (.bl false))) Jbl) Jbl)
def JoU (K : PySem.W.Frag) : FS := (fFor (Jbr (fCo (fC (.int (22))) fNil)) (gN 1) (fSeq (fSet 2 (JnC (JpF K) (fun ds _ => ds) (fCo (fV 0) fNil) fNil)) (fSeq (JoT K) Jbl)))
def JoV (K : PySem.W.Frag) : FS := (fSeq (JoU K) (fSeq (fRet (fC (.bl true))) Jbl))
def JoW (K : PySem.W.Frag) : List D → T D := fun ds => runT (JoV K (JaC ["_law_pool_here", "_law_k", "_law_thing"] ds))
theorem Jnm : FnScope ["self", "given"] ["self", "given"] (defScope (inS (topS 2) 0)) := Qa
theorem JoX {P : Program} {w : World} {K : PySem.W.Frag} {mg : Str → Option Value} {base : Heap} (c : SaysF fa fn K) : OkXV P w K mg base (He.ga K "InvalidName") (He.ma K (He.ga K "InvalidName") "__init__") "given" "given" := by
  obtain ⟨fd_, FD_⟩ := c.def_ 0 (d := Jjl)
  exact Jbx (Jap (c.fact 290 (f := Ja8 "InvalidName" "given"))) FD_ Jnm rfl (fun _ _ _ _ _ _ us hl => match us, hl with | [_, _], _ => rfl) fun _ _ _ _ _ _ _ _ => rfl
theorem Jnn : FnScope ["self", "given"] ["self", "given"] (defScope (inS (topS 3) 0)) := Qa
theorem JoY {P : Program} {w : World} {K : PySem.W.Frag} {mg : Str → Option Value} {base : Heap} (c : SaysF fa fn K) : OkXV P w K mg base (He.ga K "InvalidMost") (He.ma K (He.ga K "InvalidMost") "__init__") "given" "given" := by
  obtain ⟨fd_, FD_⟩ := c.def_ 1 (d := Jjm)
  exact Jbx (Jap (c.fact 291 (f := Ja8 "InvalidMost" "given"))) FD_ Jnn rfl (fun _ _ _ _ _ _ us hl => match us, hl with | [_, _], _ => rfl) fun _ _ _ _ _ _ _ _ => rfl
theorem Jno : FnScope ["self", "given"] ["self", "given"] (defScope (inS (topS 4) 0)) := Qa
theorem JoZ {P : Program} {w : World} {K : PySem.W.Frag} {mg : Str → Option Value} {base : Heap} (c : SaysF fa fn K) : OkXV P w K mg base (He.ga K "InvalidKind") (He.ma K (He.ga K "InvalidKind") "__init__") "given" "given" := by
  obtain ⟨fd_, FD_⟩ := c.def_ 2 (d := Jjn)
  exact Jbx (Jap (c.fact 292 (f := Ja8 "InvalidKind" "given"))) FD_ Jno rfl (fun _ _ _ _ _ _ us hl => match us, hl with | [_, _], _ => rfl) fun _ _ _ _ _ _ _ _ => rfl
theorem JmA : FnScope ["self", "given"] ["self", "given"] (defScope (inS (topS 5) 0)) := Qa
theorem JnV {P : Program} {w : World} {K : PySem.W.Frag} {mg : Str → Option Value} {base : Heap} (c : SaysF fa fn K) : OkXV P w K mg base (He.ga K "InvalidNumber") (He.ma K (He.ga K "InvalidNumber") "__init__") "given" "given" := by
  obtain ⟨fd_, FD_⟩ := c.def_ 3 (d := JdD)
  exact Jbx (Jap (c.fact 293 (f := Ja8 "InvalidNumber" "given"))) FD_ JmA rfl (fun _ _ _ _ _ _ us hl => match us, hl with | [_, _], _ => rfl) fun _ _ _ _ _ _ _ _ => rfl
theorem Jnp : FnScope ["self", "given"] ["self", "given"] (defScope (inS (topS 6) 0)) := Qa
theorem Jo0 {P : Program} {w : World} {K : PySem.W.Frag} {mg : Str → Option Value} {base : Heap} (c : SaysF fa fn K) : OkXV P w K mg base (He.ga K "InvalidRate") (He.ma K (He.ga K "InvalidRate") "__init__") "given" "given" := by
  obtain ⟨fd_, FD_⟩ := c.def_ 4 (d := Jjo)
  exact Jbx (Jap (c.fact 294 (f := Ja8 "InvalidRate" "given"))) FD_ Jnp rfl (fun _ _ _ _ _ _ us hl => match us, hl with | [_, _], _ => rfl) fun _ _ _ _ _ _ _ _ => rfl
theorem Jnq : FnScope ["self", "given"] ["self", "given"] (defScope (inS (topS 7) 0)) := Qa
theorem Jo1 {P : Program} {w : World} {K : PySem.W.Frag} {mg : Str → Option Value} {base : Heap} (c : SaysF fa fn K) : OkXV P w K mg base (He.ga K "InvalidText") (He.ma K (He.ga K "InvalidText") "__init__") "given" "given" := by
  obtain ⟨fd_, FD_⟩ := c.def_ 5 (d := Jjp)
  exact Jbx (Jap (c.fact 295 (f := Ja8 "InvalidText" "given"))) FD_ Jnq rfl (fun _ _ _ _ _ _ us hl => match us, hl with | [_, _], _ => rfl) fun _ _ _ _ _ _ _ _ => rfl
theorem Jm4 : FnScope ["self", "given"] ["self", "given"] (defScope (inS (topS 8) 0)) := Qa
theorem Jn9 {P : Program} {w : World} {K : PySem.W.Frag} {mg : Str → Option Value} {base : Heap} (c : SaysF fa fn K) : OkXV P w K mg base (He.ga K "InvalidSheet") (He.ma K (He.ga K "InvalidSheet") "__init__") "given" "given" := by
  obtain ⟨fd_, FD_⟩ := c.def_ 6 (d := Jfh)
  exact Jbx (Jap (c.fact 296 (f := Ja8 "InvalidSheet" "given"))) FD_ Jm4 rfl (fun _ _ _ _ _ _ us hl => match us, hl with | [_, _], _ => rfl) fun _ _ _ _ _ _ _ _ => rfl
theorem Jm5 : FnScope ["self", "given"] ["self", "given"] (defScope (inS (topS 9) 0)) := Qa
theorem Joa {P : Program} {w : World} {K : PySem.W.Frag} {mg : Str → Option Value} {base : Heap} (c : SaysF fa fn K) : OkXV P w K mg base (He.ga K "InvalidTotal") (He.ma K (He.ga K "InvalidTotal") "__init__") "given" "given" := by
  obtain ⟨fd_, FD_⟩ := c.def_ 7 (d := Jfi)
  exact Jbx (Jap (c.fact 297 (f := Ja8 "InvalidTotal" "given"))) FD_ Jm5 rfl (fun _ _ _ _ _ _ us hl => match us, hl with | [_, _], _ => rfl) fun _ _ _ _ _ _ _ _ => rfl
theorem Jm6 : FnScope ["self", "given"] ["self", "given"] (defScope (inS (topS 10) 0)) := Qa
theorem Job {P : Program} {w : World} {K : PySem.W.Frag} {mg : Str → Option Value} {base : Heap} (c : SaysF fa fn K) : OkXV P w K mg base (He.ga K "InvalidHours") (He.ma K (He.ga K "InvalidHours") "__init__") "given" "given" := by
  obtain ⟨fd_, FD_⟩ := c.def_ 8 (d := Jfj)
  exact Jbx (Jap (c.fact 298 (f := Ja8 "InvalidHours" "given"))) FD_ Jm6 rfl (fun _ _ _ _ _ _ us hl => match us, hl with | [_, _], _ => rfl) fun _ _ _ _ _ _ _ _ => rfl
theorem Jnr : FnScope ["self", "given"] ["self", "given"] (defScope (inS (topS 11) 0)) := Qa
theorem Jo2 {P : Program} {w : World} {K : PySem.W.Frag} {mg : Str → Option Value} {base : Heap} (c : SaysF fa fn K) : OkXV P w K mg base (He.ga K "InvalidWish") (He.ma K (He.ga K "InvalidWish") "__init__") "given" "given" := by
  obtain ⟨fd_, FD_⟩ := c.def_ 9 (d := Jjq)
  exact Jbx (Jap (c.fact 299 (f := Ja8 "InvalidWish" "given"))) FD_ Jnr rfl (fun _ _ _ _ _ _ us hl => match us, hl with | [_, _], _ => rfl) fun _ _ _ _ _ _ _ _ => rfl
theorem Jm7 : FnScope ["self", "given"] ["self", "given"] (defScope (inS (topS 12) 0)) := Qa
theorem Joc {P : Program} {w : World} {K : PySem.W.Frag} {mg : Str → Option Value} {base : Heap} (c : SaysF fa fn K) : OkXV P w K mg base (He.ga K "InvalidIndex") (He.ma K (He.ga K "InvalidIndex") "__init__") "given" "given" := by
  obtain ⟨fd_, FD_⟩ := c.def_ 10 (d := Jfk)
  exact Jbx (Jap (c.fact 300 (f := Ja8 "InvalidIndex" "given"))) FD_ Jm7 rfl (fun _ _ _ _ _ _ us hl => match us, hl with | [_, _], _ => rfl) fun _ _ _ _ _ _ _ _ => rfl
theorem Jo3 : FnScope ["self", "given"] ["self", "given"] (defScope (inS (topS 13) 0)) := Qa
theorem JqU {P : Program} {w : World} {K : PySem.W.Frag} {mg : Str → Option Value} {base : Heap} (c : SaysF fa fn K) : OkXV P w K mg base (He.ga K "NotPlan") (He.ma K (He.ga K "NotPlan") "__init__") "given" "given" := by
  obtain ⟨fd_, FD_⟩ := c.def_ 11 (d := Jnb)
  exact Jbx (Jap (c.fact 301 (f := Ja8 "NotPlan" "given"))) FD_ Jo3 rfl (fun _ _ _ _ _ _ us hl => match us, hl with | [_, _], _ => rfl) fun _ _ _ _ _ _ _ _ => rfl
theorem Jns : FnScope ["self", "given"] ["self", "given"] (defScope (inS (topS 19) 0)) := Qa
theorem Jo4 {P : Program} {w : World} {K : PySem.W.Frag} {mg : Str → Option Value} {base : Heap} (c : SaysF fa fn K) : OkXV P w K mg base (He.ga K "UnknownName") (He.ma K (He.ga K "UnknownName") "__init__") "given" "given" := by
  obtain ⟨fd_, FD_⟩ := c.def_ 12 (d := Jjr)
  exact Jbx (Jap (c.fact 302 (f := Ja8 "UnknownName" "given"))) FD_ Jns rfl (fun _ _ _ _ _ _ us hl => match us, hl with | [_, _], _ => rfl) fun _ _ _ _ _ _ _ _ => rfl
theorem JnW : FnScope ["self", "given"] ["self", "given"] (defScope (inS (topS 22) 0)) := Qa
theorem JpG {P : Program} {w : World} {K : PySem.W.Frag} {mg : Str → Option Value} {base : Heap} (c : SaysF fa fn K) : OkXV P w K mg base (He.ga K "OtherDays") (He.ma K (He.ga K "OtherDays") "__init__") "given" "given" := by
  obtain ⟨fd_, FD_⟩ := c.def_ 13 (d := Jlk)
  exact Jbx (Jap (c.fact 303 (f := Ja8 "OtherDays" "given"))) FD_ JnW rfl (fun _ _ _ _ _ _ us hl => match us, hl with | [_, _], _ => rfl) fun _ _ _ _ _ _ _ _ => rfl
theorem Jnt : FnScope ["self", "given"] ["self", "given"] (defScope (inS (topS 23) 0)) := Qa
theorem Jo5 {P : Program} {w : World} {K : PySem.W.Frag} {mg : Str → Option Value} {base : Heap} (c : SaysF fa fn K) : OkXV P w K mg base (He.ga K "OutOfBounds") (He.ma K (He.ga K "OutOfBounds") "__init__") "given" "given" := by
  obtain ⟨fd_, FD_⟩ := c.def_ 14 (d := Jjs)
  exact Jbx (Jap (c.fact 304 (f := Ja8 "OutOfBounds" "given"))) FD_ Jnt rfl (fun _ _ _ _ _ _ us hl => match us, hl with | [_, _], _ => rfl) fun _ _ _ _ _ _ _ _ => rfl
theorem Jnu : FnScope ["self", "index"] ["self", "index"] (defScope (inS (topS 14) 0)) := Qa
theorem Jo6 {P : Program} {w : World} {K : PySem.W.Frag} {mg : Str → Option Value} {base : Heap} (c : SaysF fa fn K) : OkXV P w K mg base (He.ga K "InvalidDays") (He.ma K (He.ga K "InvalidDays") "__init__") "index" "index" := by
  obtain ⟨fd_, FD_⟩ := c.def_ 15 (d := Jjt)
  exact Jbx (Jap (c.fact 305 (f := Ja8 "InvalidDays" "index"))) FD_ Jnu rfl (fun _ _ _ _ _ _ us hl => match us, hl with | [_, _], _ => rfl) fun _ _ _ _ _ _ _ _ => rfl
theorem Jm8 : FnScope ["self", "index"] ["self", "index"] (defScope (inS (topS 15) 0)) := Qa
theorem Jod {P : Program} {w : World} {K : PySem.W.Frag} {mg : Str → Option Value} {base : Heap} (c : SaysF fa fn K) : OkXV P w K mg base (He.ga K "InvalidRules") (He.ma K (He.ga K "InvalidRules") "__init__") "index" "index" := by
  obtain ⟨fd_, FD_⟩ := c.def_ 16 (d := Jfl)
  exact Jbx (Jap (c.fact 306 (f := Ja8 "InvalidRules" "index"))) FD_ Jm8 rfl (fun _ _ _ _ _ _ us hl => match us, hl with | [_, _], _ => rfl) fun _ _ _ _ _ _ _ _ => rfl
theorem JlX : FnScope ["self", "index"] ["self", "index"] (defScope (inS (topS 16) 0)) := Qa
theorem JnK {P : Program} {w : World} {K : PySem.W.Frag} {mg : Str → Option Value} {base : Heap} (c : SaysF fa fn K) : OkXV P w K mg base (He.ga K "InvalidChanges") (He.ma K (He.ga K "InvalidChanges") "__init__") "index" "index" := by
  obtain ⟨fd_, FD_⟩ := c.def_ 17 (d := Jcc)
  exact Jbx (Jap (c.fact 307 (f := Ja8 "InvalidChanges" "index"))) FD_ JlX rfl (fun _ _ _ _ _ _ us hl => match us, hl with | [_, _], _ => rfl) fun _ _ _ _ _ _ _ _ => rfl
theorem JmB : FnScope ["self", "index"] ["self", "index"] (defScope (inS (topS 17) 0)) := Qa
theorem JnX {P : Program} {w : World} {K : PySem.W.Frag} {mg : Str → Option Value} {base : Heap} (c : SaysF fa fn K) : OkXV P w K mg base (He.ga K "InvalidWishes") (He.ma K (He.ga K "InvalidWishes") "__init__") "index" "index" := by
  obtain ⟨fd_, FD_⟩ := c.def_ 18 (d := JdE)
  exact Jbx (Jap (c.fact 308 (f := Ja8 "InvalidWishes" "index"))) FD_ JmB rfl (fun _ _ _ _ _ _ us hl => match us, hl with | [_, _], _ => rfl) fun _ _ _ _ _ _ _ _ => rfl
theorem JpH : FnScope ["self", "index"] ["self", "index"] (defScope (inS (topS 20) 0)) := Qa
theorem Jst {P : Program} {w : World} {K : PySem.W.Frag} {mg : Str → Option Value} {base : Heap} (c : SaysF fa fn K) : OkXV P w K mg base (He.ga K "InUse") (He.ma K (He.ga K "InUse") "__init__") "index" "index" := by
  obtain ⟨fd_, FD_⟩ := c.def_ 19 (d := Jn3)
  exact Jbx (Jap (c.fact 309 (f := Ja8 "InUse" "index"))) FD_ JpH rfl (fun _ _ _ _ _ _ us hl => match us, hl with | [_, _], _ => rfl) fun _ _ _ _ _ _ _ _ => rfl
theorem Jpc : FnScope ["self", "index"] ["self", "index"] (defScope (inS (topS 25) 0)) := Qa
theorem Jrr {P : Program} {w : World} {K : PySem.W.Frag} {mg : Str → Option Value} {base : Heap} (c : SaysF fa fn K) : OkXV P w K mg base (He.ga K "Broken") (He.ma K (He.ga K "Broken") "__init__") "index" "index" := by
  obtain ⟨fd_, FD_⟩ := c.def_ 20 (d := Jnz)
  exact Jbx (Jap (c.fact 310 (f := Ja8 "Broken" "index"))) FD_ Jpc rfl (fun _ _ _ _ _ _ us hl => match us, hl with | [_, _], _ => rfl) fun _ _ _ _ _ _ _ _ => rfl
theorem sc_l_cell : FnScope ["_law_script", "_law_spot", "_law_state", "_law_cell_here"] ["_law_script", "_law_spot"] (defScope (topS 30)) := Qa
theorem Jsu : FnScope ["_law_cell_here"] ["_law_cell_here"] (defScope (topS 31)) := Qa
theorem sc_l_draw : FnScope ["_law_pool_here", "_law_many", "_law_digit", "_law_state"] ["_law_pool_here", "_law_many"] (defScope (topS 32)) := Qa
theorem Jsv : FnScope ["_law_pool_here", "_law_things"] ["_law_pool_here", "_law_things"] (defScope (topS 33)) := Qa
theorem sc_l_odd : FnScope ["_law_pool_here", "_law_many", "_law_menu"] ["_law_pool_here"] (defScope (topS 34)) := Qa
theorem JqV : FnScope ["_law_k", "_law_thing", "_law_by_position"] ["_law_k", "_law_thing", "_law_by_position"] (defScope (topS 35)) := Qa
theorem Jqm : FnScope ["_law_k", "_law_thing", "_law_by_position"] ["_law_k", "_law_thing", "_law_by_position"] (defScope (topS 36)) := Qa
theorem Jqn : FnScope ["_law_k", "_law_thing", "_law_by_position"] ["_law_k", "_law_thing", "_law_by_position"] (defScope (topS 37)) := Qa
theorem sc_l_sorts : FnScope ["_law_e", "_law_found"] ["_law_e"] (defScope (topS 38)) := Qa
theorem sc_l_bases : FnScope ["_law_e", "_law_found"] ["_law_e"] (defScope (topS 39)) := Qa
theorem sc_l_is_right : FnScope ["_law_k", "_law_thing", "_law_by_position", "_law_e", "_law_group", "_law_held", "_law_at"] ["_law_k", "_law_thing", "_law_by_position"] (defScope (topS 40)) := Qa
theorem sc_l_right : FnScope ["_law_pool_here", "_law_k", "_law_thing"] ["_law_pool_here"] (defScope (topS 41)) := Qa
section
variable {P : Program} {w : World} {K : PySem.W.Frag} {mg : Str → Option Value} {base : Heap} (X : K.In base) (G : base.Ns mainGlobals mg) (c : SaysF fa fn K)
include X G c
theorem Jsw : OkF P w K mg base 1 Jpu ["_law_script", "_law_spot"] (Jqk K) := by
  obtain ⟨fd_, FD_⟩ := c.def_ 21 (d := Jpu)
  have Jo7 := He.free_ok X G (c.fact 0 (f := fun K => (He.Fa.free "int").ok K))
  have Jsx := He.free_ok X G (c.fact 1 (f := fun K => (He.Fa.free "len").ok K))
  refine ⟨fd_, FD_, JpY FD_ sc_l_cell (fun ds M Q E h => JrW h) (fun cdv A outer s H Z ds M Q E E1 hr h => ?_), Bd.all FD_ rfl rfl fun _ _ _ _ _ _ us hl => match us, hl with | [_, _], _ => rfl⟩
  obtain ⟨a, b, rfl, h⟩ := h
  refine ⟨_, (Jbq (JsJ (Jpf JtS (dv 1) (JbH Jup rfl Jsx boot_len (Jbk (dv 0) da_nil)) (nomark _)) (Jbq (Jn1 (Jps (dv 0) (dv 1) Qi)) dss_nil) dss_nil) (Jbq (JpT (i := 2) sc_l_cell.nd rfl Qb (Jff JkY (Jff JnM de_int (Jff JkY (dv 1) de_int)) de_int)) (Jbq (JtU JpZ rfl (Jv0 (JsI (dv 0) Jug (Juh de_int))) (JqD (i := 3) sc_l_cell.nd rfl Qb) (Jbq (JpT (i := 2) sc_l_cell.nd rfl Qb (Jff Jnd (Jcb Jp1 rfl Jo7 boot_int (Jbk (Jff JkY (Jff JnM (dv 2) de_int) (dv 3)) da_nil)) de_int)) dss_nil)) (Jbq (Jn1 (dv 2)) dss_nil)))), ?_⟩
  obtain ⟨ns, i, rfl, rfl, hi, h⟩ := h
  simp only [dSeq, Jrj, JrG, dRet, JrH, dIfS, dAsg, Jm9, Jo9, Jna, Jpa, Jrk, dCB, JqA, dNil, dC, dVar, dOp, dUn, dB, dAnd, dOr, dNot, JrB, dOrV, JrC, dIf, dTup, dLst, Jp7, JaC, List.map, List.replicate, List.length, List.append, List.getElem?_cons_zero, List.getElem?_cons_succ, List.set, Nat.sub, List.cons_append, List.nil_append, Nat.zero_add, Nat.reduceAdd, Nat.reduceSub, dP, fTup, JqM, fLst, fVar, fDic, fKv, Jqe, Jr2, Jr3, JoI, JoG, id, Option.some.injEq, exists_eq_left', exists_and_left, D.ref.injEq, D.int.injEq, D.bl.injEq, D.lst.injEq, Nat.reduceLeDiff, Nat.zero_le, lstW, seqOf, Jpr, Jqa, Jqb, Jqc, Jqd, aLt, aGt, aGe, JoH, Jqf, Jqg, JoK, JoJ, dFor, iTup, iLst, forL, Jp4, Jnx, dTry, JoB, JoC, JoD, JoE, aSub, JoF, JnB, aMod, Jrh, aPow, aIsN, JrE, Jp8, JqF, dBM, m2S, bty, Jou, Jov, Jow, Jox, Joy, Joz, JoA, true_and, and_true, if_true, if_false, Bool.not_true, Bool.not_false, Bool.false_eq_true, reduceIte]
  by_cases hc : i < (ns.length : Int)
  · simp only [decide_eq_true hc, if_true]
    obtain ⟨d, e, hd⟩ := Jr4 (l := ns.map D.int) hi (by simpa using hc)
    obtain ⟨n, _, rfl⟩ := List.mem_map.mp hd
    exact ix_s (ds := ns.map D.int) rfl e (RetQ.here (h _))
  · simp only [decide_eq_false hc, Bool.false_eq_true, if_false]
    refine ⟨CMul.ok (.inl ⟨by decide, by decide⟩), ns.map D.int, rfl, ?_⟩
    refine Jq9 (fun items r M' => M' = M ∧ (∀ x ∈ items, ∃ n, x = D.int n) ∧ ∃ st o, r = [some (D.scr ns), some (D.int i), some (D.int st), o]) ?_ ?_ ⟨rfl, fun x hx => ?_, _, _, rfl⟩
    · rintro x xs r M' ⟨rfl, hx, st, o, rfl⟩ k
      obtain ⟨n, rfl⟩ := hx x (List.mem_cons_self ..)
      refine ⟨CMul.ok (.inr ⟨by decide, by decide⟩), ?_⟩
      refine ⟨(by decide : (0 : Int) < 2147483563), k _ _ ⟨rfl, fun y hy => hx y (List.mem_cons_of_mem _ hy), _, _, rfl⟩⟩
    · rintro r M' ⟨rfl, _, st, o, rfl⟩
      exact RetQ.here (h _)
    · unfold cutD at hx
      obtain ⟨n, _, rfl⟩ := List.mem_map.mp (List.mem_of_mem_drop (List.mem_of_mem_take hx))
      exact ⟨n, rfl⟩
theorem Jrs : OkF P w K mg base 1 Joi ["_law_cell_here"] (Jrp K) := by
  obtain ⟨fd_, FD_⟩ := c.def_ 22 (d := Joi)
  have JwZ := He.free_ok X G (c.fact 2 (f := fun K => (He.Fa.free "abs").ok K))
  have Jo7 := He.free_ok X G (c.fact 0 (f := fun K => (He.Fa.free "int").ok K))
  refine ⟨fd_, FD_, JpY FD_ Jsu (fun ds M Q E h => JrV h) (fun cdv A outer s H Z ds M Q E E1 hr h => ?_), Bd.all FD_ rfl rfl Qd⟩
  obtain ⟨a, rfl, h⟩ := h
  refine ⟨_, (Jbq (Jn1 (Jt9 (Jbk (Jff Jnd (Jcb Jp1 rfl Jo7 boot_int (Jbk (dv 0) da_nil)) de_int) (Jbk (JvO (Jpf JvS (JbH Jv5 rfl JwZ boot_abs (Jbk (dv 0) da_nil)) (Jff JrD de_int de_int) (nomark _)) (JbH Jv5 rfl JwZ boot_abs (Jbk (dv 0) da_nil)) de_int) (Jbk de_int da_nil))))) dss_nil), ?_⟩
  obtain ⟨c, rfl, h⟩ := h
  simp only [dSeq, Jrj, JrG, dRet, JrH, dIfS, dAsg, Jm9, Jo9, Jna, Jpa, Jrk, dCB, JqA, dNil, dC, dVar, dOp, dUn, dB, dAnd, dOr, dNot, JrB, dOrV, JrC, dIf, dTup, dLst, Jp7, JaC, List.map, List.replicate, List.length, List.append, List.getElem?_cons_zero, List.getElem?_cons_succ, List.set, Nat.sub, List.cons_append, List.nil_append, Nat.zero_add, Nat.reduceAdd, Nat.reduceSub, dP, fTup, JqM, fLst, fVar, fDic, fKv, Jqe, Jr2, Jr3, JoI, JoG, id, Option.some.injEq, exists_eq_left', exists_and_left, D.ref.injEq, D.int.injEq, D.bl.injEq, D.lst.injEq, Nat.reduceLeDiff, Nat.zero_le, lstW, seqOf, Jpr, Jqa, Jqb, Jqc, Jqd, aLt, aGt, aGe, JoH, Jqf, Jqg, JoK, JoJ, dFor, iTup, iLst, forL, Jp4, Jnx, dTry, JoB, JoC, JoD, JoE, aSub, JoF, JnB, aMod, Jrh, aPow, aIsN, JrE, Jp8, JqF, dBM, m2S, bty, Jou, Jov, Jow, Jox, Joy, Joz, JoA, true_and, and_true, if_true, if_false, Bool.not_true, Bool.not_false, Bool.false_eq_true, reduceIte, JvP]
  have habs : 0 ≤ absI c := by unfold absI; split <;> omega
  have hp : ∀ j, 0 ≤ j → Jny (c % 2147483563) j 0 := fun j hj => ⟨Int.emod_nonneg _ Qg, Int.lt_trans (Int.emod_lt_of_pos _ Qg) Qg, hj, Int.le_refl _⟩
  refine ⟨by decide, ⟨by decide, by decide, by decide⟩, ?_⟩
  by_cases hc : (10 : Int) ^ Int.toNat 18 ≤ absI c
  · simp only [decide_eq_true hc, if_true]
    exact ⟨by decide, fun p em => RetQ.here (h _ _ _ _ em (hp _ habs))⟩
  · simp only [decide_eq_false hc, Bool.false_eq_true, if_false]
    exact ⟨by decide, fun p em => RetQ.here (h _ _ _ _ em (hp _ (Int.le_refl _)))⟩
theorem Jsy : OkF P w K mg base 1 Joi ["_law_cell_here"] (Jql K) := by
  exact (Jrs X G c).newPool.imp fun ds M Q E h => by
    obtain ⟨a, rfl, c, rfl, h⟩ := h
    exact ⟨_, rfl, c, rfl, fun p i j k hp po => ⟨p, i, j, k, rfl, hp, po, rfl, h p hp⟩⟩
theorem Jrt : OkF P w K mg base 1 JnA ["_law_pool_here", "_law_many"] (Jrq K) := by
  obtain ⟨fd_, FD_⟩ := c.def_ 23 (d := JnA)
  have Jo7 := He.free_ok X G (c.fact 0 (f := fun K => (He.Fa.free "int").ok K))
  have Jta := He.free_ok X G (c.fact 3 (f := fun K => (He.Fa.free "divmod").ok K))
  refine ⟨fd_, FD_, JpY FD_ sc_l_draw (fun ds M Q E h => JrW h) (fun cdv A outer s H Z ds M Q E E1 hr h => ?_), Bd.all FD_ rfl rfl fun _ _ _ _ _ _ us hl => match us, hl with | [_, _], _ => rfl⟩
  obtain ⟨a, b, rfl, h⟩ := h
  refine ⟨_, (Jbq (JrJ (Jff JkY (Jps (dv 0) de_int Qi) de_int) (JrI (dv 0) de_int Juk)) (Jbq (JsJ (Jpf JvR (Jps (dv 0) de_int Qi) de_int (nomark _)) (Jbq (JrJ (JbH JsO rfl Jta boot_divmod (Jbk (Jps (dv 0) de_int Qi) (Jbk (dv 1) da_nil))) (JvZ (n := 2) rfl (Jq8 (JrI (dv 0) de_int Juk) (Jq8 (JqD (i := 2) sc_l_draw.nd rfl Qb) Juj)))) (Jbq (Jn1 (dv 2)) dss_nil)) dss_nil) (Jbq (JpT (i := 3) sc_l_draw.nd rfl Qb (Jcb Jp1 rfl Jo7 boot_int (Jbk (Jps (dv 0) de_int Qi) da_nil))) (Jbq (JpT (i := 3) sc_l_draw.nd rfl Qb (Jff Jnd (Jcb Jp1 rfl Jo7 boot_int (Jbk (Jff JkY (Jff JkY (Jff JnM (dv 3) (Jff JkY (Jff Jnd (Jcb Jp1 rfl Jo7 boot_int (Jbk (dv 3) da_nil)) de_int) de_int)) (Jff JnM de_int (Jps (dv 0) de_int Qi))) de_int) da_nil)) de_int)) (Jbq (JrJ (Jff Jnd (Jcb Jp1 rfl Jo7 boot_int (Jbk (Jff JkY (Jff JnM (dv 3) de_int) (Jff JnM de_int (Jps (dv 0) de_int Qi))) da_nil)) de_int) (JrI (dv 0) de_int Juk)) (Jbq (Jn1 (Jff Jnd (Jcb Jp1 rfl Jo7 boot_int (Jbk (Jff JsH (Jps (dv 0) de_int Qi) de_int) da_nil)) (dv 1))) dss_nil)))))), ?_⟩
  obtain ⟨p, n, i, j, k, rfl, rfl, em, ⟨i0, i1, j0, k0⟩, hn, hl, h⟩ := h
  have small : ∀ x y : Int, 0 ≤ x → x < 2147483648 → IntMulOk x y := fun x y h1 h2 => CMul.ok (.inl ⟨by omega, by omega⟩)
  have smallR : ∀ x y : Int, 0 ≤ y → y < 2147483648 → IntMulOk x y := fun x y h1 h2 => CMul.ok (.inr ⟨by omega, by omega⟩)
  simp only [dSeq, Jrj, JrG, dRet, JrH, dIfS, dAsg, Jm9, Jo9, Jna, Jpa, Jrk, dCB, JqA, dNil, dC, dVar, dOp, dUn, dB, dAnd, dOr, dNot, JrB, dOrV, JrC, dIf, dTup, dLst, Jp7, JaC, List.map, List.replicate, List.length, List.append, List.getElem?_cons_zero, List.getElem?_cons_succ, List.set, Nat.sub, List.cons_append, List.nil_append, Nat.zero_add, Nat.reduceAdd, Nat.reduceSub, dP, fTup, JqM, fLst, fVar, fDic, fKv, Jqe, Jr2, Jr3, JoI, JoG, id, Option.some.injEq, exists_eq_left', exists_and_left, D.ref.injEq, D.int.injEq, D.bl.injEq, D.lst.injEq, Nat.reduceLeDiff, Nat.zero_le, lstW, seqOf, Jpr, Jqa, Jqb, Jqc, Jqd, aLt, aGt, aGe, JoH, Jqf, Jqg, JoK, JoJ, dFor, iTup, iLst, forL, Jp4, Jnx, dTry, JoB, JoC, JoD, JoE, aSub, JoF, JnB, aMod, Jrh, aPow, aIsN, JrE, Jp8, JqF, dBM, m2S, bty, Jou, Jov, Jow, Jox, Joy, Joz, JoA, true_and, and_true, if_true, if_false, Bool.not_true, Bool.not_false, Bool.false_eq_true, reduceIte, aMul, aI1, JqG, aAdd, aCmp, aInt, Jrg]
  refine ix_m em rfl ?_
  refine JuC em (j := 2) rfl ?_
  have e1 : mset M p (.lst [.int i, .int j, .int (k + 1)]) p = some (.lst [.int i, .int j, .int (k + 1)]) := Jbt
  show aIx _ _ (mset M p (.lst [.int i, .int j, .int (k + 1)])) _
  refine ix_m e1 rfl ?_
  show (if decide (0 < j) = true then _ else _)
  by_cases hj : 0 < j
  · simp only [decide_eq_true hj, if_true]
    refine ix_m e1 rfl ?_
    refine ⟨⟨hn, hl⟩, ?_⟩
    refine JuC e1 (j := 1) rfl ?_
    show RetQ Q (.int (j % n)) (mset (mset M p _) p (.lst [.int i, .int (j / n), .int (k + 1)]))
    rw [Jnw]
    exact RetQ.here (h _ _ _ _ (Int.emod_nonneg _ Qh) (Int.emod_lt_of_pos _ hn) ⟨i0, i1, Int.ediv_nonneg Qh Qh, by omega⟩)
  · simp only [decide_eq_false hj, Bool.false_eq_true, if_false]
    refine ix_m e1 rfl ?_
    refine ⟨by decide, ?_⟩
    show IntMulOk i _ ∧ _
    refine ⟨small _ _ i0 i1, ?_⟩
    refine ix_m e1 rfl ?_
    refine ⟨small _ _ Qg Qg, ?_⟩
    show (0 : Int) < 2147483563 ∧ _
    refine ⟨by decide, ?_⟩
    show IntMulOk _ _ ∧ _
    refine ⟨smallR _ _ Qg Qg, ?_⟩
    refine ix_m e1 rfl ?_
    refine ⟨small _ _ Qg Qg, ?_⟩
    show (0 : Int) < 2147483399 ∧ _
    refine ⟨by decide, ?_⟩
    refine JuC e1 (j := 0) rfl ?_
    rw [Jnw]
    refine ix_m Jbt rfl ?_
    refine ⟨⟨by decide, by decide⟩, ?_⟩
    show 0 < n ∧ _
    refine ⟨hn, RetQ.here ?_⟩
    refine h _ _ _ _ (Int.emod_nonneg _ Qh) (Int.emod_lt_of_pos _ hn) ⟨Int.emod_nonneg _ Qg, ?_, j0, by omega⟩
    exact Int.lt_trans (Int.emod_lt_of_pos _ Qg) Qg
theorem Jru : OkF P w K mg base 1 JnA ["_law_pool_here", "_law_many"] (Jss K) := by
  exact (Jrt X G c).pool.imp fun ds M Q E h => by
    obtain ⟨a, b, rfl, p, n, rfl, rfl, em, hn, hl, h⟩ := h
    exact ⟨p, _, rfl, em, fun i j k po => ⟨_, _, rfl, p, n, i, j, k, rfl, rfl, Jbt, po, hn, hl, fun m i' j' k' h1 h2 po' => ⟨i', j', k', po', by rw [Jnw], h m h1 h2⟩⟩⟩
theorem Jqo : OkF P w K mg base 1 JnA ["_law_pool_here", "_law_many"] (spT 2 (JnI K)) := by
  refine (Jru X G c).imp fun ds M Q E h => ?_
  obtain ⟨_, h⟩ := h
  unfold JnI at h
  split at h
  · exact ⟨_, _, rfl, _, _, rfl, rfl, h.1, h.2.1, h.2.2.1, h.2.2.2⟩
  · exact h.elim
theorem Jsz : OkF P w K mg base 2 Jpv ["_law_pool_here", "_law_things"] (spT 2 (JnJ K)) := by
  obtain ⟨fd_, FD_⟩ := c.def_ 24 (d := Jpv)
  obtain ⟨fd_l_draw, FD_l_draw, F_l_draw, B_l_draw⟩ := Jqo (P := P) (w := w) X G c
  have JpI := FD_l_draw.kp
  have Jnv := He.glo_ok X G (c.fact 4 (f := fun K => (He.Fa.glo "_law_draw").ok K))
  have Jsx := He.free_ok X G (c.fact 1 (f := fun K => (He.Fa.free "len").ok K))
  exact ⟨fd_, FD_, Jpz (o := []) (fs := JpE K) FD_ Jsv rfl Qg (fun cdv A outer s H Z M E E1 hr => (JaA (Jbs (Jx5 (lo (Jad 1)) (lo (Jfm F_l_draw (hr.mono Qg) rfl Jnv JpI B_l_draw rfl (fun ds es h1 h2 => match ds, es, h1, h2 with | [_, _], [], _, _ => rfl) (Jac (Jad 0) (Jac (JsY Jx6 rfl Jsx boot_len (Jpx (lo (Jad 1)) JqP)) JaB)))) Qi)) Ja5)), Bd.all FD_ rfl rfl fun _ _ _ _ _ _ us hl => match us, hl with | [_, _], _ => rfl⟩
theorem Jtb : OkF P w K mg base 3 JqJ ["_law_pool_here"] (spT 1 (JpF K)) := by
  obtain ⟨fd_, FD_⟩ := c.def_ 25 (d := JqJ)
  obtain ⟨fd_l_draw, FD_l_draw, F_l_draw, B_l_draw⟩ := Jqo (P := P) (w := w) X G c
  have JpI := FD_l_draw.kp
  obtain ⟨fd_l_pick, FD_l_pick, F_l_pick, B_l_pick⟩ := Jsz (P := P) (w := w) X G c
  have Jtc := FD_l_pick.kp
  have Jnv := He.glo_ok X G (c.fact 4 (f := fun K => (He.Fa.glo "_law_draw").ok K))
  have Jyh := He.free_ok X G (c.fact 5 (f := fun K => (He.Fa.free "str").ok K))
  have JqW := He.glo_ok X G (c.fact 6 (f := fun K => (He.Fa.glo "_law_pick").ok K))
  exact ⟨fd_, FD_, Jpz (o := []) (fs := JqT K) FD_ sc_l_odd rfl Qg (fun cdv A outer s H Z M E E1 hr => (JaA (Jcd (i := 1) sc_l_odd.nd rfl Qb Qg Qf (JnQ JxZ (lo (Jfm F_l_draw (hr.mono Qg) rfl Jnv JpI B_l_draw rfl (fun ds es h1 h2 => match ds, es, h1, h2 with | [_, _], [], _, _ => rfl) (Jac (Jad 0) (Jac (JnQ Jwv (lo (te_c de_int)) (lo (te_c de_int))) JaB)))) (lo (te_c de_int)))) (JaA (Jcd (i := 2) sc_l_odd.nd rfl Qb Qg Qf (JbD (TA.da (Jac (te_c JrA) (Jac (te_c de_int) (Jac (te_c de_int) (Jac (te_c Jo8) (Jac (te_c Jo8) (Jac (te_c Jn0) (Jac (te_c Jn0) (Jac (te_c Jn0) (Jac (Jnc (TA.da JaB)) (Jac (Jnc (TA.da (Jac (te_c Jn0) (Jac (te_c de_int) JaB)))) (Jac (JbD (TA.da (Jac (te_c de_int) JaB))) (Jac (JbD (TA.da JaB)) (Jac (te_c Jrd) (Jac (JuN (.cons (te_c Jn0) (Jnc (TA.da (Jac (te_c de_int) JaB))) .nil)) (Jac (JxX Jx1 (lo (te_c de_int))) (Jac (JnQ Jwv (lo (te_c de_int)) (lo (te_c de_int))) JaB))))))))))))))))))) (JaA (Jcd (i := 2) sc_l_odd.nd rfl Qb Qg Qf (JnQ Jpy (lo (Jad 2)) (lo (JbD (TA.da (Jac (Jnc (TA.da (Jac (te_c Jn0) (Jac (te_c JrA) (Jac (JbD (TA.da (Jac (te_c de_int) JaB))) JaB))))) (Jac (Jad 1) (Jac (Jqh JwA rfl Jyh boot_str (Jpx (lo (Jad 1)) JqP)) (Jac (Jnc (TA.da (Jac (Jad 1) JaB))) (Jac (Jnc (TA.da (Jac (Jnc (TA.da (Jac (te_c Jn0) JaB))) (Jac (Jnc (TA.da JaB)) JaB)))) (Jac (JbD (TA.da (Jac (JbD (TA.da JaB)) (Jac (JbD (TA.da (Jac (te_c JrA) JaB))) JaB)))) (Jac (te_c de_int) (Jac (te_c Jn0) (Jac (Jnc (TA.da (Jac (Jnc (TA.da JaB)) (Jac (JbD (TA.da JaB)) (Jac (te_c Jrd) JaB))))) JaB)))))))))))))) (JaA (Jbs (Jfm F_l_pick (hr.mono Qg) rfl JqW Jtc B_l_pick rfl (fun ds es h1 h2 => match ds, es, h1, h2 with | [_, _], [], _, _ => rfl) (Jac (Jad 0) (Jac (Jad 2) JaB)))) Ja5))))), Bd.all FD_ rfl rfl Qd⟩
theorem JqX : OkF P w K mg base 3 JnO ["_law_k", "_law_thing", "_law_by_position"] (spT 3 (JbF K)) := by
  obtain ⟨fd_, FD_⟩ := c.def_ 26 (d := JnO)
  obtain ⟨fx_InvalidName, X_InvalidName⟩ := JoX (P := P) (w := w) (base := base) (mg := mg) c
  obtain ⟨fx_InvalidMost, X_InvalidMost⟩ := JoY (P := P) (w := w) (base := base) (mg := mg) c
  obtain ⟨fx_InvalidKind, X_InvalidKind⟩ := JoZ (P := P) (w := w) (base := base) (mg := mg) c
  obtain ⟨fx_InvalidNumber, X_InvalidNumber⟩ := JnV (P := P) (w := w) (base := base) (mg := mg) c
  obtain ⟨fx_InvalidRate, X_InvalidRate⟩ := Jo0 (P := P) (w := w) (base := base) (mg := mg) c
  obtain ⟨fx_InvalidText, X_InvalidText⟩ := Jo1 (P := P) (w := w) (base := base) (mg := mg) c
  obtain ⟨fx_InvalidSheet, X_InvalidSheet⟩ := Jn9 (P := P) (w := w) (base := base) (mg := mg) c
  have Je6 := He.glo_ok X G (c.fact 7 (f := fun K => (He.Fa.glo "InvalidName").ok K))
  have Je7 := He.glo_ok X G (c.fact 8 (f := fun K => (He.Fa.glo "InvalidMost").ok K))
  have Je8 := He.glo_ok X G (c.fact 9 (f := fun K => (He.Fa.glo "InvalidKind").ok K))
  have JbK := He.glo_ok X G (c.fact 10 (f := fun K => (He.Fa.glo "InvalidNumber").ok K))
  have Je9 := He.glo_ok X G (c.fact 11 (f := fun K => (He.Fa.glo "InvalidRate").ok K))
  have Jfa := He.glo_ok X G (c.fact 12 (f := fun K => (He.Fa.glo "InvalidText").ok K))
  have Jb6 := He.glo_ok X G (c.fact 13 (f := fun K => (He.Fa.glo "InvalidSheet").ok K))
  exact ⟨fd_, FD_, Jpz (o := []) (fs := Jpn K) FD_ JqV rfl Qg (fun cdv A outer s H Z M E E1 hr => (JaA (JcH (Jbw (p_eq (JbB hr)) (Jad 0) (te_c de_int) (nomark _)) (JaA (Jbs (JdF (JbC (Jad 2)) (Jbn X_InvalidName.2.2.2.1 X_InvalidName.1 (hr.mono Qg) X_InvalidName.2.1 rfl Je6 (TA.da (Jac (Jad 1) JaB))) (Jbh X_InvalidName.2.2.2.1 X_InvalidName.1 (hr.mono Qg) X_InvalidName.2.2.1 rfl Je6 (Jad 1)))) Ja5) Ja5) (JaA (JcH (Jbw (p_eq (JbB hr)) (Jad 0) (te_c de_int) (nomark _)) (JaA (Jbs (JdF (JbC (Jad 2)) (Jbn X_InvalidMost.2.2.2.1 X_InvalidMost.1 (hr.mono Qg) X_InvalidMost.2.1 rfl Je7 (TA.da (Jac (Jad 1) JaB))) (Jbh X_InvalidMost.2.2.2.1 X_InvalidMost.1 (hr.mono Qg) X_InvalidMost.2.2.1 rfl Je7 (Jad 1)))) Ja5) Ja5) (JaA (JcH (Jbw (p_eq (JbB hr)) (Jad 0) (te_c de_int) (nomark _)) (JaA (Jbs (JdF (JbC (Jad 2)) (Jbn X_InvalidKind.2.2.2.1 X_InvalidKind.1 (hr.mono Qg) X_InvalidKind.2.1 rfl Je8 (TA.da (Jac (Jad 1) JaB))) (Jbh X_InvalidKind.2.2.2.1 X_InvalidKind.1 (hr.mono Qg) X_InvalidKind.2.2.1 rfl Je8 (Jad 1)))) Ja5) Ja5) (JaA (JcH (Jbw (p_eq (JbB hr)) (Jad 0) (te_c de_int) (nomark _)) (JaA (Jbs (JdF (JbC (Jad 2)) (Jbn X_InvalidNumber.2.2.2.1 X_InvalidNumber.1 (hr.mono Qg) X_InvalidNumber.2.1 rfl JbK (TA.da (Jac (Jad 1) JaB))) (Jbh X_InvalidNumber.2.2.2.1 X_InvalidNumber.1 (hr.mono Qg) X_InvalidNumber.2.2.1 rfl JbK (Jad 1)))) Ja5) Ja5) (JaA (JcH (Jbw (p_eq (JbB hr)) (Jad 0) (te_c de_int) (nomark _)) (JaA (Jbs (JdF (JbC (Jad 2)) (Jbn X_InvalidRate.2.2.2.1 X_InvalidRate.1 (hr.mono Qg) X_InvalidRate.2.1 rfl Je9 (TA.da (Jac (Jad 1) JaB))) (Jbh X_InvalidRate.2.2.2.1 X_InvalidRate.1 (hr.mono Qg) X_InvalidRate.2.2.1 rfl Je9 (Jad 1)))) Ja5) Ja5) (JaA (JcH (Jbw (p_eq (JbB hr)) (Jad 0) (te_c de_int) (nomark _)) (JaA (Jbs (JdF (JbC (Jad 2)) (Jbn X_InvalidText.2.2.2.1 X_InvalidText.1 (hr.mono Qg) X_InvalidText.2.1 rfl Jfa (TA.da (Jac (Jad 1) JaB))) (Jbh X_InvalidText.2.2.2.1 X_InvalidText.1 (hr.mono Qg) X_InvalidText.2.2.1 rfl Jfa (Jad 1)))) Ja5) Ja5) (JaA (Jbs (JdF (JbC (Jad 2)) (Jbn X_InvalidSheet.2.2.2.1 X_InvalidSheet.1 (hr.mono Qg) X_InvalidSheet.2.1 rfl Jb6 (TA.da (Jac (Jad 1) JaB))) (Jbh X_InvalidSheet.2.2.2.1 X_InvalidSheet.1 (hr.mono Qg) X_InvalidSheet.2.2.1 rfl Jb6 (Jad 1)))) Ja5)))))))), Bd.all FD_ rfl rfl Qe⟩
theorem Jqp : OkF P w K mg base 3 Jne ["_law_k", "_law_thing", "_law_by_position"] (spT 3 (Jby K)) := by
  obtain ⟨fd_, FD_⟩ := c.def_ 27 (d := Jne)
  obtain ⟨fx_InvalidTotal, X_InvalidTotal⟩ := Joa (P := P) (w := w) (base := base) (mg := mg) c
  obtain ⟨fx_InvalidHours, X_InvalidHours⟩ := Job (P := P) (w := w) (base := base) (mg := mg) c
  obtain ⟨fx_InvalidWish, X_InvalidWish⟩ := Jo2 (P := P) (w := w) (base := base) (mg := mg) c
  obtain ⟨fx_InvalidIndex, X_InvalidIndex⟩ := Joc (P := P) (w := w) (base := base) (mg := mg) c
  obtain ⟨fx_NotPlan, X_NotPlan⟩ := JqU (P := P) (w := w) (base := base) (mg := mg) c
  obtain ⟨fx_UnknownName, X_UnknownName⟩ := Jo4 (P := P) (w := w) (base := base) (mg := mg) c
  obtain ⟨fx_OtherDays, X_OtherDays⟩ := JpG (P := P) (w := w) (base := base) (mg := mg) c
  obtain ⟨fx_OutOfBounds, X_OutOfBounds⟩ := Jo5 (P := P) (w := w) (base := base) (mg := mg) c
  have Jb7 := He.glo_ok X G (c.fact 14 (f := fun K => (He.Fa.glo "InvalidTotal").ok K))
  have Jb8 := He.glo_ok X G (c.fact 15 (f := fun K => (He.Fa.glo "InvalidHours").ok K))
  have Jfb := He.glo_ok X G (c.fact 16 (f := fun K => (He.Fa.glo "InvalidWish").ok K))
  have Jb9 := He.glo_ok X G (c.fact 17 (f := fun K => (He.Fa.glo "InvalidIndex").ok K))
  have JnL := He.glo_ok X G (c.fact 18 (f := fun K => (He.Fa.glo "NotPlan").ok K))
  have Jfc := He.glo_ok X G (c.fact 19 (f := fun K => (He.Fa.glo "UnknownName").ok K))
  have Jlj := He.glo_ok X G (c.fact 20 (f := fun K => (He.Fa.glo "OtherDays").ok K))
  have Jfd := He.glo_ok X G (c.fact 21 (f := fun K => (He.Fa.glo "OutOfBounds").ok K))
  exact ⟨fd_, FD_, Jpz (o := []) (fs := JoR K) FD_ Jqm rfl Qg (fun cdv A outer s H Z M E E1 hr => (JaA (JcH (Jbw (p_eq (JbB hr)) (Jad 0) (te_c de_int) (nomark _)) (JaA (Jbs (JdF (JbC (Jad 2)) (Jbn X_InvalidTotal.2.2.2.1 X_InvalidTotal.1 (hr.mono Qg) X_InvalidTotal.2.1 rfl Jb7 (TA.da (Jac (Jad 1) JaB))) (Jbh X_InvalidTotal.2.2.2.1 X_InvalidTotal.1 (hr.mono Qg) X_InvalidTotal.2.2.1 rfl Jb7 (Jad 1)))) Ja5) Ja5) (JaA (JcH (Jbw (p_eq (JbB hr)) (Jad 0) (te_c de_int) (nomark _)) (JaA (Jbs (JdF (JbC (Jad 2)) (Jbn X_InvalidHours.2.2.2.1 X_InvalidHours.1 (hr.mono Qg) X_InvalidHours.2.1 rfl Jb8 (TA.da (Jac (Jad 1) JaB))) (Jbh X_InvalidHours.2.2.2.1 X_InvalidHours.1 (hr.mono Qg) X_InvalidHours.2.2.1 rfl Jb8 (Jad 1)))) Ja5) Ja5) (JaA (JcH (Jbw (p_eq (JbB hr)) (Jad 0) (te_c de_int) (nomark _)) (JaA (Jbs (JdF (JbC (Jad 2)) (Jbn X_InvalidWish.2.2.2.1 X_InvalidWish.1 (hr.mono Qg) X_InvalidWish.2.1 rfl Jfb (TA.da (Jac (Jad 1) JaB))) (Jbh X_InvalidWish.2.2.2.1 X_InvalidWish.1 (hr.mono Qg) X_InvalidWish.2.2.1 rfl Jfb (Jad 1)))) Ja5) Ja5) (JaA (JcH (Jbw (p_eq (JbB hr)) (Jad 0) (te_c de_int) (nomark _)) (JaA (Jbs (JdF (JbC (Jad 2)) (Jbn X_InvalidIndex.2.2.2.1 X_InvalidIndex.1 (hr.mono Qg) X_InvalidIndex.2.1 rfl Jb9 (TA.da (Jac (Jad 1) JaB))) (Jbh X_InvalidIndex.2.2.2.1 X_InvalidIndex.1 (hr.mono Qg) X_InvalidIndex.2.2.1 rfl Jb9 (Jad 1)))) Ja5) Ja5) (JaA (JcH (Jbw (p_eq (JbB hr)) (Jad 0) (te_c de_int) (nomark _)) (JaA (Jbs (JdF (JbC (Jad 2)) (Jbn X_NotPlan.2.2.2.1 X_NotPlan.1 (hr.mono Qg) X_NotPlan.2.1 rfl JnL (TA.da (Jac (Jad 1) JaB))) (Jbh X_NotPlan.2.2.2.1 X_NotPlan.1 (hr.mono Qg) X_NotPlan.2.2.1 rfl JnL (Jad 1)))) Ja5) Ja5) (JaA (JcH (Jbw (p_eq (JbB hr)) (Jad 0) (te_c de_int) (nomark _)) (JaA (Jbs (JdF (JbC (Jad 2)) (Jbn X_UnknownName.2.2.2.1 X_UnknownName.1 (hr.mono Qg) X_UnknownName.2.1 rfl Jfc (TA.da (Jac (Jad 1) JaB))) (Jbh X_UnknownName.2.2.2.1 X_UnknownName.1 (hr.mono Qg) X_UnknownName.2.2.1 rfl Jfc (Jad 1)))) Ja5) Ja5) (JaA (JcH (Jbw (p_eq (JbB hr)) (Jad 0) (te_c de_int) (nomark _)) (JaA (Jbs (JdF (JbC (Jad 2)) (Jbn X_OtherDays.2.2.2.1 X_OtherDays.1 (hr.mono Qg) X_OtherDays.2.1 rfl Jlj (TA.da (Jac (Jad 1) JaB))) (Jbh X_OtherDays.2.2.2.1 X_OtherDays.1 (hr.mono Qg) X_OtherDays.2.2.1 rfl Jlj (Jad 1)))) Ja5) Ja5) (JaA (Jbs (JdF (JbC (Jad 2)) (Jbn X_OutOfBounds.2.2.2.1 X_OutOfBounds.1 (hr.mono Qg) X_OutOfBounds.2.1 rfl Jfd (TA.da (Jac (Jad 1) JaB))) (Jbh X_OutOfBounds.2.2.2.1 X_OutOfBounds.1 (hr.mono Qg) X_OutOfBounds.2.2.1 rfl Jfd (Jad 1)))) Ja5))))))))), Bd.all FD_ rfl rfl Qe⟩
theorem Jqq : OkF P w K mg base 3 Jnf ["_law_k", "_law_thing", "_law_by_position"] (spT 3 (JbA K)) := by
  obtain ⟨fd_, FD_⟩ := c.def_ 28 (d := Jnf)
  obtain ⟨fx_InvalidDays, X_InvalidDays⟩ := Jo6 (P := P) (w := w) (base := base) (mg := mg) c
  obtain ⟨fx_InvalidRules, X_InvalidRules⟩ := Jod (P := P) (w := w) (base := base) (mg := mg) c
  obtain ⟨fx_InvalidChanges, X_InvalidChanges⟩ := JnK (P := P) (w := w) (base := base) (mg := mg) c
  obtain ⟨fx_InvalidWishes, X_InvalidWishes⟩ := JnX (P := P) (w := w) (base := base) (mg := mg) c
  obtain ⟨fx_InUse, X_InUse⟩ := Jst (P := P) (w := w) (base := base) (mg := mg) c
  obtain ⟨fx_Broken, X_Broken⟩ := Jrr (P := P) (w := w) (base := base) (mg := mg) c
  have Jfe := He.glo_ok X G (c.fact 22 (f := fun K => (He.Fa.glo "InvalidDays").ok K))
  have Jca := He.glo_ok X G (c.fact 23 (f := fun K => (He.Fa.glo "InvalidRules").ok K))
  have JbI := He.glo_ok X G (c.fact 24 (f := fun K => (He.Fa.glo "InvalidChanges").ok K))
  have JbL := He.glo_ok X G (c.fact 25 (f := fun K => (He.Fa.glo "InvalidWishes").ok K))
  have JpJ := He.glo_ok X G (c.fact 26 (f := fun K => (He.Fa.glo "InUse").ok K))
  have Jhj := He.glo_ok X G (c.fact 27 (f := fun K => (He.Fa.glo "NothingToUndo").ok K))
  have x0_NothingToUndo := Js1 (c.fact 28 (f := Juz "NothingToUndo"))
  have Joj := He.glo_ok X G (c.fact 29 (f := fun K => (He.Fa.glo "Broken").ok K))
  exact ⟨fd_, FD_, Jpz (o := []) (fs := JoS K) FD_ Jqn rfl Qg (fun cdv A outer s H Z M E E1 hr => (JaA (JcH (Jbw (p_eq (JbB hr)) (Jad 0) (te_c de_int) (nomark _)) (JaA (Jbs (JdF (JbC (Jad 2)) (Jbn X_InvalidDays.2.2.2.1 X_InvalidDays.1 (hr.mono Qg) X_InvalidDays.2.1 rfl Jfe (TA.da (Jac (Jad 1) JaB))) (Jbh X_InvalidDays.2.2.2.1 X_InvalidDays.1 (hr.mono Qg) X_InvalidDays.2.2.1 rfl Jfe (Jad 1)))) Ja5) Ja5) (JaA (JcH (Jbw (p_eq (JbB hr)) (Jad 0) (te_c de_int) (nomark _)) (JaA (Jbs (JdF (JbC (Jad 2)) (Jbn X_InvalidRules.2.2.2.1 X_InvalidRules.1 (hr.mono Qg) X_InvalidRules.2.1 rfl Jca (TA.da (Jac (Jad 1) JaB))) (Jbh X_InvalidRules.2.2.2.1 X_InvalidRules.1 (hr.mono Qg) X_InvalidRules.2.2.1 rfl Jca (Jad 1)))) Ja5) Ja5) (JaA (JcH (Jbw (p_eq (JbB hr)) (Jad 0) (te_c de_int) (nomark _)) (JaA (Jbs (JdF (JbC (Jad 2)) (Jbn X_InvalidChanges.2.2.2.1 X_InvalidChanges.1 (hr.mono Qg) X_InvalidChanges.2.1 rfl JbI (TA.da (Jac (Jad 1) JaB))) (Jbh X_InvalidChanges.2.2.2.1 X_InvalidChanges.1 (hr.mono Qg) X_InvalidChanges.2.2.1 rfl JbI (Jad 1)))) Ja5) Ja5) (JaA (JcH (Jbw (p_eq (JbB hr)) (Jad 0) (te_c de_int) (nomark _)) (JaA (Jbs (JdF (JbC (Jad 2)) (Jbn X_InvalidWishes.2.2.2.1 X_InvalidWishes.1 (hr.mono Qg) X_InvalidWishes.2.1 rfl JbL (TA.da (Jac (Jad 1) JaB))) (Jbh X_InvalidWishes.2.2.2.1 X_InvalidWishes.1 (hr.mono Qg) X_InvalidWishes.2.2.1 rfl JbL (Jad 1)))) Ja5) Ja5) (JaA (JcH (Jbw (p_eq (JbB hr)) (Jad 0) (te_c de_int) (nomark _)) (JaA (Jbs (JdF (JbC (Jad 2)) (Jbn X_InUse.2.2.2.1 X_InUse.1 (hr.mono Qg) X_InUse.2.1 rfl JpJ (TA.da (Jac (Jad 1) JaB))) (Jbh X_InUse.2.2.2.1 X_InUse.1 (hr.mono Qg) X_InUse.2.2.1 rfl JpJ (Jad 1)))) Ja5) Ja5) (JaA (JcH (Jbw (p_eq (JbB hr)) (Jad 0) (te_c de_int) (nomark _)) (JaA (Jbs (Jsp x0_NothingToUndo rfl Jhj)) Ja5) Ja5) (JaA (Jbs (JdF (JbC (Jad 2)) (Jbn X_Broken.2.2.2.1 X_Broken.1 (hr.mono Qg) X_Broken.2.1 rfl Joj (TA.da (Jac (Jad 1) JaB))) (Jbh X_Broken.2.2.2.1 X_Broken.1 (hr.mono Qg) X_Broken.2.2.1 rfl Joj (Jad 1)))) Ja5)))))))), Bd.all FD_ rfl rfl Qe⟩
theorem Jrv : OkF P w K mg base 1 Jor ["_law_e"] (spT 1 (JaV K)) := by
  obtain ⟨fd_, FD_⟩ := c.def_ 29 (d := Jor)
  have Je8 := He.glo_ok X G (c.fact 9 (f := fun K => (He.Fa.glo "InvalidKind").ok K))
  have JaY := He.free_ok X G (c.fact 30 (f := fun K => (He.Fa.free "isinstance").ok K))
  have Je7 := He.glo_ok X G (c.fact 8 (f := fun K => (He.Fa.glo "InvalidMost").ok K))
  have Je6 := He.glo_ok X G (c.fact 7 (f := fun K => (He.Fa.glo "InvalidName").ok K))
  have Jfa := He.glo_ok X G (c.fact 12 (f := fun K => (He.Fa.glo "InvalidText").ok K))
  have Je9 := He.glo_ok X G (c.fact 11 (f := fun K => (He.Fa.glo "InvalidRate").ok K))
  have JbK := He.glo_ok X G (c.fact 10 (f := fun K => (He.Fa.glo "InvalidNumber").ok K))
  have Jb8 := He.glo_ok X G (c.fact 15 (f := fun K => (He.Fa.glo "InvalidHours").ok K))
  have Jb7 := He.glo_ok X G (c.fact 14 (f := fun K => (He.Fa.glo "InvalidTotal").ok K))
  have Jb6 := He.glo_ok X G (c.fact 13 (f := fun K => (He.Fa.glo "InvalidSheet").ok K))
  have JnL := He.glo_ok X G (c.fact 18 (f := fun K => (He.Fa.glo "NotPlan").ok K))
  have Jb9 := He.glo_ok X G (c.fact 17 (f := fun K => (He.Fa.glo "InvalidIndex").ok K))
  have Jfb := He.glo_ok X G (c.fact 16 (f := fun K => (He.Fa.glo "InvalidWish").ok K))
  have JbI := He.glo_ok X G (c.fact 24 (f := fun K => (He.Fa.glo "InvalidChanges").ok K))
  have Jca := He.glo_ok X G (c.fact 23 (f := fun K => (He.Fa.glo "InvalidRules").ok K))
  have Jfe := He.glo_ok X G (c.fact 22 (f := fun K => (He.Fa.glo "InvalidDays").ok K))
  have JpJ := He.glo_ok X G (c.fact 26 (f := fun K => (He.Fa.glo "InUse").ok K))
  have Jfc := He.glo_ok X G (c.fact 19 (f := fun K => (He.Fa.glo "UnknownName").ok K))
  have JbL := He.glo_ok X G (c.fact 25 (f := fun K => (He.Fa.glo "InvalidWishes").ok K))
  have Jhj := He.glo_ok X G (c.fact 27 (f := fun K => (He.Fa.glo "NothingToUndo").ok K))
  have Jfd := He.glo_ok X G (c.fact 21 (f := fun K => (He.Fa.glo "OutOfBounds").ok K))
  have Jlj := He.glo_ok X G (c.fact 20 (f := fun K => (He.Fa.glo "OtherDays").ok K))
  have Joj := He.glo_ok X G (c.fact 29 (f := fun K => (He.Fa.glo "Broken").ok K))
  exact ⟨fd_, FD_, Jpz (o := []) (fs := Jbc K) FD_ sc_l_sorts rfl Qg (fun cdv A outer s H Z M E E1 hr => (JaA (Jcd (i := 1) sc_l_sorts.nd rfl Qb Qg Qf (JbD (TA.da (Jac (Ja4 (JbM (hcsE c)) rfl JaY boot_isinstance (TA.da (Jac (Jad 0) (Jac (te_c (Jbo rfl Je6)) JaB)))) (Jac (Ja4 (JbM (hcsE c)) rfl JaY boot_isinstance (TA.da (Jac (Jad 0) (Jac (te_c (Jbo rfl Je7)) JaB)))) (Jac (Ja4 (JbM (hcsE c)) rfl JaY boot_isinstance (TA.da (Jac (Jad 0) (Jac (te_c (Jbo rfl Je8)) JaB)))) JaB)))))) (JaA (Jcd (i := 1) sc_l_sorts.nd rfl Qb Qg Qf (JnQ Jpy (lo (Jad 1)) (lo (JbD (TA.da (Jac (Ja4 (JbM (hcsE c)) rfl JaY boot_isinstance (TA.da (Jac (Jad 0) (Jac (te_c (Jbo rfl JbK)) JaB)))) (Jac (Ja4 (JbM (hcsE c)) rfl JaY boot_isinstance (TA.da (Jac (Jad 0) (Jac (te_c (Jbo rfl Je9)) JaB)))) (Jac (Ja4 (JbM (hcsE c)) rfl JaY boot_isinstance (TA.da (Jac (Jad 0) (Jac (te_c (Jbo rfl Jfa)) JaB)))) JaB)))))))) (JaA (Jcd (i := 1) sc_l_sorts.nd rfl Qb Qg Qf (JnQ Jpy (lo (Jad 1)) (lo (JbD (TA.da (Jac (Ja4 (JbM (hcsE c)) rfl JaY boot_isinstance (TA.da (Jac (Jad 0) (Jac (te_c (Jbo rfl Jb6)) JaB)))) (Jac (Ja4 (JbM (hcsE c)) rfl JaY boot_isinstance (TA.da (Jac (Jad 0) (Jac (te_c (Jbo rfl Jb7)) JaB)))) (Jac (Ja4 (JbM (hcsE c)) rfl JaY boot_isinstance (TA.da (Jac (Jad 0) (Jac (te_c (Jbo rfl Jb8)) JaB)))) JaB)))))))) (JaA (Jcd (i := 1) sc_l_sorts.nd rfl Qb Qg Qf (JnQ Jpy (lo (Jad 1)) (lo (JbD (TA.da (Jac (Ja4 (JbM (hcsE c)) rfl JaY boot_isinstance (TA.da (Jac (Jad 0) (Jac (te_c (Jbo rfl Jfb)) JaB)))) (Jac (Ja4 (JbM (hcsE c)) rfl JaY boot_isinstance (TA.da (Jac (Jad 0) (Jac (te_c (Jbo rfl Jb9)) JaB)))) (Jac (Ja4 (JbM (hcsE c)) rfl JaY boot_isinstance (TA.da (Jac (Jad 0) (Jac (te_c (Jbo rfl JnL)) JaB)))) JaB)))))))) (JaA (Jcd (i := 1) sc_l_sorts.nd rfl Qb Qg Qf (JnQ Jpy (lo (Jad 1)) (lo (JbD (TA.da (Jac (Ja4 (JbM (hcsE c)) rfl JaY boot_isinstance (TA.da (Jac (Jad 0) (Jac (te_c (Jbo rfl Jfe)) JaB)))) (Jac (Ja4 (JbM (hcsE c)) rfl JaY boot_isinstance (TA.da (Jac (Jad 0) (Jac (te_c (Jbo rfl Jca)) JaB)))) (Jac (Ja4 (JbM (hcsE c)) rfl JaY boot_isinstance (TA.da (Jac (Jad 0) (Jac (te_c (Jbo rfl JbI)) JaB)))) JaB)))))))) (JaA (Jcd (i := 1) sc_l_sorts.nd rfl Qb Qg Qf (JnQ Jpy (lo (Jad 1)) (lo (JbD (TA.da (Jac (Ja4 (JbM (hcsE c)) rfl JaY boot_isinstance (TA.da (Jac (Jad 0) (Jac (te_c (Jbo rfl JbL)) JaB)))) (Jac (Ja4 (JbM (hcsE c)) rfl JaY boot_isinstance (TA.da (Jac (Jad 0) (Jac (te_c (Jbo rfl Jfc)) JaB)))) (Jac (Ja4 (JbM (hcsE c)) rfl JaY boot_isinstance (TA.da (Jac (Jad 0) (Jac (te_c (Jbo rfl JpJ)) JaB)))) JaB)))))))) (JaA (Jcd (i := 1) sc_l_sorts.nd rfl Qb Qg Qf (JnQ Jpy (lo (Jad 1)) (lo (JbD (TA.da (Jac (Ja4 (JbM (hcsE c)) rfl JaY boot_isinstance (TA.da (Jac (Jad 0) (Jac (te_c (Jbo rfl Jlj)) JaB)))) (Jac (Ja4 (JbM (hcsE c)) rfl JaY boot_isinstance (TA.da (Jac (Jad 0) (Jac (te_c (Jbo rfl Jfd)) JaB)))) (Jac (Ja4 (JbM (hcsE c)) rfl JaY boot_isinstance (TA.da (Jac (Jad 0) (Jac (te_c (Jbo rfl Jhj)) JaB)))) JaB)))))))) (JaA (Jbs (JnQ Jpy (lo (Jad 1)) (lo (JbD (TA.da (Jac (Ja4 (JbM (hcsE c)) rfl JaY boot_isinstance (TA.da (Jac (Jad 0) (Jac (te_c (Jbo rfl Joj)) JaB)))) JaB)))))) Ja5))))))))), Bd.all FD_ rfl rfl Qd⟩
theorem Jrw : OkF P w K mg base 1 Jos ["_law_e"] (spT 1 (JaW K)) := by
  obtain ⟨fd_, FD_⟩ := c.def_ 30 (d := Jos)
  have JpK := He.glo_ok X G (c.fact 31 (f := fun K => (He.Fa.glo "NotPossible").ok K))
  have JaY := He.free_ok X G (c.fact 30 (f := fun K => (He.Fa.free "isinstance").ok K))
  have JqY := He.glo_ok X G (c.fact 32 (f := fun K => (He.Fa.glo "WrongName").ok K))
  have Jqr := He.glo_ok X G (c.fact 33 (f := fun K => (He.Fa.glo "WrongValue").ok K))
  have JnY := He.free_ok X G (c.fact 34 (f := fun K => (He.Fa.free "ArithmeticError").ok K))
  have JpL := He.free_ok X G (c.fact 35 (f := fun K => (He.Fa.free "LookupError").ok K))
  have Jqs := He.free_ok X G (c.fact 36 (f := fun K => (He.Fa.free "ValueError").ok K))
  exact ⟨fd_, FD_, Jpz (o := []) (fs := Jbd K) FD_ sc_l_bases rfl Qg (fun cdv A outer s H Z M E E1 hr => (JaA (Jcd (i := 1) sc_l_bases.nd rfl Qb Qg Qf (JbD (TA.da (Jac (Ja4 (JbM (hcsE c)) rfl JaY boot_isinstance (TA.da (Jac (Jad 0) (Jac (te_c (Jbo rfl Jqr)) JaB)))) (Jac (Ja4 (JbM (hcsE c)) rfl JaY boot_isinstance (TA.da (Jac (Jad 0) (Jac (te_c (Jbo rfl JqY)) JaB)))) (Jac (Ja4 (JbM (hcsE c)) rfl JaY boot_isinstance (TA.da (Jac (Jad 0) (Jac (te_c (Jbo rfl JpK)) JaB)))) JaB)))))) (JaA (Jbs (JnQ Jpy (lo (Jad 1)) (lo (JbD (TA.da (Jac (Ja4 (JbM (hcsE c)) rfl JaY boot_isinstance (TA.da (Jac (Jad 0) (Jac (te_c (Jqz rfl Jqs Qj)) JaB)))) (Jac (Ja4 (JbM (hcsE c)) rfl JaY boot_isinstance (TA.da (Jac (Jad 0) (Jac (te_c (Jqz rfl JpL Qj)) JaB)))) (Jac (Ja4 (JbM (hcsE c)) rfl JaY boot_isinstance (TA.da (Jac (Jad 0) (Jac (te_c (Jqz rfl JnY Qj)) JaB)))) JaB)))))))) Ja5))), Bd.all FD_ rfl rfl Qd⟩
theorem JpM : OkF P w K mg base 4 JlZ ["_law_k", "_law_thing", "_law_by_position"] (spT 3 (Jae K)) := by
  obtain ⟨fd_, FD_⟩ := c.def_ 31 (d := JlZ)
  obtain ⟨fd_l_valued, FD_l_valued, F_l_valued, B_l_valued⟩ := JqX (P := P) (w := w) X G c
  have Jrx := FD_l_valued.kp
  obtain ⟨fd_l_further, FD_l_further, F_l_further, B_l_further⟩ := Jqp (P := P) (w := w) X G c
  have JqZ := FD_l_further.kp
  obtain ⟨fd_l_indexed, FD_l_indexed, F_l_indexed, B_l_indexed⟩ := Jqq (P := P) (w := w) X G c
  have Jq0 := FD_l_indexed.kp
  obtain ⟨fd_l_sorts, FD_l_sorts, F_l_sorts, B_l_sorts⟩ := Jrv (P := P) (w := w) X G c
  have JsA := FD_l_sorts.kp
  obtain ⟨fd_l_bases, FD_l_bases, F_l_bases, B_l_bases⟩ := Jrw (P := P) (w := w) X G c
  have JsB := FD_l_bases.kp
  have JpN := He.glo_ok X G (c.fact 37 (f := fun K => (He.Fa.glo "_law_valued").ok K))
  have Jpd := He.glo_ok X G (c.fact 38 (f := fun K => (He.Fa.glo "_law_further").ok K))
  have Jpe := He.glo_ok X G (c.fact 39 (f := fun K => (He.Fa.glo "_law_indexed").ok K))
  have Jqt := He.glo_ok X G (c.fact 40 (f := fun K => (He.Fa.glo "_law_sorts").ok K))
  have JnZ := He.free_ok X G (c.fact 41 (f := fun K => (He.Fa.free "range").ok K))
  have Jqu := He.glo_ok X G (c.fact 42 (f := fun K => (He.Fa.glo "_law_bases").ok K))
  have Jo7 := He.free_ok X G (c.fact 0 (f := fun K => (He.Fa.free "int").ok K))
  have sys_ := c.fact 43 (f := bSys)
  have Jqv := He.free_ok X G (c.fact 44 (f := fun K => (He.Fa.free "repr").ok K))
  exact ⟨fd_, FD_, Jpz (o := []) (fs := Ja1 K) FD_ sc_l_is_right rfl Qg (fun cdv A outer s H Z M E E1 hr => (JaA (JcH (JoL p_lt (lo (Jad 0)) (lo (te_c de_int)) (nomark _)) (JaA (Jcd (i := 3) sc_l_is_right.nd rfl Qb Qg Qf (Jfm F_l_valued (hr.mono Qg) rfl JpN Jrx B_l_valued rfl Qc (Jac (Jad 0) (Jac (Jad 1) (Jac (Jad 2) JaB))))) Ja5) (JaA (JcH (DW.dt (JuF (JoL p_lt (lo (Jad 0)) (lo (te_c de_int)) (nomark _)) (Jr7 (JoL p_in (lo (Jad 0)) (lo (JbD (TA.da (Jac (te_c de_int) (Jac (te_c de_int) (Jac (te_c de_int) JaB)))))) rfl)))) (JaA (Jcd (i := 3) sc_l_is_right.nd rfl Qb Qg Qf (Jfm F_l_further (hr.mono Qg) rfl Jpd JqZ B_l_further rfl Qc (Jac (Jad 0) (Jac (Jad 1) (Jac (Jad 2) JaB))))) Ja5) (JaA (Jcd (i := 3) sc_l_is_right.nd rfl Qb Qg Qf (Jfm F_l_indexed (hr.mono Qg) rfl Jpe Jq0 B_l_indexed rfl Qc (Jac (Jad 0) (Jac (Jad 1) (Jac (Jad 2) JaB))))) Ja5)) Ja5)) (JaA (Jcd (i := 4) sc_l_is_right.nd rfl Qb Qg Qf (JdF (JoL p_lt (lo (Jad 0)) (lo (te_c de_int)) (nomark _)) (te_c de_int) (JdF (JoL p_lt (lo (Jad 0)) (lo (te_c de_int)) (nomark _)) (te_c de_int) (te_c de_int)))) (JaA (JcH (Jbw (p_ne (JbB hr)) (Jfm F_l_sorts (hr.mono Qg) rfl Jqt JsA B_l_sorts rfl (fun ds es h1 h2 => match ds, es, h1, h2 with | [_], [], _, _ => rfl) (Jac (Jad 3) JaB)) (Jwz (p := (.one 6)) (own := [("_law_at", 6)]) rfl sc_l_is_right.nd (JoM rfl JnZ (TA.da (Jac (te_c de_int) JaB))) (JqK Qk) Qg Qg (by first | exact fun _ _ _ _ _ => trivial | exact fun i hi => JwE Ql | exact fun i hi => ja_jk Ql | exact fun i hi => Jt6 Ql (by first | exact fun _ _ _ => trivial | exact ja_jk Ql)) (fun _ _ _ _ _ => pg_name sc_l_is_right.nd rfl (.inl rfl)) (fun _ _ _ _ _ => Jsa) (fun _ _ _ _ _ => (JqQ (p_eq (JbB hr)) (Jad 6) (Jad 0) (nomark _)))) (nomark _)) (JaA (Jbs (te_c Jo8)) Ja5) Ja5) (JaA (JcH (Jbw (p_ne (JbB hr)) (Jfm F_l_bases (hr.mono Qg) rfl Jqu JsB B_l_bases rfl (fun ds es h1 h2 => match ds, es, h1, h2 with | [_], [], _, _ => rfl) (Jac (Jad 3) JaB)) (Jwz (p := (.one 6)) (own := [("_law_at", 6)]) rfl sc_l_is_right.nd (JoM rfl JnZ (TA.da (Jac (te_c de_int) JaB))) (JqK Qk) Qg Qg (by first | exact fun _ _ _ _ _ => trivial | exact fun i hi => JwE Ql | exact fun i hi => ja_jk Ql | exact fun i hi => Jt6 Ql (by first | exact fun _ _ _ => trivial | exact ja_jk Ql)) (fun _ _ _ _ _ => pg_name sc_l_is_right.nd rfl (.inl rfl)) (fun _ _ _ _ _ => Jsa) (fun _ _ _ _ _ => (JqQ (p_eq (JbB hr)) (JnQ Jx0 (lo (Jqh JwN rfl Jo7 boot_int (Jpx (lo (Jad 6)) JqP))) (lo (te_c de_int))) (Jad 4) (nomark _)))) (nomark _)) (JaA (Jbs (te_c Jo8)) Ja5) Ja5) (JaA (JcH (Jbw (p_eq (JbB hr)) (Jad 0) (te_c de_int) (nomark _)) (JaA (Jbs (te_c Jo8)) Ja5) Ja5) (JaA (Jcd (i := 5) sc_l_is_right.nd rfl Qb Qg Qf (JdF (DW.dt (JuF (JoL p_lt (lo (Jad 0)) (lo (te_c de_int)) (nomark _)) (Jr7 (JoL p_in (lo (Jad 0)) (lo (JbD (TA.da (Jac (te_c de_int) (Jac (te_c de_int) (Jac (te_c de_int) JaB)))))) rfl)))) (JwY (Jsq c) (Jad 3)) (JwY (Jsr c) (Jad 3)))) (JaA (Jbs (JqQ Jx4 (Ja4 (Jsf (hr.mono (Nat.zero_le _)) sys_) rfl Jqv boot_repr (TA.da (Jac (JbD (TA.da (Jac (Jad 5) JaB))) JaB))) (Ja4 (Jsf (hr.mono (Nat.zero_le _)) sys_) rfl Jqv boot_repr (TA.da (Jac (JbD (TA.da (Jac (Jad 1) JaB))) JaB))) (nomark _))) Ja5)))))))), Bd.all FD_ rfl rfl Qe⟩
theorem Jry : OkF P w K mg base 5 Jot ["_law_pool_here"] (spT 1 (JoW K)) := by
  obtain ⟨fd_, FD_⟩ := c.def_ 32 (d := Jot)
  obtain ⟨fd_l_odd, FD_l_odd, F_l_odd, B_l_odd⟩ := Jtb (P := P) (w := w) X G c
  have Ju1 := FD_l_odd.kp
  obtain ⟨fd_l_is_right, FD_l_is_right, F_l_is_right, B_l_is_right⟩ := JpM (P := P) (w := w) X G c
  have Jn4 := FD_l_is_right.kp
  have JnZ := He.free_ok X G (c.fact 41 (f := fun K => (He.Fa.free "range").ok K))
  have Jrz := He.glo_ok X G (c.fact 45 (f := fun K => (He.Fa.glo "_law_odd").ok K))
  have JmC := He.glo_ok X G (c.fact 46 (f := fun K => (He.Fa.glo "_law_is_right").ok K))
  exact ⟨fd_, FD_, Jpz (o := []) (fs := JoV K) FD_ sc_l_right rfl Qg (fun cdv A outer s H Z M E E1 hr => (JaA (Jwx JpZ rfl (JoM rfl JnZ (TA.da (Jac (te_c de_int) JaB))) (JuH (i := 1) sc_l_right.nd rfl Qb Qg Qf) (JaA (Jcd (i := 2) sc_l_right.nd rfl Qb Qg Qf (Jfm F_l_odd (hr.mono Qg) rfl Jrz Ju1 B_l_odd rfl (fun ds es h1 h2 => match ds, es, h1, h2 with | [_], [], _, _ => rfl) (Jac (Jad 0) JaB))) (JaA (JcH (DW.dt (JuF (Jt2 (JbC (Jfm F_l_is_right (hr.mono Qg) rfl JmC Jn4 B_l_is_right rfl Qc (Jac (Jad 1) (Jac (Jad 2) (Jac (te_c Jo8) JaB)))))) (Jr7 (Jt2 (JbC (Jfm F_l_is_right (hr.mono Qg) rfl JmC Jn4 B_l_is_right rfl Qc (Jac (Jad 1) (Jac (Jad 2) (Jac (te_c Jo8) JaB))))))))) (JaA (Jbs (te_c Jo8)) Ja5) Ja5) Ja5))) (JaA (Jbs (te_c Jo8)) Ja5))), Bd.all FD_ rfl rfl Qd⟩
end
section
variable {K : PySem.W.Frag} {p : Addr}
theorem Jw0 {n : Int} : JnI K [.ref p, .int n] = .dr p n fun m => .v (.int m) := rfl
end

section
variable {K : PySem.W.Frag} {p : Addr}
theorem Jyi {ds : List D} : JnJ K [.ref p, .lst ds] = .dr p ds.length fun m => .ofO (atI ds m) := by
  unfold JnJ JpE
  simp -implicitDefEqProofs only [BA, runT, JaC, List.map, List.length, Nat.reduceAdd, Nat.reduceSub, List.replicate, Ja2, Jbf, p1, JwF, Jw0, T.bind_dr, Jx9, T.sx_dr, Jbe, T.nx_dr]
  congr 1
  funext m
  cases atI ds m <;> rfl
theorem Ju2 {ds : List D} {Q : D → Prop} {E : Value → List (Str × D) → Prop} (h0 : Nat.blt 0 ds.length = true) (h1 : Nat.ble ds.length 1000 = true) (h : ∀ d ∈ ds, Q d) : (JnJ K [.ref p, .lst ds]).al p Q E := by
  rw [Jyi]
  have h0 : 0 < ds.length := Nat.le_of_ble_eq_true h0
  have h1 : ds.length ≤ 1000 := Nat.le_of_ble_eq_true h1
  refine Jx7 Qh ?_ fun m m0 m1 => ?_
  · show (Int.natAbs (ds.length : Int)).log2 < 9000
    rw [Int.natAbs_natCast]
    exact Nat.lt_of_lt_of_le (log2_lt (k := 29) Qh) Qg
  · obtain ⟨a, e, hm⟩ := Jr4 m0 m1
    rw [e]; exact T.al_v.mpr (h a hm)
end

section
open TL
variable {K : PySem.W.Frag} {p : Addr} {d x : D} {n k : Nat}
def Sd (n k : Nat) (d : D) : Prop := ∃ p, py d = some p ∧ okP p = true ∧ szP p ≤ n ∧ p.depth ≤ k
theorem Dt.sd (h : Dt n k d) : Sd n k d := by
  obtain ⟨p, e, h1, _, h3, h4⟩ := h
  exact ⟨p, e, h1, h3, h4⟩
theorem Sd.up {a b : Nat} (h : Sd n k d) (hn : Nat.ble n a = true := by rfl) (hk : Nat.ble k b = true := by rfl) : Sd a b d := by
  obtain ⟨p, e, h1, h3, h4⟩ := h
  exact ⟨p, e, h1, Nat.le_trans h3 (Nat.le_of_ble_eq_true hn), Nat.le_trans h4 (Nat.le_of_ble_eq_true hk)⟩
theorem Sd.lst {j : Nat} {ds : List D} (h : ∀ d ∈ ds, Sd n k d) (hl : ds.length ≤ j) : Sd (4 + j * (n + 2)) (k + 1) (.lst ds) := by
  have key : ∀ ds : List D, (∀ d ∈ ds, Sd n k d) → ∃ ps, pyL ds = some ps ∧ okA ps = true ∧ szA ps ≤ ds.length * (n + 2) ∧ PyData.depthAll ps ≤ k := fun ds => by
    induction ds with
    | nil => intro _; exact ⟨[], rfl, rfl, Nat.zero_le _, Nat.zero_le _⟩
    | cons d ds ih =>
      intro h
      obtain ⟨p, e, h1, h3, h4⟩ := h d (List.mem_cons_self ..)
      obtain ⟨ps, e2, g1, g3, g4⟩ := ih fun x hx => h x (List.mem_cons_of_mem _ hx)
      refine ⟨p :: ps, Jre e e2, by simp only [okA, h1, g1, Bool.and_self], by simp only [szA, List.length_cons, Nat.succ_mul]; omega, ?_⟩
      simp only [PyData.depthAll]
      omega
  obtain ⟨ps, e, h1, h3, h4⟩ := key ds h
  have := Nat.mul_le_mul_right (n + 2) hl
  exact ⟨.list ps, Jr6 e, h1, by simp only [szP]; omega, by simp only [PyData.depth]; omega⟩
theorem Sd.repr {ds : List D} (h : Sd n k (.lst ds)) (hn : Nat.ble n 16777216 = true := by rfl) (hk : Nat.ble k 60 = true := by rfl) : ∃ z : Str, Jpj (.lst ds) = some (.str z) ∧ pEqT true (.str z) (.str z) = some (.bl false) ∧ pEqT false (.str z) (.str z) = some (.bl true) := by
  obtain ⟨p, e, h1, h3, h4⟩ := id h
  obtain ⟨s1, s2, s3⟩ := Jp9 h1 (Nat.le_trans h3 (Nat.le_of_ble_eq_true hn)) (Nat.le_trans h4 (Nat.le_of_ble_eq_true hk))
  have hb : DL.showB p = true := by
    unfold DL.showB
    rw [Bool.and_eq_true, Bool.and_eq_true]
    exact ⟨s1, decide_eq_true s2, decide_eq_true s3⟩
  refine ⟨p.shown, ?_, by simp [pEqT], by simp [pEqT]⟩
  show Jsb (.lst ds) = _
  unfold Jsb
  simp only [e, hb]
  rfl
structure OddT (d : D) : Prop where
  dt : Sd 9000 4 d
theorem OddT.of (h : Sd 9000 4 d) : OddT d := ⟨h⟩
theorem Jw1 {p : PyData} (e : py d = some p) (h1 : okP p = true) (h3 : decide (szP p ≤ 9000) = true) (h4 : decide (p.depth ≤ 4) = true) : OddT d := .of ⟨p, e, h1, of_decide_eq_true h3, of_decide_eq_true h4⟩
theorem OddT.int {i : Int} (h : Bt 1800 i) : OddT (.int i) := .of (Dt.bt h).sd.up
theorem OddT.shown (h : OddT d) : ∃ z : Str, Jpj (.lst [d]) = some (.str z) ∧ pEqT true (.str z) (.str z) = some (.bl false) ∧ pEqT false (.str z) (.str z) = some (.bl true) :=
  (Sd.lst (n := 9000) (k := 4) (j := 1) (fun d' hd' => by
    simp only [List.mem_cons, List.mem_nil_iff, or_false] at hd'
    subst hd'
    exact h.dt) (Nat.le_refl _)).repr
theorem Jtd : (JpF K [.ref p]).al p OddT noX := by
  unfold JpF JqT
  simp -implicitDefEqProofs only [BA, runT, pSub, JaC, List.map, List.length, Nat.reduceAdd, Nat.reduceSub, List.replicate, Ja2, Ja3, Jya, Jw0, pInt, T.bind_dr, T.sx_dr, Jbe, Jbg, Jyc, Nat.reduceLeDiff, JaX, JuT, Jqi, Js2, decide_true, Js3, f1_a, pNeg, JwG, Jbf, p1, pAdd, T.nx_dr, JwH, T.al_bind, T.al_nx, T.sx_al, T.al_v, T.al_x, og_t]
  refine ⟨by decide, fun m m0 m1 => ?_⟩
  have hlog : (m - 400000).natAbs.log2 < 20 := log2_lt (k := 19) Qh
  have hb : Bt 20 (m - 400000) := by unfold Bt; omega
  have hn : OddT (.int (m - 400000)) := .int (hb.up Qg)
  have hs : OddT (.str (Str.ofString (toString (m - 400000)))) := .of (Dt.str (m := 21) ⟨by rw [PySem.ofString_length]; exact int_text_length_le (a := m - 400000) (k := 20) Qg hlog, JrZ _⟩).sd.up
  have ht : OddT (.tup [.int (m - 400000)]) := .of (Dt.tup (n := 2000) (k := 0) (m := 1) (fun d' hd' => by
    simp only [List.mem_cons, List.mem_nil_iff, or_false] at hd'
    subst hd'
    exact Dt.bt hb) (Nat.le_refl _)).sd.up
  generalize hi : m - 400000 = i at *
  simp -implicitDefEqProofs only [JuO (i := i) (decide_eq_true (Nat.lt_of_lt_of_le hlog Qg)), T.ofO_s, T.al_v]
  refine Ju2 rfl rfl fun d hd => ?_
  simp only [List.mem_cons, List.mem_nil_iff, or_false] at hd
  rcases hd with rfl | rfl | rfl | rfl | rfl | rfl | rfl | rfl | rfl | rfl | rfl | rfl | rfl | rfl | rfl | rfl | rfl | rfl | rfl | rfl | rfl | rfl | rfl | rfl | rfl
  all_goals first
    | exact hn
    | exact hs
    | exact ht
    | exact Jw1 rfl Qj Qj Qj
theorem Ju3 (k : SaysF fa fn K) {fs : List (Str × D)} : JaV K [.exv (He.ga K "InvalidName") fs] = .v (.lst [.bl true, .bl false, .bl false, .bl false, .bl false, .bl false, .bl false, .bl false, .bl false, .bl false, .bl false, .bl false, .bl false, .bl false, .bl false, .bl false, .bl false, .bl false, .bl false, .bl false, .bl false, .bl false]) := by
  unfold JaV Jbc
  simp -implicitDefEqProofs only [BA, runT, JaC, List.map, List.length, Nat.reduceAdd, Nat.reduceSub, List.replicate, Ja2, Ja3, Jbg, Jbf, p2, Jhn k, Jho k, Jhp k, Nat.reduceLeDiff, JaX, Jbe, pAdd, JdG k, Jhq k, Jhr k, og_t, Jfy k, Jfz k, JfA k, Jhs k, JfB k, Jll k, Jht k, JfC k, JcP k, JdH k, Jhu k, JmF k, Jkn k, Jhw k, JdI k, Jl4 k]
theorem Ju4 (k : SaysF fa fn K) {fs : List (Str × D)} : JaW K [.exv (He.ga K "InvalidName") fs] = .v (.lst [.bl true, .bl false, .bl false, .bl true, .bl false, .bl false]) := by
  unfold JaW Jbd
  simp -implicitDefEqProofs only [BA, runT, JaC, List.map, List.length, Nat.reduceAdd, Nat.reduceSub, List.replicate, Ja2, Ja3, Jbg, Jbf, p2, JjM k, Jkm k, Jhv k, Nat.reduceLeDiff, JaX, Jbe, pAdd, JjN k, Jhx k, Jce k, og_t]
theorem Jw2 {b : Bool} : JbF K [.int 0, d, .bl b] = .v (.exv (He.ga K "InvalidName") [("given", d)]) := by
  cases b <;> kernel_rfl
theorem lc_0 {a1 a2 a3 a4 a5 a6 : Option D} : fLc (Jbr (fCo (fC (.int (22))) fNil)) (.one 6) fYes (f2 (pEq false) (fV 6) (fV 0)) [6] [some (.int 0), a1, a2, a3, a4, a5, a6] = .v (.lst [.bl true, .bl false, .bl false, .bl false, .bl false, .bl false, .bl false, .bl false, .bl false, .bl false, .bl false, .bl false, .bl false, .bl false, .bl false, .bl false, .bl false, .bl false, .bl false, .bl false, .bl false, .bl false]) := by kernel_rfl
theorem lb_0 {a0 a1 a2 a3 a4 a5 : Option D} : fLc (Jbr (fCo (fC (.int (6))) fNil)) (.one 6) fYes (f2 (pEq false) (f2 pMod (fCB (p1 JcI) (fCo (fV 6) fNil)) (fC (.int (3)))) (fV 4)) [6] [a0, a1, a2, a3, some (.int 0), a4, a5] = .v (.lst [.bl true, .bl false, .bl false, .bl true, .bl false, .bl false]) := by kernel_rfl
theorem Jyj : pEq true (.lst [.bl true, .bl false, .bl false, .bl false, .bl false, .bl false, .bl false, .bl false, .bl false, .bl false, .bl false, .bl false, .bl false, .bl false, .bl false, .bl false, .bl false, .bl false, .bl false, .bl false, .bl false, .bl false]) (.lst [.bl true, .bl false, .bl false, .bl false, .bl false, .bl false, .bl false, .bl false, .bl false, .bl false, .bl false, .bl false, .bl false, .bl false, .bl false, .bl false, .bl false, .bl false, .bl false, .bl false, .bl false, .bl false]) = some (.bl false) := by kernel_rfl
theorem Jyk : pEq true (.lst [.bl true, .bl false, .bl false, .bl true, .bl false, .bl false]) (.lst [.bl true, .bl false, .bl false, .bl true, .bl false, .bl false]) = some (.bl false) := by kernel_rfl
theorem in_0 : pIn false (.int 0) (.lst [.int 16, .int 18, .int 19]) = some (.bl false) := by kernel_rfl
theorem xm_0 : decide (He.ga K "InvalidName" ∈ Ja9 K) = true := by simp [Ja9]
theorem Ju5 (k : SaysF fa fn K) (h : OddT d) {b : Bool} : Jae K [.int 0, d, .bl b] = .v (.bl true) := by
  obtain ⟨z, e1, e2, e3⟩ := h.shown
  unfold Jae Ja1
  simp -implicitDefEqProofs only [BA, runT, pLt, JaC, List.map, List.length, Nat.reduceAdd, Nat.reduceSub, List.replicate, Ja2, JbE, pCmp, Int.reduceLT, decide_true, tB, Ja3, Jw2, Jbe, Jfn, Jbg, Nat.reduceLeDiff, JaX, in_0, Jhk, Jhm, Jbf, p1, Ju3 k, lc_0, Jyj, Ju4 k, lb_0, Jyk, JbG, Int.reduceBEq, xm_0, Jbm, e1, e3]
  done
theorem Ju6 (k : SaysF fa fn K) {fs : List (Str × D)} : JaV K [.exv (He.ga K "InvalidMost") fs] = .v (.lst [.bl false, .bl true, .bl false, .bl false, .bl false, .bl false, .bl false, .bl false, .bl false, .bl false, .bl false, .bl false, .bl false, .bl false, .bl false, .bl false, .bl false, .bl false, .bl false, .bl false, .bl false, .bl false]) := by
  unfold JaV Jbc
  simp -implicitDefEqProofs only [BA, runT, JaC, List.map, List.length, Nat.reduceAdd, Nat.reduceSub, List.replicate, Ja2, Ja3, Jbg, Jbf, p2, Jhy k, Jhz k, JhA k, Nat.reduceLeDiff, JaX, Jbe, pAdd, JdJ k, JhB k, JhC k, og_t, JfD k, JfE k, JfF k, JhD k, JfG k, Jlm k, JhE k, JfH k, JcQ k, JdK k, JhF k, JmG k, Jkp k, JhH k, JdL k, Jl5 k]
theorem Ju7 (k : SaysF fa fn K) {fs : List (Str × D)} : JaW K [.exv (He.ga K "InvalidMost") fs] = .v (.lst [.bl true, .bl false, .bl false, .bl true, .bl false, .bl false]) := by
  unfold JaW Jbd
  simp -implicitDefEqProofs only [BA, runT, JaC, List.map, List.length, Nat.reduceAdd, Nat.reduceSub, List.replicate, Ja2, Ja3, Jbg, Jbf, p2, JjO k, Jko k, JhG k, Nat.reduceLeDiff, JaX, Jbe, pAdd, JjP k, JhI k, Jcf k, og_t]
theorem Jw3 {b : Bool} : JbF K [.int 1, d, .bl b] = .v (.exv (He.ga K "InvalidMost") [("given", d)]) := by
  cases b <;> kernel_rfl
theorem lc_1 {a1 a2 a3 a4 a5 a6 : Option D} : fLc (Jbr (fCo (fC (.int (22))) fNil)) (.one 6) fYes (f2 (pEq false) (fV 6) (fV 0)) [6] [some (.int 1), a1, a2, a3, a4, a5, a6] = .v (.lst [.bl false, .bl true, .bl false, .bl false, .bl false, .bl false, .bl false, .bl false, .bl false, .bl false, .bl false, .bl false, .bl false, .bl false, .bl false, .bl false, .bl false, .bl false, .bl false, .bl false, .bl false, .bl false]) := by kernel_rfl
theorem lb_1 {a0 a1 a2 a3 a4 a5 : Option D} : fLc (Jbr (fCo (fC (.int (6))) fNil)) (.one 6) fYes (f2 (pEq false) (f2 pMod (fCB (p1 JcI) (fCo (fV 6) fNil)) (fC (.int (3)))) (fV 4)) [6] [a0, a1, a2, a3, some (.int 0), a4, a5] = .v (.lst [.bl true, .bl false, .bl false, .bl true, .bl false, .bl false]) := by kernel_rfl
theorem Jyl : pEq true (.lst [.bl false, .bl true, .bl false, .bl false, .bl false, .bl false, .bl false, .bl false, .bl false, .bl false, .bl false, .bl false, .bl false, .bl false, .bl false, .bl false, .bl false, .bl false, .bl false, .bl false, .bl false, .bl false]) (.lst [.bl false, .bl true, .bl false, .bl false, .bl false, .bl false, .bl false, .bl false, .bl false, .bl false, .bl false, .bl false, .bl false, .bl false, .bl false, .bl false, .bl false, .bl false, .bl false, .bl false, .bl false, .bl false]) = some (.bl false) := by kernel_rfl
theorem Jym : pEq true (.lst [.bl true, .bl false, .bl false, .bl true, .bl false, .bl false]) (.lst [.bl true, .bl false, .bl false, .bl true, .bl false, .bl false]) = some (.bl false) := by kernel_rfl
theorem in_1 : pIn false (.int 1) (.lst [.int 16, .int 18, .int 19]) = some (.bl false) := by kernel_rfl
theorem xm_1 : decide (He.ga K "InvalidMost" ∈ Ja9 K) = true := by simp [Ja9]
theorem Ju8 (k : SaysF fa fn K) (h : OddT d) {b : Bool} : Jae K [.int 1, d, .bl b] = .v (.bl true) := by
  obtain ⟨z, e1, e2, e3⟩ := h.shown
  unfold Jae Ja1
  simp -implicitDefEqProofs only [BA, runT, pLt, JaC, List.map, List.length, Nat.reduceAdd, Nat.reduceSub, List.replicate, Ja2, JbE, pCmp, Int.reduceLT, decide_true, tB, Ja3, Jw3, Jbe, Jfn, Jbg, Nat.reduceLeDiff, JaX, in_1, Jhk, Jhm, Jbf, p1, Ju6 k, lc_1, Jyl, Ju7 k, lb_1, Jym, JbG, Int.reduceBEq, xm_1, Jbm, e1, e3]
  done
theorem Ju9 (k : SaysF fa fn K) {fs : List (Str × D)} : JaV K [.exv (He.ga K "InvalidKind") fs] = .v (.lst [.bl false, .bl false, .bl true, .bl false, .bl false, .bl false, .bl false, .bl false, .bl false, .bl false, .bl false, .bl false, .bl false, .bl false, .bl false, .bl false, .bl false, .bl false, .bl false, .bl false, .bl false, .bl false]) := by
  unfold JaV Jbc
  simp -implicitDefEqProofs only [BA, runT, JaC, List.map, List.length, Nat.reduceAdd, Nat.reduceSub, List.replicate, Ja2, Ja3, Jbg, Jbf, p2, JhJ k, JhK k, JhL k, Nat.reduceLeDiff, JaX, Jbe, pAdd, JdM k, JhM k, JhN k, og_t, JfI k, JfJ k, JfK k, JhO k, JfL k, Jln k, JhP k, JfM k, JcR k, JdN k, JhQ k, JmH k, Jkr k, JhS k, JdO k, Jl6 k]
theorem Jva (k : SaysF fa fn K) {fs : List (Str × D)} : JaW K [.exv (He.ga K "InvalidKind") fs] = .v (.lst [.bl true, .bl false, .bl false, .bl true, .bl false, .bl false]) := by
  unfold JaW Jbd
  simp -implicitDefEqProofs only [BA, runT, JaC, List.map, List.length, Nat.reduceAdd, Nat.reduceSub, List.replicate, Ja2, Ja3, Jbg, Jbf, p2, JjQ k, Jkq k, JhR k, Nat.reduceLeDiff, JaX, Jbe, pAdd, JjR k, JhT k, Jcg k, og_t]
theorem Jw4 {b : Bool} : JbF K [.int 2, d, .bl b] = .v (.exv (He.ga K "InvalidKind") [("given", d)]) := by
  cases b <;> kernel_rfl
theorem lc_2 {a1 a2 a3 a4 a5 a6 : Option D} : fLc (Jbr (fCo (fC (.int (22))) fNil)) (.one 6) fYes (f2 (pEq false) (fV 6) (fV 0)) [6] [some (.int 2), a1, a2, a3, a4, a5, a6] = .v (.lst [.bl false, .bl false, .bl true, .bl false, .bl false, .bl false, .bl false, .bl false, .bl false, .bl false, .bl false, .bl false, .bl false, .bl false, .bl false, .bl false, .bl false, .bl false, .bl false, .bl false, .bl false, .bl false]) := by kernel_rfl
theorem lb_2 {a0 a1 a2 a3 a4 a5 : Option D} : fLc (Jbr (fCo (fC (.int (6))) fNil)) (.one 6) fYes (f2 (pEq false) (f2 pMod (fCB (p1 JcI) (fCo (fV 6) fNil)) (fC (.int (3)))) (fV 4)) [6] [a0, a1, a2, a3, some (.int 0), a4, a5] = .v (.lst [.bl true, .bl false, .bl false, .bl true, .bl false, .bl false]) := by kernel_rfl
theorem Jyn : pEq true (.lst [.bl false, .bl false, .bl true, .bl false, .bl false, .bl false, .bl false, .bl false, .bl false, .bl false, .bl false, .bl false, .bl false, .bl false, .bl false, .bl false, .bl false, .bl false, .bl false, .bl false, .bl false, .bl false]) (.lst [.bl false, .bl false, .bl true, .bl false, .bl false, .bl false, .bl false, .bl false, .bl false, .bl false, .bl false, .bl false, .bl false, .bl false, .bl false, .bl false, .bl false, .bl false, .bl false, .bl false, .bl false, .bl false]) = some (.bl false) := by kernel_rfl
theorem Jyo : pEq true (.lst [.bl true, .bl false, .bl false, .bl true, .bl false, .bl false]) (.lst [.bl true, .bl false, .bl false, .bl true, .bl false, .bl false]) = some (.bl false) := by kernel_rfl
theorem in_2 : pIn false (.int 2) (.lst [.int 16, .int 18, .int 19]) = some (.bl false) := by kernel_rfl
theorem xm_2 : decide (He.ga K "InvalidKind" ∈ Ja9 K) = true := by simp [Ja9]
theorem Jvb (k : SaysF fa fn K) (h : OddT d) {b : Bool} : Jae K [.int 2, d, .bl b] = .v (.bl true) := by
  obtain ⟨z, e1, e2, e3⟩ := h.shown
  unfold Jae Ja1
  simp -implicitDefEqProofs only [BA, runT, pLt, JaC, List.map, List.length, Nat.reduceAdd, Nat.reduceSub, List.replicate, Ja2, JbE, pCmp, Int.reduceLT, decide_true, tB, Ja3, Jw4, Jbe, Jfn, Jbg, Nat.reduceLeDiff, JaX, in_2, Jhk, Jhm, Jbf, p1, Ju9 k, lc_2, Jyn, Jva k, lb_2, Jyo, JbG, Int.reduceBEq, xm_2, Jbm, e1, e3]
  done
theorem Jvc (k : SaysF fa fn K) {fs : List (Str × D)} : JaV K [.exv (He.ga K "InvalidNumber") fs] = .v (.lst [.bl false, .bl false, .bl false, .bl true, .bl false, .bl false, .bl false, .bl false, .bl false, .bl false, .bl false, .bl false, .bl false, .bl false, .bl false, .bl false, .bl false, .bl false, .bl false, .bl false, .bl false, .bl false]) := by
  unfold JaV Jbc
  simp -implicitDefEqProofs only [BA, runT, JaC, List.map, List.length, Nat.reduceAdd, Nat.reduceSub, List.replicate, Ja2, Ja3, Jbg, Jbf, p2, JdP k, JdQ k, JdR k, Nat.reduceLeDiff, JaX, Jbe, pAdd, Jch k, JdS k, JdT k, og_t, JcS k, JcT k, JcU k, JdU k, JcV k, Jks k, JdV k, JcW k, JbT k, Jci k, JdW k, Jlo k, JhV k, JdY k, Jcj k, JkZ k]
theorem Jvd (k : SaysF fa fn K) {fs : List (Str × D)} : JaW K [.exv (He.ga K "InvalidNumber") fs] = .v (.lst [.bl true, .bl false, .bl false, .bl true, .bl false, .bl false]) := by
  unfold JaW Jbd
  simp -implicitDefEqProofs only [BA, runT, JaC, List.map, List.length, Nat.reduceAdd, Nat.reduceSub, List.replicate, Ja2, Ja3, Jbg, Jbf, p2, JfN k, JhU k, JdX k, Nat.reduceLeDiff, JaX, Jbe, pAdd, JfO k, JdZ k, JbN k, og_t]
theorem Jw5 {b : Bool} : JbF K [.int 3, d, .bl b] = .v (.exv (He.ga K "InvalidNumber") [("given", d)]) := by
  cases b <;> kernel_rfl
theorem lc_3 {a1 a2 a3 a4 a5 a6 : Option D} : fLc (Jbr (fCo (fC (.int (22))) fNil)) (.one 6) fYes (f2 (pEq false) (fV 6) (fV 0)) [6] [some (.int 3), a1, a2, a3, a4, a5, a6] = .v (.lst [.bl false, .bl false, .bl false, .bl true, .bl false, .bl false, .bl false, .bl false, .bl false, .bl false, .bl false, .bl false, .bl false, .bl false, .bl false, .bl false, .bl false, .bl false, .bl false, .bl false, .bl false, .bl false]) := by kernel_rfl
theorem lb_3 {a0 a1 a2 a3 a4 a5 : Option D} : fLc (Jbr (fCo (fC (.int (6))) fNil)) (.one 6) fYes (f2 (pEq false) (f2 pMod (fCB (p1 JcI) (fCo (fV 6) fNil)) (fC (.int (3)))) (fV 4)) [6] [a0, a1, a2, a3, some (.int 0), a4, a5] = .v (.lst [.bl true, .bl false, .bl false, .bl true, .bl false, .bl false]) := by kernel_rfl
theorem Jyp : pEq true (.lst [.bl false, .bl false, .bl false, .bl true, .bl false, .bl false, .bl false, .bl false, .bl false, .bl false, .bl false, .bl false, .bl false, .bl false, .bl false, .bl false, .bl false, .bl false, .bl false, .bl false, .bl false, .bl false]) (.lst [.bl false, .bl false, .bl false, .bl true, .bl false, .bl false, .bl false, .bl false, .bl false, .bl false, .bl false, .bl false, .bl false, .bl false, .bl false, .bl false, .bl false, .bl false, .bl false, .bl false, .bl false, .bl false]) = some (.bl false) := by kernel_rfl
theorem Jyq : pEq true (.lst [.bl true, .bl false, .bl false, .bl true, .bl false, .bl false]) (.lst [.bl true, .bl false, .bl false, .bl true, .bl false, .bl false]) = some (.bl false) := by kernel_rfl
theorem in_3 : pIn false (.int 3) (.lst [.int 16, .int 18, .int 19]) = some (.bl false) := by kernel_rfl
theorem xm_3 : decide (He.ga K "InvalidNumber" ∈ Ja9 K) = true := by simp [Ja9]
theorem Jve (k : SaysF fa fn K) (h : OddT d) {b : Bool} : Jae K [.int 3, d, .bl b] = .v (.bl true) := by
  obtain ⟨z, e1, e2, e3⟩ := h.shown
  unfold Jae Ja1
  simp -implicitDefEqProofs only [BA, runT, pLt, JaC, List.map, List.length, Nat.reduceAdd, Nat.reduceSub, List.replicate, Ja2, JbE, pCmp, Int.reduceLT, decide_true, tB, Ja3, Jw5, Jbe, Jfn, Jbg, Nat.reduceLeDiff, JaX, in_3, Jhk, Jhm, Jbf, p1, Jvc k, lc_3, Jyp, Jvd k, lb_3, Jyq, JbG, Int.reduceBEq, xm_3, Jbm, e1, e3]
  done
theorem Jvf (k : SaysF fa fn K) {fs : List (Str × D)} : JaV K [.exv (He.ga K "InvalidRate") fs] = .v (.lst [.bl false, .bl false, .bl false, .bl false, .bl true, .bl false, .bl false, .bl false, .bl false, .bl false, .bl false, .bl false, .bl false, .bl false, .bl false, .bl false, .bl false, .bl false, .bl false, .bl false, .bl false, .bl false]) := by
  unfold JaV Jbc
  simp -implicitDefEqProofs only [BA, runT, JaC, List.map, List.length, Nat.reduceAdd, Nat.reduceSub, List.replicate, Ja2, Ja3, Jbg, Jbf, p2, JhW k, JhX k, JhY k, Nat.reduceLeDiff, JaX, Jbe, pAdd, Jd0 k, JhZ k, Jh0 k, og_t, JfP k, JfQ k, JfR k, Jh1 k, JfS k, Jlp k, Jh2 k, JfT k, JcX k, Jd1 k, Jh3 k, JmI k, Jku k, Jh5 k, Jd2 k, Jl7 k]
theorem Jvg (k : SaysF fa fn K) {fs : List (Str × D)} : JaW K [.exv (He.ga K "InvalidRate") fs] = .v (.lst [.bl true, .bl false, .bl false, .bl true, .bl false, .bl false]) := by
  unfold JaW Jbd
  simp -implicitDefEqProofs only [BA, runT, JaC, List.map, List.length, Nat.reduceAdd, Nat.reduceSub, List.replicate, Ja2, Ja3, Jbg, Jbf, p2, JjS k, Jkt k, Jh4 k, Nat.reduceLeDiff, JaX, Jbe, pAdd, JjT k, Jh6 k, Jck k, og_t]
theorem Jw6 {b : Bool} : JbF K [.int 4, d, .bl b] = .v (.exv (He.ga K "InvalidRate") [("given", d)]) := by
  cases b <;> kernel_rfl
theorem lc_4 {a1 a2 a3 a4 a5 a6 : Option D} : fLc (Jbr (fCo (fC (.int (22))) fNil)) (.one 6) fYes (f2 (pEq false) (fV 6) (fV 0)) [6] [some (.int 4), a1, a2, a3, a4, a5, a6] = .v (.lst [.bl false, .bl false, .bl false, .bl false, .bl true, .bl false, .bl false, .bl false, .bl false, .bl false, .bl false, .bl false, .bl false, .bl false, .bl false, .bl false, .bl false, .bl false, .bl false, .bl false, .bl false, .bl false]) := by kernel_rfl
theorem lb_4 {a0 a1 a2 a3 a4 a5 : Option D} : fLc (Jbr (fCo (fC (.int (6))) fNil)) (.one 6) fYes (f2 (pEq false) (f2 pMod (fCB (p1 JcI) (fCo (fV 6) fNil)) (fC (.int (3)))) (fV 4)) [6] [a0, a1, a2, a3, some (.int 0), a4, a5] = .v (.lst [.bl true, .bl false, .bl false, .bl true, .bl false, .bl false]) := by kernel_rfl
theorem Jyr : pEq true (.lst [.bl false, .bl false, .bl false, .bl false, .bl true, .bl false, .bl false, .bl false, .bl false, .bl false, .bl false, .bl false, .bl false, .bl false, .bl false, .bl false, .bl false, .bl false, .bl false, .bl false, .bl false, .bl false]) (.lst [.bl false, .bl false, .bl false, .bl false, .bl true, .bl false, .bl false, .bl false, .bl false, .bl false, .bl false, .bl false, .bl false, .bl false, .bl false, .bl false, .bl false, .bl false, .bl false, .bl false, .bl false, .bl false]) = some (.bl false) := by kernel_rfl
theorem Jys : pEq true (.lst [.bl true, .bl false, .bl false, .bl true, .bl false, .bl false]) (.lst [.bl true, .bl false, .bl false, .bl true, .bl false, .bl false]) = some (.bl false) := by kernel_rfl
theorem in_4 : pIn false (.int 4) (.lst [.int 16, .int 18, .int 19]) = some (.bl false) := by kernel_rfl
theorem xm_4 : decide (He.ga K "InvalidRate" ∈ Ja9 K) = true := by simp [Ja9]
theorem Jvh (k : SaysF fa fn K) (h : OddT d) {b : Bool} : Jae K [.int 4, d, .bl b] = .v (.bl true) := by
  obtain ⟨z, e1, e2, e3⟩ := h.shown
  unfold Jae Ja1
  simp -implicitDefEqProofs only [BA, runT, pLt, JaC, List.map, List.length, Nat.reduceAdd, Nat.reduceSub, List.replicate, Ja2, JbE, pCmp, Int.reduceLT, decide_true, tB, Ja3, Jw6, Jbe, Jfn, Jbg, Nat.reduceLeDiff, JaX, in_4, Jhk, Jhm, Jbf, p1, Jvf k, lc_4, Jyr, Jvg k, lb_4, Jys, JbG, Int.reduceBEq, xm_4, Jbm, e1, e3]
  done
theorem Jvi (k : SaysF fa fn K) {fs : List (Str × D)} : JaV K [.exv (He.ga K "InvalidText") fs] = .v (.lst [.bl false, .bl false, .bl false, .bl false, .bl false, .bl true, .bl false, .bl false, .bl false, .bl false, .bl false, .bl false, .bl false, .bl false, .bl false, .bl false, .bl false, .bl false, .bl false, .bl false, .bl false, .bl false]) := by
  unfold JaV Jbc
  simp -implicitDefEqProofs only [BA, runT, JaC, List.map, List.length, Nat.reduceAdd, Nat.reduceSub, List.replicate, Ja2, Ja3, Jbg, Jbf, p2, Jh7 k, Jh8 k, Jh9 k, Nat.reduceLeDiff, JaX, Jbe, pAdd, Jd3 k, Jia k, Jib k, og_t, JfU k, JfV k, JfW k, Jic k, JfX k, Jlq k, Jid k, JfY k, JcY k, Jd4 k, Jie k, JmJ k, Jkw k, Jig k, Jd5 k, Jl8 k]
theorem Jvj (k : SaysF fa fn K) {fs : List (Str × D)} : JaW K [.exv (He.ga K "InvalidText") fs] = .v (.lst [.bl true, .bl false, .bl false, .bl true, .bl false, .bl false]) := by
  unfold JaW Jbd
  simp -implicitDefEqProofs only [BA, runT, JaC, List.map, List.length, Nat.reduceAdd, Nat.reduceSub, List.replicate, Ja2, Ja3, Jbg, Jbf, p2, JjU k, Jkv k, Jif k, Nat.reduceLeDiff, JaX, Jbe, pAdd, JjV k, Jih k, Jcl k, og_t]
theorem Jw7 {b : Bool} : JbF K [.int 5, d, .bl b] = .v (.exv (He.ga K "InvalidText") [("given", d)]) := by
  cases b <;> kernel_rfl
theorem lc_5 {a1 a2 a3 a4 a5 a6 : Option D} : fLc (Jbr (fCo (fC (.int (22))) fNil)) (.one 6) fYes (f2 (pEq false) (fV 6) (fV 0)) [6] [some (.int 5), a1, a2, a3, a4, a5, a6] = .v (.lst [.bl false, .bl false, .bl false, .bl false, .bl false, .bl true, .bl false, .bl false, .bl false, .bl false, .bl false, .bl false, .bl false, .bl false, .bl false, .bl false, .bl false, .bl false, .bl false, .bl false, .bl false, .bl false]) := by kernel_rfl
theorem lb_5 {a0 a1 a2 a3 a4 a5 : Option D} : fLc (Jbr (fCo (fC (.int (6))) fNil)) (.one 6) fYes (f2 (pEq false) (f2 pMod (fCB (p1 JcI) (fCo (fV 6) fNil)) (fC (.int (3)))) (fV 4)) [6] [a0, a1, a2, a3, some (.int 0), a4, a5] = .v (.lst [.bl true, .bl false, .bl false, .bl true, .bl false, .bl false]) := by kernel_rfl
theorem Jyt : pEq true (.lst [.bl false, .bl false, .bl false, .bl false, .bl false, .bl true, .bl false, .bl false, .bl false, .bl false, .bl false, .bl false, .bl false, .bl false, .bl false, .bl false, .bl false, .bl false, .bl false, .bl false, .bl false, .bl false]) (.lst [.bl false, .bl false, .bl false, .bl false, .bl false, .bl true, .bl false, .bl false, .bl false, .bl false, .bl false, .bl false, .bl false, .bl false, .bl false, .bl false, .bl false, .bl false, .bl false, .bl false, .bl false, .bl false]) = some (.bl false) := by kernel_rfl
theorem Jyu : pEq true (.lst [.bl true, .bl false, .bl false, .bl true, .bl false, .bl false]) (.lst [.bl true, .bl false, .bl false, .bl true, .bl false, .bl false]) = some (.bl false) := by kernel_rfl
theorem in_5 : pIn false (.int 5) (.lst [.int 16, .int 18, .int 19]) = some (.bl false) := by kernel_rfl
theorem xm_5 : decide (He.ga K "InvalidText" ∈ Ja9 K) = true := by simp [Ja9]
theorem Jvk (k : SaysF fa fn K) (h : OddT d) {b : Bool} : Jae K [.int 5, d, .bl b] = .v (.bl true) := by
  obtain ⟨z, e1, e2, e3⟩ := h.shown
  unfold Jae Ja1
  simp -implicitDefEqProofs only [BA, runT, pLt, JaC, List.map, List.length, Nat.reduceAdd, Nat.reduceSub, List.replicate, Ja2, JbE, pCmp, Int.reduceLT, decide_true, tB, Ja3, Jw7, Jbe, Jfn, Jbg, Nat.reduceLeDiff, JaX, in_5, Jhk, Jhm, Jbf, p1, Jvi k, lc_5, Jyt, Jvj k, lb_5, Jyu, JbG, Int.reduceBEq, xm_5, Jbm, e1, e3]
  done
theorem Jvl (k : SaysF fa fn K) {fs : List (Str × D)} : JaV K [.exv (He.ga K "InvalidSheet") fs] = .v (.lst [.bl false, .bl false, .bl false, .bl false, .bl false, .bl false, .bl true, .bl false, .bl false, .bl false, .bl false, .bl false, .bl false, .bl false, .bl false, .bl false, .bl false, .bl false, .bl false, .bl false, .bl false, .bl false]) := by
  unfold JaV Jbc
  simp -implicitDefEqProofs only [BA, runT, JaC, List.map, List.length, Nat.reduceAdd, Nat.reduceSub, List.replicate, Ja2, Ja3, Jbg, Jbf, p2, JfZ k, Jf0 k, Jf1 k, Nat.reduceLeDiff, JaX, Jbe, pAdd, JcZ k, Jf2 k, Jf3 k, og_t, Jd6 k, Jd7 k, Jd8 k, Jf4 k, Jd9 k, Jk0 k, Jf5 k, Jea k, Jcm k, Jc0 k, Jf6 k, Jl9 k, JjX k, Jf8 k, Jc1 k, Jlr k]
theorem Jvm (k : SaysF fa fn K) {fs : List (Str × D)} : JaW K [.exv (He.ga K "InvalidSheet") fs] = .v (.lst [.bl true, .bl false, .bl false, .bl true, .bl false, .bl false]) := by
  unfold JaW Jbd
  simp -implicitDefEqProofs only [BA, runT, JaC, List.map, List.length, Nat.reduceAdd, Nat.reduceSub, List.replicate, Ja2, Ja3, Jbg, Jbf, p2, Jii k, JjW k, Jf7 k, Nat.reduceLeDiff, JaX, Jbe, pAdd, Jij k, Jf9 k, JbU k, og_t]
theorem Jw8 {b : Bool} : JbF K [.int 6, d, .bl b] = .v (.exv (He.ga K "InvalidSheet") [("given", d)]) := by
  cases b <;> kernel_rfl
theorem lc_6 {a1 a2 a3 a4 a5 a6 : Option D} : fLc (Jbr (fCo (fC (.int (22))) fNil)) (.one 6) fYes (f2 (pEq false) (fV 6) (fV 0)) [6] [some (.int 6), a1, a2, a3, a4, a5, a6] = .v (.lst [.bl false, .bl false, .bl false, .bl false, .bl false, .bl false, .bl true, .bl false, .bl false, .bl false, .bl false, .bl false, .bl false, .bl false, .bl false, .bl false, .bl false, .bl false, .bl false, .bl false, .bl false, .bl false]) := by kernel_rfl
theorem lb_6 {a0 a1 a2 a3 a4 a5 : Option D} : fLc (Jbr (fCo (fC (.int (6))) fNil)) (.one 6) fYes (f2 (pEq false) (f2 pMod (fCB (p1 JcI) (fCo (fV 6) fNil)) (fC (.int (3)))) (fV 4)) [6] [a0, a1, a2, a3, some (.int 0), a4, a5] = .v (.lst [.bl true, .bl false, .bl false, .bl true, .bl false, .bl false]) := by kernel_rfl
theorem Jyv : pEq true (.lst [.bl false, .bl false, .bl false, .bl false, .bl false, .bl false, .bl true, .bl false, .bl false, .bl false, .bl false, .bl false, .bl false, .bl false, .bl false, .bl false, .bl false, .bl false, .bl false, .bl false, .bl false, .bl false]) (.lst [.bl false, .bl false, .bl false, .bl false, .bl false, .bl false, .bl true, .bl false, .bl false, .bl false, .bl false, .bl false, .bl false, .bl false, .bl false, .bl false, .bl false, .bl false, .bl false, .bl false, .bl false, .bl false]) = some (.bl false) := by kernel_rfl
theorem Jyw : pEq true (.lst [.bl true, .bl false, .bl false, .bl true, .bl false, .bl false]) (.lst [.bl true, .bl false, .bl false, .bl true, .bl false, .bl false]) = some (.bl false) := by kernel_rfl
theorem in_6 : pIn false (.int 6) (.lst [.int 16, .int 18, .int 19]) = some (.bl false) := by kernel_rfl
theorem xm_6 : decide (He.ga K "InvalidSheet" ∈ Ja9 K) = true := by simp [Ja9]
theorem Jvn (k : SaysF fa fn K) (h : OddT d) {b : Bool} : Jae K [.int 6, d, .bl b] = .v (.bl true) := by
  obtain ⟨z, e1, e2, e3⟩ := h.shown
  unfold Jae Ja1
  simp -implicitDefEqProofs only [BA, runT, pLt, JaC, List.map, List.length, Nat.reduceAdd, Nat.reduceSub, List.replicate, Ja2, JbE, pCmp, Int.reduceLT, decide_true, tB, Ja3, Jw8, Jbe, Jfn, Jbg, Nat.reduceLeDiff, JaX, in_6, Jhk, Jhm, Jbf, p1, Jvl k, lc_6, Jyv, Jvm k, lb_6, Jyw, JbG, Int.reduceBEq, xm_6, Jbm, e1, e3]
  done
theorem Jvo (k : SaysF fa fn K) {fs : List (Str × D)} : JaV K [.exv (He.ga K "InvalidTotal") fs] = .v (.lst [.bl false, .bl false, .bl false, .bl false, .bl false, .bl false, .bl false, .bl true, .bl false, .bl false, .bl false, .bl false, .bl false, .bl false, .bl false, .bl false, .bl false, .bl false, .bl false, .bl false, .bl false, .bl false]) := by
  unfold JaV Jbc
  simp -implicitDefEqProofs only [BA, runT, JaC, List.map, List.length, Nat.reduceAdd, Nat.reduceSub, List.replicate, Ja2, Ja3, Jbg, Jbf, p2, Jga k, Jgb k, Jgc k, Nat.reduceLeDiff, JaX, Jbe, pAdd, Jc2 k, Jgd k, Jge k, og_t, Jeb k, Jec k, Jed k, Jgf k, Jee k, Jk1 k, Jgg k, Jef k, Jcn k, Jc3 k, Jgh k, Jma k, JjZ k, Jgj k, Jc4 k, Jls k]
theorem Jvp (k : SaysF fa fn K) {fs : List (Str × D)} : JaW K [.exv (He.ga K "InvalidTotal") fs] = .v (.lst [.bl true, .bl false, .bl false, .bl true, .bl false, .bl false]) := by
  unfold JaW Jbd
  simp -implicitDefEqProofs only [BA, runT, JaC, List.map, List.length, Nat.reduceAdd, Nat.reduceSub, List.replicate, Ja2, Ja3, Jbg, Jbf, p2, Jik k, JjY k, Jgi k, Nat.reduceLeDiff, JaX, Jbe, pAdd, Jil k, Jgk k, JbV k, og_t]
theorem Jw9 {b : Bool} : Jby K [.int 7, d, .bl b] = .v (.exv (He.ga K "InvalidTotal") [("given", d)]) := by
  cases b <;> kernel_rfl
theorem lc_7 {a1 a2 a3 a4 a5 a6 : Option D} : fLc (Jbr (fCo (fC (.int (22))) fNil)) (.one 6) fYes (f2 (pEq false) (fV 6) (fV 0)) [6] [some (.int 7), a1, a2, a3, a4, a5, a6] = .v (.lst [.bl false, .bl false, .bl false, .bl false, .bl false, .bl false, .bl false, .bl true, .bl false, .bl false, .bl false, .bl false, .bl false, .bl false, .bl false, .bl false, .bl false, .bl false, .bl false, .bl false, .bl false, .bl false]) := by kernel_rfl
theorem lb_7 {a0 a1 a2 a3 a4 a5 : Option D} : fLc (Jbr (fCo (fC (.int (6))) fNil)) (.one 6) fYes (f2 (pEq false) (f2 pMod (fCB (p1 JcI) (fCo (fV 6) fNil)) (fC (.int (3)))) (fV 4)) [6] [a0, a1, a2, a3, some (.int 0), a4, a5] = .v (.lst [.bl true, .bl false, .bl false, .bl true, .bl false, .bl false]) := by kernel_rfl
theorem Jyx : pEq true (.lst [.bl false, .bl false, .bl false, .bl false, .bl false, .bl false, .bl false, .bl true, .bl false, .bl false, .bl false, .bl false, .bl false, .bl false, .bl false, .bl false, .bl false, .bl false, .bl false, .bl false, .bl false, .bl false]) (.lst [.bl false, .bl false, .bl false, .bl false, .bl false, .bl false, .bl false, .bl true, .bl false, .bl false, .bl false, .bl false, .bl false, .bl false, .bl false, .bl false, .bl false, .bl false, .bl false, .bl false, .bl false, .bl false]) = some (.bl false) := by kernel_rfl
theorem Jyy : pEq true (.lst [.bl true, .bl false, .bl false, .bl true, .bl false, .bl false]) (.lst [.bl true, .bl false, .bl false, .bl true, .bl false, .bl false]) = some (.bl false) := by kernel_rfl
theorem in_7 : pIn false (.int 7) (.lst [.int 16, .int 18, .int 19]) = some (.bl false) := by kernel_rfl
theorem xm_7 : decide (He.ga K "InvalidTotal" ∈ Ja9 K) = true := by simp [Ja9]
theorem Jvq (k : SaysF fa fn K) (h : OddT d) {b : Bool} : Jae K [.int 7, d, .bl b] = .v (.bl true) := by
  obtain ⟨z, e1, e2, e3⟩ := h.shown
  unfold Jae Ja1
  simp -implicitDefEqProofs only [BA, runT, pLt, JaC, List.map, List.length, Nat.reduceAdd, Nat.reduceSub, List.replicate, Ja2, JbE, pCmp, Int.reduceLT, decide_false, tB, Ja3, Jbe, Jfn, decide_true, Jbg, Nat.reduceLeDiff, JaX, in_7, Jw9, Jhk, Jhm, Jbf, p1, Jvo k, lc_7, Jyx, Jvp k, lb_7, Jyy, JbG, Int.reduceBEq, xm_7, Jbm, e1, e3]
  done
theorem Jvr (k : SaysF fa fn K) {fs : List (Str × D)} : JaV K [.exv (He.ga K "InvalidHours") fs] = .v (.lst [.bl false, .bl false, .bl false, .bl false, .bl false, .bl false, .bl false, .bl false, .bl true, .bl false, .bl false, .bl false, .bl false, .bl false, .bl false, .bl false, .bl false, .bl false, .bl false, .bl false, .bl false, .bl false]) := by
  unfold JaV Jbc
  simp -implicitDefEqProofs only [BA, runT, JaC, List.map, List.length, Nat.reduceAdd, Nat.reduceSub, List.replicate, Ja2, Ja3, Jbg, Jbf, p2, Jgl k, Jgm k, Jgn k, Nat.reduceLeDiff, JaX, Jbe, pAdd, Jc5 k, Jgo k, Jgp k, og_t, Jeg k, Jeh k, Jei k, Jgq k, Jej k, Jk2 k, Jgr k, Jek k, Jco k, Jc6 k, Jgs k, Jmb k, Jj1 k, Jgu k, Jc7 k, Jlt k]
theorem Jvs (k : SaysF fa fn K) {fs : List (Str × D)} : JaW K [.exv (He.ga K "InvalidHours") fs] = .v (.lst [.bl true, .bl false, .bl false, .bl true, .bl false, .bl false]) := by
  unfold JaW Jbd
  simp -implicitDefEqProofs only [BA, runT, JaC, List.map, List.length, Nat.reduceAdd, Nat.reduceSub, List.replicate, Ja2, Ja3, Jbg, Jbf, p2, Jim k, Jj0 k, Jgt k, Nat.reduceLeDiff, JaX, Jbe, pAdd, Jin k, Jgv k, JbW k, og_t]
theorem Jxa {b : Bool} : Jby K [.int 8, d, .bl b] = .v (.exv (He.ga K "InvalidHours") [("given", d)]) := by
  cases b <;> kernel_rfl
theorem lc_8 {a1 a2 a3 a4 a5 a6 : Option D} : fLc (Jbr (fCo (fC (.int (22))) fNil)) (.one 6) fYes (f2 (pEq false) (fV 6) (fV 0)) [6] [some (.int 8), a1, a2, a3, a4, a5, a6] = .v (.lst [.bl false, .bl false, .bl false, .bl false, .bl false, .bl false, .bl false, .bl false, .bl true, .bl false, .bl false, .bl false, .bl false, .bl false, .bl false, .bl false, .bl false, .bl false, .bl false, .bl false, .bl false, .bl false]) := by kernel_rfl
theorem lb_8 {a0 a1 a2 a3 a4 a5 : Option D} : fLc (Jbr (fCo (fC (.int (6))) fNil)) (.one 6) fYes (f2 (pEq false) (f2 pMod (fCB (p1 JcI) (fCo (fV 6) fNil)) (fC (.int (3)))) (fV 4)) [6] [a0, a1, a2, a3, some (.int 0), a4, a5] = .v (.lst [.bl true, .bl false, .bl false, .bl true, .bl false, .bl false]) := by kernel_rfl
theorem Jyz : pEq true (.lst [.bl false, .bl false, .bl false, .bl false, .bl false, .bl false, .bl false, .bl false, .bl true, .bl false, .bl false, .bl false, .bl false, .bl false, .bl false, .bl false, .bl false, .bl false, .bl false, .bl false, .bl false, .bl false]) (.lst [.bl false, .bl false, .bl false, .bl false, .bl false, .bl false, .bl false, .bl false, .bl true, .bl false, .bl false, .bl false, .bl false, .bl false, .bl false, .bl false, .bl false, .bl false, .bl false, .bl false, .bl false, .bl false]) = some (.bl false) := by kernel_rfl
theorem JyA : pEq true (.lst [.bl true, .bl false, .bl false, .bl true, .bl false, .bl false]) (.lst [.bl true, .bl false, .bl false, .bl true, .bl false, .bl false]) = some (.bl false) := by kernel_rfl
theorem in_8 : pIn false (.int 8) (.lst [.int 16, .int 18, .int 19]) = some (.bl false) := by kernel_rfl
theorem xm_8 : decide (He.ga K "InvalidHours" ∈ Ja9 K) = true := by simp [Ja9]
theorem Jvt (k : SaysF fa fn K) (h : OddT d) {b : Bool} : Jae K [.int 8, d, .bl b] = .v (.bl true) := by
  obtain ⟨z, e1, e2, e3⟩ := h.shown
  unfold Jae Ja1
  simp -implicitDefEqProofs only [BA, runT, pLt, JaC, List.map, List.length, Nat.reduceAdd, Nat.reduceSub, List.replicate, Ja2, JbE, pCmp, Int.reduceLT, decide_false, tB, Ja3, Jbe, Jfn, decide_true, Jbg, Nat.reduceLeDiff, JaX, in_8, Jxa, Jhk, Jhm, Jbf, p1, Jvr k, lc_8, Jyz, Jvs k, lb_8, JyA, JbG, Int.reduceBEq, xm_8, Jbm, e1, e3]
  done
theorem Jvu (k : SaysF fa fn K) {fs : List (Str × D)} : JaV K [.exv (He.ga K "InvalidWish") fs] = .v (.lst [.bl false, .bl false, .bl false, .bl false, .bl false, .bl false, .bl false, .bl false, .bl false, .bl true, .bl false, .bl false, .bl false, .bl false, .bl false, .bl false, .bl false, .bl false, .bl false, .bl false, .bl false, .bl false]) := by
  unfold JaV Jbc
  simp -implicitDefEqProofs only [BA, runT, JaC, List.map, List.length, Nat.reduceAdd, Nat.reduceSub, List.replicate, Ja2, Ja3, Jbg, Jbf, p2, Jio k, Jip k, Jiq k, Nat.reduceLeDiff, JaX, Jbe, pAdd, Jel k, Jir k, Jis k, og_t, Jgw k, Jgx k, Jgy k, Jit k, Jgz k, Jlu k, Jiu k, JgA k, Jc8 k, Jem k, Jiv k, JmK k, Jky k, Jix k, Jen k, Jmc k]
theorem Jvv (k : SaysF fa fn K) {fs : List (Str × D)} : JaW K [.exv (He.ga K "InvalidWish") fs] = .v (.lst [.bl true, .bl false, .bl false, .bl true, .bl false, .bl false]) := by
  unfold JaW Jbd
  simp -implicitDefEqProofs only [BA, runT, JaC, List.map, List.length, Nat.reduceAdd, Nat.reduceSub, List.replicate, Ja2, Ja3, Jbg, Jbf, p2, Jj2 k, Jkx k, Jiw k, Nat.reduceLeDiff, JaX, Jbe, pAdd, Jj3 k, Jiy k, Jcp k, og_t]
theorem Jxb {b : Bool} : Jby K [.int 9, d, .bl b] = .v (.exv (He.ga K "InvalidWish") [("given", d)]) := by
  cases b <;> kernel_rfl
theorem lc_9 {a1 a2 a3 a4 a5 a6 : Option D} : fLc (Jbr (fCo (fC (.int (22))) fNil)) (.one 6) fYes (f2 (pEq false) (fV 6) (fV 0)) [6] [some (.int 9), a1, a2, a3, a4, a5, a6] = .v (.lst [.bl false, .bl false, .bl false, .bl false, .bl false, .bl false, .bl false, .bl false, .bl false, .bl true, .bl false, .bl false, .bl false, .bl false, .bl false, .bl false, .bl false, .bl false, .bl false, .bl false, .bl false, .bl false]) := by kernel_rfl
theorem lb_9 {a0 a1 a2 a3 a4 a5 : Option D} : fLc (Jbr (fCo (fC (.int (6))) fNil)) (.one 6) fYes (f2 (pEq false) (f2 pMod (fCB (p1 JcI) (fCo (fV 6) fNil)) (fC (.int (3)))) (fV 4)) [6] [a0, a1, a2, a3, some (.int 0), a4, a5] = .v (.lst [.bl true, .bl false, .bl false, .bl true, .bl false, .bl false]) := by kernel_rfl
theorem JyB : pEq true (.lst [.bl false, .bl false, .bl false, .bl false, .bl false, .bl false, .bl false, .bl false, .bl false, .bl true, .bl false, .bl false, .bl false, .bl false, .bl false, .bl false, .bl false, .bl false, .bl false, .bl false, .bl false, .bl false]) (.lst [.bl false, .bl false, .bl false, .bl false, .bl false, .bl false, .bl false, .bl false, .bl false, .bl true, .bl false, .bl false, .bl false, .bl false, .bl false, .bl false, .bl false, .bl false, .bl false, .bl false, .bl false, .bl false]) = some (.bl false) := by kernel_rfl
theorem JyC : pEq true (.lst [.bl true, .bl false, .bl false, .bl true, .bl false, .bl false]) (.lst [.bl true, .bl false, .bl false, .bl true, .bl false, .bl false]) = some (.bl false) := by kernel_rfl
theorem in_9 : pIn false (.int 9) (.lst [.int 16, .int 18, .int 19]) = some (.bl false) := by kernel_rfl
theorem xm_9 : decide (He.ga K "InvalidWish" ∈ Ja9 K) = true := by simp [Ja9]
theorem Jvw (k : SaysF fa fn K) (h : OddT d) {b : Bool} : Jae K [.int 9, d, .bl b] = .v (.bl true) := by
  obtain ⟨z, e1, e2, e3⟩ := h.shown
  unfold Jae Ja1
  simp -implicitDefEqProofs only [BA, runT, pLt, JaC, List.map, List.length, Nat.reduceAdd, Nat.reduceSub, List.replicate, Ja2, JbE, pCmp, Int.reduceLT, decide_false, tB, Ja3, Jbe, Jfn, decide_true, Jbg, Nat.reduceLeDiff, JaX, in_9, Jxb, Jhk, Jhm, Jbf, p1, Jvu k, lc_9, JyB, Jvv k, lb_9, JyC, JbG, Int.reduceBEq, xm_9, Jbm, e1, e3]
  done
theorem Jte (k : SaysF fa fn K) {fs : List (Str × D)} : JaV K [.exv (He.ga K "InvalidIndex") fs] = .v (.lst [.bl false, .bl false, .bl false, .bl false, .bl false, .bl false, .bl false, .bl false, .bl false, .bl false, .bl true, .bl false, .bl false, .bl false, .bl false, .bl false, .bl false, .bl false, .bl false, .bl false, .bl false, .bl false]) := by
  unfold JaV Jbc
  simp -implicitDefEqProofs only [BA, runT, JaC, List.map, List.length, Nat.reduceAdd, Nat.reduceSub, List.replicate, Ja2, Ja3, Jbg, Jbf, p2, JgB k, JgC k, JgD k, Nat.reduceLeDiff, JaX, Jbe, pAdd, Jc9 k, JgE k, JgF k, og_t, Jeo k, Jep k, Jeq k, JgG k, Jer k, Jk3 k, JgH k, Jes k, Jcq k, Jda k, JgI k, Jmd k, Jj5 k, JgK k, Jdb k, Jlv k]
theorem Jtf (k : SaysF fa fn K) {fs : List (Str × D)} : JaW K [.exv (He.ga K "InvalidIndex") fs] = .v (.lst [.bl true, .bl false, .bl false, .bl true, .bl false, .bl false]) := by
  unfold JaW Jbd
  simp -implicitDefEqProofs only [BA, runT, JaC, List.map, List.length, Nat.reduceAdd, Nat.reduceSub, List.replicate, Ja2, Ja3, Jbg, Jbf, p2, Jiz k, Jj4 k, JgJ k, Nat.reduceLeDiff, JaX, Jbe, pAdd, JiA k, JgL k, JbX k, og_t]
theorem Jvx {b : Bool} : Jby K [.int 10, d, .bl b] = .v (.exv (He.ga K "InvalidIndex") [("given", d)]) := by
  cases b <;> kernel_rfl
theorem JyD {a1 a2 a3 a4 a5 a6 : Option D} : fLc (Jbr (fCo (fC (.int (22))) fNil)) (.one 6) fYes (f2 (pEq false) (fV 6) (fV 0)) [6] [some (.int 10), a1, a2, a3, a4, a5, a6] = .v (.lst [.bl false, .bl false, .bl false, .bl false, .bl false, .bl false, .bl false, .bl false, .bl false, .bl false, .bl true, .bl false, .bl false, .bl false, .bl false, .bl false, .bl false, .bl false, .bl false, .bl false, .bl false, .bl false]) := by kernel_rfl
theorem JyE {a0 a1 a2 a3 a4 a5 : Option D} : fLc (Jbr (fCo (fC (.int (6))) fNil)) (.one 6) fYes (f2 (pEq false) (f2 pMod (fCB (p1 JcI) (fCo (fV 6) fNil)) (fC (.int (3)))) (fV 4)) [6] [a0, a1, a2, a3, some (.int 0), a4, a5] = .v (.lst [.bl true, .bl false, .bl false, .bl true, .bl false, .bl false]) := by kernel_rfl
theorem Jxc : pEq true (.lst [.bl false, .bl false, .bl false, .bl false, .bl false, .bl false, .bl false, .bl false, .bl false, .bl false, .bl true, .bl false, .bl false, .bl false, .bl false, .bl false, .bl false, .bl false, .bl false, .bl false, .bl false, .bl false]) (.lst [.bl false, .bl false, .bl false, .bl false, .bl false, .bl false, .bl false, .bl false, .bl false, .bl false, .bl true, .bl false, .bl false, .bl false, .bl false, .bl false, .bl false, .bl false, .bl false, .bl false, .bl false, .bl false]) = some (.bl false) := by kernel_rfl
theorem Jxd : pEq true (.lst [.bl true, .bl false, .bl false, .bl true, .bl false, .bl false]) (.lst [.bl true, .bl false, .bl false, .bl true, .bl false, .bl false]) = some (.bl false) := by kernel_rfl
theorem JyF : pIn false (.int 10) (.lst [.int 16, .int 18, .int 19]) = some (.bl false) := by kernel_rfl
theorem JyG : decide (He.ga K "InvalidIndex" ∈ Ja9 K) = true := by simp [Ja9]
theorem Jtg (k : SaysF fa fn K) (h : OddT d) {b : Bool} : Jae K [.int 10, d, .bl b] = .v (.bl true) := by
  obtain ⟨z, e1, e2, e3⟩ := h.shown
  unfold Jae Ja1
  simp -implicitDefEqProofs only [BA, runT, pLt, JaC, List.map, List.length, Nat.reduceAdd, Nat.reduceSub, List.replicate, Ja2, JbE, pCmp, Int.reduceLT, decide_false, tB, Ja3, Jbe, Jfn, decide_true, Jbg, Nat.reduceLeDiff, JaX, JyF, Jvx, Jhk, Jhm, Jbf, p1, Jte k, JyD, Jxc, Jtf k, JyE, Jxd, JbG, Int.reduceBEq, JyG, Jbm, e1, e3]
  done
theorem Jth (k : SaysF fa fn K) {fs : List (Str × D)} : JaV K [.exv (He.ga K "NotPlan") fs] = .v (.lst [.bl false, .bl false, .bl false, .bl false, .bl false, .bl false, .bl false, .bl false, .bl false, .bl false, .bl false, .bl true, .bl false, .bl false, .bl false, .bl false, .bl false, .bl false, .bl false, .bl false, .bl false, .bl false]) := by
  unfold JaV Jbc
  simp -implicitDefEqProofs only [BA, runT, JaC, List.map, List.length, Nat.reduceAdd, Nat.reduceSub, List.replicate, Ja2, Ja3, Jbg, Jbf, p2, Jlw k, Jlx k, Jly k, Nat.reduceLeDiff, JaX, Jbe, pAdd, Jkz k, Jlz k, JlA k, og_t, Jk4 k, Jk5 k, Jk6 k, JlB k, Jk7 k, JnE k, JlC k, Jk8 k, Jj6 k, JkA k, JlD k, Jn6 k, JmM k, JlF k, JkB k, JnT k]
theorem Jti (k : SaysF fa fn K) {fs : List (Str × D)} : JaW K [.exv (He.ga K "NotPlan") fs] = .v (.lst [.bl true, .bl false, .bl false, .bl true, .bl false, .bl false]) := by
  unfold JaW Jbd
  simp -implicitDefEqProofs only [BA, runT, JaC, List.map, List.length, Nat.reduceAdd, Nat.reduceSub, List.replicate, Ja2, Ja3, Jbg, Jbf, p2, Jme k, JmL k, JlE k, Nat.reduceLeDiff, JaX, Jbe, pAdd, Jmf k, JlG k, JiB k, og_t]
theorem Jvy {b : Bool} : Jby K [.int 11, d, .bl b] = .v (.exv (He.ga K "NotPlan") [("given", d)]) := by
  cases b <;> kernel_rfl
theorem JyH {a1 a2 a3 a4 a5 a6 : Option D} : fLc (Jbr (fCo (fC (.int (22))) fNil)) (.one 6) fYes (f2 (pEq false) (fV 6) (fV 0)) [6] [some (.int 11), a1, a2, a3, a4, a5, a6] = .v (.lst [.bl false, .bl false, .bl false, .bl false, .bl false, .bl false, .bl false, .bl false, .bl false, .bl false, .bl false, .bl true, .bl false, .bl false, .bl false, .bl false, .bl false, .bl false, .bl false, .bl false, .bl false, .bl false]) := by kernel_rfl
theorem JyI {a0 a1 a2 a3 a4 a5 : Option D} : fLc (Jbr (fCo (fC (.int (6))) fNil)) (.one 6) fYes (f2 (pEq false) (f2 pMod (fCB (p1 JcI) (fCo (fV 6) fNil)) (fC (.int (3)))) (fV 4)) [6] [a0, a1, a2, a3, some (.int 0), a4, a5] = .v (.lst [.bl true, .bl false, .bl false, .bl true, .bl false, .bl false]) := by kernel_rfl
theorem Jxe : pEq true (.lst [.bl false, .bl false, .bl false, .bl false, .bl false, .bl false, .bl false, .bl false, .bl false, .bl false, .bl false, .bl true, .bl false, .bl false, .bl false, .bl false, .bl false, .bl false, .bl false, .bl false, .bl false, .bl false]) (.lst [.bl false, .bl false, .bl false, .bl false, .bl false, .bl false, .bl false, .bl false, .bl false, .bl false, .bl false, .bl true, .bl false, .bl false, .bl false, .bl false, .bl false, .bl false, .bl false, .bl false, .bl false, .bl false]) = some (.bl false) := by kernel_rfl
theorem Jxf : pEq true (.lst [.bl true, .bl false, .bl false, .bl true, .bl false, .bl false]) (.lst [.bl true, .bl false, .bl false, .bl true, .bl false, .bl false]) = some (.bl false) := by kernel_rfl
theorem JyJ : pIn false (.int 11) (.lst [.int 16, .int 18, .int 19]) = some (.bl false) := by kernel_rfl
theorem JyK : decide (He.ga K "NotPlan" ∈ Ja9 K) = true := by simp [Ja9]
theorem Jtj (k : SaysF fa fn K) (h : OddT d) {b : Bool} : Jae K [.int 11, d, .bl b] = .v (.bl true) := by
  obtain ⟨z, e1, e2, e3⟩ := h.shown
  unfold Jae Ja1
  simp -implicitDefEqProofs only [BA, runT, pLt, JaC, List.map, List.length, Nat.reduceAdd, Nat.reduceSub, List.replicate, Ja2, JbE, pCmp, Int.reduceLT, decide_false, tB, Ja3, Jbe, Jfn, decide_true, Jbg, Nat.reduceLeDiff, JaX, JyJ, Jvy, Jhk, Jhm, Jbf, p1, Jth k, JyH, Jxe, Jti k, JyI, Jxf, JbG, Int.reduceBEq, JyK, Jbm, e1, e3]
  done
theorem Jtk (k : SaysF fa fn K) {fs : List (Str × D)} : JaV K [.exv (He.ga K "InvalidDays") fs] = .v (.lst [.bl false, .bl false, .bl false, .bl false, .bl false, .bl false, .bl false, .bl false, .bl false, .bl false, .bl false, .bl false, .bl true, .bl false, .bl false, .bl false, .bl false, .bl false, .bl false, .bl false, .bl false, .bl false]) := by
  unfold JaV Jbc
  simp -implicitDefEqProofs only [BA, runT, JaC, List.map, List.length, Nat.reduceAdd, Nat.reduceSub, List.replicate, Ja2, Ja3, Jbg, Jbf, p2, Ji1 k, Ji2 k, Ji3 k, Nat.reduceLeDiff, JaX, Jbe, pAdd, JeA k, Ji4 k, Ji5 k, og_t, JgX k, JgY k, JgZ k, Ji6 k, Jg0 k, JlL k, Ji7 k, Jg1 k, Jde k, JeB k, Ji8 k, JmQ k, JkS k, Jja k, JeC k, Jmi k]
theorem Jtl (k : SaysF fa fn K) {fs : List (Str × D)} : JaW K [.exv (He.ga K "InvalidDays") fs] = .v (.lst [.bl true, .bl false, .bl false, .bl true, .bl false, .bl false]) := by
  unfold JaW Jbd
  simp -implicitDefEqProofs only [BA, runT, JaC, List.map, List.length, Nat.reduceAdd, Nat.reduceSub, List.replicate, Ja2, Ja3, Jbg, Jbf, p2, Jkg k, JkR k, Ji9 k, Nat.reduceLeDiff, JaX, Jbe, pAdd, Jkh k, Jjb k, Jct k, og_t]
theorem Jvz {b : Bool} : JbA K [.int 12, d, .bl b] = .v (.exv (He.ga K "InvalidDays") [("index", d)]) := by
  cases b <;> kernel_rfl
theorem JyL {a1 a2 a3 a4 a5 a6 : Option D} : fLc (Jbr (fCo (fC (.int (22))) fNil)) (.one 6) fYes (f2 (pEq false) (fV 6) (fV 0)) [6] [some (.int 12), a1, a2, a3, a4, a5, a6] = .v (.lst [.bl false, .bl false, .bl false, .bl false, .bl false, .bl false, .bl false, .bl false, .bl false, .bl false, .bl false, .bl false, .bl true, .bl false, .bl false, .bl false, .bl false, .bl false, .bl false, .bl false, .bl false, .bl false]) := by kernel_rfl
theorem JyM {a0 a1 a2 a3 a4 a5 : Option D} : fLc (Jbr (fCo (fC (.int (6))) fNil)) (.one 6) fYes (f2 (pEq false) (f2 pMod (fCB (p1 JcI) (fCo (fV 6) fNil)) (fC (.int (3)))) (fV 4)) [6] [a0, a1, a2, a3, some (.int 0), a4, a5] = .v (.lst [.bl true, .bl false, .bl false, .bl true, .bl false, .bl false]) := by kernel_rfl
theorem Jxg : pEq true (.lst [.bl false, .bl false, .bl false, .bl false, .bl false, .bl false, .bl false, .bl false, .bl false, .bl false, .bl false, .bl false, .bl true, .bl false, .bl false, .bl false, .bl false, .bl false, .bl false, .bl false, .bl false, .bl false]) (.lst [.bl false, .bl false, .bl false, .bl false, .bl false, .bl false, .bl false, .bl false, .bl false, .bl false, .bl false, .bl false, .bl true, .bl false, .bl false, .bl false, .bl false, .bl false, .bl false, .bl false, .bl false, .bl false]) = some (.bl false) := by kernel_rfl
theorem Jxh : pEq true (.lst [.bl true, .bl false, .bl false, .bl true, .bl false, .bl false]) (.lst [.bl true, .bl false, .bl false, .bl true, .bl false, .bl false]) = some (.bl false) := by kernel_rfl
theorem JyN : pIn false (.int 12) (.lst [.int 16, .int 18, .int 19]) = some (.bl false) := by kernel_rfl
theorem JyO : decide (He.ga K "InvalidDays" ∈ Jbz K) = true := by simp [Jbz]
theorem Jtm (k : SaysF fa fn K) (h : OddT d) {b : Bool} : Jae K [.int 12, d, .bl b] = .v (.bl true) := by
  obtain ⟨z, e1, e2, e3⟩ := h.shown
  unfold Jae Ja1
  simp -implicitDefEqProofs only [BA, runT, pLt, JaC, List.map, List.length, Nat.reduceAdd, Nat.reduceSub, List.replicate, Ja2, JbE, pCmp, Int.reduceLT, decide_false, tB, Ja3, Jbe, Jfn, Jbg, Nat.reduceLeDiff, JaX, JyN, Jvz, Jhk, Jhm, Jbf, p1, decide_true, Jtk k, JyL, Jxg, Jtl k, JyM, Jxh, JbG, Int.reduceBEq, JyO, Jbm, e1, e3]
  done
theorem Jtn (k : SaysF fa fn K) {fs : List (Str × D)} : JaV K [.exv (He.ga K "InvalidRules") fs] = .v (.lst [.bl false, .bl false, .bl false, .bl false, .bl false, .bl false, .bl false, .bl false, .bl false, .bl false, .bl false, .bl false, .bl false, .bl true, .bl false, .bl false, .bl false, .bl false, .bl false, .bl false, .bl false, .bl false]) := by
  unfold JaV Jbc
  simp -implicitDefEqProofs only [BA, runT, JaC, List.map, List.length, Nat.reduceAdd, Nat.reduceSub, List.replicate, Ja2, Ja3, Jbg, Jbf, p2, Jg2 k, Jg3 k, Jg4 k, Nat.reduceLeDiff, JaX, Jbe, pAdd, Jdf k, Jg5 k, Jg6 k, og_t, JeD k, JeE k, JeF k, Jg7 k, JeG k, Jlb k, Jg8 k, JeH k, Jcu k, Jdg k, Jg9 k, Jmj k, Jkj k, Jhb k, Jdh k, JlM k]
theorem Jto (k : SaysF fa fn K) {fs : List (Str × D)} : JaW K [.exv (He.ga K "InvalidRules") fs] = .v (.lst [.bl true, .bl false, .bl false, .bl true, .bl false, .bl false]) := by
  unfold JaW Jbd
  simp -implicitDefEqProofs only [BA, runT, JaC, List.map, List.length, Nat.reduceAdd, Nat.reduceSub, List.replicate, Ja2, Ja3, Jbg, Jbf, p2, Jjc k, Jki k, Jha k, Nat.reduceLeDiff, JaX, Jbe, pAdd, Jjd k, Jhc k, JbY k, og_t]
theorem JvA {b : Bool} : JbA K [.int 13, d, .bl b] = .v (.exv (He.ga K "InvalidRules") [("index", d)]) := by
  cases b <;> kernel_rfl
theorem JyP {a1 a2 a3 a4 a5 a6 : Option D} : fLc (Jbr (fCo (fC (.int (22))) fNil)) (.one 6) fYes (f2 (pEq false) (fV 6) (fV 0)) [6] [some (.int 13), a1, a2, a3, a4, a5, a6] = .v (.lst [.bl false, .bl false, .bl false, .bl false, .bl false, .bl false, .bl false, .bl false, .bl false, .bl false, .bl false, .bl false, .bl false, .bl true, .bl false, .bl false, .bl false, .bl false, .bl false, .bl false, .bl false, .bl false]) := by kernel_rfl
theorem JyQ {a0 a1 a2 a3 a4 a5 : Option D} : fLc (Jbr (fCo (fC (.int (6))) fNil)) (.one 6) fYes (f2 (pEq false) (f2 pMod (fCB (p1 JcI) (fCo (fV 6) fNil)) (fC (.int (3)))) (fV 4)) [6] [a0, a1, a2, a3, some (.int 0), a4, a5] = .v (.lst [.bl true, .bl false, .bl false, .bl true, .bl false, .bl false]) := by kernel_rfl
theorem Jxi : pEq true (.lst [.bl false, .bl false, .bl false, .bl false, .bl false, .bl false, .bl false, .bl false, .bl false, .bl false, .bl false, .bl false, .bl false, .bl true, .bl false, .bl false, .bl false, .bl false, .bl false, .bl false, .bl false, .bl false]) (.lst [.bl false, .bl false, .bl false, .bl false, .bl false, .bl false, .bl false, .bl false, .bl false, .bl false, .bl false, .bl false, .bl false, .bl true, .bl false, .bl false, .bl false, .bl false, .bl false, .bl false, .bl false, .bl false]) = some (.bl false) := by kernel_rfl
theorem Jxj : pEq true (.lst [.bl true, .bl false, .bl false, .bl true, .bl false, .bl false]) (.lst [.bl true, .bl false, .bl false, .bl true, .bl false, .bl false]) = some (.bl false) := by kernel_rfl
theorem JyR : pIn false (.int 13) (.lst [.int 16, .int 18, .int 19]) = some (.bl false) := by kernel_rfl
theorem JyS : decide (He.ga K "InvalidRules" ∈ Jbz K) = true := by simp [Jbz]
theorem Jtp (k : SaysF fa fn K) (h : OddT d) {b : Bool} : Jae K [.int 13, d, .bl b] = .v (.bl true) := by
  obtain ⟨z, e1, e2, e3⟩ := h.shown
  unfold Jae Ja1
  simp -implicitDefEqProofs only [BA, runT, pLt, JaC, List.map, List.length, Nat.reduceAdd, Nat.reduceSub, List.replicate, Ja2, JbE, pCmp, Int.reduceLT, decide_false, tB, Ja3, Jbe, Jfn, Jbg, Nat.reduceLeDiff, JaX, JyR, JvA, Jhk, Jhm, Jbf, p1, decide_true, Jtn k, JyP, Jxi, Jto k, JyQ, Jxj, JbG, Int.reduceBEq, JyS, Jbm, e1, e3]
  done
theorem Jtq (k : SaysF fa fn K) {fs : List (Str × D)} : JaV K [.exv (He.ga K "InvalidChanges") fs] = .v (.lst [.bl false, .bl false, .bl false, .bl false, .bl false, .bl false, .bl false, .bl false, .bl false, .bl false, .bl false, .bl false, .bl false, .bl false, .bl true, .bl false, .bl false, .bl false, .bl false, .bl false, .bl false, .bl false]) := by
  unfold JaV Jbc
  simp -implicitDefEqProofs only [BA, runT, JaC, List.map, List.length, Nat.reduceAdd, Nat.reduceSub, List.replicate, Ja2, Ja3, Jbg, Jbf, p2, Jdi k, Jdj k, Jdk k, Nat.reduceLeDiff, JaX, Jbe, pAdd, JbZ k, Jdl k, Jdm k, og_t, Jcv k, Jcw k, Jcx k, Jdn k, Jcy k, Jkk k, Jdo k, Jcz k, JbO k, Jb0 k, Jdp k, Jlc k, Jhe k, Jdr k, Jb1 k, JkT k]
theorem Jtr (k : SaysF fa fn K) {fs : List (Str × D)} : JaW K [.exv (He.ga K "InvalidChanges") fs] = .v (.lst [.bl true, .bl false, .bl false, .bl true, .bl false, .bl false]) := by
  unfold JaW Jbd
  simp -implicitDefEqProofs only [BA, runT, JaC, List.map, List.length, Nat.reduceAdd, Nat.reduceSub, List.replicate, Ja2, Ja3, Jbg, Jbf, p2, JeI k, Jhd k, Jdq k, Nat.reduceLeDiff, JaX, Jbe, pAdd, JeJ k, Jds k, JbJ k, og_t]
theorem JvB {b : Bool} : JbA K [.int 14, d, .bl b] = .v (.exv (He.ga K "InvalidChanges") [("index", d)]) := by
  cases b <;> kernel_rfl
theorem JyT {a1 a2 a3 a4 a5 a6 : Option D} : fLc (Jbr (fCo (fC (.int (22))) fNil)) (.one 6) fYes (f2 (pEq false) (fV 6) (fV 0)) [6] [some (.int 14), a1, a2, a3, a4, a5, a6] = .v (.lst [.bl false, .bl false, .bl false, .bl false, .bl false, .bl false, .bl false, .bl false, .bl false, .bl false, .bl false, .bl false, .bl false, .bl false, .bl true, .bl false, .bl false, .bl false, .bl false, .bl false, .bl false, .bl false]) := by kernel_rfl
theorem JyU {a0 a1 a2 a3 a4 a5 : Option D} : fLc (Jbr (fCo (fC (.int (6))) fNil)) (.one 6) fYes (f2 (pEq false) (f2 pMod (fCB (p1 JcI) (fCo (fV 6) fNil)) (fC (.int (3)))) (fV 4)) [6] [a0, a1, a2, a3, some (.int 0), a4, a5] = .v (.lst [.bl true, .bl false, .bl false, .bl true, .bl false, .bl false]) := by kernel_rfl
theorem Jxk : pEq true (.lst [.bl false, .bl false, .bl false, .bl false, .bl false, .bl false, .bl false, .bl false, .bl false, .bl false, .bl false, .bl false, .bl false, .bl false, .bl true, .bl false, .bl false, .bl false, .bl false, .bl false, .bl false, .bl false]) (.lst [.bl false, .bl false, .bl false, .bl false, .bl false, .bl false, .bl false, .bl false, .bl false, .bl false, .bl false, .bl false, .bl false, .bl false, .bl true, .bl false, .bl false, .bl false, .bl false, .bl false, .bl false, .bl false]) = some (.bl false) := by kernel_rfl
theorem Jxl : pEq true (.lst [.bl true, .bl false, .bl false, .bl true, .bl false, .bl false]) (.lst [.bl true, .bl false, .bl false, .bl true, .bl false, .bl false]) = some (.bl false) := by kernel_rfl
theorem JyV : pIn false (.int 14) (.lst [.int 16, .int 18, .int 19]) = some (.bl false) := by kernel_rfl
theorem JyW : decide (He.ga K "InvalidChanges" ∈ Jbz K) = true := by simp [Jbz]
theorem Jts (k : SaysF fa fn K) (h : OddT d) {b : Bool} : Jae K [.int 14, d, .bl b] = .v (.bl true) := by
  obtain ⟨z, e1, e2, e3⟩ := h.shown
  unfold Jae Ja1
  simp -implicitDefEqProofs only [BA, runT, pLt, JaC, List.map, List.length, Nat.reduceAdd, Nat.reduceSub, List.replicate, Ja2, JbE, pCmp, Int.reduceLT, decide_false, tB, Ja3, Jbe, Jfn, Jbg, Nat.reduceLeDiff, JaX, JyV, JvB, Jhk, Jhm, Jbf, p1, decide_true, Jtq k, JyT, Jxk, Jtr k, JyU, Jxl, JbG, Int.reduceBEq, JyW, Jbm, e1, e3]
  done
theorem Jtt (k : SaysF fa fn K) {fs : List (Str × D)} : JaV K [.exv (He.ga K "InvalidWishes") fs] = .v (.lst [.bl false, .bl false, .bl false, .bl false, .bl false, .bl false, .bl false, .bl false, .bl false, .bl false, .bl false, .bl false, .bl false, .bl false, .bl false, .bl true, .bl false, .bl false, .bl false, .bl false, .bl false, .bl false]) := by
  unfold JaV Jbc
  simp -implicitDefEqProofs only [BA, runT, JaC, List.map, List.length, Nat.reduceAdd, Nat.reduceSub, List.replicate, Ja2, Ja3, Jbg, Jbf, p2, JeK k, JeL k, JeM k, Nat.reduceLeDiff, JaX, Jbe, pAdd, JcA k, JeN k, JeO k, og_t, Jdt k, Jdu k, Jdv k, JeP k, Jdw k, JkU k, JeQ k, Jdx k, Jb2 k, JcB k, JeR k, JlN k, Jjf k, JeT k, JcC k, Jld k]
theorem Jtu (k : SaysF fa fn K) {fs : List (Str × D)} : JaW K [.exv (He.ga K "InvalidWishes") fs] = .v (.lst [.bl true, .bl false, .bl false, .bl true, .bl false, .bl false]) := by
  unfold JaW Jbd
  simp -implicitDefEqProofs only [BA, runT, JaC, List.map, List.length, Nat.reduceAdd, Nat.reduceSub, List.replicate, Ja2, Ja3, Jbg, Jbf, p2, Jhf k, Jje k, JeS k, Nat.reduceLeDiff, JaX, Jbe, pAdd, Jhg k, JeU k, JbP k, og_t]
theorem JvC {b : Bool} : JbA K [.int 15, d, .bl b] = .v (.exv (He.ga K "InvalidWishes") [("index", d)]) := by
  cases b <;> kernel_rfl
theorem JyX {a1 a2 a3 a4 a5 a6 : Option D} : fLc (Jbr (fCo (fC (.int (22))) fNil)) (.one 6) fYes (f2 (pEq false) (fV 6) (fV 0)) [6] [some (.int 15), a1, a2, a3, a4, a5, a6] = .v (.lst [.bl false, .bl false, .bl false, .bl false, .bl false, .bl false, .bl false, .bl false, .bl false, .bl false, .bl false, .bl false, .bl false, .bl false, .bl false, .bl true, .bl false, .bl false, .bl false, .bl false, .bl false, .bl false]) := by kernel_rfl
theorem JyY {a0 a1 a2 a3 a4 a5 : Option D} : fLc (Jbr (fCo (fC (.int (6))) fNil)) (.one 6) fYes (f2 (pEq false) (f2 pMod (fCB (p1 JcI) (fCo (fV 6) fNil)) (fC (.int (3)))) (fV 4)) [6] [a0, a1, a2, a3, some (.int 0), a4, a5] = .v (.lst [.bl true, .bl false, .bl false, .bl true, .bl false, .bl false]) := by kernel_rfl
theorem Jxm : pEq true (.lst [.bl false, .bl false, .bl false, .bl false, .bl false, .bl false, .bl false, .bl false, .bl false, .bl false, .bl false, .bl false, .bl false, .bl false, .bl false, .bl true, .bl false, .bl false, .bl false, .bl false, .bl false, .bl false]) (.lst [.bl false, .bl false, .bl false, .bl false, .bl false, .bl false, .bl false, .bl false, .bl false, .bl false, .bl false, .bl false, .bl false, .bl false, .bl false, .bl true, .bl false, .bl false, .bl false, .bl false, .bl false, .bl false]) = some (.bl false) := by kernel_rfl
theorem Jxn : pEq true (.lst [.bl true, .bl false, .bl false, .bl true, .bl false, .bl false]) (.lst [.bl true, .bl false, .bl false, .bl true, .bl false, .bl false]) = some (.bl false) := by kernel_rfl
theorem JyZ : pIn false (.int 15) (.lst [.int 16, .int 18, .int 19]) = some (.bl false) := by kernel_rfl
theorem Jy0 : decide (He.ga K "InvalidWishes" ∈ Jbz K) = true := by simp [Jbz]
theorem Jtv (k : SaysF fa fn K) (h : OddT d) {b : Bool} : Jae K [.int 15, d, .bl b] = .v (.bl true) := by
  obtain ⟨z, e1, e2, e3⟩ := h.shown
  unfold Jae Ja1
  simp -implicitDefEqProofs only [BA, runT, pLt, JaC, List.map, List.length, Nat.reduceAdd, Nat.reduceSub, List.replicate, Ja2, JbE, pCmp, Int.reduceLT, decide_false, tB, Ja3, Jbe, Jfn, Jbg, Nat.reduceLeDiff, JaX, JyZ, JvC, Jhk, Jhm, Jbf, p1, decide_true, Jtt k, JyX, Jxm, Jtu k, JyY, Jxn, JbG, Int.reduceBEq, Jy0, Jbm, e1, e3]
  done
theorem Jtw (k : SaysF fa fn K) {fs : List (Str × D)} : JaV K [.exv (He.ga K "UnknownName") fs] = .v (.lst [.bl false, .bl false, .bl false, .bl false, .bl false, .bl false, .bl false, .bl false, .bl false, .bl false, .bl false, .bl false, .bl false, .bl false, .bl false, .bl false, .bl true, .bl false, .bl false, .bl false, .bl false, .bl false]) := by
  unfold JaV Jbc
  simp -implicitDefEqProofs only [BA, runT, JaC, List.map, List.length, Nat.reduceAdd, Nat.reduceSub, List.replicate, Ja2, Ja3, Jbg, Jbf, p2, JiC k, JiD k, JiE k, Nat.reduceLeDiff, JaX, Jbe, pAdd, Jet k, JiF k, JiG k, og_t, JgM k, JgN k, JgO k, JiH k, JgP k, JlH k, JiI k, JgQ k, Jdc k, Jeu k, JiJ k, JmN k, JkD k, JiL k, Jev k, Jmg k]
theorem Jtx (k : SaysF fa fn K) {fs : List (Str × D)} : JaW K [.exv (He.ga K "UnknownName") fs] = .v (.lst [.bl false, .bl true, .bl false, .bl false, .bl true, .bl false]) := by
  unfold JaW Jbd
  simp -implicitDefEqProofs only [BA, runT, JaC, List.map, List.length, Nat.reduceAdd, Nat.reduceSub, List.replicate, Ja2, Ja3, Jbg, Jbf, p2, Jj7 k, JkC k, JiK k, Nat.reduceLeDiff, JaX, Jbe, pAdd, Jj8 k, JiM k, Jcr k, og_t]
theorem JvD {b : Bool} : Jby K [.int 16, d, .bl b] = .v (.exv (He.ga K "UnknownName") [("given", d)]) := by
  cases b <;> kernel_rfl
theorem Jy1 {a1 a2 a3 a4 a5 a6 : Option D} : fLc (Jbr (fCo (fC (.int (22))) fNil)) (.one 6) fYes (f2 (pEq false) (fV 6) (fV 0)) [6] [some (.int 16), a1, a2, a3, a4, a5, a6] = .v (.lst [.bl false, .bl false, .bl false, .bl false, .bl false, .bl false, .bl false, .bl false, .bl false, .bl false, .bl false, .bl false, .bl false, .bl false, .bl false, .bl false, .bl true, .bl false, .bl false, .bl false, .bl false, .bl false]) := by kernel_rfl
theorem Jy2 {a0 a1 a2 a3 a4 a5 : Option D} : fLc (Jbr (fCo (fC (.int (6))) fNil)) (.one 6) fYes (f2 (pEq false) (f2 pMod (fCB (p1 JcI) (fCo (fV 6) fNil)) (fC (.int (3)))) (fV 4)) [6] [a0, a1, a2, a3, some (.int 1), a4, a5] = .v (.lst [.bl false, .bl true, .bl false, .bl false, .bl true, .bl false]) := by kernel_rfl
theorem Jxo : pEq true (.lst [.bl false, .bl false, .bl false, .bl false, .bl false, .bl false, .bl false, .bl false, .bl false, .bl false, .bl false, .bl false, .bl false, .bl false, .bl false, .bl false, .bl true, .bl false, .bl false, .bl false, .bl false, .bl false]) (.lst [.bl false, .bl false, .bl false, .bl false, .bl false, .bl false, .bl false, .bl false, .bl false, .bl false, .bl false, .bl false, .bl false, .bl false, .bl false, .bl false, .bl true, .bl false, .bl false, .bl false, .bl false, .bl false]) = some (.bl false) := by kernel_rfl
theorem Jxp : pEq true (.lst [.bl false, .bl true, .bl false, .bl false, .bl true, .bl false]) (.lst [.bl false, .bl true, .bl false, .bl false, .bl true, .bl false]) = some (.bl false) := by kernel_rfl
theorem Jy3 : pIn false (.int 16) (.lst [.int 16, .int 18, .int 19]) = some (.bl true) := by kernel_rfl
theorem Jy4 : decide (He.ga K "UnknownName" ∈ Ja9 K) = true := by simp [Ja9]
theorem Jty (k : SaysF fa fn K) (h : OddT d) {b : Bool} : Jae K [.int 16, d, .bl b] = .v (.bl true) := by
  obtain ⟨z, e1, e2, e3⟩ := h.shown
  unfold Jae Ja1
  simp -implicitDefEqProofs only [BA, runT, pLt, JaC, List.map, List.length, Nat.reduceAdd, Nat.reduceSub, List.replicate, Ja2, JbE, pCmp, Int.reduceLT, decide_false, tB, Ja3, Jbe, Jfn, Jbg, Nat.reduceLeDiff, JaX, Jy3, JvD, Jhk, Jhm, Jbf, p1, decide_true, Jtw k, Jy1, Jxo, Jtx k, Jy2, Jxp, JbG, Int.reduceBEq, Jy4, Jbm, e1, e3]
  done
theorem Jtz (k : SaysF fa fn K) {fs : List (Str × D)} : JaV K [.exv (He.ga K "InUse") fs] = .v (.lst [.bl false, .bl false, .bl false, .bl false, .bl false, .bl false, .bl false, .bl false, .bl false, .bl false, .bl false, .bl false, .bl false, .bl false, .bl false, .bl false, .bl false, .bl true, .bl false, .bl false, .bl false, .bl false]) := by
  unfold JaV Jbc
  simp -implicitDefEqProofs only [BA, runT, JaC, List.map, List.length, Nat.reduceAdd, Nat.reduceSub, List.replicate, Ja2, Ja3, Jbg, Jbf, p2, JmR k, JmS k, JmT k, Nat.reduceLeDiff, JaX, Jbe, pAdd, JlO k, JmU k, JmV k, og_t, Jmk k, Jml k, Jmm k, JmW k, Jmn k, Jn7 k, JmX k, Jmo k, Jle k, JlP k, JmY k, Jpb k, JnH k, Jm0 k, JlQ k, JoP k]
theorem JtA (k : SaysF fa fn K) {fs : List (Str × D)} : JaW K [.exv (He.ga K "InUse") fs] = .v (.lst [.bl false, .bl true, .bl false, .bl false, .bl true, .bl false]) := by
  unfold JaW Jbd
  simp -implicitDefEqProofs only [BA, runT, JaC, List.map, List.length, Nat.reduceAdd, Nat.reduceSub, List.replicate, Ja2, Ja3, Jbg, Jbf, p2, Jni k, JnG k, JmZ k, Nat.reduceLeDiff, JaX, Jbe, pAdd, Jnj k, Jm1 k, JkV k, og_t]
theorem JvE {b : Bool} : JbA K [.int 17, d, .bl b] = .v (.exv (He.ga K "InUse") [("index", d)]) := by
  cases b <;> kernel_rfl
theorem Jy5 {a1 a2 a3 a4 a5 a6 : Option D} : fLc (Jbr (fCo (fC (.int (22))) fNil)) (.one 6) fYes (f2 (pEq false) (fV 6) (fV 0)) [6] [some (.int 17), a1, a2, a3, a4, a5, a6] = .v (.lst [.bl false, .bl false, .bl false, .bl false, .bl false, .bl false, .bl false, .bl false, .bl false, .bl false, .bl false, .bl false, .bl false, .bl false, .bl false, .bl false, .bl false, .bl true, .bl false, .bl false, .bl false, .bl false]) := by kernel_rfl
theorem Jy6 {a0 a1 a2 a3 a4 a5 : Option D} : fLc (Jbr (fCo (fC (.int (6))) fNil)) (.one 6) fYes (f2 (pEq false) (f2 pMod (fCB (p1 JcI) (fCo (fV 6) fNil)) (fC (.int (3)))) (fV 4)) [6] [a0, a1, a2, a3, some (.int 1), a4, a5] = .v (.lst [.bl false, .bl true, .bl false, .bl false, .bl true, .bl false]) := by kernel_rfl
theorem Jxq : pEq true (.lst [.bl false, .bl false, .bl false, .bl false, .bl false, .bl false, .bl false, .bl false, .bl false, .bl false, .bl false, .bl false, .bl false, .bl false, .bl false, .bl false, .bl false, .bl true, .bl false, .bl false, .bl false, .bl false]) (.lst [.bl false, .bl false, .bl false, .bl false, .bl false, .bl false, .bl false, .bl false, .bl false, .bl false, .bl false, .bl false, .bl false, .bl false, .bl false, .bl false, .bl false, .bl true, .bl false, .bl false, .bl false, .bl false]) = some (.bl false) := by kernel_rfl
theorem Jxr : pEq true (.lst [.bl false, .bl true, .bl false, .bl false, .bl true, .bl false]) (.lst [.bl false, .bl true, .bl false, .bl false, .bl true, .bl false]) = some (.bl false) := by kernel_rfl
theorem Jy7 : pIn false (.int 17) (.lst [.int 16, .int 18, .int 19]) = some (.bl false) := by kernel_rfl
theorem Jy8 : decide (He.ga K "InUse" ∈ Jbz K) = true := by simp [Jbz]
theorem JtB (k : SaysF fa fn K) (h : OddT d) {b : Bool} : Jae K [.int 17, d, .bl b] = .v (.bl true) := by
  obtain ⟨z, e1, e2, e3⟩ := h.shown
  unfold Jae Ja1
  simp -implicitDefEqProofs only [BA, runT, pLt, JaC, List.map, List.length, Nat.reduceAdd, Nat.reduceSub, List.replicate, Ja2, JbE, pCmp, Int.reduceLT, decide_false, tB, Ja3, Jbe, Jfn, Jbg, Nat.reduceLeDiff, JaX, Jy7, JvE, Jhk, Jhm, Jbf, p1, decide_true, Jtz k, Jy5, Jxq, JtA k, Jy6, Jxr, JbG, Int.reduceBEq, Jy8, Jbm, e1, e3]
  done
theorem JtC (k : SaysF fa fn K) {fs : List (Str × D)} : JaV K [.exv (He.ga K "OtherDays") fs] = .v (.lst [.bl false, .bl false, .bl false, .bl false, .bl false, .bl false, .bl false, .bl false, .bl false, .bl false, .bl false, .bl false, .bl false, .bl false, .bl false, .bl false, .bl false, .bl false, .bl true, .bl false, .bl false, .bl false]) := by
  unfold JaV Jbc
  simp -implicitDefEqProofs only [BA, runT, JaC, List.map, List.length, Nat.reduceAdd, Nat.reduceSub, List.replicate, Ja2, Ja3, Jbg, Jbf, p2, JkE k, JkF k, JkG k, Nat.reduceLeDiff, JaX, Jbe, pAdd, JiN k, JkH k, JkI k, og_t, Jj9 k, Jka k, Jkb k, JkJ k, Jkc k, JmO k, JkK k, Jkd k, JgR k, JiO k, JkL k, JnF k, JlJ k, JkN k, JiP k, Jnh k]
theorem JtD (k : SaysF fa fn K) {fs : List (Str × D)} : JaW K [.exv (He.ga K "OtherDays") fs] = .v (.lst [.bl false, .bl false, .bl true, .bl false, .bl false, .bl true]) := by
  unfold JaW Jbd
  simp -implicitDefEqProofs only [BA, runT, JaC, List.map, List.length, Nat.reduceAdd, Nat.reduceSub, List.replicate, Ja2, Ja3, Jbg, Jbf, p2, Jk9 k, JlI k, JkM k, Nat.reduceLeDiff, JaX, Jbe, pAdd, Jla k, JkO k, Jew k, og_t]
theorem JvF {b : Bool} : Jby K [.int 18, d, .bl b] = .v (.exv (He.ga K "OtherDays") [("given", d)]) := by
  cases b <;> kernel_rfl
theorem Jy9 {a1 a2 a3 a4 a5 a6 : Option D} : fLc (Jbr (fCo (fC (.int (22))) fNil)) (.one 6) fYes (f2 (pEq false) (fV 6) (fV 0)) [6] [some (.int 18), a1, a2, a3, a4, a5, a6] = .v (.lst [.bl false, .bl false, .bl false, .bl false, .bl false, .bl false, .bl false, .bl false, .bl false, .bl false, .bl false, .bl false, .bl false, .bl false, .bl false, .bl false, .bl false, .bl false, .bl true, .bl false, .bl false, .bl false]) := by kernel_rfl
theorem Jza {a0 a1 a2 a3 a4 a5 : Option D} : fLc (Jbr (fCo (fC (.int (6))) fNil)) (.one 6) fYes (f2 (pEq false) (f2 pMod (fCB (p1 JcI) (fCo (fV 6) fNil)) (fC (.int (3)))) (fV 4)) [6] [a0, a1, a2, a3, some (.int 2), a4, a5] = .v (.lst [.bl false, .bl false, .bl true, .bl false, .bl false, .bl true]) := by kernel_rfl
theorem Jxs : pEq true (.lst [.bl false, .bl false, .bl false, .bl false, .bl false, .bl false, .bl false, .bl false, .bl false, .bl false, .bl false, .bl false, .bl false, .bl false, .bl false, .bl false, .bl false, .bl false, .bl true, .bl false, .bl false, .bl false]) (.lst [.bl false, .bl false, .bl false, .bl false, .bl false, .bl false, .bl false, .bl false, .bl false, .bl false, .bl false, .bl false, .bl false, .bl false, .bl false, .bl false, .bl false, .bl false, .bl true, .bl false, .bl false, .bl false]) = some (.bl false) := by kernel_rfl
theorem Jxt : pEq true (.lst [.bl false, .bl false, .bl true, .bl false, .bl false, .bl true]) (.lst [.bl false, .bl false, .bl true, .bl false, .bl false, .bl true]) = some (.bl false) := by kernel_rfl
theorem Jzb : pIn false (.int 18) (.lst [.int 16, .int 18, .int 19]) = some (.bl true) := by kernel_rfl
theorem Jzc : decide (He.ga K "OtherDays" ∈ Ja9 K) = true := by simp [Ja9]
theorem JtE (k : SaysF fa fn K) (h : OddT d) {b : Bool} : Jae K [.int 18, d, .bl b] = .v (.bl true) := by
  obtain ⟨z, e1, e2, e3⟩ := h.shown
  unfold Jae Ja1
  simp -implicitDefEqProofs only [BA, runT, pLt, JaC, List.map, List.length, Nat.reduceAdd, Nat.reduceSub, List.replicate, Ja2, JbE, pCmp, Int.reduceLT, decide_false, tB, Ja3, Jbe, Jfn, Jbg, Nat.reduceLeDiff, JaX, Jzb, JvF, Jhk, Jhm, Jbf, p1, JtC k, Jy9, Jxs, JtD k, Jza, Jxt, JbG, Int.reduceBEq, Jzc, Jbm, e1, e3]
  done
theorem JtF (k : SaysF fa fn K) {fs : List (Str × D)} : JaV K [.exv (He.ga K "OutOfBounds") fs] = .v (.lst [.bl false, .bl false, .bl false, .bl false, .bl false, .bl false, .bl false, .bl false, .bl false, .bl false, .bl false, .bl false, .bl false, .bl false, .bl false, .bl false, .bl false, .bl false, .bl false, .bl true, .bl false, .bl false]) := by
  unfold JaV Jbc
  simp -implicitDefEqProofs only [BA, runT, JaC, List.map, List.length, Nat.reduceAdd, Nat.reduceSub, List.replicate, Ja2, Ja3, Jbg, Jbf, p2, JiQ k, JiR k, JiS k, Nat.reduceLeDiff, JaX, Jbe, pAdd, Jex k, JiT k, JiU k, og_t, JgS k, JgT k, JgU k, JiV k, JgV k, JlK k, JiW k, JgW k, Jdd k, Jey k, JiX k, JmP k, JkQ k, JiZ k, Jez k, Jmh k]
theorem JtG (k : SaysF fa fn K) {fs : List (Str × D)} : JaW K [.exv (He.ga K "OutOfBounds") fs] = .v (.lst [.bl false, .bl false, .bl true, .bl false, .bl false, .bl true]) := by
  unfold JaW Jbd
  simp -implicitDefEqProofs only [BA, runT, JaC, List.map, List.length, Nat.reduceAdd, Nat.reduceSub, List.replicate, Ja2, Ja3, Jbg, Jbf, p2, Jke k, JkP k, JiY k, Nat.reduceLeDiff, JaX, Jbe, pAdd, Jkf k, Ji0 k, Jcs k, og_t]
theorem JvG {b : Bool} : Jby K [.int 19, d, .bl b] = .v (.exv (He.ga K "OutOfBounds") [("given", d)]) := by
  cases b <;> kernel_rfl
theorem Jzd {a1 a2 a3 a4 a5 a6 : Option D} : fLc (Jbr (fCo (fC (.int (22))) fNil)) (.one 6) fYes (f2 (pEq false) (fV 6) (fV 0)) [6] [some (.int 19), a1, a2, a3, a4, a5, a6] = .v (.lst [.bl false, .bl false, .bl false, .bl false, .bl false, .bl false, .bl false, .bl false, .bl false, .bl false, .bl false, .bl false, .bl false, .bl false, .bl false, .bl false, .bl false, .bl false, .bl false, .bl true, .bl false, .bl false]) := by kernel_rfl
theorem Jze {a0 a1 a2 a3 a4 a5 : Option D} : fLc (Jbr (fCo (fC (.int (6))) fNil)) (.one 6) fYes (f2 (pEq false) (f2 pMod (fCB (p1 JcI) (fCo (fV 6) fNil)) (fC (.int (3)))) (fV 4)) [6] [a0, a1, a2, a3, some (.int 2), a4, a5] = .v (.lst [.bl false, .bl false, .bl true, .bl false, .bl false, .bl true]) := by kernel_rfl
theorem Jxu : pEq true (.lst [.bl false, .bl false, .bl false, .bl false, .bl false, .bl false, .bl false, .bl false, .bl false, .bl false, .bl false, .bl false, .bl false, .bl false, .bl false, .bl false, .bl false, .bl false, .bl false, .bl true, .bl false, .bl false]) (.lst [.bl false, .bl false, .bl false, .bl false, .bl false, .bl false, .bl false, .bl false, .bl false, .bl false, .bl false, .bl false, .bl false, .bl false, .bl false, .bl false, .bl false, .bl false, .bl false, .bl true, .bl false, .bl false]) = some (.bl false) := by kernel_rfl
theorem Jxv : pEq true (.lst [.bl false, .bl false, .bl true, .bl false, .bl false, .bl true]) (.lst [.bl false, .bl false, .bl true, .bl false, .bl false, .bl true]) = some (.bl false) := by kernel_rfl
theorem Jzf : pIn false (.int 19) (.lst [.int 16, .int 18, .int 19]) = some (.bl true) := by kernel_rfl
theorem Jzg : decide (He.ga K "OutOfBounds" ∈ Ja9 K) = true := by simp [Ja9]
theorem JtH (k : SaysF fa fn K) (h : OddT d) {b : Bool} : Jae K [.int 19, d, .bl b] = .v (.bl true) := by
  obtain ⟨z, e1, e2, e3⟩ := h.shown
  unfold Jae Ja1
  simp -implicitDefEqProofs only [BA, runT, pLt, JaC, List.map, List.length, Nat.reduceAdd, Nat.reduceSub, List.replicate, Ja2, JbE, pCmp, Int.reduceLT, decide_false, tB, Ja3, Jbe, Jfn, Jbg, Nat.reduceLeDiff, JaX, Jzf, JvG, Jhk, Jhm, Jbf, p1, JtF k, Jzd, Jxu, JtG k, Jze, Jxv, JbG, Int.reduceBEq, Jzg, Jbm, e1, e3]
  done
theorem JtI (k : SaysF fa fn K) {fs : List (Str × D)} : JaV K [.exv (He.ga K "NothingToUndo") fs] = .v (.lst [.bl false, .bl false, .bl false, .bl false, .bl false, .bl false, .bl false, .bl false, .bl false, .bl false, .bl false, .bl false, .bl false, .bl false, .bl false, .bl false, .bl false, .bl false, .bl false, .bl false, .bl true, .bl false]) := by
  unfold JaV Jbc
  simp -implicitDefEqProofs only [BA, runT, JaC, List.map, List.length, Nat.reduceAdd, Nat.reduceSub, List.replicate, Ja2, Ja3, Jbg, Jbf, p2, JeV k, JeW k, JeX k, Nat.reduceLeDiff, JaX, Jbe, pAdd, JcD k, JeY k, JeZ k, og_t, Jdy k, Jdz k, JdA k, Je0 k, JdB k, JkX k, Je1 k, JdC k, Jb3 k, JcE k, Je2 k, JlW k, Jjh k, Je4 k, JcF k, Jli k]
theorem JtJ (k : SaysF fa fn K) {fs : List (Str × D)} : JaW K [.exv (He.ga K "NothingToUndo") fs] = .v (.lst [.bl false, .bl false, .bl true, .bl false, .bl false, .bl true]) := by
  unfold JaW Jbd
  simp -implicitDefEqProofs only [BA, runT, JaC, List.map, List.length, Nat.reduceAdd, Nat.reduceSub, List.replicate, Ja2, Ja3, Jbg, Jbf, p2, Jhh k, Jjg k, Je3 k, Nat.reduceLeDiff, JaX, Jbe, pAdd, Jhi k, Je5 k, JbQ k, og_t]
theorem JvH {b : Bool} : JbA K [.int 20, d, .bl b] = .v (.exv (He.ga K "NothingToUndo") []) := by
  cases b <;> kernel_rfl
theorem Jzh {a1 a2 a3 a4 a5 a6 : Option D} : fLc (Jbr (fCo (fC (.int (22))) fNil)) (.one 6) fYes (f2 (pEq false) (fV 6) (fV 0)) [6] [some (.int 20), a1, a2, a3, a4, a5, a6] = .v (.lst [.bl false, .bl false, .bl false, .bl false, .bl false, .bl false, .bl false, .bl false, .bl false, .bl false, .bl false, .bl false, .bl false, .bl false, .bl false, .bl false, .bl false, .bl false, .bl false, .bl false, .bl true, .bl false]) := by kernel_rfl
theorem Jzi {a0 a1 a2 a3 a4 a5 : Option D} : fLc (Jbr (fCo (fC (.int (6))) fNil)) (.one 6) fYes (f2 (pEq false) (f2 pMod (fCB (p1 JcI) (fCo (fV 6) fNil)) (fC (.int (3)))) (fV 4)) [6] [a0, a1, a2, a3, some (.int 2), a4, a5] = .v (.lst [.bl false, .bl false, .bl true, .bl false, .bl false, .bl true]) := by kernel_rfl
theorem Jxw : pEq true (.lst [.bl false, .bl false, .bl false, .bl false, .bl false, .bl false, .bl false, .bl false, .bl false, .bl false, .bl false, .bl false, .bl false, .bl false, .bl false, .bl false, .bl false, .bl false, .bl false, .bl false, .bl true, .bl false]) (.lst [.bl false, .bl false, .bl false, .bl false, .bl false, .bl false, .bl false, .bl false, .bl false, .bl false, .bl false, .bl false, .bl false, .bl false, .bl false, .bl false, .bl false, .bl false, .bl false, .bl false, .bl true, .bl false]) = some (.bl false) := by kernel_rfl
theorem Jxx : pEq true (.lst [.bl false, .bl false, .bl true, .bl false, .bl false, .bl true]) (.lst [.bl false, .bl false, .bl true, .bl false, .bl false, .bl true]) = some (.bl false) := by kernel_rfl
theorem Jzj : pIn false (.int 20) (.lst [.int 16, .int 18, .int 19]) = some (.bl false) := by kernel_rfl
theorem JtK (k : SaysF fa fn K) (h : OddT d) {b : Bool} : Jae K [.int 20, d, .bl b] = .v (.bl true) := by
  obtain ⟨z, e1, e2, e3⟩ := h.shown
  unfold Jae Ja1
  simp -implicitDefEqProofs only [BA, runT, pLt, JaC, List.map, List.length, Nat.reduceAdd, Nat.reduceSub, List.replicate, Ja2, JbE, pCmp, Int.reduceLT, decide_false, tB, Ja3, Jbe, Jfn, Jbg, Nat.reduceLeDiff, JaX, Jzj, JvH, Jhk, Jhm, Jbf, p1, JtI k, Jzh, Jxw, JtJ k, Jzi, Jxx, JbG, Int.reduceBEq]
  done
theorem JtL (k : SaysF fa fn K) {fs : List (Str × D)} : JaV K [.exv (He.ga K "Broken") fs] = .v (.lst [.bl false, .bl false, .bl false, .bl false, .bl false, .bl false, .bl false, .bl false, .bl false, .bl false, .bl false, .bl false, .bl false, .bl false, .bl false, .bl false, .bl false, .bl false, .bl false, .bl false, .bl false, .bl true]) := by
  unfold JaV Jbc
  simp -implicitDefEqProofs only [BA, runT, JaC, List.map, List.length, Nat.reduceAdd, Nat.reduceSub, List.replicate, Ja2, Ja3, Jbg, Jbf, p2, Jmp k, Jmq k, Jmr k, Nat.reduceLeDiff, JaX, Jbe, pAdd, Jlf k, Jms k, Jmt k, og_t, JlR k, JlS k, JlT k, Jmu k, JlU k, JnU k, Jmv k, JlV k, JkW k, Jlg k, Jmw k, JoQ k, Jnl k, Jmy k, Jlh k, Jn8 k]
theorem JtM (k : SaysF fa fn K) {fs : List (Str × D)} : JaW K [.exv (He.ga K "Broken") fs] = .v (.lst [.bl false, .bl false, .bl true, .bl false, .bl false, .bl true]) := by
  unfold JaW Jbd
  simp -implicitDefEqProofs only [BA, runT, JaC, List.map, List.length, Nat.reduceAdd, Nat.reduceSub, List.replicate, Ja2, Ja3, Jbg, Jbf, p2, Jm2 k, Jnk k, Jmx k, Nat.reduceLeDiff, JaX, Jbe, pAdd, Jm3 k, Jmz k, Jkl k, og_t]
theorem JvI {b : Bool} : JbA K [.int 21, d, .bl b] = .v (.exv (He.ga K "Broken") [("index", d)]) := by
  cases b <;> kernel_rfl
theorem Jzk {a1 a2 a3 a4 a5 a6 : Option D} : fLc (Jbr (fCo (fC (.int (22))) fNil)) (.one 6) fYes (f2 (pEq false) (fV 6) (fV 0)) [6] [some (.int 21), a1, a2, a3, a4, a5, a6] = .v (.lst [.bl false, .bl false, .bl false, .bl false, .bl false, .bl false, .bl false, .bl false, .bl false, .bl false, .bl false, .bl false, .bl false, .bl false, .bl false, .bl false, .bl false, .bl false, .bl false, .bl false, .bl false, .bl true]) := by kernel_rfl
theorem Jzl {a0 a1 a2 a3 a4 a5 : Option D} : fLc (Jbr (fCo (fC (.int (6))) fNil)) (.one 6) fYes (f2 (pEq false) (f2 pMod (fCB (p1 JcI) (fCo (fV 6) fNil)) (fC (.int (3)))) (fV 4)) [6] [a0, a1, a2, a3, some (.int 2), a4, a5] = .v (.lst [.bl false, .bl false, .bl true, .bl false, .bl false, .bl true]) := by kernel_rfl
theorem Jxy : pEq true (.lst [.bl false, .bl false, .bl false, .bl false, .bl false, .bl false, .bl false, .bl false, .bl false, .bl false, .bl false, .bl false, .bl false, .bl false, .bl false, .bl false, .bl false, .bl false, .bl false, .bl false, .bl false, .bl true]) (.lst [.bl false, .bl false, .bl false, .bl false, .bl false, .bl false, .bl false, .bl false, .bl false, .bl false, .bl false, .bl false, .bl false, .bl false, .bl false, .bl false, .bl false, .bl false, .bl false, .bl false, .bl false, .bl true]) = some (.bl false) := by kernel_rfl
theorem Jxz : pEq true (.lst [.bl false, .bl false, .bl true, .bl false, .bl false, .bl true]) (.lst [.bl false, .bl false, .bl true, .bl false, .bl false, .bl true]) = some (.bl false) := by kernel_rfl
theorem Jzm : pIn false (.int 21) (.lst [.int 16, .int 18, .int 19]) = some (.bl false) := by kernel_rfl
theorem Jzn : decide (He.ga K "Broken" ∈ Jbz K) = true := by simp [Jbz]
theorem JtN (k : SaysF fa fn K) (h : OddT d) {b : Bool} : Jae K [.int 21, d, .bl b] = .v (.bl true) := by
  obtain ⟨z, e1, e2, e3⟩ := h.shown
  unfold Jae Ja1
  simp -implicitDefEqProofs only [BA, runT, pLt, JaC, List.map, List.length, Nat.reduceAdd, Nat.reduceSub, List.replicate, Ja2, JbE, pCmp, Int.reduceLT, decide_false, tB, Ja3, Jbe, Jfn, Jbg, Nat.reduceLeDiff, JaX, Jzm, JvI, Jhk, Jhm, Jbf, p1, JtL k, Jzk, Jxy, JtM k, Jzl, Jxz, JbG, Int.reduceBEq, Jzn, Jbm, e1, e3]
  done
theorem JsC (k : SaysF fa fn K) (h : OddT d) {b : Bool} {j : Nat} (hj : j < 22) : Jae K [.int (j : Int), d, .bl b] = .v (.bl true) := by
  match j, hj with
  | 0, _ => exact Ju5 k h
  | 1, _ => exact Ju8 k h
  | 2, _ => exact Jvb k h
  | 3, _ => exact Jve k h
  | 4, _ => exact Jvh k h
  | 5, _ => exact Jvk k h
  | 6, _ => exact Jvn k h
  | 7, _ => exact Jvq k h
  | 8, _ => exact Jvt k h
  | 9, _ => exact Jvw k h
  | 10, _ => exact Jtg k h
  | 11, _ => exact Jtj k h
  | 12, _ => exact Jtm k h
  | 13, _ => exact Jtp k h
  | 14, _ => exact Jts k h
  | 15, _ => exact Jtv k h
  | 16, _ => exact Jty k h
  | 17, _ => exact JtB k h
  | 18, _ => exact JtE k h
  | 19, _ => exact JtH k h
  | 20, _ => exact JtK k h
  | 21, _ => exact JtN k h
  | n + 22, hj => omega
theorem right_true (k : SaysF fa fn K) (p : Addr) : (JoW K [.ref p]).al p (fun d => d = .bl true) noX := by
  unfold JoW JoV
  refine JuP (JwJ (fun l => ∃ a1 a2, l = [some (.ref p), a1, a2]) ?_ ?_)
  · unfold JoU
    have hb : smB 22 = true := by decide
    refine JuY (items := rngD 0 22) (by simp -implicitDefEqProofs only [BA, JaC, List.map, List.length, Nat.reduceAdd, Nat.reduceSub, List.replicate, JuR, hb]) (fun i l => ∃ a1 a2, l = [some (.ref p), a1, a2]) ⟨none, none, rfl⟩ ?_ (fun l hl => hl) (fun _ h => h) (fun _ h => h.elim)
    rintro i x l hx ⟨a1, a2, rfl⟩
    obtain ⟨hi, rfl⟩ : i < 22 ∧ x = .int (i : Int) := by
      unfold rngD at hx
      rw [List.getElem?_map] at hx
      by_cases hi : i < 22
      · rw [List.getElem?_range (by simpa using hi)] at hx
        refine ⟨hi, ?_⟩
        have := Option.some.inj hx
        rw [← this]
        simp
      · rw [List.getElem?_eq_none (by simpa using hi)] at hx
        cases hx
    refine ⟨_, rfl, ?_⟩
    refine JwJ (fun l => ∃ d, OddT d ∧ l = [some (.ref p), some (.int (i : Int)), some d]) ?_ ?_
    · simp -implicitDefEqProofs only [BA, Ja3, T.sx_al, T.al_v, Jse]
      exact T.al_mono Jtd (fun d hd => ⟨d, hd, rfl⟩) fun _ _ h => h.elim
    rintro l ⟨d, hd, rfl⟩
    unfold JoT
    simp -implicitDefEqProofs only [BA, Ja2, JbE, Jfn, JwK, JsC k hd hi, tB, Bool.not_true, Jbe, T.al_v, Jse]
    exact ⟨_, _, rfl⟩
  rintro l ⟨a1, a2, rfl⟩
  simp -implicitDefEqProofs only [BA, Ja2, Jbe, T.al_v, RtQ]
end

theorem sc_law : FnScope ["_law_script", "_law_spot"] ["_law_script"] (defScope (topS 42)) := Qa
def JxA (K : PySem.W.Frag) : DSp := sp1 (fun a M Q E => ∃ ns : List Int, a = .scr ns ∧ ns.length ≤ 63 ∧ (∀ i ∈ ns, Builtin.Int.intBits i ≤ 1048576) ∧ (∀ p, M p = none) ∧ ∀ M', Q (.bl true) M')
theorem JxB {P : Program} {w : World} {K : PySem.W.Frag} {mg : Str → Option Value} {base : Heap} (X : K.In base) (G : base.Ns mainGlobals mg) (c : SaysF fa fn K) : OkF P w K mg base 6 JsW ["_law_script"] (JxA K) := by
  obtain ⟨fd_, FD_⟩ := c.def_ 33 (d := JsW)
  obtain ⟨fd_l_right, FD_l_right, F_l_right, B_l_right⟩ := Jry (P := P) (w := w) X G c
  have JsD := FD_l_right.kp
  obtain ⟨fd_l_pool, FD_l_pool, F_l_pool, B_l_pool⟩ := Jsy (P := P) (w := w) X G c
  have JtO := FD_l_pool.kp
  obtain ⟨fd_l_cell, FD_l_cell, F_l_cell, B_l_cell⟩ := Jsw (P := P) (w := w) X G c
  have JtP := FD_l_cell.kp
  have Jzo := He.free_ok X G (c.fact 311 (f := fun K => (He.Fa.free "all").ok K))
  have JnZ := He.free_ok X G (c.fact 41 (f := fun K => (He.Fa.free "range").ok K))
  have Jzp := He.free_ok X G (c.fact 312 (f := fun K => (He.Fa.free "max").ok K))
  have Jzq := He.free_ok X G (c.fact 313 (f := fun K => (He.Fa.free "min").ok K))
  have Jsx := He.free_ok X G (c.fact 1 (f := fun K => (He.Fa.free "len").ok K))
  have Jqw := He.glo_ok X G (c.fact 314 (f := fun K => (He.Fa.glo "_law_right").ok K))
  have Jq1 := He.glo_ok X G (c.fact 315 (f := fun K => (He.Fa.glo "_law_pool").ok K))
  have Jq2 := He.glo_ok X G (c.fact 316 (f := fun K => (He.Fa.glo "_law_cell").ok K))
  have sys_ := c.fact 43 (f := bSys)
  have Jqv := He.free_ok X G (c.fact 44 (f := fun K => (He.Fa.free "repr").ok K))
  have i_MOST_CHANGES := He.int_ok X G (c.fact 317 (f := fun K => (He.Fa.int "MOST_CHANGES" (6)).ok K))
  have i_MOST_RULES := He.int_ok X G (c.fact 318 (f := fun K => (He.Fa.int "MOST_RULES" (8)).ok K))
  have i_MOST_DAYS := He.int_ok X G (c.fact 319 (f := fun K => (He.Fa.int "MOST_DAYS" (7)).ok K))
  refine ⟨fd_, FD_, JpY FD_ sc_law (fun ds M Q E h => JrV h) (fun cdv A outer s H Z ds M Q E E1 hr h => ?_), Bd.all FD_ rfl rfl Qd⟩
  obtain ⟨a, rfl, h⟩ := h
  refine ⟨_, (Jbq (JsJ (Jpf Jwt (JbH (Jrb (hr.mono (Nat.zero_le _)) sys_) rfl Jqv boot_repr (Jbk (Jt0 (JmE (JuD (Jpq rfl i_MOST_DAYS.choose_spec)) (JmE (JuD (Jpq rfl i_MOST_RULES.choose_spec)) (JmE (JuD (Jpq rfl i_MOST_CHANGES.choose_spec)) Jr1)))) da_nil)) (JbH (Jrb (hr.mono (Nat.zero_le _)) sys_) rfl Jqv boot_repr (Jbk (Jt0 (JmE Jr0 (JmE Jr0 (JmE Jr0 Jr1)))) da_nil)) (nomark _)) (Jbq (Jn1 Jo8) dss_nil) dss_nil) (Jbq (Jn1 (JbH (JxL rfl) rfl Jzo boot_all (Jbk (Jv3 (p := (.one 1)) (own := [("_law_spot", 1)]) rfl sc_law.nd  (JpU rfl JnZ (Jbk (JbH (Jv6 rfl) rfl Jzp boot_max (Jbk de_int (Jbk (JbH (Jv7 rfl) rfl Jzq boot_min (Jbk (JbH Jup rfl Jsx boot_len (Jbk (dv 0) da_nil)) (Jbk de_int da_nil))) da_nil))) da_nil)) (JqK Qk) Qg (fun _ _ _ _ _ => pg_name sc_law.nd rfl (.inl rfl)) (fun _ _ _ _ _ => Jum) (fun _ _ _ _ _ => (Jpt F_l_right (hr.mono Qg) rfl Jqw JsD B_l_right (Jbk (Jpt F_l_pool (hr.mono Qg) rfl Jq1 JtO B_l_pool (Jbk (Jpt F_l_cell (hr.mono Qg) rfl Jq2 JtP B_l_cell (Jbk (dv 0) (Jbk (dv 1) da_nil))) da_nil)) da_nil)))) da_nil))) dss_nil)), ?_⟩
  obtain ⟨ns, rfl, hl, hb, hM, h⟩ := h
  simp only [dSeq, Jrj, JrG, dRet, JrH, dIfS, dAsg, Jm9, Jo9, Jna, Jpa, Jrk, dCB, JqA, dNil, dC, dVar, dOp, dUn, dB, dAnd, dOr, dNot, JrB, dOrV, JrC, dIf, dTup, dLst, Jp7, JaC, List.map, List.replicate, List.length, List.append, List.getElem?_cons_zero, List.getElem?_cons_succ, List.set, Nat.sub, List.cons_append, List.nil_append, Nat.zero_add, Nat.reduceAdd, Nat.reduceSub, dP, fTup, JqM, fLst, fVar, fDic, fKv, Jqe, Jr2, Jr3, JoI, JoG, id, Option.some.injEq, exists_eq_left', exists_and_left, D.ref.injEq, D.int.injEq, D.bl.injEq, D.lst.injEq, Nat.reduceLeDiff, Nat.zero_le, lstW, seqOf, Jpr, Jqa, Jqb, Jqc, Jqd, aLt, aGt, aGe, JoH, Jqf, Jqg, JoK, JoJ, dFor, iTup, iLst, forL, Jp4, Jnx, dTry, JoB, JoC, JoD, JoE, aSub, JoF, JnB, aMod, Jrh, aPow, aIsN, JrE, Jp8, JqF, dBM, m2S, bty, Jou, Jov, Jow, Jox, Joy, Joz, JoA, true_and, and_true, if_true, if_false, Bool.not_true, Bool.not_false, Bool.false_eq_true, reduceIte, spT, Jql, Jqk, dLc, JtT]
  obtain ⟨m, em, h12⟩ : ∃ m : Nat, maxI 3 (minI (ns.length : Int) 8) = (m : Int) ∧ m ≤ 63 := by
    refine ⟨(maxI 3 (minI (ns.length : Int) 8)).toNat, ?_⟩
    unfold maxI minI
    split <;> split at * <;> omega
  have hz := sizeLine_eq
  rw [em]
  have ss : Joo (.list [.int 7, .int 8, .int 6]) := Jp9 Qj Qj Qj
  refine ⟨.list [.int 7, .int 8, .int 6], rfl, ss, .list [.int 7, .int 8, .int 6], rfl, ss, ?_⟩
  have ne_self : ∀ {a : Str} {M : Mh} {Q : QD}, Q (.bl false) M → aNeT (.str a) (.str a) M Q := fun {a M Q} h => by
    show Q (.bl (!decide (a = a))) M
    rw [decide_eq_true rfl]
    exact h
  have ne_two : ∀ {A B : Prop}, B → if false = true then A else B := fun h => by rw [if_neg Qg]; exact h
  refine ne_self ?_
  refine ne_two ?_
  refine ⟨by omega, by omega, JqN (fun _ => True) (fun _ o => o = some (.bl true)) (fun x hx M1 _ K1 K0 k => ?_) (by rw [List.length_map, List.length_range]; simp only [List.length_nil]; omega) True.intro fun M1 os _ po => ?_⟩
  · obtain ⟨i, _, rfl⟩ := List.mem_map.mp hx
    simp only [dSeq, Jrj, JrG, dRet, JrH, dIfS, dAsg, Jm9, Jo9, Jna, Jpa, Jrk, dCB, JqA, dNil, dC, dVar, dOp, dUn, dB, dAnd, dOr, dNot, JrB, dOrV, JrC, dIf, dTup, dLst, Jp7, JaC, List.map, List.replicate, List.length, List.append, List.getElem?_cons_zero, List.getElem?_cons_succ, List.set, Nat.sub, List.cons_append, List.nil_append, Nat.zero_add, Nat.reduceAdd, Nat.reduceSub, dP, fTup, JqM, fLst, fVar, fDic, fKv, Jqe, Jr2, Jr3, JoI, JoG, id, Option.some.injEq, exists_eq_left', exists_and_left, D.ref.injEq, D.int.injEq, D.bl.injEq, D.lst.injEq, Nat.reduceLeDiff, Nat.zero_le, lstW, seqOf, Jpr, Jqa, Jqb, Jqc, Jqd, aLt, aGt, aGe, JoH, Jqf, Jqg, JoK, JoJ, dFor, iTup, iLst, forL, Jp4, Jnx, dTry, JoB, JoC, JoD, JoE, aSub, JoF, JnB, aMod, Jrh, aPow, aIsN, JrE, Jp8, JqF, dBM, m2S, bty, Jou, Jov, Jow, Jox, Joy, Joz, JoA, true_and, and_true, if_true, if_false, Bool.not_true, Bool.not_false, Bool.false_eq_true, reduceIte, tpD, dYes, Jon]
    refine ⟨_, rfl, by omega, fun cc p ep => ?_⟩
    exact Js4 (right_true c p) Jbt (k (some (.bl true)) _ rfl True.intro)
  · rw [Jpi po, List.length_map, List.length_range]
    show aAll [D.lst (List.replicate m (.bl true))] M1 (RetQ Q)
    refine ⟨_, List.replicate m true, rfl, Jqj m, ?_⟩
    rw [Js5]
    exact RetQ.here (h _)
theorem JsE {K : PySem.W.Frag} {x qual : Str} {params : Arguments} {body : List Stmt} {scope : Scope} {dvs : List V} {kws : List (Str × V)} {f : Addr} {fd fd' : FuncData} (h : FunD K x qual params body scope dvs kws f fd) (h' : FunD K x qual params body scope dvs kws f fd') : fd = fd' := by
  obtain ⟨oc, od, dV, kV, doc, pm, an, cdv, ct, osl, _, lk, _, _, _⟩ := h.ex
  obtain ⟨oc', od', dV', kV', doc', pm', an', cdv', ct', osl', _, lk', _, _, _⟩ := h'.ex
  rw [lk] at lk'
  injection Option.some.inj lk' with _ _ e _
  injection e
theorem facts {w : World} {K : PySem.W.Frag} {h : Heap} {mg : Str → Option Value} {f : Addr} (X : K.In h) (G : h.Ns mainGlobals mg) (hfa : mg ("law" : Str) = some (.ref f)) (c : SaysF fa fn K) :
    ∃ fd : FuncData, (∀ (s : Shared) (v : Value), BindsTo s fd ⟨[v], []⟩ [("_law_script", v)]) ∧ ∀ base : Heap, K.In base → base.Ns mainGlobals mg → TbB K mg base → FnG (PySem.Challenge.rw_overhours_k01_constants_and_errors).prog w K mg base 6 f fd ["_law_script"] (Juv 63) := by
  have e := hfa.symm.trans (He.glo_ok X G (c.fact 288 (f := fun K => (He.Fa.glo "law").ok K)))
  cases e
  obtain ⟨fd, FD⟩ := c.def_ 33 (d := JsW)
  have b := FunD.bindsA (ps := ["_law_script"]) FD fun _ _ _ _ _ _ us hl => match us, hl with | [_], _ => rfl
  refine ⟨fd, fun s v => b s [v] rfl, fun base X' G' Tb => ?_⟩
  obtain ⟨fd', FD', F', _⟩ := JxB (P := (PySem.Challenge.rw_overhours_k01_constants_and_errors).prog) (w := w) X' G' c
  rw [JsE FD FD']
  exact F'.imp fun ds M Q E h => by
    obtain ⟨ns, rfl, h1, h2, h3, h4⟩ := h
    exact ⟨_, rfl, ns, rfl, h1, h2, h3, h4⟩
end DL
open PySem PySem.W PySem.Calls PyProof.Rows
theorem PySem.Challenge.cw_overhours_k01_constants_and_errors_holds : PySem.Challenge.rw_overhours_k01_constants_and_errors.Holds := by
  w_on; o_law
  refine HandSHeadRun.head_any (r := OpenLaw.row PySem.Challenge.rw_overhours_k01_constants_and_errors) (q := view (OpenLaw.row PySem.Challenge.rw_overhours_k01_constants_and_errors).prog [42]) (H := DL.FR.hk) (ob := DL.FR.ob) (M := 20000) (loose := DL.FR.names) (d := HandSHeadRun.topDef (OpenLaw.row PySem.Challenge.rw_overhours_k01_constants_and_errors).prog 42) (kwd := []) DL.FR.ob_eq
    Qk (fun s => by kernel_rfl) DL.FR.run Qk Qk Qk (by rfl) (by first | assumption | decide +kernel) Qj ⟨rfl, rfl, rfl, rfl, rfl, by decide +kernel⟩ ?hw ?hc
  case hw => w_witness2
  case hc =>
    refine DL.walk_g (l := PySem.Challenge.rw_overhours_k01_constants_and_errors) (n := 63) (k := 6) (x := "_law_script") rfl Qg Qk ⟨rfl, by decide, by decide⟩ ?F
    intro w mg fa h Y G hmg0
    obtain ⟨K, KX, c⟩ := Y
    have hmg : mg ("law" : PySem.Str) = some (.ref fa) := by
      have e : (HandSHeadRun.topDef (OpenLaw.row PySem.Challenge.rw_overhours_k01_constants_and_errors).prog 42).name = ("law" : PySem.Str) := by kernel_rfl
      rw [← e]
      exact hmg0
    obtain ⟨fd, hb, hF⟩ := DL.facts (w := w) KX G hmg c
    exact ⟨K, fd, KX, DL.TabsOk.none (DL.bNoT_ok (c.fact 289 (f := DL.bNoT))), hb, hF⟩
namespace DL
end DL
