import PyProof.Rows.All
import Wide.All
import OpenK.AllK
import Wide.FinOn
import HandS.ForMost
import HandS.Exc
import HandS.ExcOwn
import HandS.ExcIs
import HandS.TryOnly
import HandS.WordsExc
import HandS.TupAny
import HandS.Conv
import HandS.Zip
import HandS.Gcd
import HandS.IsInst
import HandS.Deep
import HandS.Flow
import KE.KStar
import KE.SortData
import KE.DataMinMax
import PySem.Challenge.RW_sendershade_k03_whole_nets_and_hidden_ro
set_option Elab.async false
set_option linter.all false
set_option maxRecDepth 100000
set_option maxHeartbeats 4000000
/-! A data layer over the hand layer: values as data, expressions evaluate to data. -/
namespace DL
open PySem PySem.Spec PyProof.Rows L2

/-! ### data in the abstract heap -/
mutual
inductive Rp (H : Hp) : V → PyData → Prop
  | non : Rp H .non .none
  | bl (b : Bool) : Rp H (.bl b) (.bool b)
  | int (i : Int) : Rp H (.int i) (.int i)
  | str (x : Str) : Rp H (.str x) (.str x)
  | lst {a : Addr} {xs : List V} {ds : List PyData} : H a = some (.lst xs) → Rps H xs ds → Rp H (.ref a) (.list ds)
  | tup {a : Addr} {xs : List V} {ds : List PyData} : H a = some (.tup xs) → Rps H xs ds → Rp H (.ref a) (.tuple ds)
inductive Rps (H : Hp) : List V → List PyData → Prop
  | nil : Rps H [] []
  | cons {v : V} {vs : List V} {d : PyData} {ds : List PyData} : Rp H v d → Rps H vs ds → Rps H (v :: vs) (d :: ds)
end
mutual
theorem Rp.mono {H H' : Hp} (e : Same H H') : ∀ {d : PyData} {v : V}, Rp H v d → Rp H' v d
  | .none, _, h => by cases h; exact .non
  | .bool b, _, h => by cases h; exact .bl b
  | .int i, _, h => by cases h; exact .int i
  | .str x, _, h => by cases h; exact .str x
  | .list ds, _, h => by
    cases h with
    | lst h1 h2 => exact .lst (e _ _ h1) (Rps.mono e h2)
  | .tuple ds, _, h => by
    cases h with
    | tup h1 h2 => exact .tup (e _ _ h1) (Rps.mono e h2)
  | .dict _, _, h => by cases h
theorem Rps.mono {H H' : Hp} (e : Same H H') : ∀ {ds : List PyData} {vs : List V}, Rps H vs ds → Rps H' vs ds
  | [], _, h => by cases h; exact .nil
  | d :: ds, _, h => by
    cases h with
    | cons h1 h2 => exact .cons (Rp.mono e h1) (Rps.mono e h2)
end
mutual
theorem Rp.dp {K : PySem.W.Frag} {H : Hp} : ∀ {d : PyData} {v : V}, Rp H v d → Dp K H v d
  | .none, _, h => by cases h; exact .non
  | .bool b, _, h => by cases h; exact .bl b
  | .int i, _, h => by cases h; exact .int i
  | .str x, _, h => by cases h; exact .str x
  | .list ds, _, h => by
    cases h with
    | lst h1 h2 => exact .lst (SqL.of h1) (Rps.dp h2)
  | .tuple ds, _, h => by
    cases h with
    | tup h1 h2 => exact .tup (SqT.of h1) (Rps.dp h2)
  | .dict _, _, h => by cases h
theorem Rps.dp {K : PySem.W.Frag} {H : Hp} : ∀ {ds : List PyData} {vs : List V}, Rps H vs ds → DpAll K H vs ds
  | [], _, h => by cases h; exact .nil
  | d :: ds, _, h => by
    cases h with
    | cons h1 h2 => exact .cons (Rp.dp h1) (Rps.dp h2)
end
theorem Rps.length {H : Hp} : ∀ {vs : List V} {ds : List PyData}, Rps H vs ds → vs.length = ds.length
  | _, [], h => by cases h; rfl
  | _, d :: ds, h => by
    cases h with
    | cons h1 h2 => rw [List.length_cons, List.length_cons, Rps.length h2]
theorem Rps.get {H : Hp} : ∀ {ds : List PyData} {vs : List V} {i : Nat} {d : PyData}, Rps H vs ds → ds[i]? = some d → ∃ v, vs[i]? = some v ∧ Rp H v d
  | [], _, _, _, _, e => by simp at e
  | d :: ds, _, 0, _, h, e => by
    cases h with
    | cons h1 h2 =>
      simp at e
      subst e
      exact ⟨_, rfl, h1⟩
  | d :: ds, _, i + 1, _, h, e => by
    cases h with
    | cons h1 h2 =>
      obtain ⟨v, a, b⟩ := Rps.get (i := i) h2 (by simpa using e)
      exact ⟨v, by simpa using a, b⟩
theorem Rps.append {H : Hp} : ∀ {ds es : List PyData} {vs ws : List V}, Rps H vs ds → Rps H ws es → Rps H (vs ++ ws) (ds ++ es)
  | [], _, _, _, h, k => by cases h; exact k
  | d :: ds, _, _, _, h, k => by
    cases h with
    | cons h1 h2 => exact .cons h1 (Rps.append h2 k)
theorem Rps.take {H : Hp} : ∀ {ds : List PyData} {vs : List V} (n : Nat), Rps H vs ds → Rps H (vs.take n) (ds.take n)
  | [], _, n, h => by cases h; rw [List.take_nil, List.take_nil]; exact .nil
  | d :: ds, _, 0, _ => .nil
  | d :: ds, _, n + 1, h => by
    cases h with
    | cons h1 h2 => exact .cons h1 (Rps.take n h2)
theorem Rps.drop {H : Hp} : ∀ {ds : List PyData} {vs : List V} (n : Nat), Rps H vs ds → Rps H (vs.drop n) (ds.drop n)
  | [], _, n, h => by cases h; rw [List.drop_nil, List.drop_nil]; exact .nil
  | d :: ds, _, 0, h => h
  | d :: ds, _, n + 1, h => by
    cases h with
    | cons h1 h2 => exact Rps.drop n h2
theorem Rps.eraseIdx {H : Hp} : ∀ {ds : List PyData} {vs : List V} (n : Nat), Rps H vs ds → Rps H (vs.eraseIdx n) (ds.eraseIdx n)
  | [], _, n, h => by cases h; exact .nil
  | d :: ds, _, 0, h => by
    cases h with
    | cons h1 h2 => exact h2
  | d :: ds, _, n + 1, h => by
    cases h with
    | cons h1 h2 => exact .cons h1 (Rps.eraseIdx n h2)
theorem Rps.rep {H : Hp} {vs : List V} {ds : List PyData} (h : Rps H vs ds) : ∀ k : Nat, Rps H (List.replicate k vs).flatten (List.replicate k ds).flatten
  | 0 => .nil
  | k + 1 => by
    rw [List.replicate_succ, List.replicate_succ, List.flatten_cons, List.flatten_cons]
    exact h.append (Rps.rep h k)
theorem Rps.ints {H : Hp} : ∀ {ns : List Int} {vs : List V}, Rps H vs (ns.map .int) → vs = ns.map V.int
  | [], _, h => by cases h; rfl
  | n :: ns, _, h => by
    rw [List.map_cons] at h
    cases h with
    | cons h1 h2 =>
      cases h1
      rw [Rps.ints h2, List.map_cons]
theorem rps_ints {H : Hp} : ∀ (ns : List Int), Rps H (ns.map V.int) (ns.map .int)
  | [] => .nil
  | n :: ns => .cons (.int n) (rps_ints ns)
theorem Rps.bools {H : Hp} : ∀ {bs : List Bool} {vs : List V}, Rps H vs (bs.map .bool) → vs = bs.map V.bl
  | [], _, h => by cases h; rfl
  | n :: ns, _, h => by
    rw [List.map_cons] at h
    cases h with
    | cons h1 h2 =>
      cases h1
      rw [Rps.bools h2, List.map_cons]
theorem Rps.one {H : Hp} {d : PyData} {vs : List V} (h : Rps H vs [d]) : ∃ v, vs = [v] ∧ Rp H v d := by
  cases h with
  | cons h1 h2 =>
    cases h2
    exact ⟨_, rfl, h1⟩
theorem Rps.two {H : Hp} {d e : PyData} {vs : List V} (h : Rps H vs [d, e]) : ∃ v w, vs = [v, w] ∧ Rp H v d ∧ Rp H w e := by
  cases h with
  | cons h1 h2 =>
    obtain ⟨w, rfl, k⟩ := h2.one
    exact ⟨_, w, rfl, h1, k⟩

/-! ### a heap with some addresses hidden -/
def hide (N : List Addr) (H : Hp) : Hp := fun a => if a ∈ N then none else H a
theorem hide_some {N : List Addr} {H : Hp} {a : Addr} {o : HO} : hide N H a = some o ↔ a ∉ N ∧ H a = some o := by
  unfold hide
  by_cases h : a ∈ N
  · rw [if_pos h]
    exact ⟨fun z => (nomatch z), fun z => absurd h z.1⟩
  · rw [if_neg h]
    exact ⟨fun z => ⟨h, z⟩, fun z => z.2⟩
theorem hide_same {N : List Addr} {H H' : Hp} (e : Same H H') : Same (hide N H) (hide N H') := fun a o h => by
  obtain ⟨h1, h2⟩ := hide_some.mp h
  exact hide_some.mpr ⟨h1, e a o h2⟩
theorem hide_sub (N : List Addr) (H : Hp) : Same (hide N H) H := fun a o h => (hide_some.mp h).2
theorem hide_less {N N' : List Addr} (s : ∀ a ∈ N, a ∈ N') (H : Hp) : Same (hide N' H) (hide N H) := fun a o h => by
  obtain ⟨h1, h2⟩ := hide_some.mp h
  exact hide_some.mpr ⟨fun z => h1 (s a z), h2⟩
/-- all but the writable ones are kept -/
def SameW (W : List Addr) (H H' : Hp) : Prop := ∀ a o, a ∉ W → H a = some o → H' a = some o
theorem Same.w {W : List Addr} {H H' : Hp} (e : Same H H') : SameW W H H' := fun a o _ h => e a o h
theorem SameW.refl (W : List Addr) (H : Hp) : SameW W H H := fun _ _ _ h => h
theorem SameW.trans {W : List Addr} {H H1 H2 : Hp} (a : SameW W H H1) (b : SameW W H1 H2) : SameW W H H2 := fun c o n h => b c o n (a c o n h)
theorem SameW.same {H H' : Hp} (e : SameW [] H H') : Same H H' := fun a o h => e a o (by simp) h
theorem SameW.more {W W' : List Addr} {H H' : Hp} (e : SameW W H H') (s : ∀ a ∈ W, a ∈ W') : SameW W' H H' := fun a o n h => e a o (fun z => n (s a z)) h
theorem SameW.hide {N W : List Addr} {H H' : Hp} (e : SameW W H H') (s : ∀ a ∈ W, a ∈ N) : Same (hide N H) (hide N H') := fun a o h => by
  obtain ⟨h1, h2⟩ := hide_some.mp h
  exact hide_some.mpr ⟨h1, e a o (fun z => h1 (s a z)) h2⟩
theorem same_new {H : Hp} {p : Addr} {o : HO} (h : H p = none) : Same H (upd H p o) := fun b x e => by
  rw [upd_ne (ne_of_none e h)]
  exact e
/-- what H does not know may change -/
theorem Same.mut {H H' : Hp} {p : Addr} {o : HO} (e : Same H H') (h : H p = none) : Same H (upd H' p o) := fun b x hb => by
  rw [upd_ne (ne_of_none hb h)]
  exact e b x hb

/-! ### what stands in the slots -/
inductive Ent where
  | unk
  | dat (d : PyData)
  | own (ds : List PyData)
  | box
abbrev En := List (Nat × Ent)
structure Slots (N W : List Addr) (T : Option Addr) (H : Hp) (σ : L2.St) (env : En) : Prop where
  dat : ∀ i d, env.lookup i = some (.dat d) → ∃ v, σ[i]? = some (some v) ∧ Rp (hide N H) v d
  own : ∀ i ds, env.lookup i = some (.own ds) → ∃ a xs, σ[i]? = some (some (.ref a)) ∧ a ∈ W ∧ T ≠ some a ∧ H a = some (.lst xs) ∧ Rps (hide N H) xs ds
  inj : ∀ i j di dj a, env.lookup i = some (.own di) → env.lookup j = some (.own dj) → σ[i]? = some (some (.ref a)) → σ[j]? = some (some (.ref a)) → i = j
  box : ∀ i, env.lookup i = some .box → ∃ t, T = some t ∧ σ[i]? = some (some (.ref t))
structure Sta (N W : List Addr) (T : Option Addr) (H : Hp) (σ : L2.St) (env : En) : Prop where
  fr : ∀ a ∈ N, H a ≠ none
  sub : ∀ a ∈ W, a ∈ N
  tw : ∀ t, T = some t → t ∈ W
  sl : Slots N W T H σ env
theorem Sta.mono {N W : List Addr} {T : Option Addr} {H H' : Hp} {σ : L2.St} {env : En} (h : Sta N W T H σ env) (e : Same H H') : Sta N W T H' σ env where
  fr := fun a ha => by
    cases q : H a with
    | none => exact absurd q (h.fr a ha)
    | some o => rw [e a o q]; exact fun z => nomatch z
  sub := h.sub
  tw := h.tw
  sl := ⟨fun i d hi => by
      obtain ⟨v, a, b⟩ := h.sl.dat i d hi
      exact ⟨v, a, b.mono (hide_same e)⟩,
    fun i ds hi => by
      obtain ⟨a, xs, a1, a2, a3, a4, a5⟩ := h.sl.own i ds hi
      exact ⟨a, xs, a1, a2, a3, e _ _ a4, a5.mono (hide_same e)⟩, h.sl.inj, h.sl.box⟩
theorem fr_mono {N : List Addr} {H H' : Hp} (h : ∀ a ∈ N, H a ≠ none) (e : Same H H') : ∀ a ∈ N, H' a ≠ none := fun a ha => by
  cases q : H a with
  | none => exact absurd q (h a ha)
  | some o => rw [e a o q]; exact fun z => nomatch z
theorem not_in {N : List Addr} {H : Hp} (h : ∀ a ∈ N, H a ≠ none) {p : Addr} (hp : H p = none) : p ∉ N := fun z => h p z hp

/-! ### an expression gives a datum -/
def tD (env : En) (d : PyData) : TE := fun σ H Q => ∃ N W T, Sta N W T H σ env ∧ ∀ v H', Same H H' → Rp (hide N H') v d → Q v H'
def tT (env : En) (b : Bool) : TT := fun σ H Q => ∃ N W T, Sta N W T H σ env ∧ ∀ H', Same H H' → Q b H'
def tA (env : En) (ds : List PyData) : TA := fun σ H Q => ∃ N W T, Sta N W T H σ env ∧ ∀ vs H', Same H H' → Rps (hide N H') vs ds → Q vs H'
def tO (env : En) (o : Option Int) : TO := fun σ H Q => ∃ N W T, Sta N W T H σ env ∧ ∀ H', Same H H' → Q o H'
section
variable {X : Cx} {env : En} {e e2 a b c : Expr} {es : List Expr} {d d1 d2 d3 : PyData} {ds : List PyData} {pos p p2 : Pos}
theorem PE.imp {t t' : TE} (h : PE X e t) (w : ∀ σ H Q, σ.length = X.N.length → t' σ H Q → t σ H Q) : PE X e t' := ⟨fun pins s σ H Q I q => h.run pins s σ H Q I (w σ H Q I.len q)⟩
theorem PT.imp {t t' : TT} (h : PT X e t) (w : ∀ σ H Q, σ.length = X.N.length → t' σ H Q → t σ H Q) : PT X e t' := ⟨fun pins s σ H Q I q => h.run pins s σ H Q I (w σ H Q I.len q)⟩
theorem PA.imp {t t' : TA} (h : PA X es t) (w : ∀ σ H Q, t' σ H Q → t σ H Q) : PA X es t' := ⟨fun pos pins s σ H Q I q => h.run pos pins s σ H Q I (w σ H Q q)⟩
theorem PI.imp {tg : Expr} {t t' : TI} (h : PI X tg e t) (w : ∀ σ H Q, t' σ H Q → t σ H Q) : PI X tg e t' := ⟨fun pins s σ H Q I q => h.run pins s σ H Q I (w σ H Q q)⟩
theorem PS.imp {st : Stmt} {t t' : TS} (h : PS X st t) (w : ∀ D σ H, σ.length = X.N.length → t' D σ H → t D σ H) : PS X st t' := ⟨fun pins s σ H D I q => h.run pins s σ H D I (w D σ H I.len q)⟩
theorem PSs.imp {st : List Stmt} {t t' : TS} (h : PSs X st t) (w : ∀ D σ H, σ.length = X.N.length → t' D σ H → t D σ H) : PSs X st t' := ⟨fun pins s σ H D I q => h.run pins s σ H D I (w D σ H I.len q)⟩
/-- a family -/
theorem PE.ex {α : Type} {C : α → Prop} {t : α → TE} (h : ∀ a, C a → PE X e (t a)) : PE X e (fun σ H Q => ∃ a, C a ∧ t a σ H Q) := ⟨fun pins s σ H Q I ⟨a, ha, q⟩ => (h a ha).run pins s σ H Q I q⟩
theorem PT.ex {α : Type} {C : α → Prop} {t : α → TT} (h : ∀ a, C a → PT X e (t a)) : PT X e (fun σ H Q => ∃ a, C a ∧ t a σ H Q) := ⟨fun pins s σ H Q I ⟨a, ha, q⟩ => (h a ha).run pins s σ H Q I q⟩
theorem PTs.ex {α : Type} {C : α → Prop} {t : α → TT} (h : ∀ a, C a → PTs X es (t a)) : PTs X es (fun σ H Q => ∃ a, C a ∧ t a σ H Q) := ⟨fun pins s σ H Q I ⟨a, ha, q⟩ => (h a ha).run pins s σ H Q I q⟩
theorem PSs.ex {α : Type} {C : α → Prop} {t : α → TS} {st : List Stmt} (h : ∀ a, C a → PSs X st (t a)) : PSs X st (fun D σ H => ∃ a, C a ∧ t a D σ H) := ⟨fun pins s σ H D I ⟨a, ha, q⟩ => (h a ha).run pins s σ H D I q⟩

theorem dv (i : Nat) {x : Str} (hl : env.lookup i = some (.dat d)) (hN : X.N[i]? = some x := by rfl) (hv : Vis X.env.scope x := by first | exact Or.inl rfl | exact Or.inr (Or.inl rfl) | exact Or.inr (Or.inr rfl))
    (hd : (x == ("__debug__" : Str)) = false := by decide) (hcd : (x == ("__classdict__" : Str)) = false := by decide) : PE X (.Name x pos) (tD env d) :=
  PE.imp (pe_var hN hv hd hcd) fun σ H Q _ ⟨N, W, T, S, q⟩ => by
    obtain ⟨v, h1, h2⟩ := S.sl.dat i d hl
    exact ⟨v, h1, q v H (Same.refl H) h2⟩
theorem dc_int {i : Int} {j} : PE X (.Constant (.int i) j pos) (tD env (.int i)) := PE.imp pe_int fun _ H _ _ ⟨_, _, _, _, q⟩ => q _ H (Same.refl H) (.int i)
theorem dc_bl {b : Bool} {j} : PE X (.Constant (.bool b) j pos) (tD env (.bool b)) := PE.imp pe_bl fun _ H _ _ ⟨_, _, _, _, q⟩ => q _ H (Same.refl H) (.bl b)
theorem dc_non {j} : PE X (.Constant .none j pos) (tD env .none) := PE.imp pe_non fun _ H _ _ ⟨_, _, _, _, q⟩ => q _ H (Same.refl H) .non
theorem dc_str {x : Str} {j} : PE X (.Constant (.str x) j pos) (tD env (.str x)) := PE.imp pe_str fun _ H _ _ ⟨_, _, _, _, q⟩ => q _ H (Same.refl H) (.str x)

/-- two expressions in a row -/
theorem two_read {σ : L2.St} {H : Hp} {R : V → V → Hp → Prop} {N W : List Addr} {T : Option Addr} (S : Sta N W T H σ env)
    (q : ∀ x y H', Same H H' → (∀ a ∈ N, H' a ≠ none) → Rp (hide N H') x d1 → Rp (hide N H') y d2 → R x y H') : tD env d1 σ H fun x H1 => tD env d2 σ H1 fun y H2 => R x y H2 :=
  ⟨N, W, T, S, fun x H1 e1 r1 => ⟨N, W, T, S.mono e1, fun y H2 e2 r2 => q x y H2 (e1.trans e2) (fr_mono S.fr (e1.trans e2)) (r1.mono (hide_same e2)) r2⟩⟩
/-- an operation on two data -/
def RD2 (r : R2) (d1 d2 d : PyData) : Prop := ∀ (N : List Addr) (H : Hp) (x y : V) (Q : VK), (∀ a ∈ N, H a ≠ none) → Rp (hide N H) x d1 → Rp (hide N H) y d2 → (∀ v H', Same H H' → Rp (hide N H') v d → Q v H') → r x y H Q
def RDc (r : List V → Hp → VK → Prop) (ds : List PyData) (d : PyData) : Prop := ∀ (N : List Addr) (H : Hp) (vs : List V) (Q : VK), (∀ a ∈ N, H a ≠ none) → Rps (hide N H) vs ds → (∀ v H', Same H H' → Rp (hide N H') v d → Q v H') → r vs H Q
theorem d_op {op : Operator} {r : R2} (ho : OpR X (binaryOp op) r) (hr : RD2 r d1 d2 d) (ha : PE X a (tD env d1)) (hb : PE X b (tD env d2)) : PE X (.BinOp a op b pos) (tD env d) :=
  PE.imp (pe_op ho ha hb) fun σ H Q _ ⟨N, W, T, S, q⟩ => two_read S fun x y H' e f r1 r2 => hr N H' x y Q f r1 r2 fun v H2 e2 r3 => q v H2 (e.trans e2) r3
theorem d_cmp {op : CmpOp} {r : R2} (ho : OpR X (compareOp op) r) (hr : RD2 r d1 d2 d) (ha : PE X a (tD env d1)) (hb : PE X b (tD env d2)) (hm : behindInMarks op b = false := by first | exact nomark _ | rfl) : PE X (.Compare a [op] [b] pos) (tD env d) :=
  PE.imp (pe_cmpR ho ha hb hm) fun σ H Q _ ⟨N, W, T, S, q⟩ => two_read S fun x y H' e f r1 r2 => hr N H' x y Q f r1 r2 fun v H2 e2 r3 => q v H2 (e.trans e2) r3
theorem t_cmp {op : CmpOp} {r : R2} {k : Bool} (ho : OpR X (compareOp op) r) (hr : RD2 r d1 d2 (.bool k)) (ha : PE X a (tD env d1)) (hb : PE X b (tD env d2)) (hm : behindInMarks op b = false := by first | exact nomark _ | rfl) : PT X (.Compare a [op] [b] pos) (tT env k) :=
  PT.imp (pt_cmpR ho ha hb hm) fun σ H Q _ ⟨N, W, T, S, q⟩ => two_read S fun x y H' e f r1 r2 => hr N H' x y _ f r1 r2 fun v H2 e2 r3 => by
    cases r3
    exact ⟨k, rfl, q H2 (e.trans e2)⟩
theorem t_val {k : Bool} (h : PE X e (tD env (.bool k))) (he : ∀ whole, isTrue e X.env whole = (do let v ← whole; standAt e.pos; holding [v] (truthy v)) := by intro _; rfl) : PT X e (tT env k) :=
  PT.imp (pt_val h he) fun σ H Q _ ⟨N, W, T, S, q⟩ => ⟨N, W, T, S, fun v H' e r => by
    cases r
    exact ⟨k, rfl, q H' e⟩⟩
theorem t_not {k : Bool} (h : PT X e (tT env k)) : PT X (.UnaryOp .Not e pos) (tT env (!k)) :=
  PT.imp (pt_not h) fun σ H Q _ ⟨N, W, T, S, q⟩ => ⟨N, W, T, S, fun H' e => q H' e⟩
theorem t_and {k l : Bool} {rest : List Expr} (h : PT X a (tT env k)) (h2 : k = true → PW X (.BoolOp .And (b :: rest) pos) (tT env l)) : PW X (.BoolOp .And (a :: b :: rest) pos) (tT env (k && l)) := by
  cases k with
  | true =>
    refine ⟨fun wh pins s σ H Q I hq => (pw_and h (h2 rfl)).run wh pins s σ H Q I ?_⟩
    obtain ⟨N, W, T, S, q⟩ := hq
    refine ⟨N, W, T, S, fun H' e => ?_⟩
    show tT env l σ H' Q
    exact ⟨N, W, T, S.mono e, fun H2 e2 => by simpa using q H2 (e.trans e2)⟩
  | false =>
    refine ⟨fun wh pins s σ H Q I hq => (pw_and (tB' := fun _ _ _ => False) h ⟨fun _ _ _ _ _ _ _ z => z.elim⟩).run wh pins s σ H Q I ?_⟩
    obtain ⟨N, W, T, S, q⟩ := hq
    exact ⟨N, W, T, S, fun H' e => by
      show Q false H'
      simpa using q H' e⟩
theorem t_and1 {k : Bool} (h : PT X a (tT env k)) : PW X (.BoolOp .And [a] pos) (tT env k) := pw_and1 h
theorem t_or {k l : Bool} {rest : List Expr} (h : PT X a (tT env k)) (h2 : k = false → PW X (.BoolOp .Or (b :: rest) pos) (tT env l)) : PW X (.BoolOp .Or (a :: b :: rest) pos) (tT env (k || l)) := by
  cases k with
  | false =>
    refine ⟨fun wh pins s σ H Q I hq => (pw_or h (h2 rfl)).run wh pins s σ H Q I ?_⟩
    obtain ⟨N, W, T, S, q⟩ := hq
    refine ⟨N, W, T, S, fun H' e => ?_⟩
    show tT env l σ H' Q
    exact ⟨N, W, T, S.mono e, fun H2 e2 => by simpa using q H2 (e.trans e2)⟩
  | true =>
    refine ⟨fun wh pins s σ H Q I hq => (pw_or (tB' := fun _ _ _ => False) h ⟨fun _ _ _ _ _ _ _ z => z.elim⟩).run wh pins s σ H Q I ?_⟩
    obtain ⟨N, W, T, S, q⟩ := hq
    exact ⟨N, W, T, S, fun H' e => by
      show Q true H'
      simpa using q H' e⟩
theorem t_or1 {k : Bool} (h : PT X a (tT env k)) : PW X (.BoolOp .Or [a] pos) (tT env k) := pw_or1 h
/-- and, or, not as values: bools, the last one any -/
theorem d_and {k : Bool} {rest : List Expr} (h : PE X a (tD env (.bool k))) (h2 : k = true → PE X (.BoolOp .And (b :: rest) pos) (tD env d)) (h3 : k = false → d = .bool false) : PE X (.BoolOp .And (a :: b :: rest) pos) (tD env d) := by
  cases k with
  | true =>
    refine PE.imp (pe_and h (h2 rfl)) fun σ H Q _ ⟨N, W, T, S, q⟩ => ⟨N, W, T, S, fun v H' e r => ?_⟩
    cases r
    refine ⟨true, rfl, ?_⟩
    show tD env d σ H' Q
    exact ⟨N, W, T, S.mono e, fun v H2 e2 r2 => q v H2 (e.trans e2) r2⟩
  | false =>
    refine PE.imp (pe_and (tb := fun _ _ _ => False) h ⟨fun _ _ _ _ _ _ z => z.elim⟩) fun σ H Q _ ⟨N, W, T, S, q⟩ => ⟨N, W, T, S, fun v H' e r => ?_⟩
    cases r
    refine ⟨false, rfl, ?_⟩
    show Q (.bl false) H'
    exact q _ H' e (by rw [h3 rfl]; exact .bl false)
theorem d_or {k : Bool} {rest : List Expr} (h : PE X a (tD env (.bool k))) (h2 : k = false → PE X (.BoolOp .Or (b :: rest) pos) (tD env d)) (h3 : k = true → d = .bool true) : PE X (.BoolOp .Or (a :: b :: rest) pos) (tD env d) := by
  cases k with
  | false =>
    refine PE.imp (pe_or h (h2 rfl)) fun σ H Q _ ⟨N, W, T, S, q⟩ => ⟨N, W, T, S, fun v H' e r => ?_⟩
    cases r
    refine ⟨false, rfl, ?_⟩
    show tD env d σ H' Q
    exact ⟨N, W, T, S.mono e, fun v H2 e2 r2 => q v H2 (e.trans e2) r2⟩
  | true =>
    refine PE.imp (pe_or (tb := fun _ _ _ => False) h ⟨fun _ _ _ _ _ _ z => z.elim⟩) fun σ H Q _ ⟨N, W, T, S, q⟩ => ⟨N, W, T, S, fun v H' e r => ?_⟩
    cases r
    refine ⟨true, rfl, ?_⟩
    show Q (.bl true) H'
    exact q _ H' e (by rw [h3 rfl]; exact .bl true)
theorem d_one {op} (h : PE X a (tD env d)) : PE X (.BoolOp op [a] pos) (tD env d) := pe_one h
theorem d_not {k : Bool} (h : PE X a (tD env (.bool k))) : PE X (.UnaryOp .Not a pos) (tD env (.bool (!k))) :=
  PE.imp (pe_not h) fun σ H Q _ ⟨N, W, T, S, q⟩ => ⟨N, W, T, S, fun v H' e r => by
    cases r
    exact ⟨k, rfl, q _ H' e (.bl _)⟩⟩
theorem d_neg {i : Int} (h : PE X a (tD env (.int i))) : PE X (.UnaryOp .USub a pos) (tD env (.int (-i))) :=
  PE.imp (pe_un un_neg h) fun σ H Q _ ⟨N, W, T, S, q⟩ => ⟨N, W, T, S, fun v H' e r => by
    cases r
    exact ⟨i, rfl, q _ H' e (.int _)⟩⟩
/-- a if t else b: the branch taken -/
theorem d_if {k : Bool} (h : PT X c (tT env k)) (ha : k = true → PE X a (tD env d)) (hb : k = false → PE X b (tD env d)) : PE X (.IfExp c a b pos) (tD env d) := by
  cases k with
  | true =>
    refine PE.imp (pe_ifExp (tb := fun _ _ _ => False) h (ha rfl) ⟨fun _ _ _ _ _ _ z => z.elim⟩) fun σ H Q _ ⟨N, W, T, S, q⟩ => ⟨N, W, T, S, fun H' e => ?_⟩
    show tD env d σ H' Q
    exact ⟨N, W, T, S.mono e, fun v H2 e2 r2 => q v H2 (e.trans e2) r2⟩
  | false =>
    refine PE.imp (pe_ifExp (ta := fun _ _ _ => False) h ⟨fun _ _ _ _ _ _ z => z.elim⟩ (hb rfl)) fun σ H Q _ ⟨N, W, T, S, q⟩ => ⟨N, W, T, S, fun H' e => ?_⟩
    show tD env d σ H' Q
    exact ⟨N, W, T, S.mono e, fun v H2 e2 r2 => q v H2 (e.trans e2) r2⟩
theorem d_is (h : PE X e (tD env d1)) (q : d1 = d2) : PE X e (tD env d2) := q ▸ h
theorem t_is {k l : Bool} (h : PT X e (tT env k)) (q : k = l) : PT X e (tT env l) := q ▸ h

/-! ### arguments, displays -/
theorem a_nil : PA X [] (tA env []) := PA.imp pa_nil fun σ H Q ⟨N, W, T, S, q⟩ => q [] H (Same.refl H) .nil
theorem a_cons (ha : PE X e (tD env d)) (hr : PA X es (tA env ds)) (hs : starEach (e :: es) X.env = (false, eval e X.env) :: starEach es X.env := by rfl) : PA X (e :: es) (tA env (d :: ds)) :=
  PA.imp (pa_cons ha hr hs) fun σ H Q ⟨N, W, T, S, q⟩ => ⟨N, W, T, S, fun v H1 e1 r1 => ⟨N, W, T, S.mono e1, fun vs H2 e2 r2 => q (v :: vs) H2 (e1.trans e2) (.cons (r1.mono (hide_same e2)) r2)⟩⟩
theorem rp_newT {N : List Addr} {H : Hp} {vs : List V} {p : Addr} (f : ∀ a ∈ N, H a ≠ none) (hp : H p = none) (r : Rps (hide N H) vs ds) : Rp (hide N (upd H p (.tup vs))) (.ref p) (.tuple ds) :=
  .tup (hide_some.mpr ⟨not_in f hp, upd_same⟩) (r.mono (hide_same (same_new hp)))
theorem rp_newL {N : List Addr} {H : Hp} {vs : List V} {p : Addr} (f : ∀ a ∈ N, H a ≠ none) (hp : H p = none) (r : Rps (hide N H) vs ds) : Rp (hide N (upd H p (.lst vs))) (.ref p) (.list ds) :=
  .lst (hide_some.mpr ⟨not_in f hp, upd_same⟩) (r.mono (hide_same (same_new hp)))
theorem d_tup {x1} (h : PA X es (tA env ds)) (hz : ds.length ≤ sizeLine) : PE X (.Tuple es x1 pos) (tD env (.tuple ds)) :=
  PE.imp (pe_tup h) fun σ H Q _ ⟨N, W, T, S, q⟩ => ⟨N, W, T, S, fun vs H' e r => ⟨by rw [r.length]; exact hz, fun p hp => q _ _ (e.trans (same_new hp)) (rp_newT (fr_mono S.fr e) hp r)⟩⟩
theorem d_lst (h : PA X es (tA env ds)) (hz : ds.length ≤ sizeLine) : PE X (.List es pos) (tD env (.list ds)) :=
  PE.imp (pe_lst h) fun σ H Q _ ⟨N, W, T, S, q⟩ => ⟨N, W, T, S, fun vs H' e r => ⟨by rw [r.length]; exact hz, fun p hp => q _ _ (e.trans (same_new hp)) (rp_newL (fr_mono S.fr e) hp r)⟩⟩

/-! ### calls of built-ins -/
theorem d_callB {x : Str} {id : String} {r : List V → Hp → VK → Prop} (hc : CallR X (.builtin id) r) (hr : RDc r ds d) (hm : X.mg x = none) (ha : PA X (e :: es) (tA env ds)) (hv : bootBuiltins x = some (.builtin id) := by decide +kernel) (hg : Gl X x := by rfl) (hn : x ≠ "__name__" := by decide) (hdb : (x == ("__debug__" : Str)) = false := by decide)
    (he : starEach (e :: es) X.env = (false, eval e X.env) :: starEach es X.env := by rfl) (hpl : (backTo pos (starEach es X.env)).any (·.1) = false := by rfl) : PE X (.Call (.Name x p) (e :: es) [] pos) (tD env d) :=
  PE.imp (pe_callB hc hg hm hv ha hn hdb he hpl) fun σ H Q _ ⟨N, W, T, S, q⟩ => ⟨N, W, T, S, fun vs H' e r => hr N H' vs Q (fr_mono S.fr e) r fun v H2 e2 r2 => q v H2 (e.trans e2) r2⟩
theorem d_callTy {x : Str} {ty : String} {r : List V → Hp → VK → Prop} (hc : CallR X (.type ty) r) (hr : RDc r ds d) (hm : X.mg x = none) (ha : PA X (e :: es) (tA env ds)) (hv : bootBuiltins x = some (.type ty) := by decide +kernel) (hg : Gl X x := by rfl) (hn : x ≠ "__name__" := by decide) (hdb : (x == ("__debug__" : Str)) = false := by decide)
    (he : starEach (e :: es) X.env = (false, eval e X.env) :: starEach es X.env := by rfl) (hpl : (backTo pos (starEach es X.env)).any (·.1) = false := by rfl) : PE X (.Call (.Name x p) (e :: es) [] pos) (tD env d) :=
  PE.imp (pe_callTy hc hg hm hv ha hn hdb he hpl) fun σ H Q _ ⟨N, W, T, S, q⟩ => ⟨N, W, T, S, fun vs H' e r => hr N H' vs Q (fr_mono S.fr e) r fun v H2 e2 r2 => q v H2 (e.trans e2) r2⟩

/-! ### a def with a promise of data -/
def spD (R : List PyData → PyData → Prop) : Sp := fun vs H Q _ => ∃ N ds d, (∀ a ∈ N, H a ≠ none) ∧ Rps (hide N H) vs ds ∧ R ds d ∧ ∀ v H', Same H H' → Rp (hide N H') v d → Q v H'
theorem d_call {R : List PyData → PyData → Prop} {k : Nat} {f : Addr} {fd : FuncData} {ps : List Str} {x : Str} (F : FnOk X.prog X.w X.K X.mg X.base CX0 k f fd ps (spD R)) (hr : Room k X.A) (hm : X.mg x = some (.ref f)) (hk : PySem.W.keepIn X.K (.ref f) = true) (hb : Binds X.K fd ps [])
    (ha : PA X (e :: es) (tA env ds)) (hR : R ds d) (hg : Gl X x := by rfl) (hdb : (x == ("__debug__" : Str)) = false := by decide) (he : starEach (e :: es) X.env = (false, eval e X.env) :: starEach es X.env := by rfl) (hpl : (backTo pos (starEach es X.env)).any (·.1) = false := by rfl) :
    PE X (.Call (.Name x p) (e :: es) [] pos) (tD env d) :=
  PE.imp (pe_call F hr hg hm hk hb .nil (E := E0) pass0 ha hdb he hpl) fun σ H Q _ ⟨N, W, T, S, q⟩ => ⟨N, W, T, S, fun vs H' e r => by
    show spD R (vs ++ []) H' Q E0
    rw [List.append_nil]
    exact ⟨N, ds, d, fr_mono S.fr e, r, hR, fun v H2 e2 r2 => q v H2 (e.trans e2) r2⟩⟩
end
end DL
namespace DL
open PySem PySem.Spec PyProof.Rows L2
/-! ### operations on data -/
inductive IsSeq : PyData → List PyData → Prop where
  | tup (ds : List PyData) : IsSeq (.tuple ds) ds
  | lst (ds : List PyData) : IsSeq (.list ds) ds
theorem Rp.seq {H : Hp} {v : V} {d : PyData} {ds : List PyData} (r : Rp H v d) (s : IsSeq d ds) : ∃ a xs, v = .ref a ∧ Rps H xs ds ∧ (H a = some (.lst xs) ∨ H a = some (.tup xs)) := by
  cases s with
  | tup =>
    cases r with
    | tup h1 h2 => exact ⟨_, _, rfl, h2, .inr h1⟩
  | lst =>
    cases r with
    | lst h1 h2 => exact ⟨_, _, rfl, h2, .inl h1⟩
theorem Rp.seq2 {K : PySem.W.Frag} {N : List Addr} {H : Hp} {v : V} {d : PyData} {ds : List PyData} (r : Rp (hide N H) v d) (s : IsSeq d ds) : ∃ a xs, v = .ref a ∧ Rps (hide N H) xs ds ∧ (SqL K H a xs ∨ SqT K H a xs) := by
  obtain ⟨a, xs, h1, h2, h3⟩ := r.seq s
  rcases h3 with h3 | h3
  · exact ⟨a, xs, h1, h2, .inl (SqL.of (hide_some.mp h3).2)⟩
  · exact ⟨a, xs, h1, h2, .inr (SqT.of (hide_some.mp h3).2)⟩
theorem r_I0 {g : Int → Int → Int} {i j : Int} : RD2 (rI0 fun i j => .int (g i j)) (.int i) (.int j) (.int (g i j)) := fun N H x y Q f r1 r2 q => by
  cases r1
  cases r2
  exact ⟨i, j, rfl, rfl, q _ H (Same.refl H) (.int _)⟩
theorem r_IB {g : Int → Int → Bool} {i j : Int} : RD2 (rI0 fun i j => .bl (g i j)) (.int i) (.int j) (.bool (g i j)) := fun N H x y Q f r1 r2 q => by
  cases r1
  cases r2
  exact ⟨i, j, rfl, rfl, q _ H (Same.refl H) (.bl _)⟩
theorem r_I {C : Int → Int → Prop} {g : Int → Int → Int} {i j : Int} (hc : C i j) : RD2 (rI C fun i j => .int (g i j)) (.int i) (.int j) (.int (g i j)) := fun N H x y Q f r1 r2 q => by
  cases r1
  cases r2
  exact ⟨i, j, rfl, rfl, hc, q _ H (Same.refl H) (.int _)⟩
theorem r_eqI {i j : Int} : RD2 rEq (.int i) (.int j) (.bool (decide (i = j))) := fun N H x y Q f r1 r2 q => by
  cases r1
  cases r2
  refine ⟨rfl, q _ H (Same.refl H) ?_⟩
  have e : decide (V.int i = V.int j) = decide (i = j) := decide_eq_decide.mpr ⟨V.int.inj, fun z => by rw [z]⟩
  rw [e]
  exact .bl _
theorem r_neI {i j : Int} : RD2 rNe (.int i) (.int j) (.bool (!decide (i = j))) := fun N H x y Q f r1 r2 q => by
  cases r1
  cases r2
  refine ⟨rfl, q _ H (Same.refl H) ?_⟩
  have e : decide (V.int i = V.int j) = decide (i = j) := decide_eq_decide.mpr ⟨V.int.inj, fun z => by rw [z]⟩
  rw [e]
  exact .bl _
theorem r_eqB {i j : Bool} : RD2 rEq (.bool i) (.bool j) (.bool (i == j)) := fun N H x y Q f r1 r2 q => by
  cases r1
  cases r2
  refine ⟨rfl, q _ H (Same.refl H) ?_⟩
  rw [dec_bl]
  exact .bl _
theorem r_neB {i j : Bool} : RD2 rNe (.bool i) (.bool j) (.bool (!(i == j))) := fun N H x y Q f r1 r2 q => by
  cases r1
  cases r2
  refine ⟨rfl, q _ H (Same.refl H) ?_⟩
  rw [dec_bl]
  exact .bl _
theorem r_eqS {i j : Str} : RD2 rEq (.str i) (.str j) (.bool (decide (i = j))) := fun N H x y Q f r1 r2 q => by
  cases r1
  cases r2
  refine ⟨rfl, q _ H (Same.refl H) ?_⟩
  have e : decide (V.str i = V.str j) = decide (i = j) := decide_eq_decide.mpr ⟨V.str.inj, fun z => by rw [z]⟩
  rw [e]
  exact .bl _
theorem r_eqD {K : PySem.W.Frag} {d e : PyData} (h1 : SeqAt.shaped d = true) (h2 : SeqAt.shaped e = true) : RD2 (rEqD K) d e (.bool (PyData.eqv d e)) := fun N H x y Q f r1 r2 q =>
  ⟨d, e, (r1.mono (hide_sub N H)).dp, (r2.mono (hide_sub N H)).dp, h1, h2, q _ H (Same.refl H) (.bl _)⟩
theorem r_neD {K : PySem.W.Frag} {d e : PyData} (h1 : SeqAt.shaped d = true) (h2 : SeqAt.shaped e = true) : RD2 (rNeD K) d e (.bool (!PyData.eqv d e)) := fun N H x y Q f r1 r2 q =>
  ⟨d, e, (r1.mono (hide_sub N H)).dp, (r2.mono (hide_sub N H)).dp, h1, h2, q _ H (Same.refl H) (.bl _)⟩
theorem r_inD {K : PySem.W.Frag} {d : PyData} {ds : List PyData} (h1 : SeqAt.shaped d = true) (h2 : SeqAt.shaped (.list ds) = true) : RD2 (rInD K) d (.list ds) (.bool (ds.any fun z => PyData.eqv z d)) := fun N H x y Q f r1 r2 q =>
  ⟨d, ds, (r1.mono (hide_sub N H)).dp, (r2.mono (hide_sub N H)).dp, h1, h2, q _ H (Same.refl H) (.bl _)⟩
/-- is None -/
def isNone : PyData → Bool
  | .none => true
  | _ => false
theorem rp_none {H : Hp} {v : V} {d : PyData} (r : Rp H v d) : decide (v = .non) = isNone d := by
  cases r <;> rfl
def rIsN' : R2 := fun x y H Q => y = .non ∧ Q (.bl (decide (x = .non))) H
theorem op_isN' {X : Cx} : OpR X (compareOp .Is) rIsN' := op_isN
theorem r_isN {d : PyData} : RD2 rIsN' d .none (.bool (isNone d)) := fun N H x y Q f r1 r2 q => by
  cases r2
  refine ⟨rfl, q _ H (Same.refl H) ?_⟩
  rw [rp_none r1]
  exact .bl _
/-- int in ints -/
theorem in_ints {i : Int} : ∀ ns : List Int, inV (.int i) (ns.map V.int) = ns.contains i
  | [] => rfl
  | n :: ns => by
    have ih := in_ints (i := i) ns
    unfold inV at ih ⊢
    rw [List.map_cons, List.any_cons, ih, List.contains_cons]
    show ((n == i) || _) = ((i == n) || _)
    rw [Bool.beq_comm]
theorem flat_ints : ∀ ns : List Int, (ns.map V.int).all flatV = true
  | [] => rfl
  | n :: ns => by rw [List.map_cons, List.all_cons, flat_ints ns]; rfl
theorem r_in {K : PySem.W.Frag} {i : Int} {d : PyData} {ns : List Int} (s : IsSeq d (ns.map .int)) : RD2 (rIn K false) (.int i) d (.bool (ns.contains i)) := fun N H x y Q f r1 r2 q => by
  cases r1
  obtain ⟨a, xs, rfl, h2, h3⟩ := r2.seq2 (K := K) s
  have e := h2.ints
  subst e
  refine ⟨a, _, rfl, h3, rfl, flat_ints ns, ?_⟩
  show Q (.bl (inV (.int i) (ns.map V.int))) H
  rw [in_ints]
  exact q _ H (Same.refl H) (.bl _)
theorem r_nin {K : PySem.W.Frag} {i : Int} {d : PyData} {ns : List Int} (s : IsSeq d (ns.map .int)) : RD2 (rIn K true) (.int i) d (.bool (!ns.contains i)) := fun N H x y Q f r1 r2 q => by
  cases r1
  obtain ⟨a, xs, rfl, h2, h3⟩ := r2.seq2 (K := K) s
  have e := h2.ints
  subst e
  refine ⟨a, _, rfl, h3, rfl, flat_ints ns, ?_⟩
  show Q (.bl (!inV (.int i) (ns.map V.int))) H
  rw [in_ints]
  exact q _ H (Same.refl H) (.bl _)
/-- str not in a pair of strs -/
theorem r_ninS {K : PySem.W.Frag} {x a b : Str} : RD2 (rIn K true) (.str x) (.tuple [.str a, .str b]) (.bool (!(a == x || b == x))) := fun N H v y Q f r1 r2 q => by
  cases r1
  obtain ⟨p, xs, rfl, h2, h3⟩ := r2.seq2 (K := K) (.tup _)
  obtain ⟨u, w, rfl, k1, k2⟩ := h2.two
  cases k1
  cases k2
  refine ⟨p, _, rfl, h3, rfl, rfl, q _ H (Same.refl H) ?_⟩
  have e : inV (.str x) [V.str a, V.str b] = (a == x || b == x) := by
    show ((a == x) || ((b == x) || false)) = _
    rw [Bool.or_false]
  show Rp _ (.bl (!inV (.str x) [V.str a, V.str b])) _
  rw [e]
  exact .bl _
/-- tuple + tuple, list + list, list * int -/
theorem r_catT {K : PySem.W.Frag} {ds es : List PyData} (hz : ds.length + es.length ≤ sizeLine) : RD2 (rCatA K) (.tuple ds) (.tuple es) (.tuple (ds ++ es)) := fun N H x y Q f r1 r2 q => by
  cases r1 with
  | tup h1 h2 =>
    cases r2 with
    | tup k1 k2 =>
      have l1 := h2.length
      have l2 := k2.length
      refine ⟨_, _, _, _, rfl, rfl, SqT.of (hide_some.mp h1).2, SqT.of (hide_some.mp k1).2, by rw [l1, l2]; exact hz, fun e => ?_, fun _ e => ?_, fun _ _ p hp => ?_⟩
      · subst e
        cases h2
        exact q _ H (Same.refl H) (.tup k1 k2)
      · subst e
        cases k2
        rw [List.append_nil] at q
        exact q _ H (Same.refl H) (.tup h1 h2)
      · exact q _ _ (same_new hp) (rp_newT f hp (h2.append k2))
theorem r_catL {ds es : List PyData} (hz : ds.length + es.length ≤ sizeLine) : RD2 rCat (.list ds) (.list es) (.list (ds ++ es)) := fun N H x y Q f r1 r2 q => by
  cases r1 with
  | lst h1 h2 =>
    cases r2 with
    | lst k1 k2 =>
      have l1 := h2.length
      have l2 := k2.length
      exact ⟨_, _, _, _, rfl, rfl, (hide_some.mp h1).2, (hide_some.mp k1).2, by rw [l1, l2]; exact hz, fun p hp => q _ _ (same_new hp) (rp_newL f hp (h2.append k2))⟩
theorem r_rep {ds : List PyData} {k : Int} (h0 : -(2 ^ 63) ≤ k) (h9 : k < 2 ^ 63) (hz : ds.length * k.toNat ≤ sizeLine) : RD2 rRep (.list ds) (.int k) (.list (List.replicate k.toNat ds).flatten) := fun N H x y Q f r1 r2 q => by
  cases r1 with
  | lst h1 h2 =>
    cases r2
    have l1 := h2.length
    exact ⟨_, _, _, rfl, rfl, (hide_some.mp h1).2, h0, h9, by rw [l1]; exact hz, fun p hp => q _ _ (same_new hp) (rp_newL f hp (h2.rep _))⟩
section
variable {X : Cx} {env : En} {e e2 a b c : Expr} {es : List Expr} {d d1 d2 d3 : PyData} {ds : List PyData} {pos p p2 : Pos}
/-- a[i], 0 ≤ i -/
theorem d_ix {i : Int} (j : Nat) (s : IsSeq d1 ds) (hj : ds[j]? = some d) (ha : PE X a (tD env d1)) (hb : PE X b (tD env (.int i))) (hi : i = (j : Int) := by rfl) (hs : PlainIx b := by exact fun _ _ => rfl) : PE X (.Subscript a b pos) (tD env d) := by
  subst hi
  refine PE.imp (pe_ix ((ix_list (X := X)).or ix_tup) ha hb hs) fun σ H Q _ ⟨N, W, T, S, q⟩ => two_read S fun x y H' e f r1 r2 => ?_
  cases r2
  obtain ⟨p, xs, rfl, h2, h3⟩ := r1.seq2 (K := X.K) s
  obtain ⟨v, k1, k2⟩ := h2.get hj
  rcases h3 with h3 | h3
  · exact .inl ⟨p, xs, _, v, rfl, rfl, h3, atI_nat k1, q v H' e k2⟩
  · exact .inr ⟨p, xs, _, v, rfl, rfl, h3, atI_nat k1, q v H' e k2⟩
theorem o_none : PO X none (tO env none) := ⟨fun pins s σ H Q I ⟨N, W, T, S, q⟩ => po_none.run pins s σ H Q I (q H (Same.refl H))⟩
theorem o_some {i : Int} (h : PE X e (tD env (.int i))) : PO X (some e) (tO env (some i)) := ⟨fun pins s σ H Q I ⟨N, W, T, S, q⟩ => (po_some h).run pins s σ H Q I ⟨N, W, T, S, fun v H' e1 r => by
  cases r
  exact ⟨i, rfl, q H' e1⟩⟩⟩
def cutD (ds : List PyData) (lo hi : Option Int) : List PyData := (ds.drop (HT.sIx ds.length 0 lo)).take (HT.sIx ds.length ds.length hi - HT.sIx ds.length 0 lo)
theorem Rps.cut {H : Hp} {vs : List V} {ds : List PyData} (r : Rps H vs ds) (lo hi : Option Int) : Rps H (cutV vs lo hi) (cutD ds lo hi) := by
  unfold cutV cutD
  rw [r.length]
  exact (r.drop _).take _
theorem cutD_from (ds : List PyData) (k : Nat) : cutD ds (some (k : Int)) none = ds.drop k := by
  unfold cutD
  rw [HT.sIx_none, HT.sIx_nat]
  by_cases h : k ≤ ds.length
  · rw [Nat.min_eq_left h]
    exact List.take_of_length_le (by rw [List.length_drop]; exact Nat.le_refl _)
  · rw [Nat.min_eq_right (by omega), List.drop_of_length_le (Nat.le_refl _), List.drop_of_length_le (by omega), List.take_nil]
theorem cutD_to (ds : List PyData) (k : Nat) : cutD ds none (some (k : Int)) = ds.take k := by
  unfold cutD
  rw [HT.sIx_none, HT.sIx_nat, List.drop_zero, Nat.sub_zero]
  by_cases h : k ≤ ds.length
  · rw [Nat.min_eq_left h]
  · rw [Nat.min_eq_right (by omega), List.take_of_length_le (Nat.le_refl _), List.take_of_length_le (by omega)]
theorem sl_read {r : V → Option Int → Option Int → Hp → VK → Prop} {lo hi : Option Int} {N W : List Addr} {T : Option Addr} {σ : L2.St} {H : Hp} {Q : VK} (S : Sta N W T H σ env)
    (h : ∀ x H', Same H H' → (∀ a ∈ N, H' a ≠ none) → Rp (hide N H') x d1 → r x lo hi H' Q) : tSl r (tD env d1) (tO env lo) (tO env hi) σ H Q :=
  ⟨N, W, T, S, fun x H1 e1 r1 => ⟨N, W, T, S.mono e1, fun H2 e2 => ⟨N, W, T, S.mono (e1.trans e2), fun H3 e3 => h x H3 ((e1.trans e2).trans e3) (fr_mono S.fr ((e1.trans e2).trans e3)) (r1.mono (hide_same (e2.trans e3)))⟩⟩⟩
theorem d_slL {lo hi : Option Expr} {l h : Option Int} (ha : PE X a (tD env (.list ds))) (hl : PO X lo (tO env l)) (hh : PO X hi (tO env h)) : PE X (.Subscript a (.Slice lo hi none p2) pos) (tD env (.list (cutD ds l h))) :=
  PE.imp (pe_slice sl_list ha hl hh) fun σ H Q _ ⟨N, W, T, S, q⟩ => sl_read S fun x H' e f r => by
    cases r with
    | lst h1 h2 => exact ⟨_, _, rfl, SqL.of (hide_some.mp h1).2, fun p hp => q _ _ (e.trans (same_new hp)) (rp_newL f hp (h2.cut l h))⟩
theorem d_slT {lo hi : Option Expr} {l h : Option Int} (ha : PE X a (tD env (.tuple ds))) (hl : PO X lo (tO env l)) (hh : PO X hi (tO env h)) : PE X (.Subscript a (.Slice lo hi none p2) pos) (tD env (.tuple (cutD ds l h))) :=
  PE.imp (pe_slice sl_tupA ha hl hh) fun σ H Q _ ⟨N, W, T, S, q⟩ => sl_read S fun x H' e f r => by
    cases r with
    | tup h1 h2 =>
      have hl := h2.length
      refine ⟨_, _, rfl, SqT.of (hide_some.mp h1).2, fun hw => ?_, fun _ p hp => q _ _ (e.trans (same_new hp)) (rp_newT f hp (h2.cut l h))⟩
      have ec : cutD ds l h = ds := by
        unfold cutD
        rw [← hl, hw.1, hw.2, List.drop_zero, Nat.sub_zero, hl]
        exact List.take_of_length_le (Nat.le_refl _)
      rw [ec] at q
      exact q _ H' e (.tup h1 h2)

/-! ### built-ins on data -/
theorem c_len {K : PySem.W.Frag} (s : IsSeq d ds) : RDc (fun xs H Q => ∃ p ys, xs = [.ref p] ∧ (SqL K H p ys ∨ SqT K H p ys) ∧ Q (.int ys.length) H) [d] (.int (ds.length : Int)) := fun N H vs Q f r q => by
  obtain ⟨v, rfl, r1⟩ := r.one
  obtain ⟨a, xs, rfl, h2, h3⟩ := r1.seq2 (K := K) s
  refine ⟨a, xs, rfl, h3, q _ H (Same.refl H) ?_⟩
  rw [h2.length]
  exact .int _
theorem c_tuple {K : PySem.W.Frag} : RDc (fun xs H Q => ∃ p ys, xs = [.ref p] ∧ ((SqL K H p ys ∧ ∀ l, H l = none → Q (.ref l) (upd H l (.tup ys))) ∨ (SqT K H p ys ∧ Q (.ref p) H))) [.list ds] (.tuple ds) := fun N H vs Q f r q => by
  obtain ⟨v, rfl, r1⟩ := r.one
  cases r1 with
  | lst h1 h2 => exact ⟨_, _, rfl, .inl ⟨SqL.of (hide_some.mp h1).2, fun l hl => q _ _ (same_new hl) (rp_newT f hl h2)⟩⟩
theorem c_list {K : PySem.W.Frag} (s : IsSeq d ds) : RDc (fun xs H Q => ∃ p ys, xs = [.ref p] ∧ (SqL K H p ys ∨ SqT K H p ys) ∧ ∀ l, H l = none → Q (.ref l) (upd H l (.lst ys))) [d] (.list ds) := fun N H vs Q f r q => by
  obtain ⟨v, rfl, r1⟩ := r.one
  obtain ⟨a, xs, rfl, h2, h3⟩ := r1.seq2 (K := K) s
  exact ⟨a, xs, rfl, h3, fun l hl => q _ _ (same_new hl) (rp_newL f hl h2)⟩
theorem c_any {K : PySem.W.Frag} {bs : List Bool} : RDc (rAny K) [.list (bs.map .bool)] (.bool (bs.any id)) := fun N H vs Q f r q => by
  obtain ⟨v, rfl, r1⟩ := r.one
  cases r1 with
  | lst h1 h2 =>
    have e := h2.bools
    subst e
    exact ⟨_, bs, rfl, SqL.of (hide_some.mp h1).2, q _ H (Same.refl H) (.bl _)⟩
theorem c_all {K : PySem.W.Frag} {bs : List Bool} : RDc (rAll K) [.list (bs.map .bool)] (.bool (bs.all id)) := fun N H vs Q f r q => by
  obtain ⟨v, rfl, r1⟩ := r.one
  cases r1 with
  | lst h1 h2 =>
    have e := h2.bools
    subst e
    exact ⟨_, bs, rfl, SqL.of (hide_some.mp h1).2, q _ H (Same.refl H) (.bl _)⟩
theorem c_anyM {K : PySem.W.Frag} {α : Type} {L : List α} {g : α → Bool} : RDc (rAny K) [.list (L.map fun a => .bool (g a))] (.bool (L.any g)) := by
  have h := c_any (K := K) (bs := L.map g)
  rw [List.map_map, List.any_map] at h
  exact h
theorem c_allM {K : PySem.W.Frag} {α : Type} {L : List α} {g : α → Bool} : RDc (rAll K) [.list (L.map fun a => .bool (g a))] (.bool (L.all g)) := by
  have h := c_all (K := K) (bs := L.map g)
  rw [List.map_map, List.all_map] at h
  exact h
theorem c_int {i : Int} : RDc (fun xs H Q => (∃ i, xs = [.int i] ∧ Q (.int i) H) ∨ ∃ k, xs = [.bl k] ∧ Q (.int (if k then 1 else 0)) H) [.int i] (.int i) := fun N H vs Q f r q => by
  obtain ⟨v, rfl, r1⟩ := r.one
  cases r1
  exact .inl ⟨i, rfl, q _ H (Same.refl H) (.int _)⟩
theorem c_intB {k : Bool} : RDc (fun xs H Q => (∃ i, xs = [.int i] ∧ Q (.int i) H) ∨ ∃ k, xs = [.bl k] ∧ Q (.int (if k then 1 else 0)) H) [.bool k] (.int (if k then 1 else 0)) := fun N H vs Q f r q => by
  obtain ⟨v, rfl, r1⟩ := r.one
  cases r1
  exact .inr ⟨k, rfl, q _ H (Same.refl H) (.int _)⟩
theorem c_abs {i : Int} : RDc (fun xs H Q => ∃ i, xs = [.int i] ∧ Q (.int (if i < 0 then -i else i)) H) [.int i] (.int (if i < 0 then -i else i)) := fun N H vs Q f r q => by
  obtain ⟨v, rfl, r1⟩ := r.one
  cases r1
  exact ⟨i, rfl, q _ H (Same.refl H) (.int _)⟩
theorem c_min2 {i j : Int} : RDc (fun xs H Q => ∃ i j, xs = [.int i, .int j] ∧ Q (.int (if j < i then j else i)) H) [.int i, .int j] (.int (if j < i then j else i)) := fun N H vs Q f r q => by
  obtain ⟨v, w, rfl, r1, r2⟩ := r.two
  cases r1
  cases r2
  exact ⟨i, j, rfl, q _ H (Same.refl H) (.int _)⟩
theorem c_gcd {i j : Int} : RDc rGcd [.int i, .int j] (.int ((Nat.gcd i.natAbs j.natAbs : Nat) : Int)) := fun N H vs Q f r q => by
  obtain ⟨v, w, rfl, r1, r2⟩ := r.two
  cases r1
  cases r2
  exact ⟨i, j, rfl, q _ H (Same.refl H) (.int _)⟩
theorem d_callBf {x : Str} {id : String} {r : List V → Hp → VK → Prop} (hc : CallR X (.builtin id) r) (hr : RDc r ds d) (hm : X.mg x = some (.builtin id)) (ha : PA X (e :: es) (tA env ds)) (hg : Gl X x := by rfl) (hdb : (x == ("__debug__" : Str)) = false := by decide)
    (he : starEach (e :: es) X.env = (false, eval e X.env) :: starEach es X.env := by rfl) (hpl : (backTo pos (starEach es X.env)).any (·.1) = false := by rfl) : PE X (.Call (.Name x p) (e :: es) [] pos) (tD env d) :=
  PE.imp (pe_callBfun hc hg hm ha hdb he hpl) fun σ H Q _ ⟨N, W, T, S, q⟩ => ⟨N, W, T, S, fun vs H' e r => hr N H' vs Q (fr_mono S.fr e) r fun v H2 e2 r2 => q v H2 (e.trans e2) r2⟩
/-- tuple(range(n)), list(range(n)) -/
def rgD (n : Nat) : List PyData := (List.range n).map fun i => .int (i : Nat)
theorem rps_rg {H : Hp} {n : Int} (h : 0 ≤ n) : Rps H (rgV 0 n) (rgD n.toNat) := by
  unfold rgV rgD
  rw [Int.sub_zero]
  induction (List.range n.toNat) with
  | nil => exact .nil
  | cons i l ih =>
    rw [List.map_cons, List.map_cons]
    refine .cons ?_ ih
    rw [Int.zero_add]
    exact .int _
theorem d_tupRg {n : Int} {p q pos pos' : Pos} (hn : 0 ≤ n ∧ n ≤ 1000) (hm : X.mg "tuple" = none) (hm2 : X.mg "range" = none) (ha : PE X a (tD env (.int n))) (hc : X.calm = true := by rfl) (hg : Gl X "tuple" := by rfl) (hg2 : Gl X "range" := by rfl)
    (na : starEach [a] X.env = (false, eval a X.env) :: starEach [] X.env := by rfl) (nb : starEach [.Call (.Name "range" q) [a] [] pos'] X.env = (false, eval (.Call (.Name "range" q) [a] [] pos') X.env) :: starEach [] X.env := by rfl) :
    PE X (.Call (.Name "tuple" p) [.Call (.Name "range" q) [a] [] pos'] [] pos) (tD env (.tuple (rgD n.toNat))) :=
  PE.imp (pe_tupRg hc hg hm (prg_1 hg2 hm2 ha na) nb) fun σ H Q _ ⟨N, W, T, S, q⟩ => ⟨N, W, T, S, fun v H' e r => by
    cases r
    exact ⟨n, rfl, RgOk.of_le (by omega) (by omega) (by omega) (by omega), fun p hp => q _ _ (e.trans (same_new hp)) (rp_newT (fr_mono S.fr e) hp (rps_rg hn.1))⟩⟩
theorem d_lstRg {n : Int} {p q pos pos' : Pos} (hn : 0 ≤ n ∧ n ≤ 1000) (hm : X.mg "list" = none) (hm2 : X.mg "range" = none) (ha : PE X a (tD env (.int n))) (hc : X.calm = true := by rfl) (hg : Gl X "list" := by rfl) (hg2 : Gl X "range" := by rfl)
    (na : starEach [a] X.env = (false, eval a X.env) :: starEach [] X.env := by rfl) (nb : starEach [.Call (.Name "range" q) [a] [] pos'] X.env = (false, eval (.Call (.Name "range" q) [a] [] pos') X.env) :: starEach [] X.env := by rfl) :
    PE X (.Call (.Name "list" p) [.Call (.Name "range" q) [a] [] pos'] [] pos) (tD env (.list (rgD n.toNat))) :=
  PE.imp (pe_listRg hc hg hm (prg_1 hg2 hm2 ha na) nb) fun σ H Q _ ⟨N, W, T, S, q⟩ => ⟨N, W, T, S, fun v H' e r => by
    cases r
    exact ⟨n, rfl, RgOk.of_le (by omega) (by omega) (by omega) (by omega), fun p hp => q _ _ (e.trans (same_new hp)) (rp_newL (fr_mono S.fr e) hp (rps_rg hn.1))⟩⟩

/-! ### isinstance -/
def tyD : PyData → String
  | .none => "NoneType"
  | .bool _ => "bool"
  | .int _ => "int"
  | .str _ => "str"
  | .list _ => "list"
  | .tuple _ => "tuple"
  | .dict _ => "dict"
theorem tyX_of {K : PySem.W.Frag} {H : Hp} {v : V} {d : PyData} (r : Rp H v d) : TyX K H v (.type (tyD d)) := by
  cases r with
  | non => exact .base .non
  | bl b => exact .base (.bl b)
  | int i => exact .base (.int i)
  | str x => exact .base (.str x)
  | lst h1 h2 => exact .base (.lst h1)
  | tup h1 h2 => exact .base (.tup h1)
theorem d_isi {x : Str} {ty : String} {k : Bool} {p q : Pos} (hm : X.mg "isinstance" = none) (hm2 : X.mg x = none) (ha : PE X a (tD env d)) (hk : kitB (tyD d) ty = some k) (hv : bootBuiltins x = some (.type ty) := by decide +kernel)
    (hg : Gl X "isinstance" := by rfl) (hg2 : Gl X x := by rfl) (hn : x ≠ "__name__" := by decide) (hdb : (x == ("__debug__" : Str)) = false := by decide)
    (he : starEach [a, .Name x q] X.env = (false, eval a X.env) :: starEach [.Name x q] X.env := by rfl) (hpl : (backTo pos (starEach [.Name x q] X.env)).any (·.1) = false := by rfl)
    (he2 : starEach [.Name x q] X.env = (false, eval (.Name x q) X.env) :: starEach [] X.env := by rfl) :
    PE X (.Call (.Name "isinstance" p) [a, .Name x q] [] pos) (tD env (.bool k)) :=
  PE.imp (pe_callB call_isi hg hm (by decide +kernel) (pa_cons ha (pa_cons (pe_bltn (v := .ty ty) hg2 hm2 hv rfl hn hdb) pa_nil he2) he) (by decide) (by decide) he hpl) fun σ H Q _ ⟨N, W, T, S, q⟩ => ⟨N, W, T, S, fun v H' e r =>
    ⟨v, .ty ty, _, _, k, rfl, .ty ty, tyX_of (r.mono (hide_sub N H')), kit_ty hk, q _ H' e (.bl k)⟩⟩
theorem d_isi2 {x y : Str} {ty ty2 : String} {k l : Bool} {p q q2 : Pos} {n2} {p3 : Pos} (hm : X.mg "isinstance" = none) (hm2 : X.mg x = none) (hm3 : X.mg y = none) (ha : PE X a (tD env d)) (hk : kitB (tyD d) ty = some k) (hl : kitB (tyD d) ty2 = some l) (hv : bootBuiltins x = some (.type ty) := by decide +kernel) (hv2 : bootBuiltins y = some (.type ty2) := by decide +kernel)
    (hg : Gl X "isinstance" := by rfl) (hg2 : Gl X x := by rfl) (hg3 : Gl X y := by rfl) (hn : x ≠ "__name__" := by decide) (hdb : (x == ("__debug__" : Str)) = false := by decide) (hn2 : y ≠ "__name__" := by decide) (hdb2 : (y == ("__debug__" : Str)) = false := by decide)
    (he : starEach [a, .Tuple [.Name x q, .Name y q2] n2 p3] X.env = (false, eval a X.env) :: starEach [.Tuple [.Name x q, .Name y q2] n2 p3] X.env := by rfl) (hpl : (backTo pos (starEach [.Tuple [.Name x q, .Name y q2] n2 p3] X.env)).any (·.1) = false := by rfl)
    (he2 : starEach [.Tuple [.Name x q, .Name y q2] n2 p3] X.env = (false, eval (.Tuple [.Name x q, .Name y q2] n2 p3) X.env) :: starEach [] X.env := by rfl)
    (he3 : starEach [.Name x q, .Name y q2] X.env = (false, eval (.Name x q) X.env) :: starEach [.Name y q2] X.env := by rfl) (he4 : starEach [.Name y q2] X.env = (false, eval (.Name y q2) X.env) :: starEach [] X.env := by rfl) :
    PE X (.Call (.Name "isinstance" p) [a, .Tuple [.Name x q, .Name y q2] n2 p3] [] pos) (tD env (.bool (k || l))) :=
  PE.imp (pe_callB call_isiT hg hm (by decide +kernel) (pa_cons ha (pa_cons (pe_tup (pa_cons (pe_bltn (v := .ty ty) hg2 hm2 hv rfl hn hdb) (pa_cons (pe_bltn (v := .ty ty2) hg3 hm3 hv2 rfl hn2 hdb2) pa_nil he4) he3)) pa_nil he2) he) (by decide) (by decide) he hpl) fun σ H Q _ ⟨N, W, T, S, q⟩ => ⟨N, W, T, S, fun v H' e r =>
    ⟨by show 2 ≤ sizeLine; decide, fun tp hp => ⟨v, tp, [.ty ty, .ty ty2], _, [.type ty, .type ty2], k || l, rfl, upd_same, .cons (.ty ty) (.cons (.ty ty2) .nil), tyX_of (r.mono (Same.trans (hide_sub N H') (same_new hp))),
      kitAny_cons (kit_ty hk) (fun z => by
        rw [z, Bool.false_or]
        exact kitAny_cons (kit_ty hl) (fun z => by rw [z]; exact kitAny_nil) (fun z => z)) (fun z => by rw [z]; rfl), q _ _ (e.trans (same_new hp)) (.bl _)⟩⟩⟩
end
end DL
namespace DL
open PySem PySem.Spec PyProof.Rows L2
/-! ### what is walked -/
def WalkD (J : It) (N : List Addr) (H1 : Hp) (items : List PyData) : Prop :=
  ∀ (i : Nat) (H' : Hp) (N' : List Addr), Same (hide N H1) (hide N' H') → (∀ a ∈ N', H' a ≠ none) →
    (∀ d, items[i]? = some d → J.go i H' ∧ ∀ x H'', J.yld i H' x H'' → Same H' H'' ∧ Rp (hide N' H'') x d) ∧ (items.length ≤ i → J.stop i H')
def tIt (env : En) (items : List PyData) : TI := fun σ H R => ∃ N W T, Sta N W T H σ env ∧ ∀ J H1, Same H H1 → WalkD J N H1 items → R J H1
theorem walk_list {K : PySem.W.Frag} {N : List Addr} {H1 : Hp} {a : Addr} {xs : List V} {ds : List PyData} (h : hide N H1 a = some (.lst xs)) (r : Rps (hide N H1) xs ds) : WalkD (Itl K a) N H1 ds := fun i H' N' e2 f => by
  have hl : SqL K H' a xs := SqL.of (hide_some.mp (e2 a _ h)).2
  refine ⟨fun d hd => ?_, fun hi => ⟨xs, hl, by rw [r.length]; exact hi⟩⟩
  obtain ⟨v, h1, h2⟩ := r.get hd
  refine ⟨⟨xs, v, hl, h1⟩, fun x H'' y => ?_⟩
  obtain ⟨rfl, y⟩ := y
  have ex : x = v := Option.some.inj ((y xs hl).symm.trans h1)
  rw [ex]
  exact ⟨Same.refl _, h2.mono e2⟩
theorem walk_tup {K : PySem.W.Frag} {N : List Addr} {H1 : Hp} {a : Addr} {xs : List V} {ds : List PyData} (h : hide N H1 a = some (.tup xs)) (r : Rps (hide N H1) xs ds) : WalkD (Itt K a) N H1 ds := fun i H' N' e2 f => by
  have hl : SqT K H' a xs := SqT.of (hide_some.mp (e2 a _ h)).2
  refine ⟨fun d hd => ?_, fun hi => ⟨xs, hl, by rw [r.length]; exact hi⟩⟩
  obtain ⟨v, h1, h2⟩ := r.get hd
  refine ⟨⟨xs, v, hl, h1⟩, fun x H'' y => ?_⟩
  obtain ⟨rfl, y⟩ := y
  have ex : x = v := Option.some.inj ((y xs hl).symm.trans h1)
  rw [ex]
  exact ⟨Same.refl _, h2.mono e2⟩
/-- lo, lo + 1, .. -/
def rgF (lo : Int) (n : Nat) : List PyData := (List.range n).map fun (i : Nat) => .int (lo + (i : Int))
theorem walk_range {N : List Addr} {H1 : Hp} {lo : Int} {n : Nat} : WalkD (Itr lo n) N H1 (rgF lo n) := fun i H' N' e2 f => by
  refine ⟨fun d hd => ?_, fun hi => ?_⟩
  · unfold rgF at hd
    rw [List.getElem?_map] at hd
    by_cases hi : i < n
    · rw [List.getElem?_range hi] at hd
      have ed : PyData.int (lo + (i : Int)) = d := Option.some.inj hd
      subst ed
      refine ⟨hi, fun x H'' y => ?_⟩
      obtain ⟨rfl, rfl⟩ := y
      exact ⟨Same.refl _, .int _⟩
    · rw [List.getElem?_eq_none (by rw [List.length_range]; omega)] at hd
      cases hd
  · unfold rgF at hi
    rw [List.length_map, List.length_range] at hi
    exact hi
def zipD (ds es : List PyData) : List PyData := (ds.zip es).map fun p => .tuple [p.1, p.2]
theorem zipD_get {ds es : List PyData} {i : Nat} {d : PyData} (h : (zipD ds es)[i]? = some d) : ∃ d1 d2, ds[i]? = some d1 ∧ es[i]? = some d2 ∧ d = .tuple [d1, d2] := by
  unfold zipD at h
  rw [List.getElem?_map] at h
  cases q : (ds.zip es)[i]? with
  | none => rw [q] at h; cases h
  | some p =>
    rw [q] at h
    obtain ⟨h1, h2⟩ := List.getElem?_zip_eq_some.mp q
    exact ⟨p.1, p.2, h1, h2, (Option.some.inj h).symm⟩
theorem zipD_len (ds es : List PyData) : (zipD ds es).length = min ds.length es.length := by
  unfold zipD
  rw [List.length_map, List.length_zip]
theorem walk_zip {K : PySem.W.Frag} {N : List Addr} {H1 : Hp} {a b : Addr} {xs ys : List V} {ds es : List PyData} (h : hide N H1 a = some (.lst xs)) (r : Rps (hide N H1) xs ds) (h' : hide N H1 b = some (.lst ys)) (r' : Rps (hide N H1) ys es) : WalkD (Itz K a b) N H1 (zipD ds es) := fun i H' N' e2 f => by
  have hl : SqL K H' a xs := SqL.of (hide_some.mp (e2 a _ h)).2
  have hl' : SqL K H' b ys := SqL.of (hide_some.mp (e2 b _ h')).2
  refine ⟨fun d hd => ?_, fun hi => ⟨xs, ys, hl, hl', ?_⟩⟩
  · obtain ⟨d1, d2, g1, g2, rfl⟩ := zipD_get hd
    obtain ⟨v, h1, h2⟩ := r.get g1
    obtain ⟨w, k1, k2⟩ := r'.get g2
    refine ⟨⟨xs, ys, v, w, hl, hl', h1, k1⟩, fun x H'' y => ?_⟩
    obtain ⟨T, x1, y1, rfl, hT, rfl, f1, f2⟩ := y
    have ex : x1 = v := Option.some.inj ((f1 xs hl).symm.trans h1)
    have ey : y1 = w := Option.some.inj ((f2 ys hl').symm.trans k1)
    rw [ex, ey]
    exact ⟨same_new hT, rp_newT f hT (.cons (h2.mono e2) (.cons (k2.mono e2) .nil))⟩
  · rw [r.length, r'.length]
    rw [zipD_len] at hi
    omega
theorem walk_zipT {K : PySem.W.Frag} {N : List Addr} {H1 : Hp} {a b : Addr} {xs ys : List V} {ds es : List PyData} (h : hide N H1 a = some (.tup xs)) (r : Rps (hide N H1) xs ds) (h' : hide N H1 b = some (.tup ys)) (r' : Rps (hide N H1) ys es) : WalkD (RZ.ItzT K a b) N H1 (zipD ds es) := fun i H' N' e2 f => by
  have hl : SqT K H' a xs := SqT.of (hide_some.mp (e2 a _ h)).2
  have hl' : SqT K H' b ys := SqT.of (hide_some.mp (e2 b _ h')).2
  refine ⟨fun d hd => ?_, fun hi => ⟨xs, ys, hl, hl', ?_⟩⟩
  · obtain ⟨d1, d2, g1, g2, rfl⟩ := zipD_get hd
    obtain ⟨v, h1, h2⟩ := r.get g1
    obtain ⟨w, k1, k2⟩ := r'.get g2
    refine ⟨⟨xs, ys, v, w, hl, hl', h1, k1⟩, fun x H'' y => ?_⟩
    obtain ⟨T, x1, y1, rfl, hT, rfl, f1, f2⟩ := y
    have ex : x1 = v := Option.some.inj ((f1 xs hl).symm.trans h1)
    have ey : y1 = w := Option.some.inj ((f2 ys hl').symm.trans k1)
    rw [ex, ey]
    exact ⟨same_new hT, rp_newT f hT (.cons (h2.mono e2) (.cons (k2.mono e2) .nil))⟩
  · rw [r.length, r'.length]
    rw [zipD_len] at hi
    omega
section
variable {X : Cx} {env : En} {e e2 a b c tg : Expr} {es : List Expr} {d d1 d2 d3 : PyData} {ds : List PyData} {pos p p2 : Pos}
theorem i_seq (s : IsSeq d ds) (h : PE X e (tD env d)) : PI X tg e (tIt env ds) := by
  cases s with
  | tup =>
    refine PI.imp (pi_tup h) fun σ H R ⟨N, W, T, S, q⟩ => ⟨N, W, T, S, fun v H' e1 r => ?_⟩
    cases r with
    | tup h1 h2 => exact ⟨_, rfl, ⟨_, SqT.of (hide_some.mp h1).2⟩, q _ H' e1 (walk_tup h1 h2)⟩
  | lst =>
    refine PI.imp (pi_list h) fun σ H R ⟨N, W, T, S, q⟩ => ⟨N, W, T, S, fun v H' e1 r => ?_⟩
    cases r with
    | lst h1 h2 => exact ⟨_, rfl, ⟨_, SqL.of (hide_some.mp h1).2⟩, q _ H' e1 (walk_list h1 h2)⟩
theorem i_rg1 {n : Int} (hn : -1000000 ≤ n ∧ n ≤ 1000000) (hm : X.mg "range" = none) (ha : PA X [a] (tA env [.int n])) (hg : Gl X "range" := by rfl) (hs : starEach [a] X.env = [(false, eval a X.env)] := by rfl) : PI X tg (.Call (.Name "range" p) [a] [] pos) (tIt env (rgF 0 n.toNat)) :=
  PI.imp (pi_range1 hg hm ha hs) fun σ H R ⟨N, W, T, S, q⟩ => ⟨N, W, T, S, fun vs H' e1 r => by
    obtain ⟨v, rfl, r1⟩ := r.one
    cases r1
    exact ⟨n, rfl, by omega, by omega, q _ H' e1 walk_range⟩⟩
theorem i_rg2 {l n : Int} (hl : -1000000 ≤ l ∧ l ≤ 1000000) (hn : -1000000 ≤ n ∧ n ≤ 1000000) (hm : X.mg "range" = none) (ha : PA X [a, b] (tA env [.int l, .int n])) (hg : Gl X "range" := by rfl) (hs : starEach [a, b] X.env = [(false, eval a X.env), (false, eval b X.env)] := by rfl) (hs2 : starEach [b] X.env = [(false, eval b X.env)] := by rfl) :
    PI X tg (.Call (.Name "range" p) [a, b] [] pos) (tIt env (rgF l (n - l).toNat)) :=
  PI.imp (pi_range2 hg hm ha hs hs2) fun σ H R ⟨N, W, T, S, q⟩ => ⟨N, W, T, S, fun vs H' e1 r => by
    obtain ⟨v, w, rfl, r1, r2⟩ := r.two
    cases r1
    cases r2
    exact ⟨l, n, rfl, ⟨by omega, by omega, by omega, by omega⟩, q _ H' e1 walk_range⟩⟩
theorem i_zip {elts : List Expr} {kk : Nat} {tpos : Pos} {ds1 ds2 : List PyData} (s : (d1 = .list ds1 ∧ d2 = .list ds2) ∨ (d1 = .tuple ds1 ∧ d2 = .tuple ds2)) (hm : X.mg "zip" = none) (ha : PA X [e, e2] (tA env [d1, d2])) (hg : Gl X "zip" := by rfl)
    (hs : starEach [e, e2] X.env = (false, eval e X.env) :: starEach [e2] X.env := by rfl) (hpl : (backTo pos (starEach [e2] X.env)).any (·.1) = false := by rfl) :
    PI X (.Tuple elts kk tpos) (.Call (.Name "zip" p) [e, e2] [] pos) (tIt env (zipD ds1 ds2)) :=
  PI.imp (RZ.pi_zipA hg hm ha hs hpl) fun σ H R ⟨N, W, T, S, q⟩ => ⟨N, W, T, S, fun vs H' e1 r => by
    obtain ⟨v, w, rfl, r1, r2⟩ := r.two
    rcases s with ⟨rfl, rfl⟩ | ⟨rfl, rfl⟩
    · cases r1 with
      | lst h1 h2 =>
        cases r2 with
        | lst k1 k2 => exact ⟨_, _, _, _, rfl, .inl ⟨SqL.of (hide_some.mp h1).2, SqL.of (hide_some.mp k1).2, q _ H' e1 (walk_zip h1 h2 k1 k2)⟩⟩
    · cases r1 with
      | tup h1 h2 =>
        cases r2 with
        | tup k1 k2 => exact ⟨_, _, _, _, rfl, .inr ⟨SqT.of (hide_some.mp h1).2, SqT.of (hide_some.mp k1).2, q _ H' e1 (walk_zipT h1 h2 k1 k2)⟩⟩⟩

/-! ### slots put, an address more hidden -/
theorem lk_cons {i j : Nat} {x : Ent} {env : En} : List.lookup i ((j, x) :: env) = if i = j then some x else List.lookup i env := by
  rw [List.lookup_cons]
  by_cases h : i = j
  · subst h
    rw [if_pos rfl, beq_self_eq_true]
  · rw [if_neg h, beq_false_of_ne h]
theorem Sta.put {N W : List Addr} {T : Option Addr} {H : Hp} {σ : L2.St} {j : Nat} {v : V} (S : Sta N W T H σ env) (hj : j < σ.length) (r : Rp (hide N H) v d) : Sta N W T H (σ.set j (some v)) ((j, .dat d) :: env) := by
  refine ⟨S.fr, S.sub, S.tw, ⟨fun i d' hi => ?_, fun i ds hi => ?_, fun i k di dk a hi hk ei ek => ?_, fun i hi => ?_⟩⟩
  · rw [lk_cons] at hi
    by_cases h : i = j
    · rw [if_pos h] at hi
      cases hi
      subst h
      exact ⟨v, List.getElem?_set_self hj, r⟩
    · rw [if_neg h] at hi
      obtain ⟨w, h1, h2⟩ := S.sl.dat i d' hi
      exact ⟨w, by rw [List.getElem?_set_ne (Ne.symm h)]; exact h1, h2⟩
  · rw [lk_cons] at hi
    by_cases h : i = j
    · rw [if_pos h] at hi
      cases hi
    · rw [if_neg h] at hi
      obtain ⟨a, xs, h1, h2⟩ := S.sl.own i ds hi
      exact ⟨a, xs, by rw [List.getElem?_set_ne (Ne.symm h)]; exact h1, h2⟩
  · rw [lk_cons] at hi hk
    by_cases h : i = j
    · rw [if_pos h] at hi
      cases hi
    · by_cases h' : k = j
      · rw [if_pos h'] at hk
        cases hk
      · rw [if_neg h] at hi
        rw [if_neg h'] at hk
        rw [List.getElem?_set_ne (Ne.symm h)] at ei
        rw [List.getElem?_set_ne (Ne.symm h')] at ek
        exact S.sl.inj i k di dk a hi hk ei ek
  · rw [lk_cons] at hi
    by_cases h : i = j
    · rw [if_pos h] at hi
      cases hi
    · rw [if_neg h] at hi
      obtain ⟨t, h1, h2⟩ := S.sl.box i hi
      exact ⟨t, h1, by rw [List.getElem?_set_ne (Ne.symm h)]; exact h2⟩
theorem hide_cons {N : List Addr} {H H' : Hp} {D : Addr} (e : Same H H') (hD : H D = none) : Same (hide N H) (hide (D :: N) H') := fun a o h => by
  obtain ⟨h1, h2⟩ := hide_some.mp h
  refine hide_some.mpr ⟨fun z => ?_, e a o h2⟩
  rcases List.mem_cons.mp z with z | z
  · rw [z, hD] at h2
    cases h2
  · exact h1 z
theorem Sta.under {N W : List Addr} {T : Option Addr} {H H' : Hp} {σ : L2.St} {D : Addr} (S : Sta N W T H σ env) (e : Same H H') (hD : H D = none) (hD' : H' D ≠ none) : Sta (D :: N) W T H' σ env := by
  have S' := S.mono e
  refine ⟨fun a ha => ?_, fun a ha => List.mem_cons_of_mem _ (S.sub a ha), S.tw, ⟨fun i d' hi => ?_, fun i ds hi => ?_, S.sl.inj, S.sl.box⟩⟩
  · rcases List.mem_cons.mp ha with rfl | ha
    · exact hD'
    · exact S'.fr a ha
  · obtain ⟨v, h1, h2⟩ := S.sl.dat i d' hi
    exact ⟨v, h1, h2.mono (hide_cons e hD)⟩
  · obtain ⟨a, xs, h1, h2, h3, h4, h5⟩ := S.sl.own i ds hi
    exact ⟨a, xs, h1, h2, h3, e _ _ h4, h5.mono (hide_cons e hD)⟩

/-! ### list comprehensions -/
theorem ts_nil : PTs X [] (tT env true) := ⟨fun pins s σ H Q I ⟨N, W, T, S, q⟩ => pts_nil.run pins s σ H Q I (q H (Same.refl H))⟩
theorem ts_one {k : Bool} (h : PT X c (tT env k)) : PTs X [c] (tT env k) := pts_one h
def lcT {α : Type} (L : List α) (c : α → PyData) (t : α → Bool) (env : En) (j : Nat) : TT := fun σ H Q => ∃ a, a ∈ L ∧ tT ((j, .dat (c a)) :: env) (t a) σ H Q
def lcE {α : Type} (L : List α) (c : α → PyData) (t : α → Bool) (f : α → PyData) (env : En) (j : Nat) : TE := fun σ H Q => ∃ a, (a ∈ L ∧ t a = true) ∧ tD ((j, .dat (c a)) :: env) (f a) σ H Q
theorem small6 {n : Nat} (h : n ≤ 1000000) : n < sizeLine := Nat.lt_of_le_of_lt h (by decide)
theorem small6' {n : Nat} (h : n ≤ 1000000) : n ≤ sizeLine := Nat.le_of_lt (small6 h)
theorem lc_read {α : Type} {L : List α} {c : α → PyData} {t : α → Bool} {f : α → PyData} {j : Nat} {σ : L2.St} {H : Hp} {Q : VK} (hj : j < σ.length) (hz : L.length ≤ 1000000)
    (h : tD env (.list ((L.filter t).map f)) σ H Q) : tLc (tIt env (L.map c)) (gName j) (lcT L c t env j) (lcE L c t f env j) [j] σ H Q := by
  obtain ⟨N, W, T, S, q⟩ := h
  refine ⟨N, W, T, S, fun J H1 e1 walk D hD => ?_⟩
  have S1 := S.mono e1
  refine ⟨fun i m Hc => m = L.length - i ∧ i ≤ L.length ∧ Same H1 Hc ∧ ∃ acc, Hc D = some (.lst acc) ∧ Rps (hide (D :: N) Hc) acc (((L.take i).filter t).map f), ⟨L.length, rfl, Nat.zero_le _, same_new hD, [], upd_same, .nil⟩, ?_⟩
  rintro i m Hc ⟨rfl, hi, e2, acc, hDc, racc⟩
  have nD : Hc D ≠ none := by rw [hDc]; exact fun z => nomatch z
  have S2 : Sta (D :: N) W T Hc σ env := S1.under e2 hD nD
  obtain ⟨w1, w2⟩ := walk i Hc (D :: N) (hide_cons e2 hD) S2.fr
  by_cases hlt : i < L.length
  · have hget : L[i]? = some L[i] := List.getElem?_eq_getElem hlt
    obtain ⟨go, yl⟩ := w1 (c L[i]) (by rw [List.getElem?_map, hget]; rfl)
    refine .inr ⟨go, fun H' => i + 1 ≤ L.length ∧ Same H1 H' ∧ ∃ acc, H' D = some (.lst acc) ∧ Rps (hide (D :: N) H') acc (((L.take (i + 1)).filter t).map f), fun H' ⟨z1, z2, z3⟩ => ⟨L.length - (i + 1), by omega, rfl, z1, z2, z3⟩, fun x H' y => ?_⟩
    obtain ⟨e3, rx⟩ := yl x H' y
    have S3 : Sta (D :: N) W T H' (σ.set j (some x)) ((j, .dat (c L[i])) :: env) := (S2.mono e3).put hj rx
    have ew : (wipe σ [j]).set j (some x) = σ.set j (some x) := by
      show (σ.set j none).set j (some x) = _
      rw [List.set_set]
    show _ ∧ _
    rw [ew]
    refine ⟨?_, L[i], List.getElem_mem hlt, D :: N, W, T, S3, fun H3 e4 => ?_⟩
    · show (σ.set j (some x)).set j none = σ.set j none
      rw [List.set_set]
    have et : (L.take (i + 1)).filter t = (L.take i).filter t ++ if t L[i] = true then [L[i]] else [] := by
      rw [List.take_add_one, hget, List.filter_append]
      congr 1
      show [L[i]].filter t = _
      rw [List.filter_cons]
      rfl
    have hlen : acc.length < sizeLine := by
      rw [racc.length, List.length_map]
      have h1 := List.length_filter_le t (L.take i)
      have h2 : (L.take i).length ≤ L.length := by rw [List.length_take]; omega
      exact small6 (by omega)
    cases hb : t L[i] with
    | false =>
      show i + 1 ≤ L.length ∧ _
      refine ⟨hlt, (e2.trans e3).trans e4, acc, e4 _ _ (e3 _ _ hDc), ?_⟩
      rw [et, hb, if_neg Bool.false_ne_true, List.append_nil]
      exact racc.mono (hide_same (e3.trans e4))
    | true =>
      show lcE L c t f env j _ _ _
      refine ⟨L[i], ⟨List.getElem_mem hlt, hb⟩, D :: N, W, T, S3.mono e4, fun y H4 e5 ry => ⟨acc, e5 _ _ (e4 _ _ (e3 _ _ hDc)), hlen, hlt, Same.mut (((e2.trans e3).trans e4).trans e5) hD, acc ++ [y], upd_same, ?_⟩⟩
      have hk : Same (hide (D :: N) H4) (hide (D :: N) (upd H4 D (.lst (acc ++ [y])))) := fun b o hb => by
        obtain ⟨b1, b2⟩ := hide_some.mp hb
        exact hide_some.mpr ⟨b1, by rw [upd_ne (fun z => b1 (by rw [z]; exact List.mem_cons_self))]; exact b2⟩
      rw [et, hb, if_pos rfl, List.map_append]
      exact ((racc.mono (hide_same ((e3.trans e4).trans e5))).mono hk).append (.cons (ry.mono hk) .nil)
  · have ei : i = L.length := by omega
    subst ei
    refine .inl ⟨w2 (by rw [List.length_map]; exact Nat.le_refl _), q _ Hc (e1.trans e2) (.lst (hide_some.mpr ⟨not_in S1.fr hD, hDc⟩) ?_)⟩
    rw [List.take_length] at racc
    exact racc.mono (hide_less (fun a ha => List.mem_cons_of_mem _ ha) Hc)
theorem d_lc {α : Type} {L : List α} {c : α → PyData} {t : α → Bool} {f : α → PyData} {j : Nat} {x : Str} {px : Pos} {elt iter : Expr} {ifs : List Expr} {scope : Scope} (hi : PI X (.Name x px) iter (tIt env (L.map c))) (ok : BlkOk X.N X.env.scope scope [(x, j)])
    (hg : ∀ (s : Shared) (H : Hp) (C : Addr) (cl : List (Str × Addr)) (fp : List Addr), PG (X.blk s H scope (compEnvC scope cl C X.env) fp) (.Name x px) (gName j))
    (ht : ∀ (s : Shared) (H : Hp) (C : Addr) (cl : List (Str × Addr)) (fp : List Addr), ∀ a ∈ L, PTs (X.blk s H scope (compEnvC scope cl C X.env) fp) ifs (tT ((j, .dat (c a)) :: env) (t a)))
    (he : ∀ (s : Shared) (H : Hp) (C : Addr) (cl : List (Str × Addr)) (fp : List Addr), ∀ a ∈ L, t a = true → PE (X.blk s H scope (compEnvC scope cl C X.env) fp) elt (tD ((j, .dat (c a)) :: env) (f a)))
    (hz : L.length ≤ 1000000) (hN : X.N.Nodup) (hc : X.calm = true := by rfl) (hs : ∀ x, foldedSetIterable iter X.env x = pure x := by intro _; rfl) : PE X (.ListComp elt [⟨.Name x px, iter, ifs, 0⟩] scope pos) (tD env (.list ((L.filter t).map f))) :=
  PE.imp (pe_lc (tt := lcT L c t env j) (te := lcE L c t f env j) hc hN hi ok hg (fun s H C cl fp => PTs.ex fun a ha => ht s H C cl fp a ha) (fun s H C cl fp => PE.ex fun a ha => he s H C cl fp a ha.1 ha.2) hs)
    fun σ H Q hl q => lc_read (by rw [hl]; exact (List.getElem?_eq_some_iff.mp (ok.ix (x, j) (by simp))).1) hz q
/-- no test -/
theorem d_lcm {α : Type} {L : List α} {c : α → PyData} {f : α → PyData} {j : Nat} {x : Str} {px : Pos} {elt iter : Expr} {scope : Scope} (hi : PI X (.Name x px) iter (tIt env (L.map c))) (ok : BlkOk X.N X.env.scope scope [(x, j)])
    (hg : ∀ (s : Shared) (H : Hp) (C : Addr) (cl : List (Str × Addr)) (fp : List Addr), PG (X.blk s H scope (compEnvC scope cl C X.env) fp) (.Name x px) (gName j))
    (he : ∀ (s : Shared) (H : Hp) (C : Addr) (cl : List (Str × Addr)) (fp : List Addr), ∀ a ∈ L, PE (X.blk s H scope (compEnvC scope cl C X.env) fp) elt (tD ((j, .dat (c a)) :: env) (f a)))
    (hz : L.length ≤ 1000000) (hN : X.N.Nodup) (hc : X.calm = true := by rfl) (hs : ∀ x, foldedSetIterable iter X.env x = pure x := by intro _; rfl) : PE X (.ListComp elt [⟨.Name x px, iter, [], 0⟩] scope pos) (tD env (.list (L.map f))) := by
  have h := d_lc (t := fun _ => true) (pos := pos) hi ok hg (fun _ _ _ _ _ _ _ => ts_nil) (fun s H C cl fp a ha _ => he s H C cl fp a ha) hz hN hc hs
  rw [List.filter_eq_self.mpr (fun _ _ => rfl)] at h
  exact h
end
end DL
namespace DL
open PySem PySem.Spec PyProof.Rows L2
section
variable {X : Cx} {env : En} {e e2 a b c tg : Expr} {es : List Expr} {d d1 d2 d3 : PyData} {ds : List PyData} {pos p p2 : Pos}
/-! ### a comprehension over pairs -/
def lcTG {α : Type} (L : List α) (t : α → Bool) (env' : α → En) : TT := fun σ H Q => ∃ a, a ∈ L ∧ tT (env' a) (t a) σ H Q
def lcEG {α : Type} (L : List α) (t : α → Bool) (f : α → PyData) (env' : α → En) : TE := fun σ H Q => ∃ a, (a ∈ L ∧ t a = true) ∧ tD (env' a) (f a) σ H Q
theorem lc_readG {K : PySem.W.Frag} {α : Type} {L : List α} {c : α → PyData} {t : α → Bool} {f : α → PyData} {g : TG} {vs : List Nat} {env' : α → En} {σ : L2.St} {H : Hp} {Q : VK} (hz : L.length ≤ 1000000)
    (hst : ∀ a ∈ L, ∀ (N W : List Addr) (T : Option Addr) (H' : Hp) (x : V) (Q' : L2.St → Hp → Prop), Sta N W T H' σ env → Rp (hide N H') x (c a) → (∀ σ2, wipe σ2 vs = wipe σ vs → Sta N W T H' σ2 (env' a) → Q' σ2 H') → g x (wipe σ vs) H' Q')
    (h : tD env (.list ((L.filter t).map f)) σ H Q) : tLc (tIt env (L.map c)) g (lcTG L t env') (lcEG L t f env') vs σ H Q := by
  obtain ⟨N, W, T, S, q⟩ := h
  refine ⟨N, W, T, S, fun J H1 e1 walk D hD => ?_⟩
  have S1 := S.mono e1
  refine ⟨fun i m Hc => m = L.length - i ∧ i ≤ L.length ∧ Same H1 Hc ∧ ∃ acc, Hc D = some (.lst acc) ∧ Rps (hide (D :: N) Hc) acc (((L.take i).filter t).map f), ⟨L.length, rfl, Nat.zero_le _, same_new hD, [], upd_same, .nil⟩, ?_⟩
  rintro i m Hc ⟨rfl, hi, e2, acc, hDc, racc⟩
  have nD : Hc D ≠ none := by rw [hDc]; exact fun z => nomatch z
  have S2 : Sta (D :: N) W T Hc σ env := S1.under e2 hD nD
  obtain ⟨w1, w2⟩ := walk i Hc (D :: N) (hide_cons e2 hD) S2.fr
  by_cases hlt : i < L.length
  · have hget : L[i]? = some L[i] := List.getElem?_eq_getElem hlt
    obtain ⟨go, yl⟩ := w1 (c L[i]) (by rw [List.getElem?_map, hget]; rfl)
    refine .inr ⟨go, fun H' => i + 1 ≤ L.length ∧ Same H1 H' ∧ ∃ acc, H' D = some (.lst acc) ∧ Rps (hide (D :: N) H') acc (((L.take (i + 1)).filter t).map f), fun H' ⟨z1, z2, z3⟩ => ⟨L.length - (i + 1), by omega, rfl, z1, z2, z3⟩, fun x H' y => ?_⟩
    obtain ⟨e3, rx⟩ := yl x H' y
    refine hst L[i] (List.getElem_mem hlt) (D :: N) W T H' x _ (S2.mono e3) rx fun σ2 ew S3 => ⟨ew, L[i], List.getElem_mem hlt, D :: N, W, T, S3, fun H3 e4 => ?_⟩
    have et : (L.take (i + 1)).filter t = (L.take i).filter t ++ if t L[i] = true then [L[i]] else [] := by
      rw [List.take_add_one, hget, List.filter_append]
      congr 1
      show [L[i]].filter t = _
      rw [List.filter_cons]
      rfl
    have hlen : acc.length < sizeLine := by
      rw [racc.length, List.length_map]
      have h1 := List.length_filter_le t (L.take i)
      have h2 : (L.take i).length ≤ L.length := by rw [List.length_take]; omega
      exact small6 (by omega)
    cases hb : t L[i] with
    | false =>
      show i + 1 ≤ L.length ∧ _
      refine ⟨hlt, (e2.trans e3).trans e4, acc, e4 _ _ (e3 _ _ hDc), ?_⟩
      rw [et, hb, if_neg Bool.false_ne_true, List.append_nil]
      exact racc.mono (hide_same (e3.trans e4))
    | true =>
      show lcEG L t f env' _ _ _
      refine ⟨L[i], ⟨List.getElem_mem hlt, hb⟩, D :: N, W, T, S3.mono e4, fun y H4 e5 ry => ⟨acc, e5 _ _ (e4 _ _ (e3 _ _ hDc)), hlen, hlt, Same.mut (((e2.trans e3).trans e4).trans e5) hD, acc ++ [y], upd_same, ?_⟩⟩
      have hk : Same (hide (D :: N) H4) (hide (D :: N) (upd H4 D (.lst (acc ++ [y])))) := fun b o hb => by
        obtain ⟨b1, b2⟩ := hide_some.mp hb
        exact hide_some.mpr ⟨b1, by rw [upd_ne (fun z => b1 (by rw [z]; exact List.mem_cons_self))]; exact b2⟩
      rw [et, hb, if_pos rfl, List.map_append]
      exact ((racc.mono (hide_same ((e3.trans e4).trans e5))).mono hk).append (.cons (ry.mono hk) .nil)
  · have ei : i = L.length := by omega
    subst ei
    refine .inl ⟨w2 (by rw [List.length_map]; exact Nat.le_refl _), q _ Hc (e1.trans e2) (.lst (hide_some.mpr ⟨not_in S1.fr hD, hDc⟩) ?_)⟩
    rw [List.take_length] at racc
    exact racc.mono (hide_less (fun a ha => List.mem_cons_of_mem _ ha) Hc)
/-- all of [elt for x, y in ..]: no test -/
theorem d_lcp {α : Type} {L : List α} {c1 c2 f : α → PyData} {i j : Nat} {x y : Str} {px py tp : Pos} {kk : Nat} {elt iter : Expr} {scope : Scope} (hi : PI X (.Tuple [.Name x px, .Name y py] kk tp) iter (tIt env (L.map fun a => .tuple [c1 a, c2 a]))) (ok : BlkOk X.N X.env.scope scope [(x, i), (y, j)])
    (hg : ∀ (s : Shared) (H : Hp) (C : Addr) (cl : List (Str × Addr)) (fp : List Addr), PG (X.blk s H scope (compEnvC scope cl C X.env) fp) (.Tuple [.Name x px, .Name y py] kk tp) (gTup X.K 2 (gCons (gName i) (gCons (gName j) gNil))))
    (he : ∀ (s : Shared) (H : Hp) (C : Addr) (cl : List (Str × Addr)) (fp : List Addr), ∀ a ∈ L, PE (X.blk s H scope (compEnvC scope cl C X.env) fp) elt (tD ((j, .dat (c2 a)) :: (i, .dat (c1 a)) :: env) (f a)))
    (hij : i ≠ j) (hz : L.length ≤ 1000000) (hN : X.N.Nodup) (hc : X.calm = true := by rfl) (hs : ∀ x, foldedSetIterable iter X.env x = pure x := by intro _; rfl) : PE X (.ListComp elt [⟨.Tuple [.Name x px, .Name y py] kk tp, iter, [], 0⟩] scope pos) (tD env (.list (L.map f))) := by
  refine PE.imp (pe_lc (tt := lcTG L (fun _ => true) fun a => (j, .dat (c2 a)) :: (i, .dat (c1 a)) :: env) (te := lcEG L (fun _ => true) f fun a => (j, .dat (c2 a)) :: (i, .dat (c1 a)) :: env) hc hN hi ok hg (fun s H C cl fp => PTs.ex fun a ha => ts_nil) (fun s H C cl fp => PE.ex fun a ha => he s H C cl fp a ha.1) hs) fun σ H Q hl q => ?_
  have h1 : i < σ.length := by rw [hl]; exact (List.getElem?_eq_some_iff.mp (ok.ix (x, i) (by simp))).1
  have h2 : j < σ.length := by rw [hl]; exact (List.getElem?_eq_some_iff.mp (ok.ix (y, j) (by simp))).1
  refine lc_readG (K := X.K) hz (fun a ha N W T H' v Q' S r k => ?_) (by rw [List.filter_eq_self.mpr (fun _ _ => rfl)]; exact q)
  cases r with
  | tup g1 g2 =>
    obtain ⟨u, w, rfl, k1, k2⟩ := g2.two
    refine ⟨_, _, rfl, SqT.of (hide_some.mp g1).2, rfl, u, _, rfl, w, _, rfl, rfl, k _ ?_ ?_⟩
    · show ((((((σ.set j none).set i none).set i (some u)).set j (some w)).set j none).set i none) = (σ.set j none).set i none
      rw [List.set_set, List.set_set, List.set_comm _ _ hij, List.set_set, List.set_set]
    · show Sta N W T H' ((((σ.set j none).set i none).set i (some u)).set j (some w)) _
      rw [List.set_set, List.set_comm _ _ hij, List.set_set, List.set_comm _ _ (Ne.symm hij)]
      exact (S.put h1 k1).put (by rw [List.length_set]; exact h2) k2

/-! ### sorted, min, len(set(..)), a starred display -/
def tI (r : List Int) : PyData := .tuple (r.map .int)
theorem rows_le : (PySem.W.dataLe false tI) = fun p q : List Int => decide (p ≤ q) := PySem.W.dataLe_rows (fun b : List Int => b)
theorem alike_tI (r r' : List Int) : PySem.W.alike (tI r) (tI r') = true := PySem.W.alike_ints r r'
theorem depth_tI (r : List Int) : (tI r).depth ≤ 1 := by
  unfold tI
  simp only [PyData.depth]
  rw [PySem.W.depth_ints]
  exact Nat.le_refl _
def rSortD (K : PySem.W.Frag) : List V → Hp → VK → Prop := fun vs H Q => ∃ (N : List Addr) (a : Addr) (xs : List V) (L : List (List Int)), vs = [V.ref a] ∧ (∀ a ∈ N, H a ≠ none) ∧ H a = some (.lst xs) ∧ Rps (hide N H) xs (L.map tI) ∧ (∀ r ∈ L, r ≠ []) ∧ L.length ≤ 1000000 ∧
  ∀ (ys : List V) (p : Addr), H p = none → Rps (hide N H) ys ((L.mergeSort fun p q => decide (p ≤ q)).map tI) → Q (.ref p) (upd H p (.lst ys))
theorem rps_zip {H : Hp} : ∀ {L : List (List Int)} {xs : List V}, Rps H xs (L.map tI) → ∃ bs : List (V × List Int), bs.map (·.1) = xs ∧ bs.map (·.2) = L ∧ ∀ b ∈ bs, Rp H b.1 (tI b.2)
  | [], _, h => by
    cases h
    exact ⟨[], rfl, rfl, fun _ z => by cases z⟩
  | r :: L, _, h => by
    rw [List.map_cons] at h
    cases h with
    | cons h1 h2 =>
      obtain ⟨bs, e1, e2, e3⟩ := rps_zip h2
      refine ⟨(_, r) :: bs, by rw [List.map_cons, e1], by rw [List.map_cons, e2], fun b hb => ?_⟩
      rcases List.mem_cons.mp hb with rfl | hb
      · exact h1
      · exact e3 b hb
theorem zip_rps {H : Hp} : ∀ (bs : List (V × List Int)), (∀ b ∈ bs, Rp H b.1 (tI b.2)) → Rps H (bs.map (·.1)) ((bs.map (·.2)).map tI)
  | [], _ => .nil
  | b :: bs, h => .cons (h b List.mem_cons_self) (zip_rps bs fun c hc => h c (List.mem_cons_of_mem _ hc))
theorem each_of_vals : ∀ {bs : List (V × List Int)} {us : List Value}, Vals (bs.map (·.1)) us → PySem.W.EachIs (fun u b => RelV b.1 u) us bs
  | [], _, h => by
    rw [List.map_nil] at h
    cases h
    exact .nil
  | b :: bs, _, h => by
    rw [List.map_cons] at h
    cases h with
    | cons h1 h2 => exact .cons h1 (each_of_vals h2)
theorem vals_of_each : ∀ {bs : List (V × List Int)} {us : List Value}, PySem.W.EachIs (fun u b => RelV b.1 u) us bs → Vals (bs.map (·.1)) us
  | _, _, .nil => .nil
  | _, _, .cons h t => .cons h (vals_of_each t)
theorem each_reads {K : PySem.W.Frag} {pins : List (Addr × Obj)} {σ : L2.St} {H : Hp} {s : Shared} (I : Inv X pins σ H s) : ∀ {bs : List (V × List Int)} {us : List Value}, (∀ b ∈ bs, Rp H b.1 (tI b.2)) → Vals (bs.map (·.1)) us → PySem.W.EachIs (fun u b => ∃ as, Reads s.heap u (tI b.2) as) us bs
  | [], _, _, h => by
    rw [List.map_nil] at h
    cases h
    exact .nil
  | b :: bs, _, hb, h => by
    rw [List.map_cons] at h
    cases h with
    | cons h1 h2 => exact .cons (Dp.reads I _ _ _ (Rp.dp (hb b List.mem_cons_self)) h1) (each_reads (K := K) I (fun c hc => hb c (List.mem_cons_of_mem _ hc)) h2)
theorem cr_sortD (hu : X.A.units + 64 < cLine) : CallR X (.builtin "sorted") (rSortD X.K) := by
  intro pins s σ H vs us Q I r h
  obtain ⟨N, a, xs, L, rfl, f, ha, rx, hne, hz, q⟩ := h
  obtain ⟨its, rv, hl, _⟩ := I.list (SqL.of ha)
  rw [Vals.ref1 r]
  obtain ⟨bs, rfl, rfl, hbs⟩ := rps_zip rx
  have hbs' : ∀ b ∈ bs, Rp H b.1 (tI b.2) := fun b hb => (hbs b hb).mono (hide_sub N H)
  have hmap : bs.map (fun b => tI b.2) = (bs.map (·.2)).map tI := by rw [List.map_map]; rfl
  refine PySem.W.sorted_data (R := fun u b => RelV b.1 u) (bs := bs) (enc := fun b => tI b.2) hl.isList (each_of_vals rv) (each_reads (K := X.K) I hbs' rv) (PySem.W.AllAlike.of fun b b' => alike_tI b.2 b'.2) (.inl fun d hd => ?_) (by rw [List.length_map] at hz; exact small6' hz) (fun b hb => ?_) fun out ho eo => ?_
  · obtain ⟨b, hb, rfl⟩ := List.mem_map.mp hd
    have hn := hne b.2 (List.mem_map.mpr ⟨b, hb, rfl⟩)
    cases hr : b.2 with
    | nil => exact absurd hr hn
    | cons n ns => exact ⟨.int n, ns.map .int, rfl⟩
  · have hd := depth_tI b.2
    omega
  · obtain ⟨ep, he'⟩ := PyProof.Rows.sortedAll_at s.heap its out.toArray
    have hv := vals_of_each eo
    have hs : (bs.mergeSort (PySem.W.dataLe false fun b => tI b.2)).map (·.2) = (bs.map (·.2)).mergeSort fun p q => decide (p ≤ q) := by
      have z := PySem.W.sort_maps (r := PySem.W.dataLe false fun b : V × List Int => tI b.2) (s := PySem.W.dataLe false tI) (fun b : V × List Int => b.2) (l := bs) (fun _ _ _ _ => rfl)
      rw [z, rows_le]
    have hlen : ((bs.mergeSort (PySem.W.dataLe false fun b => tI b.2)).map (·.1)).length ≤ sizeLine := by
      rw [List.length_map, List.length_mergeSort]
      rw [List.length_map] at hz
      exact small6' hz
    have hrp := zip_rps (H := hide N H) (bs.mergeSort (PySem.W.dataLe false fun b => tI b.2)) fun b hb => hbs b (List.mem_mergeSort.mp hb)
    rw [hs] at hrp
    exact ⟨.ref _, upd H (s.heap.objs.size + 1) (.lst ((bs.mergeSort (PySem.W.dataLe false fun b => tI b.2)).map (·.1))), I.laid (t' := s.toks) (fun _ _ => PyProof.Rows.sortedAll_old) (Nat.le_succ _) ⟨hlen, out, ep, hv, he'⟩, rfl, q _ _ (I.hok.fresh (Nat.le_succ _)) hrp⟩
theorem c_sortD {K : PySem.W.Frag} {L : List (List Int)} (hne : ∀ r ∈ L, r ≠ []) (hz : L.length ≤ 1000000) : RDc (rSortD K) [.list (L.map tI)] (.list ((L.mergeSort fun p q => decide (p ≤ q)).map tI)) := fun N H vs Q f r q => by
  obtain ⟨v, rfl, r1⟩ := r.one
  cases r1 with
  | lst h1 h2 => exact ⟨N, _, _, L, rfl, f, (hide_some.mp h1).2, h2, hne, hz, fun ys p hp rr => q _ _ (same_new hp) (rp_newL f hp rr)⟩
/-- min of a list of data that are alike -/
def rMinD (K : PySem.W.Frag) : List V → Hp → VK → Prop := fun vs H Q => ∃ (N : List Addr) (a : Addr) (xs : List V) (d : PyData) (ds : List PyData), vs = [V.ref a] ∧ H a = some (.lst xs) ∧ Rps (hide N H) xs (d :: ds) ∧ PySem.W.AlikeAll (d :: ds) ∧ PyData.depthAll (d :: ds) ≤ 8 ∧ ∀ v, Rp (hide N H) v (PySem.W.minD d ds) → Q v H
theorem cr_minD (hc : X.calm = true) (hu : X.A.units + 64 < cLine) : CallR X (.builtin "min") (rMinD X.K) := by
  intro pins s σ H vs us Q I r h
  obtain ⟨N, a, xs, d, ds, rfl, ha, rx, hal, hdp, q⟩ := h
  obtain ⟨its, rv, hl, _⟩ := I.list (SqL.of ha)
  rw [Vals.ref1 r]
  obtain ⟨as, hr⟩ := Dp.readsAll I (d :: ds) xs its (Rps.dp (rx.mono (hide_sub N H))) rv
  have hal' := hal
  refine PySem.W.min_list_data (I.ok.hd hc) hl.isList hr hal (by omega) fun i v h' tk bs hv hrd hk => ?_
  have hv' : its[i]? = some v := by simpa using hv
  have hil : i < its.length := (List.getElem?_eq_some_iff.mp hv').1
  have hl2 := rv.length
  have hx : xs[i]? = some xs[i] := List.getElem?_eq_getElem (by omega)
  obtain ⟨u, hu', ru⟩ := rv.get hx
  rw [hv'] at hu'
  cases hu'
  -- the datum of the i-th
  have hl3 := rx.length
  have hd : (d :: ds)[i]? = some ((d :: ds)[i]'(by omega)) := List.getElem?_eq_getElem _
  obtain ⟨w, hw, rw'⟩ := rx.get hd
  rw [hx] at hw
  cases hw
  obtain ⟨bs2, hrd2⟩ := Dp.reads I _ _ v (Rp.dp (K := X.K) (rw'.mono (hide_sub N H))) ru
  have hm : (d :: ds)[i]'(by omega) ∈ d :: ds := List.getElem_mem _
  have hmin : PySem.W.minD d ds ∈ d :: ds := by
    have z : ∀ (l : List PyData) (a : PyData), l.foldl (fun a y => if PySem.W.dataLt y a then y else a) a ∈ a :: l := by
      intro l
      induction l with
      | nil => intro a; exact List.mem_cons_self
      | cons y l ih =>
        intro a
        rw [List.foldl_cons]
        rcases List.mem_cons.mp (ih (if PySem.W.dataLt y a then y else a)) with e | e
        · rw [e]
          by_cases hb : PySem.W.dataLt y a = true
          · rw [if_pos hb]
            exact List.mem_cons_of_mem _ List.mem_cons_self
          · rw [if_neg hb]
            exact List.mem_cons_self
        · exact List.mem_cons_of_mem _ (List.mem_cons_of_mem _ e)
    exact z ds d
  have e : (d :: ds)[i]'(by omega) = PySem.W.minD d ds := PySem.W.alike_unique _ _ v _ _ (hal.1 _ hm _ hmin) (PyProof.Rows.Reads.keeps hk hrd2) hrd
  rw [e] at rw'
  exact ⟨xs[i], H, I.kept (t' := tk) hk, ru, q _ rw'⟩
theorem c_minD {K : PySem.W.Frag} {d : PyData} {ds : List PyData} (hal : PySem.W.AlikeAll (d :: ds)) (hdp : PyData.depthAll (d :: ds) ≤ 8) : RDc (rMinD K) [.list (d :: ds)] (PySem.W.minD d ds) := fun N H vs Q f r q => by
  obtain ⟨v, rfl, r1⟩ := r.one
  cases r1 with
  | lst h1 h2 => exact ⟨N, _, _, d, ds, rfl, (hide_some.mp h1).2, h2, hal, hdp, fun v rv => q v H (Same.refl H) rv⟩
/-- len(set(xs)), ints -/
def fm (ns : List Int) : Nat := (PyProof.Rows.firstMet (fun i => ns.getD i 0) ns.length).length
theorem d_lenSet {ns : List Int} {p p2 q pos : Pos} (hm : X.mg "len" = none) (hm2 : X.mg "set" = none) (ha : PE X a (tD env (.list (ns.map .int)))) (hz : ns.length ≤ 4000) (hc : X.calm = true := by rfl) (hg : Gl X "len" := by rfl) (hg2 : Gl X "set" := by rfl)
    (na : starEach [a] X.env = (false, eval a X.env) :: starEach [] X.env := by rfl) : PE X (.Call (.Name "len" p) [.Call (.Name "set" p2) [a] [] q] [] pos) (tD env (.int (fm ns : Nat))) := by
  refine ⟨fun pins s σ H Q I h => ?_⟩
  obtain ⟨N, W, T, S, qq⟩ := h
  refine Call_ (ld_blt I hg hm boot_len ?_)
  refine PyProof.Rows.callWith_builtin1 (PyProof.Rows.args_cons ?_ rfl) rfl rfl
  refine Call_ (ld_blt I hg2 hm2 boot_set ?_)
  have hrun := ha.run pins s σ H (fun v H' => Same H H' ∧ Rp (hide N H') v (.list (ns.map .int))) I ⟨N, W, T, S, fun v H' e r => ⟨e, r⟩⟩
  refine PyProof.Rows.callWith_type1 (PyProof.Rows.args_cons (thn hrun fun v s1 ⟨x, H1, I1, r1, e1, rr⟩ => PyProof.Rows.args_nil ?_) na) na rfl
  cases rr with
  | lst k1 k2 =>
    have ei := k2.ints
    subst ei
    cases r1
    obtain ⟨its, r, pl, _⟩ := I1.list (SqL.of (hide_some.mp k1).2)
    have hlen : its.toArray.size = ns.length := by rw [List.size_toArray, ← r.length, List.length_map]
    refine call_set_list (I1.ok.hd hc) pl.isList (by simpa using RZ.intsAre_vals r) (by rw [hlen]; unfold scanBound; omega) fun h' tk hS hk => ?_
    refine PyProof.Rows.args_nil ?_
    rw [hlen] at hS
    obtain ⟨o, es, ep, t, ho, hex, hd, _, _, _, hf, hn⟩ := hS
    have I2 : Inv X pins σ H1 { s1 with heap := h', toks := tk } := I1.kept fun b o e => hk b o (Heap.lt_size e) e
    have hfm : fm ns ≤ ns.length := PyProof.Rows.firstMet_length_le _ _
    have hn' : es.size = fm ns := hn
    exact call_len_set ho hex hd hf (by rw [hn'] <;> omega) ⟨.int (fm ns : Nat), H1, I2.tok _, ⟨_, by rw [hn']⟩, qq _ H1 e1 (.int _)⟩
/-- (*a, b) : a starred list in a display -/
theorem a_star {sp : Pos} {l : List PyData} (ha : PE X e (tD env (.list l))) (hr : PA X es (tA env ds)) (hs : starEach (.Starred e sp :: es) X.env = (true, eval e X.env) :: starEach es X.env := by rfl) : PA X (.Starred e sp :: es) (tA env (l ++ ds)) := by
  refine ⟨fun pos pins s σ H Q I h => ?_⟩
  obtain ⟨N, W, T, S, q⟩ := h
  have hrun := ha.run pins s σ H (fun v H' => Same H H' ∧ Rp (hide N H') v (.list l)) I ⟨N, W, T, S, fun v H' e r => ⟨e, r⟩⟩
  refine PySem.W.items_star (thn hrun fun v s1 ⟨x, H1, I1, r1, e1, rr⟩ => ?_) hs
  cases rr with
  | lst k1 k2 =>
    cases r1
    obtain ⟨its, r, ⟨o, n, ho, hc, _, hd⟩, hz⟩ := I1.list (SqL.of (hide_some.mp k1).2)
    unfold PySem.W.StarOf notIterableAtAll
    have hT : s1.TypeIs (.ref _) "list" := ⟨o, ho, hc⟩
    refine wpAny_bind (wpAny_specialOf hT PySem.F.slot_list_iter.lookup (wpAny_pure ⟨rfl, ?_⟩))
    refine wpAny_collect_seq _ (.inl rfl) ho hc hd (fun h' hk => ?_) (by rw [List.size_toArray, ← r.length]; exact hz)
    have I2 : Inv X pins σ H1 { s1 with heap := h' } := I1.kept (t' := s1.toks) hk
    refine thn (hr.run pos pins { s1 with heap := h' } σ H1 (fun vs H' => Same H1 H' ∧ Rps (hide N H') vs ds) I2 ⟨N, W, T, S.mono e1, fun vs H' e2 r2 => ⟨e2, r2⟩⟩) fun us s2 ⟨vs, H2, I3, rv, e2, r2⟩ => ?_
    exact ⟨_, H2, I3, Vals.append (by simpa using r) rv, q _ H2 (e1.trans e2) ((k2.mono (hide_same e2)).append r2)⟩
end
end DL
namespace DL
open PySem PySem.Spec PyProof.Rows L2
/-! ### statements -/
/-- the box of draws -/
def BoxOk (t : Addr) (H : Hp) (m : Nat) : Prop := ∃ a b c : Int, H t = some (.lst [.int a, .int b, .int c]) ∧ 0 ≤ a ∧ 0 ≤ b ∧ b < 2 ^ 62 ∧ 0 ≤ c ∧ c ≤ m
theorem BoxOk.mono {t : Addr} {H H' : Hp} {m : Nat} (h : BoxOk t H m) (e : Same H H') : BoxOk t H' m := by
  obtain ⟨a, b, c, h1, h2⟩ := h
  exact ⟨a, b, c, e _ _ h1, h2⟩
theorem BoxOk.le {t : Addr} {H : Hp} {m m' : Nat} (h : BoxOk t H m) (e : m ≤ m') : BoxOk t H m' := by
  obtain ⟨a, b, c, h1, h2, h3, h4, h5, h6⟩ := h
  exact ⟨a, b, c, h1, h2, h3, h4, h5, by omega⟩
def BoxO (T : Option Addr) (H : Hp) (m : Nat) : Prop := ∀ t, T = some t → BoxOk t H m
theorem BoxO.mono {T : Option Addr} {H H' : Hp} {m : Nat} (h : BoxO T H m) (e : Same H H') : BoxO T H' m := fun t ht => (h t ht).mono e
theorem BoxO.le {T : Option Addr} {H : Hp} {m m' : Nat} (h : BoxO T H m) (e : m ≤ m') : BoxO T H m' := fun t ht => (h t ht).le e
def tB (m mE : Nat) (env : En) (P : PyData → Prop) : TS := fun D σ H => ∃ N0 N W T, (∀ a ∈ N0, a ∈ N) ∧ (∀ a ∈ W, T ≠ some a → a ∉ N0) ∧ Sta N W T H σ env ∧ BoxO T H m ∧
  ∀ v d H', SameW W H H' → BoxO T H' mE → P d → Rp (hide N0 H') v d → D.rt v H'
def tN (m m' : Nat) (env env' : En) : TS := fun D σ H => ∃ N W T, Sta N W T H σ env ∧ BoxO T H m ∧ ∀ σ' H', σ'.length = σ.length → SameW W H H' → Sta N W T H' σ' env' → BoxO T H' m' → D.nx σ' H'
/-- what is known, weakened -/
def Wk (env env' : En) : Prop := ∀ k e, env'.lookup k = some e → e = .unk ∨ env.lookup k = some e
theorem Wk.refl (env : En) : Wk env env := fun _ _ h => .inr h
theorem wk_nil (env : En) : Wk env [] := fun _ _ h => by cases h
theorem wk_cons {env env' : En} {k : Nat} {e : Ent} (h : env.lookup k = some e) (w : Wk env env') : Wk env ((k, e) :: env') := fun i x hx => by
  rw [lk_cons] at hx
  by_cases hi : i = k
  · rw [if_pos hi] at hx
    rw [hi, ← Option.some.inj hx]
    exact .inr h
  · rw [if_neg hi] at hx
    exact w i x hx
theorem wk_unk {env env' : En} {k : Nat} (w : Wk env env') : Wk env ((k, .unk) :: env') := fun i x hx => by
  rw [lk_cons] at hx
  by_cases hi : i = k
  · rw [if_pos hi] at hx
    exact .inl (Option.some.inj hx).symm
  · rw [if_neg hi] at hx
    exact w i x hx
theorem Sta.wk {N W : List Addr} {T : Option Addr} {H : Hp} {σ : L2.St} {env env' : En} (S : Sta N W T H σ env) (w : Wk env env') : Sta N W T H σ env' := by
  have g : ∀ {k e}, env'.lookup k = some e → e ≠ .unk → env.lookup k = some e := fun {k e} h n => by
    rcases w k e h with z | z
    · exact absurd z n
    · exact z
  refine ⟨S.fr, S.sub, S.tw, ⟨fun i d hi => S.sl.dat i d (g hi (fun z => nomatch z)), fun i ds hi => S.sl.own i ds (g hi (fun z => nomatch z)), fun i j di dj a hi hj => S.sl.inj i j di dj a (g hi (fun z => nomatch z)) (g hj (fun z => nomatch z)), fun i hi => S.sl.box i (g hi (fun z => nomatch z))⟩⟩
section
variable {X : Cx} {env env1 env2 : En} {m m' m1 m2 mE : Nat} {e e2 a b c tg : Expr} {es : List Expr} {d d1 d2 d3 : PyData} {ds : List PyData} {pos p p2 : Pos} {st : Stmt} {rest body : List Stmt} {P : PyData → Prop}
theorem b_cons (h : PS X st (tN m m1 env env1)) (hr : PSs X rest (tB m1 mE env1 P)) : PSs X (st :: rest) (tB m mE env P) :=
  PSs.imp (pss_cons h hr) fun D σ H _ ⟨N0, N, W, T, h1, h2, S, B, q⟩ => ⟨N, W, T, S, B, fun σ' H' _ sw S' B' => ⟨N0, N, W, T, h1, h2, S', B', fun v d H'' sw2 => q v d H'' (sw.trans sw2)⟩⟩
theorem n_cons (h : PS X st (tN m m1 env env1)) (hr : PSs X rest (tN m1 m2 env1 env2)) : PSs X (st :: rest) (tN m m2 env env2) :=
  PSs.imp (pss_cons h hr) fun D σ H _ ⟨N, W, T, S, B, q⟩ => ⟨N, W, T, S, B, fun σ' H' l sw S' B' => ⟨N, W, T, S', B', fun σ'' H'' l2 sw2 => q σ'' H'' (l2.trans l) (sw.trans sw2)⟩⟩
theorem n_one (h : PS X st (tN m m1 env env1)) : PSs X [st] (tN m m1 env env1) := pss_one h
theorem n_nil : PSs X [] (tN m m env env) := PSs.imp pss_nil fun D σ H _ ⟨N, W, T, S, B, q⟩ => q σ H rfl (SameW.refl W H) S B
theorem b_wk (w : Wk env env1) (h : PSs X rest (tB m mE env1 P)) : PSs X rest (tB m mE env P) :=
  PSs.imp h fun D σ H _ ⟨N0, N, W, T, h1, h2, S, B, q⟩ => ⟨N0, N, W, T, h1, h2, S.wk w, B, q⟩
theorem n_wk (w : Wk env1 env2) (h : PS X st (tN m m1 env env1)) : PS X st (tN m m1 env env2) :=
  PS.imp h fun D σ H _ ⟨N, W, T, S, B, q⟩ => ⟨N, W, T, S, B, fun σ' H' l sw S' B' => q σ' H' l sw (S'.wk w) B'⟩
theorem b_ret (h : PE X e (tD env d)) (hP : P d) (hm : m ≤ mE := by omega) : PSs X [.Return (some e) pos] (tB m mE env P) :=
  PSs.imp (pss_one (ps_ret h)) fun D σ H _ ⟨N0, N, W, T, h1, h2, S, B, q⟩ => ⟨N, W, T, S, fun v H' e r => q v d H' (Same.w e) ((B.mono e).le hm) hP (r.mono (hide_less h1 H'))⟩
theorem s_set {i : Nat} {x : Str} {p' : Pos} (h : PE X e (tD env d)) (hi : X.N[i]? = some x := by rfl) (hN : X.N.Nodup := by assumption) (hx : Loc X.env.scope x := by first | exact Or.inl rfl | exact Or.inr rfl) (hs : swapsWith e (some (.Name x p')) pos.line X.env = pure false := by rfl) (hf : X.fn x = true ∨ X.env.scope.names.lookup x = some .local := by first | exact .inl rfl | exact .inr rfl | assumption) :
    PS X (.Assign [.Name x p'] e pos) (tN m m env ((i, .dat d) :: env)) :=
  PS.imp (ps_set hN hi hx h hs hf) fun D σ H hl ⟨N, W, T, S, B, q⟩ => ⟨N, W, T, S, fun v H' e r => q _ H' List.length_set (Same.w e) ((S.mono e).put (by rw [hl]; exact (List.getElem?_eq_some_iff.mp hi).1) r) (B.mono e)⟩
/-- y = [elt for x in .. if ..] on one line, y a local -/
theorem s_setLc {α : Type} {L : List α} {c : α → PyData} {t : α → Bool} {f : α → PyData} {i j : Nat} {x y : Str} {px py spos : Pos} {elt iter : Expr} {ifs : List Expr} {scope : Scope} (hi : PI X (.Name x px) iter (tIt env (L.map c))) (ok : BlkOk X.N X.env.scope scope [(x, j)])
    (hg : ∀ (s : Shared) (H : Hp) (C : Addr) (cl : List (Str × Addr)) (fp : List Addr), PG (X.blk s H scope (compEnvC scope cl C X.env) fp) (.Name x px) (gName j))
    (ht : ∀ (s : Shared) (H : Hp) (C : Addr) (cl : List (Str × Addr)) (fp : List Addr), ∀ a ∈ L, PTs (X.blk s H scope (compEnvC scope cl C X.env) fp) ifs (tT ((j, .dat (c a)) :: env) (t a)))
    (he : ∀ (s : Shared) (H : Hp) (C : Addr) (cl : List (Str × Addr)) (fp : List Addr), ∀ a ∈ L, t a = true → PE (X.blk s H scope (compEnvC scope cl C X.env) fp) elt (tD ((j, .dat (c a)) :: env) (f a)))
    (hz : L.length ≤ 1000000) (hy : X.N[i]? = some y := by rfl) (hN : X.N.Nodup := by assumption) (hyl : X.env.scope.names.lookup y = some .local := by rfl) (hsw : swapsWith (.ListComp elt [⟨.Name x px, iter, ifs, 0⟩] scope pos) (some (.Name y py)) spos.line X.env = pure true := by exact sw_true rfl rfl rfl (by decide +kernel))
    (hc : X.calm = true := by rfl) (hs : ∀ x, foldedSetIterable iter X.env x = pure x := by intro _; rfl) :
    PS X (.Assign [.Name y py] (.ListComp elt [⟨.Name x px, iter, ifs, 0⟩] scope pos) spos) (tN m m env ((i, .dat (.list ((L.filter t).map f))) :: env)) :=
  PS.imp (ps_setLc (tt := lcT L c t env j) (te := lcE L c t f env j) hc hN hy hyl hsw hi ok hg (fun s H C cl fp => PTs.ex fun a ha => ht s H C cl fp a ha) (fun s H C cl fp => PE.ex fun a ha => he s H C cl fp a ha.1 ha.2) hs)
    fun D σ H hl ⟨N, W, T, S, B, q⟩ => lc_read (by rw [hl]; exact (List.getElem?_eq_some_iff.mp (ok.ix (x, j) (by simp))).1) hz ⟨N, W, T, S, fun v H' e r => q _ H' List.length_set (Same.w e) ((S.mono e).put (by rw [hl]; exact (List.getElem?_eq_some_iff.mp hy).1) r) (B.mono e)⟩
theorem s_setLcm {α : Type} {L : List α} {c : α → PyData} {f : α → PyData} {i j : Nat} {x y : Str} {px py spos : Pos} {elt iter : Expr} {scope : Scope} (hi : PI X (.Name x px) iter (tIt env (L.map c))) (ok : BlkOk X.N X.env.scope scope [(x, j)])
    (hg : ∀ (s : Shared) (H : Hp) (C : Addr) (cl : List (Str × Addr)) (fp : List Addr), PG (X.blk s H scope (compEnvC scope cl C X.env) fp) (.Name x px) (gName j))
    (he : ∀ (s : Shared) (H : Hp) (C : Addr) (cl : List (Str × Addr)) (fp : List Addr), ∀ a ∈ L, PE (X.blk s H scope (compEnvC scope cl C X.env) fp) elt (tD ((j, .dat (c a)) :: env) (f a)))
    (hz : L.length ≤ 1000000) (hy : X.N[i]? = some y := by rfl) (hN : X.N.Nodup := by assumption) (hyl : X.env.scope.names.lookup y = some .local := by rfl) (hsw : swapsWith (.ListComp elt [⟨.Name x px, iter, [], 0⟩] scope pos) (some (.Name y py)) spos.line X.env = pure true := by exact sw_true rfl rfl rfl (by decide +kernel))
    (hc : X.calm = true := by rfl) (hs : ∀ x, foldedSetIterable iter X.env x = pure x := by intro _; rfl) :
    PS X (.Assign [.Name y py] (.ListComp elt [⟨.Name x px, iter, [], 0⟩] scope pos) spos) (tN m m env ((i, .dat (.list (L.map f))) :: env)) := by
  have h := s_setLc (m := m) (t := fun _ => true) (pos := pos) hi ok hg (fun _ _ _ _ _ _ _ => ts_nil) (fun s H C cl fp a ha _ => he s H C cl fp a ha) hz hy hN hyl hsw hc hs
  rw [List.filter_eq_self.mpr (fun _ _ => rfl)] at h
  exact h
/-- x, y = a tuple -/
theorem s_un2 {i j : Nat} {x y : Str} {px py tp : Pos} {kk : Nat} (h : PE X e (tD env (.tuple [d1, d2]))) (hij : i ≠ j := by decide) (hi : X.N[i]? = some x := by rfl) (hj : X.N[j]? = some y := by rfl) (hN : X.N.Nodup := by assumption) (hx : Loc X.env.scope x := by first | exact Or.inl rfl | exact Or.inr rfl) (hy : Loc X.env.scope y := by first | exact Or.inl rfl | exact Or.inr rfl)
    (hf : X.fn x = true ∨ X.env.scope.names.lookup x = some .local := by first | exact .inl rfl | exact .inr rfl) (hf2 : X.fn y = true ∨ X.env.scope.names.lookup y = some .local := by first | exact .inl rfl | exact .inr rfl) (hc : X.calm = true := by rfl)
    (hn : (assignEach [.Name x px, .Name y py] X.env).length = 2 := by rfl) (hst : (assignEach [.Name x px, .Name y py] X.env).findIdx? (·.1) = none := by rfl)
    (h2 : (assignEach [.Name x px, .Name y py] X.env).map (·.2) = assign (.Name x px) X.env :: (assignEach [.Name y py] X.env).map (·.2) := by rfl) (h3 : (assignEach [.Name y py] X.env).map (·.2) = assign (.Name y py) X.env :: (assignEach [] X.env).map (·.2) := by rfl)
    (hs : swapsWithSole [.Tuple [.Name x px, .Name y py] kk tp] e pos.line X.env = pure false := by rfl) (hw : swappedStores [.Tuple [.Name x px, .Name y py] kk tp] e X.env = pure none := by rfl)
    (h1 : (assignEach [.Tuple [.Name x px, .Name y py] kk tp] X.env).map (·.2) = [assign (.Tuple [.Name x px, .Name y py] kk tp) X.env] := by rfl) :
    PS X (.Assign [.Tuple [.Name x px, .Name y py] kk tp] e pos) (tN m m env ((j, .dat d2) :: (i, .dat d1) :: env)) :=
  PS.imp (ps_asg h (pg_tup (n := 2) hc (pgs_cons (pg_name hN hi hx hf) (pgs_cons (pg_name hN hj hy hf2) pgs_nil h3) h2) hn hst) hs hw h1) fun D σ H hl ⟨N, W, T, S, B, q⟩ => ⟨N, W, T, S, fun v H' e r => by
    cases r with
    | tup g1 g2 =>
      obtain ⟨u, w, rfl, k1, k2⟩ := g2.two
      refine ⟨_, _, rfl, SqT.of (hide_some.mp g1).2, rfl, u, _, rfl, w, _, rfl, rfl, q _ H' (by rw [List.length_set, List.length_set]) (Same.w e) (((S.mono e).put ?_ k1).put ?_ k2) (B.mono e)⟩
      · rw [hl]; exact (List.getElem?_eq_some_iff.mp hi).1
      · rw [List.length_set, hl]; exact (List.getElem?_eq_some_iff.mp hj).1⟩
/-- x, y = a, b : locals -/
theorem s_par {i j : Nat} {x y : Str} {px py pt : Pos} {kt k2 : Nat} {pt2 : Pos} (ha : PA X [a, b] (tA env [d1, d2])) (hi : X.N[i]? = some x := by rfl) (hj : X.N[j]? = some y := by rfl) (hij : i ≠ j := by decide) (hN : X.N.Nodup := by assumption)
    (hx : X.env.scope.names.lookup x = some .local := by rfl) (hy : X.env.scope.names.lookup y = some .local := by rfl) (hc : X.calm = true := by rfl)
    (hw : swappedStores [.Tuple [.Name x px, .Name y py] kt pt] (.Tuple [a, b] k2 pt2) X.env = pure (some [x, y]) := by rfl)
    (hs : swapsWithSole [.Tuple [.Name x px, .Name y py] kt pt] (.Tuple [a, b] k2 pt2) pos.line X.env = pure false := by rfl) :
    PS X (.Assign [.Tuple [.Name x px, .Name y py] kt pt] (.Tuple [a, b] k2 pt2) pos) (tN m m env ((j, .dat d2) :: (i, .dat d1) :: env)) :=
  PS.imp (ps_par hc hN hi hj hij hx hy ha hw hs) fun D σ H hl ⟨N, W, T, S, B, q⟩ => ⟨N, W, T, S, fun vs H' e r => by
    obtain ⟨u, w, rfl, k1, k2⟩ := r.two
    refine ⟨u, w, rfl, q _ H' (by rw [List.length_set, List.length_set]) (Same.w e) (((S.mono e).put ?_ k1).put ?_ k2) (B.mono e)⟩
    · rw [hl]; exact (List.getElem?_eq_some_iff.mp hi).1
    · rw [List.length_set, hl]; exact (List.getElem?_eq_some_iff.mp hj).1⟩
/-- if c: return .. -/
theorem b_if {k : Bool} (h : PT X c (tT env k)) (h1 : k = true → PSs X body (tB m mE env P)) (h2 : k = false → PSs X rest (tB m mE env P)) : PSs X (.If c body [] pos :: rest) (tB m mE env P) := by
  cases k with
  | true =>
    refine PSs.imp (pss_cons (u := fun _ _ _ => False) (ps_if h (h1 rfl) (b := []) (u := tNever) pss_never) pss_never) fun D σ H _ ⟨N0, N, W, T, s1, s2, S, B, q⟩ => ⟨N, W, T, S, fun H' e => ?_⟩
    show tB m mE env P _ σ H'
    exact ⟨N0, N, W, T, s1, s2, S.mono e, B.mono e, fun v d H'' sw => q v d H'' ((Same.w e).trans sw)⟩
  | false =>
    refine PSs.imp (pss_cons (ps_if h (a := body) (t := tNever) pss_never pss_nil) (h2 rfl)) fun D σ H _ ⟨N0, N, W, T, s1, s2, S, B, q⟩ => ⟨N, W, T, S, fun H' e => ?_⟩
    show tB m mE env P _ σ H'
    exact ⟨N0, N, W, T, s1, s2, S.mono e, B.mono e, fun v d H'' sw => q v d H'' ((Same.w e).trans sw)⟩
/-- if c: .. (goes on) -/
theorem s_if {k : Bool} (h : PT X c (tT env k)) (h1 : k = true → PSs X body (tN m m1 env env1)) (h2 : k = false → Wk env env1 ∧ m ≤ m1) : PS X (.If c body [] pos) (tN m m1 env env1) := by
  cases k with
  | true =>
    refine PS.imp (ps_if h (h1 rfl) (b := []) (u := tNever) pss_never) fun D σ H _ ⟨N, W, T, S, B, q⟩ => ⟨N, W, T, S, fun H' e => ?_⟩
    show tN m m1 env env1 _ σ H'
    exact ⟨N, W, T, S.mono e, B.mono e, fun σ' H'' l sw => q σ' H'' l ((Same.w e).trans sw)⟩
  | false =>
    refine PS.imp (ps_if h (a := body) (t := tNever) pss_never pss_nil) fun D σ H _ ⟨N, W, T, S, B, q⟩ => ⟨N, W, T, S, fun H' e => ?_⟩
    show D.nx σ H'
    exact q σ H' rfl (Same.w e) ((S.mono e).wk (h2 rfl).1) ((B.mono e).le (h2 rfl).2)
theorem ns_wk (w : Wk env1 env2) (h : PSs X body (tN m m1 env env1)) : PSs X body (tN m m1 env env2) :=
  PSs.imp h fun D σ H _ ⟨N, W, T, S, B, q⟩ => ⟨N, W, T, S, B, fun σ' H' l sw S' B' => q σ' H' l sw (S'.wk w) B'⟩
/-- for x in ..: a body that goes on; the world at turn i is E i -/
theorem s_for {α : Type} {L : List α} {c : α → PyData} {j : Nat} {x : Str} {px : Pos} {iter : Expr} (E : Nat → En) (hi : PI X (.Name x px) iter (tIt env (L.map c))) (h0 : Wk env (E 0))
    (hb : ∀ i a, L[i]? = some a → PSs X body (tN m m ((j, .dat (c a)) :: E i) (E (i + 1)))) (hp : PassesOwn (model X.prog X.w) X.A X.env X.xe) (hN : X.N.Nodup := by assumption) (hj : X.N[j]? = some x := by rfl) (hx : Loc X.env.scope x := by first | exact Or.inl rfl | exact Or.inr rfl) (hf : X.fn x = true ∨ X.env.scope.names.lookup x = some .local := by first | exact .inl rfl | exact .inr rfl) (hc : X.calm = true := by rfl)
    (hs : ∀ x, foldedSetIterable iter X.env x = pure x := by intro _; rfl) : PS X (.For (.Name x px) iter body [] pos) (tN m m env (E L.length)) := by
  have hbody : PSs X body (fun D σ H => ∃ z : Nat × α, L[z.1]? = some z.2 ∧ tN m m ((j, .dat (c z.2)) :: E z.1) (E (z.1 + 1)) D σ H) := PSs.ex fun z hz => hb z.1 z.2 hz
  refine PS.imp (ps_for hp hc hi (pg_name hN hj hx hf) hbody hs) fun D σ H hl ⟨N, W, T, S, B, q⟩ => ⟨N, W, T, S, fun J H1 e1 walk => ?_⟩
  have hjl : j < X.N.length := (List.getElem?_eq_some_iff.mp hj).1
  refine ⟨fun i k σ' H' => k = L.length - i ∧ i ≤ L.length ∧ SameW W H1 H' ∧ Sta N W T H' σ' (E i) ∧ BoxO T H' m ∧ σ'.length = σ.length, ⟨L.length, rfl, Nat.zero_le _, SameW.refl W H1, (S.mono e1).wk h0, B.mono e1, rfl⟩, ?_⟩
  rintro i k σ' H' ⟨rfl, hil, sw, S', B', hl'⟩
  obtain ⟨w1, w2⟩ := walk i H' N (sw.hide S.sub) S'.fr
  by_cases hlt : i < L.length
  · have hget : L[i]? = some L[i] := List.getElem?_eq_getElem hlt
    obtain ⟨go, yl⟩ := w1 (c L[i]) (by rw [List.getElem?_map, hget]; rfl)
    refine .inr ⟨go, fun σ2 H2 => i + 1 ≤ L.length ∧ SameW W H1 H2 ∧ Sta N W T H2 σ2 (E (i + 1)) ∧ BoxO T H2 m ∧ σ2.length = σ.length, fun σ2 H2 z => ⟨L.length - (i + 1), by omega, rfl, z⟩, fun v H2 y => ?_⟩
    obtain ⟨e3, rx⟩ := yl v H2 y
    refine ⟨(i, L[i]), hget, N, W, T, (S'.mono e3).put (by rw [hl', hl]; exact hjl) rx, B'.mono e3, fun σ3 H3 l3 sw3 S3 B3 => ⟨hlt, (sw.trans (Same.w e3)).trans sw3, S3, B3, ?_⟩⟩
    rw [l3, List.length_set, hl']
  · have ei : i = L.length := by omega
    subst ei
    exact .inl ⟨w2 (by rw [List.length_map]; exact Nat.le_refl _), q σ' H' hl' ((Same.w e1).trans sw) S' B'⟩
/-! ### lists of one's own -/
theorem Sta.putO {N W : List Addr} {T : Option Addr} {H : Hp} {σ : L2.St} {i : Nat} {a : Addr} {xs : List V} (S : Sta N W T H σ env) (hi : i < σ.length) (ha : a ∈ W) (hT : T ≠ some a) (hH : H a = some (.lst xs)) (r : Rps (hide N H) xs ds)
    (hne : ∀ j dj, env.lookup j = some (.own dj) → j ≠ i → σ[j]? ≠ some (some (.ref a))) : Sta N W T H (σ.set i (some (.ref a))) ((i, .own ds) :: env) := by
  refine ⟨S.fr, S.sub, S.tw, ⟨fun k d' hk => ?_, fun k ds' hk => ?_, fun k l dk dl b hk hl ek el => ?_, fun k hk => ?_⟩⟩
  · rw [lk_cons] at hk
    by_cases h : k = i
    · rw [if_pos h] at hk
      cases hk
    · rw [if_neg h] at hk
      obtain ⟨w, h1, h2⟩ := S.sl.dat k d' hk
      exact ⟨w, by rw [List.getElem?_set_ne (Ne.symm h)]; exact h1, h2⟩
  · rw [lk_cons] at hk
    by_cases h : k = i
    · rw [if_pos h] at hk
      cases hk
      subst h
      exact ⟨a, xs, List.getElem?_set_self hi, ha, hT, hH, r⟩
    · rw [if_neg h] at hk
      obtain ⟨b, ys, h1, h2⟩ := S.sl.own k ds' hk
      exact ⟨b, ys, by rw [List.getElem?_set_ne (Ne.symm h)]; exact h1, h2⟩
  · rw [lk_cons] at hk hl
    by_cases h : k = i
    · by_cases h' : l = i
      · rw [h, h']
      · rw [if_neg h'] at hl
        rw [List.getElem?_set_ne (Ne.symm h')] at el
        rw [h, List.getElem?_set_self hi] at ek
        have eb : V.ref a = V.ref b := Option.some.inj (Option.some.inj ek)
        rw [← eb] at el
        exact absurd el (hne l dl hl h')
    · rw [if_neg h] at hk
      rw [List.getElem?_set_ne (Ne.symm h)] at ek
      by_cases h' : l = i
      · rw [h', List.getElem?_set_self hi] at el
        have eb : V.ref a = V.ref b := Option.some.inj (Option.some.inj el)
        rw [← eb] at ek
        exact absurd ek (hne k dk hk h)
      · rw [if_neg h'] at hl
        rw [List.getElem?_set_ne (Ne.symm h')] at el
        exact S.sl.inj k l dk dl b hk hl ek el
  · rw [lk_cons] at hk
    by_cases h : k = i
    · rw [if_pos h] at hk
      cases hk
    · rw [if_neg h] at hk
      obtain ⟨t, h1, h2⟩ := S.sl.box k hk
      exact ⟨t, h1, by rw [List.getElem?_set_ne (Ne.symm h)]; exact h2⟩
/-- x = a new list (of these data): from here on x is one's own -/
theorem b_newAt {t : TE} {i : Nat} {x : Str} {p' : Pos} (h : PE X e t) (hread : ∀ σ H Q N W T, Sta N W T H σ env → (∀ xs p H', Same H H' → H p = none → H' p = some (.lst xs) → Rps (hide (p :: N) H') xs ds → Q (.ref p) H') → t σ H Q)
    (hr : PSs X rest (tB m mE ((i, .own ds) :: env) P)) (hi : X.N[i]? = some x := by rfl) (hN : X.N.Nodup := by assumption) (hx : Loc X.env.scope x := by first | exact Or.inl rfl | exact Or.inr rfl) (hs : swapsWith e (some (.Name x p')) pos.line X.env = pure false := by rfl) (hf : X.fn x = true ∨ X.env.scope.names.lookup x = some .local := by first | exact .inl rfl | exact .inr rfl | assumption) :
    PSs X (.Assign [.Name x p'] e pos :: rest) (tB m mE env P) :=
  PSs.imp (pss_cons (ps_set hN hi hx h hs hf) hr) fun D σ H hl ⟨N0, N, W, T, h1, h2, S, B, q⟩ => hread σ H _ N W T S fun xs p H' e hp hp' r => by
    have nD : H' p ≠ none := by rw [hp']; exact fun z => nomatch z
    have S1 : Sta (p :: N) W T H' σ env := S.under e hp nD
    have S2 : Sta (p :: N) (p :: W) T H' σ env := ⟨S1.fr, fun b hb => by
      rcases List.mem_cons.mp hb with rfl | hb
      · exact List.mem_cons_self
      · exact S1.sub b hb, fun t ht => List.mem_cons_of_mem _ (S1.tw t ht), ⟨S1.sl.dat, fun k dk hk => by
        obtain ⟨b, ys, a1, a2, a3⟩ := S1.sl.own k dk hk
        exact ⟨b, ys, a1, List.mem_cons_of_mem _ a2, a3⟩, S1.sl.inj, S1.sl.box⟩⟩
    have pW : p ∉ W := fun z => S.fr p (S.sub p z) hp
    have S3 := S2.putO (ds := ds) (i := i) (by rw [hl]; exact (List.getElem?_eq_some_iff.mp hi).1) List.mem_cons_self (fun z => pW (S.tw p z)) hp' r (fun j dj hj _ ej => by
      obtain ⟨b, ys, a1, a2, _⟩ := S.sl.own j dj hj
      rw [a1] at ej
      have eb : V.ref b = V.ref p := Option.some.inj (Option.some.inj ej)
      have eb' : b = p := V.ref.inj eb
      exact pW (eb' ▸ a2))
    refine ⟨N0, p :: N, p :: W, T, fun b hb => List.mem_cons_of_mem _ (h1 b hb), fun b hb hT => ?_, S3, B.mono e, fun v d H'' sw B'' hP r' => q v d H'' (fun b o hb hbo => ?_) B'' hP r'⟩
    · rcases List.mem_cons.mp hb with rfl | hb
      · exact fun z => not_in S.fr hp (h1 _ z)
      · exact h2 b hb hT
    · refine sw b o (fun z => ?_) (e b o hbo)
      rcases List.mem_cons.mp z with rfl | z
      · rw [hp] at hbo
        cases hbo
      · exact hb z
theorem b_new {i : Nat} {x : Str} {p' : Pos} (ha : PA X es (tA env ds)) (hz : ds.length ≤ sizeLine) (hr : PSs X rest (tB m mE ((i, .own ds) :: env) P)) (hi : X.N[i]? = some x := by rfl) (hN : X.N.Nodup := by assumption) (hx : Loc X.env.scope x := by first | exact Or.inl rfl | exact Or.inr rfl) (hs : swapsWith (.List es p) (some (.Name x p')) pos.line X.env = pure false := by rfl) (hf : X.fn x = true ∨ X.env.scope.names.lookup x = some .local := by first | exact .inl rfl | exact .inr rfl | assumption) :
    PSs X (.Assign [.Name x p'] (.List es p) pos :: rest) (tB m mE env P) :=
  b_newAt (pe_lst ha) (fun σ H Q N W T S q => ⟨N, W, T, S, fun vs H' e r => ⟨by rw [r.length]; exact hz, fun p hp => q vs p _ (e.trans (same_new hp)) (e.free hp) upd_same (r.mono (hide_cons (same_new hp) hp))⟩⟩) hr hi hN hx hs hf
/-- x.append(e), x one's own -/
theorem s_app {i : Nat} {x : Str} {px ap cp : Pos} (hk : env.lookup i = some (.own ds)) (h : PE X e (tD env d)) (hz : ds.length < sizeLine) (hi : X.N[i]? = some x := by rfl) (hv : Vis X.env.scope x := by first | exact Or.inl rfl | exact Or.inr (Or.inl rfl) | exact Or.inr (Or.inr rfl)) (hd : (x == ("__debug__" : Str)) = false := by decide) (hcd : (x == ("__classdict__" : Str)) = false := by decide)
    (hbase : attributeBase (.Name x px) "append" X.env (eval (.Name x px) X.env) = eval (.Name x px) X.env := by rfl)
    (hfew : ((backTo cp (starEach [e] X.env)).all (fun x => !x.1) && (backToKw cp (keywordEach [] X.env)).all (fun x => x.1.isSome)
      && decide (([e] : List Expr).length + ([] : List Keyword).length + (if ([] : List Keyword).isEmpty then 0 else 1) < 30)) = true := by rfl)
    (hline : (ap.endLine == cp.line) = true := by rfl) (hst : starEach [e] X.env = (false, eval e X.env) :: starEach [] X.env := by rfl) (hplain : (backTo cp (starEach [] X.env)).any (·.1) = false := by rfl)
    (hsw : swapsWith (.Call (.Attribute (.Name x px) "append" ap) [e] [] cp) none pos.line X.env = pure false := by rfl) :
    PS X (.Expr (.Call (.Attribute (.Name x px) "append" ap) [e] [] cp) pos) (tN m m env ((i, .own (ds ++ [d])) :: env)) :=
  PS.imp (ps_expr (pe_bm PySem.F.plainAttrs_list PySem.F.slot_list_append PySem.F.type_list_append mt_append (pe_var hi hv hd hcd) (pa_cons h pa_nil hst) hbase hfew hline hst hplain) hsw) fun D σ H hl ⟨N, W, T, S, B, q⟩ => by
    obtain ⟨a, xs, g1, g2, g3, g4, g5⟩ := S.sl.own i ds hk
    refine ⟨_, g1, .inl ⟨rfl, xs, SqL.of g4⟩, N, W, T, S, fun v H' e r => ⟨a, xs, v, rfl, rfl, e _ _ g4, by rw [g5.length]; exact hz, ?_⟩⟩
    have S1 := S.mono e
    have aN : a ∈ N := S.sub a g2
    have hk' : Same (hide N H') (hide N (upd H' a (.lst (xs ++ [v])))) := fun b o hb => by
      obtain ⟨b1, b2⟩ := hide_some.mp hb
      exact hide_some.mpr ⟨b1, by rw [upd_ne (fun z => b1 (by rw [z]; exact aN))]; exact b2⟩
    have sw' : SameW W H' (upd H' a (.lst (xs ++ [v]))) := fun b o hb hbo => by
      rw [upd_ne (fun z => hb (by rw [z]; exact g2))]
      exact hbo
    have eσ : σ.set i (some (.ref a)) = σ := by
      apply List.ext_getElem?
      intro k
      by_cases hik : k = i
      · rw [hik, List.getElem?_set_self (by rw [hl]; exact (List.getElem?_eq_some_iff.mp hi).1), g1]
      · rw [List.getElem?_set_ne (Ne.symm hik)]
    have S2 : Sta N W T (upd H' a (.lst (xs ++ [v]))) σ ((i, .unk) :: env) := by
      refine ⟨fun b hb => ?_, S1.sub, S1.tw, ⟨fun k d' hkk => ?_, fun k ds' hkk => ?_, fun k l dk dl b hkk hll => ?_, fun k hkk => ?_⟩⟩
      · by_cases hba : b = a
        · rw [hba, upd_same]
          exact fun z => nomatch z
        · rw [upd_ne hba]
          exact S1.fr b hb
      · rw [lk_cons] at hkk
        by_cases hki : k = i
        · rw [if_pos hki] at hkk
          cases hkk
        · rw [if_neg hki] at hkk
          obtain ⟨w, a1, a2⟩ := S1.sl.dat k d' hkk
          exact ⟨w, a1, a2.mono hk'⟩
      · rw [lk_cons] at hkk
        by_cases hki : k = i
        · rw [if_pos hki] at hkk
          cases hkk
        · rw [if_neg hki] at hkk
          obtain ⟨b, ys, a1, a2, a3, a4, a5⟩ := S1.sl.own k ds' hkk
          have hba : b ≠ a := fun z => hki (S.sl.inj k i ds' ds a hkk hk (z ▸ a1) g1)
          exact ⟨b, ys, a1, a2, a3, by rw [upd_ne hba]; exact a4, a5.mono hk'⟩
      · rw [lk_cons] at hkk hll
        by_cases hki : k = i
        · rw [if_pos hki] at hkk
          cases hkk
        · by_cases hli : l = i
          · rw [if_pos hli] at hll
            cases hll
          · rw [if_neg hki] at hkk
            rw [if_neg hli] at hll
            exact S1.sl.inj k l dk dl b hkk hll
      · rw [lk_cons] at hkk
        by_cases hki : k = i
        · rw [if_pos hki] at hkk
          cases hkk
        · rw [if_neg hki] at hkk
          exact S1.sl.box k hkk
    have S3 := S2.putO (ds := ds ++ [d]) (i := i) (a := a) (xs := xs ++ [v]) (by rw [hl]; exact (List.getElem?_eq_some_iff.mp hi).1) g2 g3 upd_same (((g5.mono (hide_same e)).mono hk').append (.cons (r.mono hk') .nil)) (fun j dj hj hji ej => by
      rw [lk_cons, if_neg hji] at hj
      exact hji (S.sl.inj j i dj ds a hj hk ej g1))
    rw [eσ] at S3
    refine q σ _ rfl ((Same.w e).trans sw') (S3.wk ?_) (fun t ht => ?_)
    · intro k y hy
      rw [lk_cons] at hy ⊢
      by_cases hki : k = i
      · rw [if_pos hki] at hy ⊢
        exact .inr hy
      · rw [if_neg hki] at hy ⊢
        rw [lk_cons, if_neg hki]
        exact .inr hy
    · obtain ⟨u1, u2, u3, hu, hu'⟩ := B.mono e t ht
      exact ⟨u1, u2, u3, by rw [upd_ne (fun z => g3 (by rw [ht, z]))]; exact hu, hu'⟩
/-- one's own list is a datum from here on -/
theorem b_freeze (i : Nat) (hk : env.lookup i = some (.own ds)) (h : PSs X rest (tB m mE ((i, .dat (.list ds)) :: env) P)) : PSs X rest (tB m mE env P) :=
  PSs.imp h fun D σ H _ ⟨N0, N, W, T, h1, h2, S, B, q⟩ => by
    obtain ⟨a, xs, g1, g2, g3, g4, g5⟩ := S.sl.own i ds hk
    have hm : ∀ b, b ∈ N.filter (fun b => decide (b ≠ a)) ↔ b ∈ N ∧ b ≠ a := fun b => by rw [List.mem_filter, decide_eq_true_eq]
    have hw : ∀ b, b ∈ W.filter (fun b => decide (b ≠ a)) ↔ b ∈ W ∧ b ≠ a := fun b => by rw [List.mem_filter, decide_eq_true_eq]
    have hk' : Same (hide N H) (hide (N.filter fun b => decide (b ≠ a)) H) := hide_less (fun b hb => ((hm b).mp hb).1) H
    refine ⟨N0, N.filter (fun b => decide (b ≠ a)), W.filter (fun b => decide (b ≠ a)), T, fun b hb => (hm b).mpr ⟨h1 b hb, fun z => h2 a g2 g3 (z ▸ hb)⟩, fun b hb hT => h2 b ((hw b).mp hb).1 hT, ⟨fun b hb => S.fr b ((hm b).mp hb).1, fun b hb => (hm b).mpr ⟨S.sub b ((hw b).mp hb).1, ((hw b).mp hb).2⟩, fun t ht => (hw t).mpr ⟨S.tw t ht, fun z => g3 (by rw [ht, z])⟩, ⟨fun k d' hkk => ?_, fun k ds' hkk => ?_, fun k l dk dl b hkk hll => ?_, fun k hkk => ?_⟩⟩, B, fun v d H' sw B' hP r => q v d H' (sw.more fun b hb => ((hw b).mp hb).1) B' hP r⟩
    · rw [lk_cons] at hkk
      by_cases hki : k = i
      · rw [if_pos hki] at hkk
        cases hkk
        rw [hki]
        exact ⟨_, g1, .lst (hide_some.mpr ⟨fun z => ((hm a).mp z).2 rfl, g4⟩) (g5.mono hk')⟩
      · rw [if_neg hki] at hkk
        obtain ⟨w, a1, a2⟩ := S.sl.dat k d' hkk
        exact ⟨w, a1, a2.mono hk'⟩
    · rw [lk_cons] at hkk
      by_cases hki : k = i
      · rw [if_pos hki] at hkk
        cases hkk
      · rw [if_neg hki] at hkk
        obtain ⟨b, ys, a1, a2, a3, a4, a5⟩ := S.sl.own k ds' hkk
        have hba : b ≠ a := fun z => hki (S.sl.inj k i ds' ds a hkk hk (z ▸ a1) g1)
        exact ⟨b, ys, a1, (hw b).mpr ⟨a2, hba⟩, a3, a4, a5.mono hk'⟩
    · rw [lk_cons] at hkk hll
      by_cases hki : k = i
      · rw [if_pos hki] at hkk
        cases hkk
      · by_cases hli : l = i
        · rw [if_pos hli] at hll
          cases hll
        · rw [if_neg hki] at hkk
          rw [if_neg hli] at hll
          exact S.sl.inj k l dk dl b hkk hll
    · rw [lk_cons] at hkk
      by_cases hki : k = i
      · rw [if_pos hki] at hkk
        cases hkk
      · rw [if_neg hki] at hkk
        exact S.sl.box k hkk
end
/-! ### a def by its body -/
def argE : Nat → List PyData → En
  | _, [] => []
  | i, d :: ds => (i, .dat d) :: argE (i + 1) ds
theorem argE_get : ∀ (ds : List PyData) (i k : Nat) (e : Ent), (argE i ds).lookup k = some e → ∃ d j, k = i + j ∧ ds[j]? = some d ∧ e = .dat d
  | [], _, _, _, h => by cases h
  | d :: ds, i, k, e, h => by
    unfold argE at h
    rw [lk_cons] at h
    by_cases hk : k = i
    · rw [if_pos hk] at h
      exact ⟨d, 0, hk, rfl, (Option.some.inj h).symm⟩
    · rw [if_neg hk] at h
      obtain ⟨d', j, h1, h2, h3⟩ := argE_get ds (i + 1) k e h
      exact ⟨d', j + 1, by omega, by simpa using h2, h3⟩
theorem sta_start {Nm : List Str} {N : List Addr} {H : Hp} {vs : List V} {ds : List PyData} (f : ∀ a ∈ N, H a ≠ none) (r : Rps (hide N H) vs ds) : Sta N [] none H (start Nm vs) (argE 0 ds) := by
  refine ⟨f, (fun _ h => (by cases h)), (fun _ h => (by cases h)), ⟨fun i d h => ?_, fun i d h => ?_, fun i j di dj a h => ?_, fun i h => ?_⟩⟩
  · obtain ⟨d', j, h1, h2, h3⟩ := argE_get ds 0 i _ h
    cases h3
    obtain ⟨v, k1, k2⟩ := r.get h2
    have e : i = j := by omega
    subst e
    refine ⟨v, ?_, k2⟩
    have hl : i < vs.length := (List.getElem?_eq_some_iff.mp k1).1
    unfold L2.start
    rw [List.getElem?_append_left (by rw [List.length_map]; exact hl), List.getElem?_map, k1]
    rfl
  · obtain ⟨d', j, h1, h2, h3⟩ := argE_get ds 0 i _ h
    cases h3
  · obtain ⟨d', j, h1, h2, h3⟩ := argE_get ds 0 i _ h
    cases h3
  · obtain ⟨d', j, h1, h2, h3⟩ := argE_get ds 0 i _ h
    cases h3
section
variable {P : Program} {w : World} {K : PySem.W.Frag} {mg : Str → Option Value} {base : Heap}
theorem ok_D {R : List PyData → PyData → Prop} {x qual : Str} {st : Stmt} {f : Addr} {fd : FuncData} {Nm ps : List Str} {k : Nat} (F : Fun K x qual st f fd) (S : FnScope Nm ps (defScope st)) (len : ∀ ds d, R ds d → ds.length = ps.length)
    (hb : ∀ (cdv : Value) (A : Around) (outer : List Env) (s : Shared) (H : Hp) (E : XK) (ds : List PyData) (d : PyData), Room k (A.deeper (envOfC qual (defScope st) s.heap.objs.size f cdv)) → R ds d →
      PSs (cxOf CX0 P w K mg base Nm qual (defScope st) f cdv A outer s H E).nox (defBody st) (tB 0 0 (argE 0 ds) (fun z => z = d))) : FnOk P w K mg base CX0 (k + 1) f fd ps (spD R) := by
  refine F.ok S (fun vs H Q E h => ?_) (fun cdv A outer s H vs Q E hr h => ?_)
  · obtain ⟨N, ds, d, _, r, hR, _⟩ := h
    rw [r.length]
    exact len ds d hR
  · obtain ⟨N, ds, d, f', r, hR, q⟩ := h
    refine ⟨_, hb cdv A outer s H E ds d hr hR, N, N, [], none, fun _ h => h, (fun _ h => (by cases h)), sta_start f' r, (fun _ h => (by cases h)), fun v z H' sw _ hz rv => ?_⟩
    subst hz
    exact q v H' sw.same rv
end
end DL
namespace DL
open PySem PySem.Spec PyProof.Rows L2
/-! ### the text by places -/
def topS (i : Nat) : Stmt := PySem.Challenge.pw_sendershade_k03_whole_nets_and_hidden_ro.main.body.getD i (.Pass ⟨0, 0, 0, 0⟩)
abbrev s_is_number : Stmt := topS 5
theorem sc_is_number : FnScope ["thing"] ["thing"] (defScope s_is_number) := ⟨rfl, rfl, rfl, by decide +kernel, rfl, by decide +kernel, by decide +kernel⟩
abbrev s_is_count : Stmt := topS 6
theorem sc_is_count : FnScope ["thing"] ["thing"] (defScope s_is_count) := ⟨rfl, rfl, rfl, by decide +kernel, rfl, by decide +kernel, by decide +kernel⟩
abbrev s_is_below : Stmt := topS 7
theorem sc_is_below : FnScope ["thing", "many"] ["thing", "many"] (defScope s_is_below) := ⟨rfl, rfl, rfl, by decide +kernel, rfl, by decide +kernel, by decide +kernel⟩
abbrev s_is_tuple_of : Stmt := topS 8
theorem sc_is_tuple_of : FnScope ["thing", "size"] ["thing", "size"] (defScope s_is_tuple_of) := ⟨rfl, rfl, rfl, by decide +kernel, rfl, by decide +kernel, by decide +kernel⟩
abbrev s_ascends : Stmt := topS 9
theorem sc_ascends : FnScope ["thing", "near", "far"] ["thing"] (defScope s_ascends) := ⟨rfl, rfl, rfl, by decide +kernel, rfl, by decide +kernel, by decide +kernel⟩
abbrev s_is_number_set : Stmt := topS 10
theorem sc_is_number_set : FnScope ["thing", "many", "part"] ["thing", "many"] (defScope s_is_number_set) := ⟨rfl, rfl, rfl, by decide +kernel, rfl, by decide +kernel, by decide +kernel⟩
abbrev s_is_rest : Stmt := topS 12
theorem sc_is_rest : FnScope ["net", "thing"] ["net", "thing"] (defScope s_is_rest) := ⟨rfl, rfl, rfl, by decide +kernel, rfl, by decide +kernel, by decide +kernel⟩
abbrev s_is_spot : Stmt := topS 13
theorem sc_is_spot : FnScope ["net", "thing"] ["net", "thing"] (defScope s_is_spot) := ⟨rfl, rfl, rfl, by decide +kernel, rfl, by decide +kernel, by decide +kernel⟩
abbrev s_all_spots : Stmt := topS 14
theorem sc_all_spots : FnScope ["net", "people", "houses", "house", "person"] ["net"] (defScope s_all_spots) := ⟨rfl, rfl, rfl, by decide +kernel, rfl, by decide +kernel, by decide +kernel⟩
abbrev s_is_steady : Stmt := topS 15
theorem sc_is_steady : FnScope ["rest", "spot"] ["rest", "spot"] (defScope s_is_steady) := ⟨rfl, rfl, rfl, by decide +kernel, rfl, by decide +kernel, by decide +kernel⟩
abbrev s_steady_people : Stmt := topS 16
theorem sc_steady_people : FnScope ["net", "rest", "person"] ["net", "rest"] (defScope s_steady_people) := ⟨rfl, rfl, rfl, by decide +kernel, rfl, by decide +kernel, by decide +kernel⟩
abbrev s_steady_houses : Stmt := topS 17
theorem sc_steady_houses : FnScope ["net", "rest", "house"] ["net", "rest"] (defScope s_steady_houses) := ⟨rfl, rfl, rfl, by decide +kernel, rfl, by decide +kernel, by decide +kernel⟩
abbrev s_all_routes : Stmt := topS 18
theorem sc_all_routes : FnScope ["net", "found", "house", "route"] ["net"] (defScope s_all_routes) := ⟨rfl, rfl, rfl, by decide +kernel, rfl, by decide +kernel, by decide +kernel⟩
abbrev s_is_hidden_from : Stmt := topS 19
theorem sc_is_hidden_from : FnScope ["houses", "route", "house"] ["houses", "route"] (defScope s_is_hidden_from) := ⟨rfl, rfl, rfl, by decide +kernel, rfl, by decide +kernel, by decide +kernel⟩
abbrev s_hidden_route : Stmt := topS 20
theorem sc_hidden_route : FnScope ["rest", "route"] ["rest", "route"] (defScope s_hidden_route) := ⟨rfl, rfl, rfl, by decide +kernel, rfl, by decide +kernel, by decide +kernel⟩
abbrev s_first_steady : Stmt := topS 21
theorem sc_first_steady : FnScope ["rest", "route", "found", "house"] ["rest", "route"] (defScope s_first_steady) := ⟨rfl, rfl, rfl, by decide +kernel, rfl, by decide +kernel, by decide +kernel⟩
abbrev s_routes_hidden : Stmt := topS 22
theorem sc_routes_hidden : FnScope ["net", "rest", "routes", "route"] ["net", "rest"] (defScope s_routes_hidden) := ⟨rfl, rfl, rfl, by decide +kernel, rfl, by decide +kernel, by decide +kernel⟩
abbrev s_part_hidden : Stmt := topS 23
theorem sc_part_hidden : FnScope ["net", "many", "routes", "houses", "route"] ["net", "many"] (defScope s_part_hidden) := ⟨rfl, rfl, rfl, by decide +kernel, rfl, by decide +kernel, by decide +kernel⟩
abbrev s_least_route : Stmt := topS 24
theorem sc_least_route : FnScope ["net", "many"] ["net", "many"] (defScope s_least_route) := ⟨rfl, rfl, rfl, by decide +kernel, rfl, by decide +kernel, by decide +kernel⟩
abbrev s_safe_routes : Stmt := topS 25
theorem sc_safe_routes : FnScope ["net", "lots", "route", "houses"] ["net", "lots"] (defScope s_safe_routes) := ⟨rfl, rfl, rfl, by decide +kernel, rfl, by decide +kernel, by decide +kernel⟩
abbrev s_shortest_safe : Stmt := topS 26
theorem sc_shortest_safe : FnScope ["net", "lots", "routes", "route"] ["net", "lots"] (defScope s_shortest_safe) := ⟨rfl, rfl, rfl, by decide +kernel, rfl, by decide +kernel, by decide +kernel⟩
abbrev s_fraction : Stmt := topS 27
theorem sc_fraction : FnScope ["above", "below", "by"] ["above", "below"] (defScope s_fraction) := ⟨rfl, rfl, rfl, by decide +kernel, rfl, by decide +kernel, by decide +kernel⟩
abbrev s_l_box : Stmt := topS 29
theorem sc_l_box : FnScope ["_law_script", "_law_k", "_law_cell_so"] ["_law_script", "_law_k"] (defScope s_l_box) := ⟨rfl, rfl, rfl, by decide +kernel, rfl, by decide +kernel, by decide +kernel⟩
abbrev s_l_take : Stmt := topS 30
theorem sc_l_take : FnScope ["_law_tin", "_law_below_so", "_law_drawn", "_law_once_so", "_law_wide_so", "_law_twice_so"] ["_law_tin", "_law_below_so"] (defScope s_l_take) := ⟨rfl, rfl, rfl, by decide +kernel, rfl, by decide +kernel, by decide +kernel⟩
abbrev s_l_cells : Stmt := topS 31
theorem sc_l_cells : FnScope ["_law_script", "_law_most_so", "_law_cells_so", "_law_k", "_law_cell_so", "_law_at_so"] ["_law_script", "_law_most_so"] (defScope s_l_cells) := ⟨rfl, rfl, rfl, by decide +kernel, rfl, by decide +kernel, by decide +kernel⟩
abbrev s_l_pick : Stmt := topS 32
theorem sc_l_pick : FnScope ["_law_tin", "_law_goods_so", "_law_count_so", "_law_pool_so", "_law_found", "_law_lap"] ["_law_tin", "_law_goods_so", "_law_count_so"] (defScope s_l_pick) := ⟨rfl, rfl, rfl, by decide +kernel, rfl, by decide +kernel, by decide +kernel⟩
abbrev s_l_lists : Stmt := topS 33
theorem sc_l_lists : FnScope ["_law_matter", "_law_bit"] ["_law_matter"] (defScope s_l_lists) := ⟨rfl, rfl, rfl, by decide +kernel, rfl, by decide +kernel, by decide +kernel⟩
abbrev s_l_same : Stmt := topS 34
theorem sc_l_same : FnScope ["_law_got", "_law_due", "_law_mine", "_law_its"] ["_law_got", "_law_due"] (defScope s_l_same) := ⟨rfl, rfl, rfl, by decide +kernel, rfl, by decide +kernel, by decide +kernel⟩
abbrev s_l_subsets : Stmt := topS 35
theorem sc_l_subsets : FnScope ["_law_things_so", "_law_found", "_law_thing_so", "_law_own"] ["_law_things_so"] (defScope s_l_subsets) := ⟨rfl, rfl, rfl, by decide +kernel, rfl, by decide +kernel, by decide +kernel⟩
abbrev s_l_fraction : Stmt := topS 36
theorem sc_l_fraction : FnScope ["_law_above_so", "_law_below_so", "_law_by_so", "_law_rest_so"] ["_law_above_so", "_law_below_so"] (defScope s_l_fraction) := ⟨rfl, rfl, rfl, by decide +kernel, rfl, by decide +kernel, by decide +kernel⟩
abbrev s_l_shortest : Stmt := topS 37
theorem sc_l_shortest : FnScope ["_law_net_so", "_law_lots_so", "error"] ["_law_net_so", "_law_lots_so"] (defScope s_l_shortest) := ⟨rfl, rfl, rfl, by decide +kernel, rfl, by decide +kernel, by decide +kernel⟩
abbrev s_l_hides : Stmt := topS 38
theorem sc_l_hides : FnScope ["_law_route_so", "_law_houses_so", "_law_own"] ["_law_route_so", "_law_houses_so"] (defScope s_l_hides) := ⟨rfl, rfl, rfl, by decide +kernel, rfl, by decide +kernel, by decide +kernel⟩
abbrev s_l_some : Stmt := topS 39
theorem sc_l_some : FnScope ["_law_tin", "_law_below_so"] ["_law_tin", "_law_below_so"] (defScope s_l_some) := ⟨rfl, rfl, rfl, by decide +kernel, rfl, by decide +kernel, by decide +kernel⟩
abbrev s_l_spots_right : Stmt := topS 40
theorem sc_l_spots_right : FnScope ["_law_net_so", "_law_bad_so", "_law_people_so", "_law_houses_so", "_law_spots_so", "_law_got", "_law_due", "_law_own"] ["_law_net_so", "_law_bad_so"] (defScope s_l_spots_right) := ⟨rfl, rfl, rfl, by decide +kernel, rfl, by decide +kernel, by decide +kernel⟩
abbrev s_l_routes_right : Stmt := topS 41
theorem sc_l_routes_right : FnScope ["_law_tin", "_law_net_so", "_law_bad_so", "_law_routes_so", "_law_hidden_so", "_law_got", "_law_due", "_law_firsts_so", "_law_own", "_law_good_so", "_law_many_so", "_law_sets_so", "_law_counts_so", "_law_lengths_so", "_law_size_so", "_law_bare_so", "_law_house_so", "_law_route_so"] ["_law_tin", "_law_net_so", "_law_bad_so"] (defScope s_l_routes_right) := ⟨rfl, rfl, rfl, by decide +kernel, rfl, by decide +kernel, by decide +kernel⟩
abbrev s_l_safe_right : Stmt := topS 42
theorem sc_l_safe_right : FnScope ["_law_tin", "_law_net_so", "_law_lots_so", "_law_routes_so", "_law_own", "_law_best_so", "_law_got", "_law_due", "_law_lap", "_law_route_so", "_law_lot_so"] ["_law_tin", "_law_net_so"] (defScope s_l_safe_right) := ⟨rfl, rfl, rfl, by decide +kernel, rfl, by decide +kernel, by decide +kernel⟩
abbrev s_l_by_hand_right : Stmt := topS 43
theorem sc_l_by_hand_right : FnScope ["_law_net", "_law_bad", "_law_got", "_law_due"] [] (defScope s_l_by_hand_right) := ⟨rfl, rfl, rfl, by decide +kernel, rfl, by decide +kernel, by decide +kernel⟩
abbrev s_l_right : Stmt := topS 44
theorem sc_l_right : FnScope ["_law_tin", "_law_net_so", "_law_bad_so", "_law_lap"] ["_law_tin"] (defScope s_l_right) := ⟨rfl, rfl, rfl, by decide +kernel, rfl, by decide +kernel, by decide +kernel⟩
abbrev s_law : Stmt := topS 45
theorem sc_law : FnScope ["_law_script"] ["_law_script"] (defScope s_law) := ⟨rfl, rfl, rfl, by decide +kernel, rfl, by decide +kernel, by decide +kernel⟩
/-- a def as it stands behind the top -/
structure Df (K : PySem.W.Frag) (mg : Str → Option Value) (x : Str) (st : Stmt) (ps : List Str) where
  f : Addr
  fd : FuncData
  F : Fun K x x st f fd
  g : mg x = some (.ref f)
  b : Binds K fd ps []
/-- all that the text's defs lean on -/
structure Tx (K : PySem.W.Frag) (mg : Str → Option Value) where
  is_number : Df K mg "is_number" s_is_number ["thing"]
  is_count : Df K mg "is_count" s_is_count ["thing"]
  is_below : Df K mg "is_below" s_is_below ["thing", "many"]
  is_tuple_of : Df K mg "is_tuple_of" s_is_tuple_of ["thing", "size"]
  ascends : Df K mg "ascends" s_ascends ["thing"]
  is_number_set : Df K mg "is_number_set" s_is_number_set ["thing", "many"]
  is_rest : Df K mg "is_rest" s_is_rest ["net", "thing"]
  is_spot : Df K mg "is_spot" s_is_spot ["net", "thing"]
  all_spots : Df K mg "all_spots" s_all_spots ["net"]
  is_steady : Df K mg "is_steady" s_is_steady ["rest", "spot"]
  steady_people : Df K mg "steady_people" s_steady_people ["net", "rest"]
  steady_houses : Df K mg "steady_houses" s_steady_houses ["net", "rest"]
  all_routes : Df K mg "all_routes" s_all_routes ["net"]
  is_hidden_from : Df K mg "is_hidden_from" s_is_hidden_from ["houses", "route"]
  hidden_route : Df K mg "hidden_route" s_hidden_route ["rest", "route"]
  first_steady : Df K mg "first_steady" s_first_steady ["rest", "route"]
  routes_hidden : Df K mg "routes_hidden" s_routes_hidden ["net", "rest"]
  part_hidden : Df K mg "part_hidden" s_part_hidden ["net", "many"]
  least_route : Df K mg "least_route" s_least_route ["net", "many"]
  safe_routes : Df K mg "safe_routes" s_safe_routes ["net", "lots"]
  shortest_safe : Df K mg "shortest_safe" s_shortest_safe ["net", "lots"]
  fraction : Df K mg "fraction" s_fraction ["above", "below"]
  l_box : Df K mg "_law_box" s_l_box ["_law_script", "_law_k"]
  l_take : Df K mg "_law_take" s_l_take ["_law_tin", "_law_below_so"]
  l_cells : Df K mg "_law_cells" s_l_cells ["_law_script", "_law_most_so"]
  l_pick : Df K mg "_law_pick" s_l_pick ["_law_tin", "_law_goods_so", "_law_count_so"]
  l_lists : Df K mg "_law_lists" s_l_lists ["_law_matter"]
  l_same : Df K mg "_law_same" s_l_same ["_law_got", "_law_due"]
  l_subsets : Df K mg "_law_subsets" s_l_subsets ["_law_things_so"]
  l_fraction : Df K mg "_law_fraction" s_l_fraction ["_law_above_so", "_law_below_so"]
  l_shortest : Df K mg "_law_shortest" s_l_shortest ["_law_net_so", "_law_lots_so"]
  l_hides : Df K mg "_law_hides" s_l_hides ["_law_route_so", "_law_houses_so"]
  l_some : Df K mg "_law_some" s_l_some ["_law_tin", "_law_below_so"]
  l_spots_right : Df K mg "_law_spots_right" s_l_spots_right ["_law_net_so", "_law_bad_so"]
  l_routes_right : Df K mg "_law_routes_right" s_l_routes_right ["_law_tin", "_law_net_so", "_law_bad_so"]
  l_safe_right : Df K mg "_law_safe_right" s_l_safe_right ["_law_tin", "_law_net_so"]
  l_by_hand_right : Df K mg "_law_by_hand_right" s_l_by_hand_right []
  l_right : Df K mg "_law_right" s_l_right ["_law_tin"]
  law : Df K mg "law" s_law ["_law_script"]
  z_ValueError : mg "ValueError" = none
  z_abs : mg "abs" = none
  z_all : mg "all" = none
  z_any : mg "any" = none
  z_bool : mg "bool" = none
  z_enumerate : mg "enumerate" = none
  z_int : mg "int" = none
  z_isinstance : mg "isinstance" = none
  z_len : mg "len" = none
  z_list : mg "list" = none
  z_min : mg "min" = none
  z_range : mg "range" = none
  z_set : mg "set" = none
  z_sorted : mg "sorted" = none
  z_str : mg "str" = none
  z_tuple : mg "tuple" = none
  z_zip : mg "zip" = none
  gcd : mg "gcd" = some (.builtin "math.gcd")
  C : Addr
  gC : mg "NoPaper" = some (.ref C)
  kC : PySem.W.keepIn K (.ref C) = true
  xC : PySem.W.excIn K C [.type "ValueError", .type "Exception", .type "BaseException", .type "object"] "ValueError.__new__" = true
  bC : PySem.W.subIn K (.ref C) (.type "BaseException") = some true
  tC : PySem.W.typeIn K (.ref C) = some (.type "type")
  iC : PySem.W.isClsIn K C = true
  sC : PySem.W.subIn K (.ref C) (.ref C) = some true
  vC : PySem.W.kitOne K (.ref C) (.type "ValueError") = some true
  eC : ExcC K C
end DL
namespace DL
open PySem PySem.Spec PyProof.Rows L2
/-! ### kinds -/
def isI : PyData → Bool
  | .int _ => true
  | .bool _ => true
  | _ => false
def isB : PyData → Bool
  | .bool _ => true
  | _ => false
def isS : PyData → Bool
  | .str _ => true
  | _ => false
def isL : PyData → Bool
  | .list _ => true
  | _ => false
def isT : PyData → Bool
  | .tuple _ => true
  | _ => false
theorem kit_int (d : PyData) : kitB (tyD d) "int" = some (isI d) := by cases d <;> (dsimp only [tyD, isI]; decide +kernel)
theorem kit_bool (d : PyData) : kitB (tyD d) "bool" = some (isB d) := by cases d <;> (dsimp only [tyD, isB]; decide +kernel)
theorem kit_str (d : PyData) : kitB (tyD d) "str" = some (isS d) := by cases d <;> (dsimp only [tyD, isS]; decide +kernel)
theorem kit_list (d : PyData) : kitB (tyD d) "list" = some (isL d) := by cases d <;> (dsimp only [tyD, isL]; decide +kernel)
theorem kit_tuple (d : PyData) : kitB (tyD d) "tuple" = some (isT d) := by cases d <;> (dsimp only [tyD, isT]; decide +kernel)
section
variable {X : Cx} {env : En} {e e2 a b c tg : Expr} {es rest : List Expr} {d d1 d2 d3 : PyData} {ds : List PyData} {pos p p2 : Pos} {k l : Bool}
theorem d_andB (h : PE X a (tD env (.bool k))) (h2 : k = true → PE X (.BoolOp .And (b :: rest) pos) (tD env (.bool l))) : PE X (.BoolOp .And (a :: b :: rest) pos) (tD env (.bool (k && l))) :=
  d_and h (fun hk => by rw [hk, Bool.true_and]; exact h2 hk) (fun hk => by rw [hk, Bool.false_and])
theorem d_orB (h : PE X a (tD env (.bool k))) (h2 : k = false → PE X (.BoolOp .Or (b :: rest) pos) (tD env (.bool l))) : PE X (.BoolOp .Or (a :: b :: rest) pos) (tD env (.bool (k || l))) :=
  d_or h (fun hk => by rw [hk, Bool.false_or]; exact h2 hk) (fun hk => by rw [hk, Bool.true_or])
/-- 0, 1, .. -/
def rg (n : Nat) : List Int := (List.range n).map fun (i : Nat) => (i : Int)
theorem rg_len (n : Nat) : (rg n).length = n := by unfold rg; rw [List.length_map, List.length_range]
theorem rgD_eq (n : Nat) : rgD n = (rg n).map .int := by unfold rgD rg; rw [List.map_map]; rfl
theorem rgF_eq (n : Nat) : rgF 0 n = (rg n).map .int := by
  unfold rgF rg
  rw [List.map_map]
  refine List.map_congr_left fun i _ => ?_
  show PyData.int ((0 : Int) + (i : Int)) = .int (i : Int)
  rw [Int.zero_add]
theorem i_rg {n : Nat} (hn : n ≤ 1000) (hm : X.mg "range" = none) (ha : PE X a (tD env (.int (n : Nat)))) (hg : Gl X "range" := by rfl) (hs : starEach [a] X.env = [(false, eval a X.env)] := by rfl) (hs2 : starEach [a] X.env = (false, eval a X.env) :: starEach [] X.env := by rfl) : PI X tg (.Call (.Name "range" p) [a] [] pos) (tIt env ((rg n).map .int)) := by
  have h := i_rg1 (tg := tg) (p := p) (pos := pos) (n := (n : Int)) (by omega) hm (a_cons ha a_nil hs2) hg hs
  rw [Int.toNat_natCast, rgF_eq] at h
  exact h
theorem zip_ints : ∀ (ns ms : List Int), zipD (ns.map .int) (ms.map .int) = (ns.zip ms).map fun p => .tuple [.int p.1, .int p.2]
  | [], _ => by simp [zipD]
  | _ :: _, [] => by simp [zipD]
  | n :: ns, m :: ms => by
    have ih := zip_ints ns ms
    unfold zipD at ih ⊢
    rw [List.map_cons, List.map_cons, List.zip_cons_cons, List.map_cons, ih, List.zip_cons_cons, List.map_cons]
theorem cut1_map {α : Type} (f : α → PyData) (l : List α) : cutD (l.map f) (some 1) none = (l.drop 1).map f := by
  rw [show (some (1 : Int)) = some ((1 : Nat) : Int) from rfl, cutD_from, List.map_drop]
/-! data that == may compare -/
theorem shaped_of {d : PyData} (h1 : d.canLay0 = true) (h2 : d.depth ≤ 64) : SeqAt.shaped d = true := by
  show (d.canLay0 && decide (d.depth ≤ 64)) = true
  rw [h1, decide_eq_true h2]
  rfl
theorem lay_ints : ∀ ns : List Int, PyData.canLayAll0 (ns.map .int) = true
  | [] => by simp [PyData.canLayAll0]
  | n :: ns => by simp [PyData.canLayAll0, PyData.canLay0, lay_ints ns]
theorem shaped_lI (ns : List Int) : SeqAt.shaped (.list (ns.map .int)) = true := shaped_of (by simp only [PyData.canLay0]; exact lay_ints ns) (by simp only [PyData.depth]; rw [PySem.W.depth_ints]; omega)
theorem shaped_tI (ns : List Int) : SeqAt.shaped (tI ns) = true := shaped_of (by unfold tI; simp only [PyData.canLay0]; exact lay_ints ns) (by have := depth_tI ns; omega)
theorem lay_rows : ∀ L : List (List Int), PyData.canLayAll0 (L.map tI) = true
  | [] => by simp [PyData.canLayAll0]
  | r :: L => by
    have h : (tI r).canLay0 = true := by unfold tI; simp only [PyData.canLay0]; exact lay_ints r
    rw [List.map_cons]
    simp [PyData.canLayAll0, h, lay_rows L]
theorem depth_rows : ∀ L : List (List Int), PyData.depthAll (L.map tI) ≤ 1
  | [] => by simp [PyData.depthAll]
  | r :: L => by
    have h1 := depth_rows L
    have h2 := depth_tI r
    simp only [List.map_cons, PyData.depthAll]
    omega
theorem shaped_rows (L : List (List Int)) : SeqAt.shaped (.list (L.map tI)) = true := shaped_of (by simp only [PyData.canLay0]; exact lay_rows L) (by have := depth_rows L; simp only [PyData.depth]; omega)
theorem shaped_nil : SeqAt.shaped (.list []) = true := shaped_lI []
theorem eqv_nil (ds : List PyData) : PyData.eqv (.list ds) (.list []) = ds.isEmpty := by
  cases ds with
  | nil => simp [PyData.eqv, PyData.eqvAll]
  | cons d ds => simp [PyData.eqv, PyData.eqvAll]
end
section
variable {P : Program} {w : World} {K : PySem.W.Frag} {mg : Str → Option Value} {base : Heap}
def isNum (d : PyData) : Bool := isI d && !isB d
theorem isNum_int {d : PyData} (h : isNum d = true) : ∃ n, d = .int n := by
  cases d with
  | int n => exact ⟨n, rfl⟩
  | _ => exact absurd (show false = true from h) Bool.false_ne_true
def R_is_number : List PyData → PyData → Prop := fun ds d => ∃ x, ds = [x] ∧ d = .bool (isNum x)
theorem ok_is_number (T : Tx K mg) : FnOk P w K mg base CX0 1 T.is_number.f T.is_number.fd ["thing"] (spD R_is_number) := by
  refine ok_D T.is_number.F sc_is_number (fun ds d h => ?_) (fun cdv A outer s H E ds d hr hR => ?_)
  · obtain ⟨x, rfl, _⟩ := h
    rfl
  · obtain ⟨x, rfl, rfl⟩ := hR
    exact b_ret (d_andB (d_isi T.z_isinstance T.z_int (dv 0 rfl) (kit_int x)) fun _ => d_one (d_not (d_isi T.z_isinstance T.z_bool (dv 0 rfl) (kit_bool x)))) rfl
def isCount : PyData → Bool
  | .int n => decide (0 ≤ n)
  | _ => false
def R_is_count : List PyData → PyData → Prop := fun ds d => ∃ x, ds = [x] ∧ d = .bool (isCount x)
theorem ok_is_count (T : Tx K mg) : FnOk P w K mg base CX0 2 T.is_count.f T.is_count.fd ["thing"] (spD R_is_count) := by
  refine ok_D T.is_count.F sc_is_count (fun ds d h => ?_) (fun cdv A outer s H E ds d hr hR => ?_)
  · obtain ⟨x, rfl, _⟩ := h
    rfl
  · obtain ⟨x, rfl, rfl⟩ := hR
    refine b_ret (d_andB (l := isCount x) (d_call (ok_is_number T) hr T.is_number.g T.is_number.F.kp T.is_number.b (a_cons (dv 0 rfl) a_nil) ⟨x, rfl, rfl⟩) fun h => ?_) ?_
    · obtain ⟨n, rfl⟩ := isNum_int h
      exact d_one (d_cmp op_ge r_IB (dv 0 rfl) dc_int)
    · cases x <;> rfl
theorem isCount_int {d : PyData} (h : isCount d = true) : ∃ n, d = .int n := by
  cases d with
  | int n => exact ⟨n, rfl⟩
  | _ => exact absurd (show false = true from h) Bool.false_ne_true
def isBelow (d : PyData) (m : Int) : Bool := match d with
  | .int n => decide (0 ≤ n) && decide (n < m)
  | _ => false
def R_is_below : List PyData → PyData → Prop := fun ds d => ∃ x m, ds = [x, .int m] ∧ d = .bool (isBelow x m)
theorem ok_is_below (T : Tx K mg) : FnOk P w K mg base CX0 3 T.is_below.f T.is_below.fd ["thing", "many"] (spD R_is_below) := by
  refine ok_D T.is_below.F sc_is_below (fun ds d h => ?_) (fun cdv A outer s H E ds d hr hR => ?_)
  · obtain ⟨x, m, rfl, _⟩ := h
    rfl
  · obtain ⟨x, m, rfl, rfl⟩ := hR
    refine b_ret (d_andB (l := match x with | .int n => decide (n < m) | _ => false) (d_call (ok_is_count T) hr T.is_count.g T.is_count.F.kp T.is_count.b (a_cons (dv 0 rfl) a_nil) ⟨x, rfl, rfl⟩) fun h => ?_) ?_
    · obtain ⟨n, rfl⟩ := isCount_int h
      exact d_one (d_cmp op_lt r_IB (dv 0 rfl) (dv 1 rfl))
    · cases x <;> rfl
def tupOf (d : PyData) (k : Int) : Bool := match d with
  | .tuple ds => decide ((ds.length : Int) = k)
  | _ => false
def R_is_tuple_of : List PyData → PyData → Prop := fun ds d => ∃ x k, ds = [x, .int k] ∧ d = .bool (tupOf x k)
theorem isT_tup {d : PyData} (h : isT d = true) : ∃ ds, d = .tuple ds := by
  cases d with
  | tuple ds => exact ⟨ds, rfl⟩
  | _ => exact absurd (show false = true from h) Bool.false_ne_true
theorem ok_is_tuple_of (T : Tx K mg) : FnOk P w K mg base CX0 1 T.is_tuple_of.f T.is_tuple_of.fd ["thing", "size"] (spD R_is_tuple_of) := by
  refine ok_D T.is_tuple_of.F sc_is_tuple_of (fun ds d h => ?_) (fun cdv A outer s H E ds d hr hR => ?_)
  · obtain ⟨x, m, rfl, _⟩ := h
    rfl
  · obtain ⟨x, m, rfl, rfl⟩ := hR
    refine b_ret (d_andB (l := tupOf x m) (d_isi T.z_isinstance T.z_tuple (dv 0 rfl) (kit_tuple x)) fun h => ?_) ?_
    · obtain ⟨ds, rfl⟩ := isT_tup h
      exact d_one (d_cmp op_eq r_eqI (d_callB call_len_seq (c_len (.tup ds)) T.z_len (a_cons (dv 0 rfl) a_nil)) (dv 1 rfl))
    · cases x <;> rfl
def asc (ns : List Int) : Bool := (ns.zip (ns.drop 1)).all fun p => decide (p.1 < p.2)
def R_ascends : List PyData → PyData → Prop := fun ds d => ∃ ns, ds = [tI ns] ∧ d = .bool (asc ns) ∧ ns.length ≤ 1000
theorem ok_ascends (T : Tx K mg) : FnOk P w K mg base CX0 1 T.ascends.f T.ascends.fd ["thing"] (spD R_ascends) := by
  refine ok_D T.ascends.F sc_ascends (fun ds d h => ?_) (fun cdv A outer s H E ds d hr hR => ?_)
  · obtain ⟨x, rfl, _⟩ := h
    rfl
  · obtain ⟨ns, rfl, rfl, hz⟩ := hR
    have nd := sc_ascends.nd

    refine b_ret (d_callB (cr_all rfl) c_allM T.z_all (a_cons (d_lcp (L := ns.zip (ns.drop 1)) (c1 := fun p => .int p.1) (c2 := fun p => .int p.2) (f := fun p => .bool (decide (p.1 < p.2))) (i := 1) (j := 2) ?_ (blkOk_by (N := ["thing", "near", "far"]) (sc := defScope s_ascends) (by decide +kernel)) ?_ ?_ (by decide) ?_ nd) a_nil)) rfl
    · rw [← zip_ints, ← cut1_map]
      exact i_zip (.inr ⟨rfl, rfl⟩) T.z_zip (a_cons (dv 0 rfl) (a_cons (d_slT (dv 0 rfl) (o_some dc_int) o_none) a_nil))
    · exact fun _ _ _ _ _ => pg_tup (n := 2) rfl (pgs_cons (pg_name (i := 1) nd rfl (Or.inl rfl)) (pgs_cons (pg_name (i := 2) nd rfl (Or.inl rfl)) pgs_nil))
    · exact fun _ _ _ _ _ p _ => d_cmp op_lt r_IB (dv 1 rfl) (dv 2 rfl)
    · rw [List.length_zip]
      omega
def nset (ns : List Int) (m : Int) : Bool := (ns.all fun n => decide (0 ≤ n) && decide (n < m)) && asc ns
def R_is_number_set : List PyData → PyData → Prop := fun ds d => ∃ ns m, ds = [tI ns, .int m] ∧ d = .bool (nset ns m) ∧ ns.length ≤ 1000
theorem ok_is_number_set (T : Tx K mg) : FnOk P w K mg base CX0 4 T.is_number_set.f T.is_number_set.fd ["thing", "many"] (spD R_is_number_set) := by
  refine ok_D T.is_number_set.F sc_is_number_set (fun ds d h => ?_) (fun cdv A outer s H E ds d hr hR => ?_)
  · obtain ⟨x, m, rfl, _⟩ := h
    rfl
  · obtain ⟨ns, m, rfl, rfl, hz⟩ := hR
    have nd := sc_is_number_set.nd
    refine b_if (PW.pt (t_or (t_not (t_val (d_isi T.z_isinstance T.z_tuple (dv 0 rfl) (kit_tuple _)))) fun _ => t_or1 (t_not (t_val (d_callB (cr_all rfl) c_allM T.z_all (a_cons
      (d_lcm (L := ns) (c := .int) (f := fun n => .bool (isBelow (.int n) m)) (j := 2) (i_seq (.tup _) (dv 0 rfl)) (blkOk_by (N := ["thing", "many", "part"]) (sc := defScope s_is_number_set) (by decide +kernel)) (fun _ _ _ _ _ => pg_name (i := 2) nd rfl (by first | exact Or.inl rfl | exact Or.inr rfl)) (fun _ _ _ _ _ n _ => d_call (ok_is_below T) hr T.is_below.g T.is_below.F.kp T.is_below.b (a_cons (dv 2 rfl) (a_cons (dv 1 rfl) a_nil)) ⟨_, _, rfl, rfl⟩) (by omega) nd) a_nil)))))) (fun hk => ?_) (fun hk => ?_)
    · refine b_ret dc_bl ?_
      have e : (ns.all fun n => isBelow (.int n) m) = false := by simpa [isT, tI] using hk
      show _ = PyData.bool ((ns.all fun n => isBelow (.int n) m) && asc ns)
      rw [e, Bool.false_and]
    · refine b_ret (d_call (ok_ascends T) (hr.mono (by decide)) T.ascends.g T.ascends.F.kp T.ascends.b (a_cons (dv 0 rfl) a_nil) ⟨ns, rfl, rfl, hz⟩) ?_
      have e : (ns.all fun n => isBelow (.int n) m) = true := by simpa [isT, tI] using hk
      show _ = PyData.bool ((ns.all fun n => isBelow (.int n) m) && asc ns)
      rw [e, Bool.true_and]
end
end DL
namespace DL
open PySem PySem.Spec PyProof.Rows L2
section
variable {P : Program} {w : World} {K : PySem.W.Frag} {mg : Str → Option Value} {base : Heap}
/-! ### rests and spots -/
/-- a net's two numbers -/
def nt (p h : Nat) : List PyData := [.int (p : Int), .int (h : Int)]
def R_is_rest : List PyData → PyData → Prop := fun ds d => ∃ (p h : Nat) (x : PyData), ds = [.tuple (nt p h), x] ∧
  ((∃ ys, x = .list ys ∧ d = .bool false) ∨ (∃ a b : List Int, x = .tuple [tI a, tI b] ∧ a.length ≤ 1000 ∧ b.length ≤ 1000 ∧ d = .bool (nset a p && nset b h)))
theorem ok_is_rest (T : Tx K mg) : FnOk P w K mg base CX0 5 T.is_rest.f T.is_rest.fd ["net", "thing"] (spD R_is_rest) := by
  refine ok_D T.is_rest.F sc_is_rest (fun ds d h => ?_) (fun cdv A outer s H E ds d hr hR => ?_)
  · obtain ⟨p, h, x, rfl, _⟩ := h
    rfl
  · obtain ⟨p, h, x, rfl, hx⟩ := hR
    rcases hx with ⟨ys, rfl, rfl⟩ | ⟨a, b, rfl, ha, hb, rfl⟩
    · exact b_ret (d_andB (l := false) (d_call (ok_is_tuple_of T) (hr.mono (by decide)) T.is_tuple_of.g T.is_tuple_of.F.kp T.is_tuple_of.b (a_cons (dv 1 rfl) (a_cons dc_int a_nil)) ⟨_, _, rfl, rfl⟩) fun h => absurd (show false = true from h) Bool.false_ne_true) rfl
    · refine b_ret (d_andB (l := nset a p && nset b h) (d_call (ok_is_tuple_of T) (hr.mono (by decide)) T.is_tuple_of.g T.is_tuple_of.F.kp T.is_tuple_of.b (a_cons (dv 1 rfl) (a_cons dc_int a_nil)) ⟨_, _, rfl, rfl⟩) fun _ => ?_) rfl
      exact d_andB (d_call (ok_is_number_set T) hr T.is_number_set.g T.is_number_set.F.kp T.is_number_set.b (a_cons (d_ix 0 (.tup _) rfl (dv 1 rfl) dc_int) (a_cons (d_ix 0 (.tup _) rfl (dv 0 rfl) dc_int) a_nil)) ⟨a, _, rfl, rfl, ha⟩) fun _ =>
        d_one (d_call (ok_is_number_set T) hr T.is_number_set.g T.is_number_set.F.kp T.is_number_set.b (a_cons (d_ix 1 (.tup _) rfl (dv 1 rfl) dc_int) (a_cons (d_ix 1 (.tup _) rfl (dv 0 rfl) dc_int) a_nil)) ⟨b, _, rfl, rfl, hb⟩)
/-- a spot: k is True for a person -/
def kS (k : Bool) : Str := if k then "person" else "house"
def sp (k : Bool) (n : Int) : PyData := .tuple [.str (kS k), .int n]
def spIn (p h : Nat) (k : Bool) (n : Int) : Bool := isBelow (.int n) (if k then p else h)
def R_is_spot : List PyData → PyData → Prop := fun ds d => ∃ (p h : Nat) (k : Bool) (n : Int), ds = [.tuple (nt p h), sp k n] ∧ d = .bool (spIn p h k n)
theorem kS_in (k : Bool) : (!((("person" : Str) == kS k) || (("house" : Str) == kS k))) = false := by cases k <;> decide +kernel
theorem kS_p (k : Bool) : decide (kS k = ("person" : Str)) = k := by cases k <;> decide +kernel
theorem ok_is_spot (T : Tx K mg) : FnOk P w K mg base CX0 4 T.is_spot.f T.is_spot.fd ["net", "thing"] (spD R_is_spot) := by
  refine ok_D T.is_spot.F sc_is_spot (fun ds d h => ?_) (fun cdv A outer s H E ds d hr hR => ?_)
  · obtain ⟨p, h, k, n, rfl, _⟩ := h
    rfl
  · obtain ⟨p, h, k, n, rfl, rfl⟩ := hR
    refine b_if (PW.pt (t_or (k := false) (t_is (t_not (t_val (d_call (ok_is_tuple_of T) (hr.mono (by decide)) T.is_tuple_of.g T.is_tuple_of.F.kp T.is_tuple_of.b (a_cons (dv 1 rfl) (a_cons dc_int a_nil)) ⟨_, _, rfl, rfl⟩))) rfl) fun _ => t_or (k := false) (t_is (t_not (t_val (d_isi T.z_isinstance T.z_str (d_ix 0 (.tup _) rfl (dv 1 rfl) dc_int) (kit_str _)))) rfl) fun _ =>
      t_or1 (k := false) (t_is (t_cmp op_notIn_seq r_ninS (d_ix 0 (.tup _) rfl (dv 1 rfl) dc_int) (d_tup (a_cons dc_str (a_cons dc_str a_nil)) (by show 2 ≤ sizeLine; decide))) (kS_in k)))) (fun hk => absurd hk Bool.false_ne_true) fun _ => ?_
    refine b_ret (d_call (ok_is_below T) hr T.is_below.g T.is_below.F.kp T.is_below.b (a_cons (d_ix 1 (.tup _) rfl (dv 1 rfl) dc_int) (a_cons (d := .int (if k = true then (p : Int) else (h : Int))) (d_if (k := k) (t_is (t_cmp op_eq r_eqS (d_ix 0 (.tup _) rfl (dv 1 rfl) dc_int) dc_str) (kS_p k)) (fun hk => ?_) (fun hk => ?_)) a_nil)) ⟨_, _, rfl, rfl⟩) rfl
    · rw [hk, if_pos rfl]
      exact d_ix 0 (.tup _) rfl (dv 0 rfl) dc_int
    · rw [hk, if_neg Bool.false_ne_true]
      exact d_ix 1 (.tup _) rfl (dv 0 rfl) dc_int
def spots (p h : Nat) : List PyData := (rg h).map (sp false) ++ (rg p).map (sp true)
def R_all_spots : List PyData → PyData → Prop := fun ds d => ∃ p h : Nat, ds = [.tuple (nt p h)] ∧ p ≤ 100 ∧ h ≤ 100 ∧ d = .tuple (spots p h)
theorem ok_all_spots (T : Tx K mg) : FnOk P w K mg base CX0 1 T.all_spots.f T.all_spots.fd ["net"] (spD R_all_spots) := by
  refine ok_D T.all_spots.F sc_all_spots (fun ds d h => ?_) (fun cdv A outer s H E ds d hr hR => ?_)
  · obtain ⟨p, h, rfl, _⟩ := h
    rfl
  · obtain ⟨p, h, rfl, hp, hh, rfl⟩ := hR
    have nd := sc_all_spots.nd
    refine b_cons (s_un2 (i := 1) (j := 2) (dv 0 rfl)) (b_ret (d_tup (ds := spots p h) ?_ ?_) rfl)
    · rw [show spots p h = (rg h).map (sp false) ++ ((rg p).map (sp true) ++ []) by rw [List.append_nil]; rfl]
      exact a_star (d_lcm (L := rg h) (c := .int) (f := sp false) (j := 3) (i_rg (by omega) T.z_range (dv 2 rfl)) (blkOk_by (N := ["net", "people", "houses", "house", "person"]) (sc := defScope s_all_spots) (by decide +kernel)) (fun _ _ _ _ _ => pg_name (i := 3) nd rfl (by first | exact Or.inl rfl | exact Or.inr rfl)) (fun _ _ _ _ _ n _ => d_tup (a_cons dc_str (a_cons (dv 3 rfl) a_nil)) (by show 2 ≤ sizeLine; decide)) (by rw [rg_len]; omega) nd)
        (a_star (d_lcm (L := rg p) (c := .int) (f := sp true) (j := 4) (i_rg (by omega) T.z_range (dv 1 rfl)) (blkOk_by (N := ["net", "people", "houses", "house", "person"]) (sc := defScope s_all_spots) (by decide +kernel)) (fun _ _ _ _ _ => pg_name (i := 4) nd rfl (by first | exact Or.inl rfl | exact Or.inr rfl)) (fun _ _ _ _ _ n _ => d_tup (a_cons dc_str (a_cons (dv 4 rfl) a_nil)) (by show 2 ≤ sizeLine; decide)) (by rw [rg_len]; omega) nd) a_nil)
    · unfold spots
      rw [List.length_append, List.length_map, List.length_map, rg_len, rg_len]
      exact small6' (by omega)
def R_is_steady : List PyData → PyData → Prop := fun ds d => ∃ (a b : List Int) (k : Bool) (n : Int), ds = [.tuple [tI a, tI b], sp k n] ∧ d = .bool (!(if k then a else b).contains n)
theorem ok_is_steady (T : Tx K mg) : FnOk P w K mg base CX0 1 T.is_steady.f T.is_steady.fd ["rest", "spot"] (spD R_is_steady) := by
  refine ok_D T.is_steady.F sc_is_steady (fun ds d h => ?_) (fun cdv A outer s H E ds d hr hR => ?_)
  · obtain ⟨a, b, k, n, rfl, _⟩ := h
    rfl
  · obtain ⟨a, b, k, n, rfl, rfl⟩ := hR
    cases k with
    | true => exact b_ret (d_cmp op_notIn_seq (r_nin (.tup _)) (d_ix 1 (.tup _) rfl (dv 1 rfl) dc_int) (d_ix 0 (.tup _) rfl (dv 0 rfl) (d_if (k := true) (t_is (t_cmp op_eq r_eqS (d_ix 0 (.tup _) rfl (dv 1 rfl) dc_int) dc_str) (kS_p true)) (fun _ => dc_int) (fun hk => absurd hk.symm Bool.false_ne_true)))) rfl
    | false => exact b_ret (d_cmp op_notIn_seq (r_nin (.tup _)) (d_ix 1 (.tup _) rfl (dv 1 rfl) dc_int) (d_ix 1 (.tup _) rfl (dv 0 rfl) (d_if (k := false) (t_is (t_cmp op_eq r_eqS (d_ix 0 (.tup _) rfl (dv 1 rfl) dc_int) dc_str) (kS_p false)) (fun hk => absurd hk Bool.false_ne_true) (fun _ => dc_int)))) rfl
def R_steady_people : List PyData → PyData → Prop := fun ds d => ∃ (n r ra rb : PyData) (p h : Nat) (a : List Int), ds = [n, r] ∧ IsSeq n (nt p h) ∧ IsSeq r [ra, rb] ∧ IsSeq ra (a.map .int) ∧ p ≤ 100 ∧ d = tI ((rg p).filter fun i => !a.contains i)
theorem ok_steady_people (T : Tx K mg) : FnOk P w K mg base CX0 1 T.steady_people.f T.steady_people.fd ["net", "rest"] (spD R_steady_people) := by
  refine ok_D T.steady_people.F sc_steady_people (fun ds d h => ?_) (fun cdv A outer s H E ds d hr hR => ?_)
  · obtain ⟨n, r, ra, rb, p, h, a, rfl, _⟩ := h
    rfl
  · obtain ⟨n, r, ra, rb, p, h, a, rfl, sn, sr, sa, hp, rfl⟩ := hR
    have nd := sc_steady_people.nd
    exact b_ret (d_callTy call_tuple_of c_tuple T.z_tuple (a_cons (d_lc (L := rg p) (c := .int) (f := .int) (t := fun i => !a.contains i) (j := 2) (i_rg (by omega) T.z_range (d_ix 0 sn rfl (dv 0 rfl) dc_int)) (blkOk_by (N := ["net", "rest", "person"]) (sc := defScope s_steady_people) (by decide +kernel)) (fun _ _ _ _ _ => pg_name (i := 2) nd rfl (by first | exact Or.inl rfl | exact Or.inr rfl))
      (fun _ _ _ _ _ i _ => ts_one (t_cmp op_notIn_seq (r_nin sa) (dv 2 rfl) (d_ix 0 sr rfl (dv 1 rfl) dc_int))) (fun _ _ _ _ _ i _ _ => dv 2 rfl) (by rw [rg_len]; omega) nd) a_nil)) rfl
def R_steady_houses : List PyData → PyData → Prop := fun ds d => ∃ (n r ra rb : PyData) (p h : Nat) (a : List Int), ds = [n, r] ∧ IsSeq n (nt p h) ∧ IsSeq r [ra, rb] ∧ IsSeq rb (a.map .int) ∧ h ≤ 100 ∧ d = tI ((rg h).filter fun i => !a.contains i)
theorem ok_steady_houses (T : Tx K mg) : FnOk P w K mg base CX0 1 T.steady_houses.f T.steady_houses.fd ["net", "rest"] (spD R_steady_houses) := by
  refine ok_D T.steady_houses.F sc_steady_houses (fun ds d h => ?_) (fun cdv A outer s H E ds d hr hR => ?_)
  · obtain ⟨n, r, ra, rb, p, h, a, rfl, _⟩ := h
    rfl
  · obtain ⟨n, r, ra, rb, p, h, a, rfl, sn, sr, sa, hp, rfl⟩ := hR
    have nd := sc_steady_houses.nd
    exact b_ret (d_callTy call_tuple_of c_tuple T.z_tuple (a_cons (d_lc (L := rg h) (c := .int) (f := .int) (t := fun i => !a.contains i) (j := 2) (i_rg (by omega) T.z_range (d_ix 1 sn rfl (dv 0 rfl) dc_int)) (blkOk_by (N := ["net", "rest", "house"]) (sc := defScope s_steady_houses) (by decide +kernel)) (fun _ _ _ _ _ => pg_name (i := 2) nd rfl (by first | exact Or.inl rfl | exact Or.inr rfl))
      (fun _ _ _ _ _ i _ => ts_one (t_cmp op_notIn_seq (r_nin sa) (dv 2 rfl) (d_ix 1 sr rfl (dv 1 rfl) dc_int))) (fun _ _ _ _ _ i _ _ => dv 2 rfl) (by rw [rg_len]; omega) nd) a_nil)) rfl
/-! ### routes -/
def subs : Nat → List (List Int)
  | 0 => [[]]
  | n + 1 => subs n ++ (subs n).map fun r => r ++ [(n : Int)]
theorem subs_len : ∀ n, (subs n).length = 2 ^ n
  | 0 => rfl
  | n + 1 => by
    unfold subs
    rw [List.length_append, List.length_map, subs_len n, Nat.pow_succ]
    omega
theorem subs_head : ∀ n, ∃ l, subs n = [] :: l ∧ ∀ r ∈ l, r ≠ []
  | 0 => ⟨[], rfl, fun _ h => (by cases h)⟩
  | n + 1 => by
    obtain ⟨l, e, hl⟩ := subs_head n
    refine ⟨l ++ (subs n).map fun r => r ++ [(n : Int)], by show subs n ++ ((subs n).map fun r => r ++ [(n : Int)]) = _; rw [e]; rfl, fun r hr => ?_⟩
    rcases List.mem_append.mp hr with hr | hr
    · exact hl r hr
    · obtain ⟨q, _, rfl⟩ := List.mem_map.mp hr
      simp
theorem subs_small {n i : Nat} (hn : n ≤ 8) (hi : i ≤ n) : (subs i).length ≤ 256 := by
  rw [subs_len]
  exact Nat.le_trans (Nat.pow_le_pow_right (by omega) (show i ≤ 8 by omega)) (by decide)
theorem subs_row : ∀ n, ∀ r ∈ subs n, r.length ≤ n
  | 0, r, h => by
    rw [List.mem_singleton.mp (show r ∈ [[]] from h)]
    exact Nat.le_refl 0
  | n + 1, r, h => by
    unfold subs at h
    rcases List.mem_append.mp h with h | h
    · exact Nat.le_succ_of_le (subs_row n r h)
    · obtain ⟨q, hq, rfl⟩ := List.mem_map.mp h
      rw [List.length_append, List.length_singleton]
      exact Nat.succ_le_succ (subs_row n q hq)
def rts (h : Nat) : List (List Int) := ((subs h).drop 1).mergeSort fun p q => decide (p ≤ q)
theorem rts_len (h : Nat) (hh : h ≤ 8) : (rts h).length ≤ 256 := by
  unfold rts
  rw [List.length_mergeSort, List.length_drop]
  have := subs_small hh (Nat.le_refl h)
  omega
def R_all_routes : List PyData → PyData → Prop := fun ds d => ∃ (n : PyData) (p h : Nat), ds = [n] ∧ IsSeq n (nt p h) ∧ h ≤ 8 ∧ d = .list ((rts h).map tI)
theorem ok_all_routes (T : Tx K mg) : FnOk P w K mg base CX0 1 T.all_routes.f T.all_routes.fd ["net"] (spD R_all_routes) := by
  refine ok_D T.all_routes.F sc_all_routes (fun ds d h => ?_) (fun cdv A outer s H E ds d hr hR => ?_)
  · obtain ⟨n, p, h, rfl, _⟩ := h
    rfl
  · obtain ⟨n, p, h, rfl, sn, hh, rfl⟩ := hR
    have nd := sc_all_routes.nd
    refine b_cons (s_set (i := 1) (d := .list ((subs 0).map tI)) (d_lst (a_cons (d_tup (ds := []) a_nil (Nat.zero_le _)) a_nil) (by show 1 ≤ sizeLine; decide))) ?_
    refine b_cons (s_for (L := rg h) (c := .int) (j := 2) (fun i => [(0, .dat n), (1, .dat (.list ((subs i).map tI)))]) (i_rg (by omega) T.z_range (d_ix 1 sn rfl (dv 0 rfl) dc_int)) (wk_cons rfl (wk_cons rfl (wk_nil _))) (fun i a ha => ?_) PassesOwn.never) ?_
    · have hi : i < h := by
        have := (List.getElem?_eq_some_iff.mp ha).1
        rw [rg_len] at this
        exact this
      have ea : a = (i : Int) := by
        unfold rg at ha
        rw [List.getElem?_map, List.getElem?_range hi] at ha
        exact (Option.some.inj ha).symm
      subst ea
      have hs := subs_small (n := 8) (by omega) (show i ≤ 8 by omega)
      refine ns_wk (env1 := (1, .dat (.list ((subs (i + 1)).map tI))) :: (2, .dat (.int (i : Int))) :: [(0, .dat n), (1, .dat (.list ((subs i).map tI)))]) (wk_cons rfl (wk_cons rfl (wk_nil _))) (n_one (s_set (i := 1) (d_is (d_op op_cat (r_catL ?_) (dv 1 rfl)
        (d_lcm (L := subs i) (c := tI) (f := fun r => .tuple (r.map .int ++ [.int (i : Int)])) (j := 3) (i_seq (.lst _) (dv 1 rfl)) (blkOk_by (N := ["net", "found", "house", "route"]) (sc := defScope s_all_routes) (by decide +kernel)) (fun _ _ _ _ _ => pg_name (i := 3) nd rfl (by first | exact Or.inl rfl | exact Or.inr rfl)) (fun _ _ _ _ _ r hr => d_op op_catA (r_catT ?_) (dv 3 rfl) (d_tup (a_cons (dv 2 rfl) a_nil) (by show 1 ≤ sizeLine; decide))) (by omega) nd)) ?_)))
      · rw [List.length_map, List.length_map]
        exact small6' (by omega)
      · have := subs_row i r hr
        rw [List.length_map, List.length_singleton]
        exact small6' (by omega)
      · show PyData.list ((subs i).map tI ++ (subs i).map _) = .list ((subs i ++ (subs i).map fun r => r ++ [(i : Int)]).map tI)
        rw [List.map_append, List.map_map]
        congr 2
        refine List.map_congr_left fun r _ => ?_
        show _ = PyData.tuple ((r ++ [(i : Int)]).map .int)
        rw [List.map_append]
        rfl
    · rw [rg_len]
      obtain ⟨l, e, hl⟩ := subs_head h
      refine b_ret (d_callB (cr_sortD hr.units) (c_sortD (L := (subs h).drop 1) (by rw [e]; exact hl) ?_) T.z_sorted (a_cons (d_is (d_slL (dv 1 rfl) (o_some dc_int) o_none) (by rw [cut1_map])) a_nil)) rfl
      have := subs_small hh (Nat.le_refl h)
      rw [List.length_drop]
      omega
def hid (hs r : List Int) : Bool := r.any fun x => !hs.contains x
def R_is_hidden_from : List PyData → PyData → Prop := fun ds d => ∃ (x : PyData) (hs r : List Int), ds = [x, tI r] ∧ IsSeq x (hs.map .int) ∧ r.length ≤ 1000 ∧ d = .bool (hid hs r)
theorem ok_is_hidden_from (T : Tx K mg) : FnOk P w K mg base CX0 1 T.is_hidden_from.f T.is_hidden_from.fd ["houses", "route"] (spD R_is_hidden_from) := by
  refine ok_D T.is_hidden_from.F sc_is_hidden_from (fun ds d h => ?_) (fun cdv A outer s H E ds d hr hR => ?_)
  · obtain ⟨x, hs, r, rfl, _⟩ := h
    rfl
  · obtain ⟨x, hs, r, rfl, sx, hz, rfl⟩ := hR
    have nd := sc_is_hidden_from.nd
    exact b_ret (d_callB (cr_any rfl) c_anyM T.z_any (a_cons (d_lcm (L := r) (c := .int) (f := fun i => .bool (!hs.contains i)) (j := 2) (i_seq (.tup _) (dv 1 rfl)) (blkOk_by (N := ["houses", "route", "house"]) (sc := defScope s_is_hidden_from) (by decide +kernel)) (fun _ _ _ _ _ => pg_name (i := 2) nd rfl (by first | exact Or.inl rfl | exact Or.inr rfl)) (fun _ _ _ _ _ i _ => d_cmp op_notIn_seq (r_nin sx) (dv 2 rfl) (dv 0 rfl)) (by omega) nd) a_nil)) rfl
def R_hidden_route : List PyData → PyData → Prop := fun ds d => ∃ (x ra rb : PyData) (hs r : List Int), ds = [x, tI r] ∧ IsSeq x [ra, rb] ∧ IsSeq rb (hs.map .int) ∧ r.length ≤ 1000 ∧ d = .bool (hid hs r)
theorem ok_hidden_route (T : Tx K mg) : FnOk P w K mg base CX0 2 T.hidden_route.f T.hidden_route.fd ["rest", "route"] (spD R_hidden_route) := by
  refine ok_D T.hidden_route.F sc_hidden_route (fun ds d h => ?_) (fun cdv A outer s H E ds d hr hR => ?_)
  · obtain ⟨x, ra, rb, hs, r, rfl, _⟩ := h
    rfl
  · obtain ⟨x, ra, rb, hs, r, rfl, sx, sb, hz, rfl⟩ := hR
    exact b_ret (d_call (ok_is_hidden_from T) hr T.is_hidden_from.g T.is_hidden_from.F.kp T.is_hidden_from.b (a_cons (d_ix 1 sx rfl (dv 0 rfl) dc_int) (a_cons (dv 1 rfl) a_nil)) ⟨_, hs, r, rfl, sb, hz, rfl⟩) rfl
def firstD (hs r : List Int) : PyData := match r.filter fun x => !hs.contains x with
  | [] => .none
  | x :: _ => .int x
def R_first_steady : List PyData → PyData → Prop := fun ds d => ∃ (x ra rb : PyData) (hs r : List Int), ds = [x, tI r] ∧ IsSeq x [ra, rb] ∧ IsSeq rb (hs.map .int) ∧ r.length ≤ 1000 ∧ d = firstD hs r
theorem ok_first_steady (T : Tx K mg) : FnOk P w K mg base CX0 1 T.first_steady.f T.first_steady.fd ["rest", "route"] (spD R_first_steady) := by
  refine ok_D T.first_steady.F sc_first_steady (fun ds d h => ?_) (fun cdv A outer s H E ds d hr hR => ?_)
  · obtain ⟨x, ra, rb, hs, r, rfl, _⟩ := h
    rfl
  · obtain ⟨x, ra, rb, hs, r, rfl, sx, sb, hz, rfl⟩ := hR
    have nd := sc_first_steady.nd
    refine b_cons (s_setLc (i := 2) (L := r) (c := .int) (f := .int) (t := fun x => !hs.contains x) (j := 3) (i_seq (.tup _) (dv 1 rfl)) (blkOk_by (N := ["rest", "route", "found", "house"]) (sc := defScope s_first_steady) (by decide +kernel)) (fun _ _ _ _ _ => pg_name (i := 3) nd rfl (by first | exact Or.inl rfl | exact Or.inr rfl)) (fun _ _ _ _ _ i _ => ts_one (t_cmp op_notIn_seq (r_nin sb) (dv 3 rfl) (d_ix 1 sx rfl (dv 0 rfl) dc_int))) (fun _ _ _ _ _ i _ _ => dv 3 rfl) (by omega)) ?_
    refine b_ret (d_if (t_cmp (op_neD hr.units) (r_neD (shaped_lI _) shaped_nil) (dv 2 rfl) (d_lst a_nil (Nat.zero_le _))) (fun hk => ?_) (fun hk => ?_)) rfl
    · rw [eqv_nil] at hk
      unfold firstD
      cases hf : r.filter fun x => !hs.contains x with
      | nil => rw [hf] at hk; exact absurd hk (by decide)
      | cons y ys =>
        exact d_ix 0 (.lst _) rfl (dv 2 rfl) dc_int
    · rw [eqv_nil] at hk
      unfold firstD
      cases hf : r.filter fun x => !hs.contains x with
      | nil => exact dc_non
      | cons y ys => rw [hf] at hk; exact absurd (show true = false from hk) (by decide)
end
end DL
namespace DL
open PySem PySem.Spec PyProof.Rows L2
section
variable {X : Cx} {env env1 env2 : En} {m m' m1 m2 mE : Nat} {e e2 a b c tg : Expr} {es : List Expr} {d d1 d2 d3 : PyData} {ds : List PyData} {pos p p2 : Pos} {st : Stmt} {rest body : List Stmt} {P : PyData → Prop}
/-- while: the world at i is E i, which falls -/
theorem s_while {ι : Type} (E : ι → En) (C : ι → Prop) (μ : ι → Nat) (t : ι → Bool) (nxt : ι → ι) (i0 : ι) (c0 : C i0) (h0 : Wk env (E i0)) (hc : ∀ i, C i → PT X c (tT (E i) (t i))) (hb : ∀ i, C i → t i = true → C (nxt i) ∧ μ (nxt i) < μ i ∧ PSs X body (tN m m (E i) (E (nxt i)))) (he : ∀ i, C i → t i = false → Wk (E i) env1) (hp : PassesOwn (model X.prog X.w) X.A X.env X.xe) :
    PS X (.While c body [] pos) (tN m m env env1) := by
  have hc' : PT X c (fun σ H Q => ∃ i, C i ∧ tT (E i) (t i) σ H Q) := PT.ex hc
  have hbody : PSs X body (fun D σ H => ∃ i, (C i ∧ t i = true) ∧ tN m m (E i) (E (nxt i)) D σ H) := PSs.ex fun i hi => (hb i hi.1 hi.2).2.2
  refine PS.imp (ps_while hp hc' hbody) fun D σ H _ ⟨N, W, T, S, B, q⟩ => ?_
  refine ⟨fun k σ' H' => ∃ i, k = μ i ∧ C i ∧ σ'.length = σ.length ∧ SameW W H H' ∧ Sta N W T H' σ' (E i) ∧ BoxO T H' m, ⟨μ i0, i0, rfl, c0, rfl, SameW.refl W H, S.wk h0, B⟩, ?_⟩
  rintro k σ' H' ⟨i, rfl, ci, hl, sw, S', B'⟩
  refine ⟨i, ci, N, W, T, S', fun H2 e2 => ?_⟩
  cases ht : t i with
  | true =>
    show ∃ N : L2.St → Hp → Prop, _
    obtain ⟨z1, z2, _⟩ := hb i ci ht
    refine ⟨fun σ3 H3 => σ3.length = σ.length ∧ SameW W H H3 ∧ Sta N W T H3 σ3 (E (nxt i)) ∧ BoxO T H3 m, fun σ3 H3 z => ⟨μ (nxt i), z2, nxt i, rfl, z1, z⟩, i, ⟨ci, ht⟩, N, W, T, S'.mono e2, B'.mono e2, fun σ3 H3 l3 sw3 S3 B3 => ⟨l3.trans hl, (sw.trans (Same.w e2)).trans sw3, S3, B3⟩⟩
  | false =>
    show D.nx σ' H2
    exact q σ' H2 hl (sw.trans (Same.w e2)) ((S'.mono e2).wk (he i ci ht)) (B'.mono e2)
theorem ps_nox {t : TS} (h : PS X.nox st t) : PS X st t := ⟨fun pins s σ H D I hw =>
  wpAny_mono (h.run pins s σ H D (I.wish _) hw) (fun _ _ q => q.unwish) fun _ _ z => False.elim z⟩
/-- X() of an own class of exceptions -/
theorem pmk_own0 {C : Addr} {bmB : List Value} {B newId initId : String} {x : Str} {p pos : Pos} (F : ExcBaseFacts B newId initId bmB) (q : PySem.W.excIn X.K C bmB newId = true) (gC : X.mg x = some (.ref C)) (kC : PySem.W.keepIn X.K (.ref C) = true) (r : Raises X (.ref C)) (hg : Gl X x)
    (hdb : (x == ("__debug__" : Str)) = false := by decide) : PMk X (.Call (.Name x p) [] [] pos) (fun _ H Q => Q (.ref C) none H) := by
  intro pins s σ H Q I h
  refine wpAny_Call_Name_kw (ld_glob I hg gC ?_ hdb)
  refine PySem.W.callWith_K0 (first := []) I.kIn kC ?_
  show wpAny _ _ (call (.ref C) []) _ _ _
  obtain ⟨bm, N, nm, qn, bs, hdct, sn, sub, ab, col, dd, k0, k1, k2, k3, k5, mN, hC, hN, hni, T⟩ := exc_obj I.kIn q
  refine wpAny_call_exc_subT F T hC hN hni (fun h' e hm => ?_) (Nat.zero_le _)
  exact mk_of I hm r h (I.hok.gone hm.new)
end
section
variable {P : Program} {w : World} {K : PySem.W.Frag} {mg : Str → Option Value} {base : Heap}
def R_routes_hidden : List PyData → PyData → Prop := fun ds d => ∃ (n x ra rb : PyData) (p h : Nat) (hs : List Int), ds = [n, x] ∧ IsSeq n (nt p h) ∧ IsSeq x [ra, rb] ∧ IsSeq rb (hs.map .int) ∧ h ≤ 8 ∧ d = .tuple [.int (((rts h).filter (hid hs)).length : Nat), .int ((rts h).length : Nat)]
theorem rts_row (h : Nat) : ∀ r ∈ rts h, r.length ≤ h := fun r hr => subs_row h r (List.mem_of_mem_drop (List.mem_mergeSort.mp hr))
theorem ok_routes_hidden (T : Tx K mg) : FnOk P w K mg base CX0 3 T.routes_hidden.f T.routes_hidden.fd ["net", "rest"] (spD R_routes_hidden) := by
  refine ok_D T.routes_hidden.F sc_routes_hidden (fun ds d h => ?_) (fun cdv A outer s H E ds d hr hR => ?_)
  · obtain ⟨n, x, ra, rb, p, h, hs, rfl, _⟩ := h
    rfl
  · obtain ⟨n, x, ra, rb, p, h, hs, rfl, sn, sx, sb, hh, rfl⟩ := hR
    have nd := sc_routes_hidden.nd
    have hl := rts_len h hh
    refine b_cons (s_set (i := 2) (d_call (ok_all_routes T) (hr.mono (by decide)) T.all_routes.g T.all_routes.F.kp T.all_routes.b (a_cons (dv 0 rfl) a_nil) ⟨n, p, h, rfl, sn, hh, rfl⟩)) (b_ret (d_tup (a_cons (d_is (d_callB call_len_seq (c_len (.lst _)) T.z_len (a_cons
      (d_lc (L := rts h) (c := tI) (f := tI) (t := hid hs) (j := 3) (i_seq (.lst _) (dv 2 rfl)) (blkOk_by (N := ["net", "rest", "routes", "route"]) (sc := defScope s_routes_hidden) (by decide +kernel)) (fun _ _ _ _ _ => pg_name (i := 3) nd rfl (by first | exact Or.inl rfl | exact Or.inr rfl)) (fun _ _ _ _ _ r hrr => ts_one (t_val (d_call (ok_hidden_route T) hr T.hidden_route.g T.hidden_route.F.kp T.hidden_route.b (a_cons (dv 1 rfl) (a_cons (dv 3 rfl) a_nil)) ⟨x, ra, rb, hs, r, rfl, sx, sb, by have := rts_row h r hrr; omega, rfl⟩))) (fun _ _ _ _ _ r _ _ => dv 3 rfl) (by omega) nd) a_nil)) (by rw [List.length_map]))
      (a_cons (d_is (d_callB call_len_seq (c_len (.lst _)) T.z_len (a_cons (dv 2 rfl) a_nil)) (by rw [List.length_map])) a_nil)) (by show 2 ≤ sizeLine; decide)) rfl)
def frD (a b : Nat) : PyData := .tuple [.int ((a / Nat.gcd a b : Nat) : Int), .int ((b / Nat.gcd a b : Nat) : Int)]
def R_fraction : List PyData → PyData → Prop := fun ds d => ∃ a b : Nat, ds = [.int (a : Int), .int (b : Int)] ∧ 0 < b ∧ b ≤ 1000000 ∧ d = frD a b
theorem ok_fraction (T : Tx K mg) : FnOk P w K mg base CX0 1 T.fraction.f T.fraction.fd ["above", "below"] (spD R_fraction) := by
  refine ok_D T.fraction.F sc_fraction (fun ds d h => ?_) (fun cdv A outer s H E ds d hr hR => ?_)
  · obtain ⟨a, b, rfl, _⟩ := h
    rfl
  · obtain ⟨a, b, rfl, hb, hb2, rfl⟩ := hR
    have nd := sc_fraction.nd
    have hg0 : 0 < Nat.gcd a b := Nat.gcd_pos_of_pos_right a hb
    have hg1 : Nat.gcd a b ≤ b := Nat.gcd_le_right a hb
    refine b_if (t_cmp op_eq r_eqI (dv 1 rfl) dc_int) (fun hk => absurd (of_decide_eq_true hk) (by omega)) fun _ => ?_
    refine b_cons (s_set (i := 2) (d := .int ((Nat.gcd a b : Nat) : Int)) (d_if (t_cmp op_gt r_IB (dv 1 rfl) dc_int) (fun _ => d_callBf cr_gcd c_gcd T.gcd (a_cons (dv 0 rfl) (a_cons (dv 1 rfl) a_nil))) (fun hk => absurd (of_decide_eq_false hk) (by omega)))) ?_
    exact b_ret (d_tup (a_cons (d_op op_fdiv (r_I ⟨by omega, by omega⟩) (dv 0 rfl) (dv 2 rfl)) (a_cons (d_op op_fdiv (r_I ⟨by omega, by omega⟩) (dv 1 rfl) (dv 2 rfl)) a_nil)) (by show 2 ≤ sizeLine; decide)) rfl
def cnt (h : Nat) (hs : List Int) : Nat := ((rts h).filter (hid hs)).length
def R_part_hidden : List PyData → PyData → Prop := fun ds d => ∃ (n : PyData) (p h k : Nat), ds = [n, .int (k : Int)] ∧ IsSeq n (nt p h) ∧ h ≤ 8 ∧ k ≤ 100 ∧ 0 < (rts h).length ∧ d = frD (cnt h (rg k)) (rts h).length
theorem ok_part_hidden (T : Tx K mg) : FnOk P w K mg base CX0 2 T.part_hidden.f T.part_hidden.fd ["net", "many"] (spD R_part_hidden) := by
  refine ok_D T.part_hidden.F sc_part_hidden (fun ds d h => ?_) (fun cdv A outer s H E ds d hr hR => ?_)
  · obtain ⟨n, p, h, k, rfl, _⟩ := h
    rfl
  · obtain ⟨n, p, h, k, rfl, sn, hh, hk, h0, rfl⟩ := hR
    have nd := sc_part_hidden.nd
    have hl := rts_len h hh
    refine b_cons (s_set (i := 2) (d_call (ok_all_routes T) hr T.all_routes.g T.all_routes.F.kp T.all_routes.b (a_cons (dv 0 rfl) a_nil) ⟨n, p, h, rfl, sn, hh, rfl⟩)) ?_
    refine b_cons (s_set (i := 3) (d := tI (rg k)) (d_is (d_tupRg (n := (k : Int)) (by omega) T.z_tuple T.z_range (dv 1 rfl)) (by rw [Int.toNat_natCast, rgD_eq]; rfl))) ?_
    refine b_ret (d_call (ok_fraction T) hr T.fraction.g T.fraction.F.kp T.fraction.b (a_cons (d_is (d2 := .int ((cnt h (rg k) : Nat) : Int)) (d_callB call_len_seq (c_len (.lst _)) T.z_len (a_cons
      (d_lc (L := rts h) (c := tI) (f := tI) (t := hid (rg k)) (j := 4) (i_seq (.lst _) (dv 2 rfl)) (blkOk_by (N := ["net", "many", "routes", "houses", "route"]) (sc := defScope s_part_hidden) (by decide +kernel)) (fun _ _ _ _ _ => pg_name (i := 4) nd rfl (by first | exact Or.inl rfl | exact Or.inr rfl)) (fun _ _ _ _ _ r hrr => ts_one (t_val (d_call (ok_is_hidden_from T) hr T.is_hidden_from.g T.is_hidden_from.F.kp T.is_hidden_from.b (a_cons (dv 3 rfl) (a_cons (dv 4 rfl) a_nil)) ⟨_, rg k, r, rfl, .tup _, by have := rts_row h r hrr; omega, rfl⟩))) (fun _ _ _ _ _ r _ _ => dv 4 rfl) (by omega) nd) a_nil)) (by rw [List.length_map]; rfl))
      (a_cons (d_is (d2 := .int (((rts h).length : Nat) : Int)) (d_callB call_len_seq (c_len (.lst _)) T.z_len (a_cons (dv 2 rfl) a_nil)) (by rw [List.length_map])) a_nil)) ⟨_, _, rfl, h0, by omega, rfl⟩) rfl
def lstD (h : Nat) (k : Int) : PyData := if k < (h : Int) then .int (k + 1) else .none
def R_least_route : List PyData → PyData → Prop := fun ds d => ∃ (n : PyData) (p h : Nat) (k : Int), ds = [n, .int k] ∧ IsSeq n (nt p h) ∧ d = lstD h k
theorem ok_least_route (T : Tx K mg) : FnOk P w K mg base CX0 1 T.least_route.f T.least_route.fd ["net", "many"] (spD R_least_route) := by
  refine ok_D T.least_route.F sc_least_route (fun ds d h => ?_) (fun cdv A outer s H E ds d hr hR => ?_)
  · obtain ⟨n, p, h, k, rfl, _⟩ := h
    rfl
  · obtain ⟨n, p, h, k, rfl, sn, rfl⟩ := hR
    refine b_ret (d_if (t_cmp op_lt r_IB (dv 1 rfl) (d_ix 1 sn rfl (dv 0 rfl) dc_int)) (fun hk => ?_) (fun hk => ?_)) rfl
    · unfold lstD
      rw [if_pos (of_decide_eq_true hk)]
      exact d_op op_add r_I0 (dv 1 rfl) dc_int
    · unfold lstD
      rw [if_neg (of_decide_eq_false hk)]
      exact dc_non
def safe (lots : List (List Int)) (r : List Int) : Bool := lots.all fun l => hid l r
def sfs (h : Nat) (lots : List (List Int)) : List (List Int) := (rts h).filter (safe lots)
/-- a net and some lots, as lists or tuples -/
structure NL (ds : List PyData) (p h : Nat) (lots : List (List Int)) : Prop where
  ex : ∃ (n ld : PyData) (c : List Int → PyData), ds = [n, ld] ∧ IsSeq n (nt p h) ∧ IsSeq ld (lots.map c) ∧ ∀ l, IsSeq (c l) (l.map .int)
  h8 : h ≤ 8
  few : lots.length ≤ 100
def R_safe_routes : List PyData → PyData → Prop := fun ds d => ∃ (p h : Nat) (lots : List (List Int)), NL ds p h lots ∧ d = .list ((sfs h lots).map tI)
theorem ok_safe_routes (T : Tx K mg) : FnOk P w K mg base CX0 2 T.safe_routes.f T.safe_routes.fd ["net", "lots"] (spD R_safe_routes) := by
  refine ok_D T.safe_routes.F sc_safe_routes (fun ds d h => ?_) (fun cdv A outer s H E ds d hr hR => ?_)
  · obtain ⟨p, h, lots, ⟨⟨n, ld, c, rfl, _⟩, _⟩, _⟩ := h
    rfl
  · obtain ⟨p, h, lots, ⟨⟨n, ld, c, rfl, sn, sl, sc⟩, hh, hf⟩, rfl⟩ := hR
    have nd := sc_safe_routes.nd
    have hl := rts_len h hh
    exact b_ret (d_lc (L := rts h) (c := tI) (f := tI) (t := safe lots) (j := 2) (i_seq (.lst _) (d_call (ok_all_routes T) hr T.all_routes.g T.all_routes.F.kp T.all_routes.b (a_cons (dv 0 rfl) a_nil) ⟨n, p, h, rfl, sn, hh, rfl⟩)) (blkOk_by (N := ["net", "lots", "route", "houses"]) (sc := defScope s_safe_routes) (by decide +kernel)) (fun _ _ _ _ _ => pg_name (i := 2) nd rfl (by first | exact Or.inl rfl | exact Or.inr rfl))
      (fun _ _ _ _ _ r hrr => ts_one (t_val (d_callB (cr_all rfl) c_allM T.z_all (a_cons (d_lcm (L := lots) (c := c) (f := fun l => .bool (hid l r)) (j := 3) (i_seq sl (dv 1 rfl)) (blkOk_by (N := ["net", "lots", "route", "houses"]) (sc := relS _ (defScope s_safe_routes)) (by decide +kernel)) (fun _ _ _ _ _ => pg_name (i := 3) nd rfl (by first | exact Or.inl rfl | exact Or.inr rfl))
        (fun _ _ _ _ _ l _ => d_call (ok_is_hidden_from T) hr T.is_hidden_from.g T.is_hidden_from.F.kp T.is_hidden_from.b (a_cons (dv 3 rfl) (a_cons (dv 2 rfl) a_nil)) ⟨_, l, r, rfl, sc l, by have := rts_row h r hrr; omega, rfl⟩) (by omega) nd) a_nil)))) (fun _ _ _ _ _ r _ _ => dv 2 rfl) (by omega) nd) rfl
/-! ### the shortest one -/
def bstF (b : List Int) (L : List (List Int)) : List Int := L.foldl (fun a y => if decide (y.length < a.length) = true then y else a) b
def bestD : List (List Int) → PyData
  | [] => .list [.str "paper", .bool true]
  | x :: xs => tI (bstF x xs)
def prD (r : List Int) : PyData := .tuple [.int (r.length : Int), tI r]
theorem alike_pr (r r' : List Int) : PySem.W.alike (prD r) (prD r') = true := by
  have h := alike_tI r r'
  unfold prD
  simp [PySem.W.alike, PySem.W.alikeAll, h]
theorem eqv_tI : ∀ r r' : List Int, PyData.eqv (tI r) (tI r') = decide (r = r') := by
  have g : ∀ r r' : List Int, PyData.eqvAll (r.map .int) (r'.map .int) = decide (r = r') := by
    intro r
    induction r with
    | nil => intro r'; cases r' <;> simp [PyData.eqvAll]
    | cons x r ih =>
      intro r'
      cases r' with
      | nil => simp [PyData.eqvAll]
      | cons y r' =>
        rw [List.map_cons, List.map_cons]
        simp only [PyData.eqvAll, PyData.eqv]
        rw [ih r']
        by_cases h1 : x = y
        · subst h1
          by_cases h2 : r = r'
          · subst h2; simp
          · simp [h2]
        · simp [h1]
  intro r r'
  unfold tI
  simp only [PyData.eqv]
  exact g r r'
theorem lt_tI (r r' : List Int) : PySem.W.dataLt (tI r) (tI r') = decide (r < r') := by
  unfold tI
  rw [PySem.W.dataLt_tuple]
  exact PySem.W.dataLt_ints r r'
theorem lt_pr {x y : List Int} (h : x ≤ y) : PySem.W.dataLt (prD y) (prD x) = decide (y.length < x.length) := by
  unfold prD
  have e1 : PyData.eqv (.int (y.length : Int)) (.int (x.length : Int)) = ((y.length : Int) == (x.length : Int)) := by simp [PyData.eqv]
  rw [PySem.W.dataLt_pair (by simp [PySem.W.alike]) (alike_tI y x), eqv_tI, lt_tI, PySem.W.dataLt_int, e1]
  have h' : ¬ y < x := List.not_lt.mpr h
  by_cases hl : (y.length : Int) = (x.length : Int)
  · have e2 : ((y.length : Int) == (x.length : Int)) = true := by rw [hl]; exact beq_self_eq_true _
    have e3 : ¬ y.length < x.length := by omega
    rw [if_pos e2, decide_eq_false h', decide_eq_false e3]
    split <;> rfl
  · have e2 : ¬ ((y.length : Int) == (x.length : Int)) = true := by rw [beq_iff_eq]; exact hl
    rw [if_neg e2]
    exact decide_eq_decide.mpr (by omega)
theorem min_best : ∀ (xs : List (List Int)) (x : List Int), (∀ y ∈ xs, x ≤ y) → xs.Pairwise (fun a b => a ≤ b) → PySem.W.minD (prD x) (xs.map prD) = prD (bstF x xs)
  | [], _, _, _ => rfl
  | y :: ys, x, h, hp => by
    have e := lt_pr (h y List.mem_cons_self)
    obtain ⟨h1, h2⟩ := List.pairwise_cons.mp hp
    show PySem.W.minD (if PySem.W.dataLt (prD y) (prD x) = true then prD y else prD x) (ys.map prD) = prD (bstF (if decide (y.length < x.length) = true then y else x) ys)
    rw [e]
    by_cases hl : decide (y.length < x.length) = true
    · rw [if_pos hl, if_pos hl]
      exact min_best ys y h1 h2
    · rw [if_neg hl, if_neg hl]
      exact min_best ys x (fun z hz => h z (List.mem_cons_of_mem _ hz)) h2
theorem rts_pair (h : Nat) : (rts h).Pairwise (fun a b => a ≤ b) := by
  have z := List.pairwise_mergeSort (le := fun p q : List Int => decide (p ≤ q)) (fun a b c h1 h2 => decide_eq_true (List.le_trans (of_decide_eq_true h1) (of_decide_eq_true h2))) (fun a b => by
    rcases List.le_total a b with h | h
    · rw [decide_eq_true h]; rfl
    · rw [decide_eq_true h, Bool.or_true]) ((subs h).drop 1)
  exact z.imp fun h => of_decide_eq_true h
theorem sfs_pair (h : Nat) (lots : List (List Int)) : (sfs h lots).Pairwise (fun a b => a ≤ b) := (rts_pair h).filter _
theorem sfs_row {h : Nat} {lots : List (List Int)} : ∀ r ∈ sfs h lots, r.length ≤ h := fun r hr => rts_row h r (List.mem_filter.mp hr).1
theorem depth_prs : ∀ L : List (List Int), PyData.depthAll (L.map prD) ≤ 2
  | [] => by simp [PyData.depthAll]
  | r :: L => by
    have h1 := depth_prs L
    have h2 := depth_tI r
    have h3 : (prD r).depth ≤ 2 := by
      unfold prD
      simp only [PyData.depth, PyData.depthAll]
      omega
    simp only [List.map_cons, PyData.depthAll]
    omega
def spShort (C : Addr) : Sp := fun vs H Q E => ∃ (N : List Addr) (ds : List PyData) (p h : Nat) (lots : List (List Int)), (∀ a ∈ N, H a ≠ none) ∧ Rps (hide N H) vs ds ∧ NL ds p h lots ∧
  (sfs h lots ≠ [] → ∀ v H', Same H H' → Rp (hide N H') v (bestD (sfs h lots)) → Q v H') ∧ (sfs h lots = [] → ∀ H', Same H H' → E (.ref C) none H')
theorem ok_shortest_safe (T : Tx K mg) : FnOk P w K mg base (L2.CX P w) 3 T.shortest_safe.f T.shortest_safe.fd ["net", "lots"] (spShort T.C) := by
  refine T.shortest_safe.F.okX sc_shortest_safe (fun vs H Q E h => ?_) (fun cdv A outer s H vs Q E hr h => ?_)
  · obtain ⟨N, ds, p, h, lots, _, r, ⟨⟨n, ld, c, rfl, _⟩, _⟩, _⟩ := h
    rw [r.length]
    rfl
  · obtain ⟨N, ds, p, h, lots, f, r, nl, q1, q2⟩ := h
    obtain ⟨⟨n, ld, c, rfl, sn, sl, sc⟩, hh, hf⟩ := id nl
    have nd := sc_shortest_safe.nd
    have hl := rts_len h hh
    have hsl : (sfs h lots).length ≤ 256 := Nat.le_trans (List.length_filter_le _ _) hl
    cases hL : sfs h lots with
    | cons x xs =>
      have hne : sfs h lots ≠ [] := by rw [hL]; exact fun z => nomatch z
      refine ⟨tB 0 0 (argE 0 [n, ld]) (fun z => z = bestD (sfs h lots)), PSs.nox ?_, N, N, [], none, fun _ h => h, (fun _ h => (by cases h)), sta_start f r, (fun _ h => (by cases h)), fun v z H' sw _ hz rv => by
        subst hz
        exact q1 hne v H' sw.same rv⟩
      refine b_cons (s_set (i := 2) (d_call (ok_safe_routes T) hr T.safe_routes.g T.safe_routes.F.kp T.safe_routes.b (a_cons (dv 0 rfl) (a_cons (dv 1 rfl) a_nil)) ⟨p, h, lots, nl, rfl⟩)) ?_
      refine b_if (t_cmp (op_eqD hr.units) (r_eqD (shaped_rows _) shaped_nil) (dv 2 rfl) (d_lst a_nil (Nat.zero_le _))) (fun hk => ?_) fun _ => ?_
      · rw [eqv_nil, hL] at hk
        exact absurd (show false = true from hk) Bool.false_ne_true
      · have hp := sfs_pair h lots
        have hrow := hL ▸ (sfs_row (h := h) (lots := lots))
        have hlen : (x :: xs).length ≤ 256 := hL ▸ hsl
        rw [hL] at hp ⊢
        obtain ⟨p1, p2⟩ := List.pairwise_cons.mp hp
        have hal : PySem.W.AlikeAll (prD x :: xs.map prD) := by
          refine ⟨fun a ha b hb => ?_, fun a ha => ?_⟩
          · rw [← List.map_cons] at ha hb
            obtain ⟨u, _, rfl⟩ := List.mem_map.mp ha
            obtain ⟨v, _, rfl⟩ := List.mem_map.mp hb
            exact alike_pr u v
          · rw [← List.map_cons] at ha
            obtain ⟨u, _, rfl⟩ := List.mem_map.mp ha
            exact fun z => nomatch z
        refine b_ret (d_ix 1 (d1 := prD (bstF x xs)) (.tup _) rfl (d_is (d_callB (cr_minD rfl hr.units) (c_minD hal (by have := depth_prs (x :: xs); rw [List.map_cons] at this; omega)) T.z_min (a_cons
          (d_lcm (L := x :: xs) (c := tI) (f := prD) (j := 3) (i_seq (.lst _) (dv 2 rfl)) (blkOk_by (N := ["net", "lots", "routes", "route"]) (sc := defScope s_shortest_safe) (by decide +kernel)) (fun _ _ _ _ _ => pg_name (i := 3) nd rfl (by first | exact Or.inl rfl | exact Or.inr rfl)) (fun _ _ _ _ _ r hr' => d_tup (a_cons (d_is (d_callB call_len_seq (c_len (.tup _)) T.z_len (a_cons (dv 3 rfl) a_nil)) (by rw [List.length_map])) (a_cons (dv 3 rfl) a_nil)) (by show 2 ≤ sizeLine; decide)) (by omega) nd) a_nil)) (min_best xs x p1 p2)) dc_int) rfl
    | nil =>
      refine ⟨_, pss_cons (ps_nox (s_set (m := 0) (i := 2) (env := argE 0 [n, ld]) (d_call (ok_safe_routes T) hr T.safe_routes.g T.safe_routes.F.kp T.safe_routes.b (a_cons (dv 0 rfl) (a_cons (dv 1 rfl) a_nil)) ⟨p, h, lots, nl, rfl⟩))) (pss_cons (u := fun _ _ _ => False) (ps_if (b := []) (u := tNever) (PT.nox (t_cmp (env := (2, .dat (.list ((sfs h lots).map tI))) :: argE 0 [n, ld]) (op_eqD hr.units) (r_eqD (shaped_rows _) shaped_nil) (dv 2 rfl) (d_lst a_nil (Nat.zero_le _))))
        (pss_one (ps_raise rfl (takes_of rfl rfl rfl rfl) (pmk_own0 PySem.F.excBase_ValueError T.xC T.gC T.kC (raises_own T.bC T.tC) (by exact rfl)))) pss_never) pss_never), ?_⟩
      refine ⟨N, [], none, sta_start f r, (fun _ h => (by cases h)), fun σ' H' _ sw S' _ => ⟨N, [], none, S', fun H'' e'' => ?_⟩⟩
      rw [hL, eqv_nil]
      exact q2 hL H'' (sw.same.trans e'')
end
end DL
namespace DL
open PySem PySem.Spec PyProof.Rows L2
/-! ### the law's own helpers -/
def sm : Nat → PyData → Bool
  | _, .none => true
  | _, .bool _ => true
  | _, .int _ => true
  | _, .str _ => true
  | n + 1, .list ds => ds.all (sm n) && decide (ds.length ≤ 100000)
  | n + 1, .tuple ds => ds.all (sm n) && decide (ds.length ≤ 100000)
  | _, _ => false
def toL : Nat → PyData → PyData
  | n + 1, .list ds => .list (ds.map (toL n))
  | n + 1, .tuple ds => .list (ds.map (toL n))
  | _, d => d
theorem sm_seq {n : Nat} {d : PyData} (h : sm n d = true) (hs : (isL d || isT d) = true) : ∃ k ds, n = k + 1 ∧ IsSeq d ds ∧ (∀ x ∈ ds, sm k x = true) ∧ ds.length ≤ 100000 := by
  cases d with
  | list ds =>
    cases n with
    | zero => exact absurd (show false = true from h) Bool.false_ne_true
    | succ k =>
      have h' : (ds.all (sm k) && decide (ds.length ≤ 100000)) = true := h
      rw [Bool.and_eq_true] at h'
      exact ⟨k, ds, rfl, .lst ds, List.all_eq_true.mp h'.1, of_decide_eq_true h'.2⟩
  | tuple ds =>
    cases n with
    | zero => exact absurd (show false = true from h) Bool.false_ne_true
    | succ k =>
      have h' : (ds.all (sm k) && decide (ds.length ≤ 100000)) = true := h
      rw [Bool.and_eq_true] at h'
      exact ⟨k, ds, rfl, .tup ds, List.all_eq_true.mp h'.1, of_decide_eq_true h'.2⟩
  | _ => exact absurd (show false = true from hs) Bool.false_ne_true
theorem toL_seq {k : Nat} {d : PyData} {ds : List PyData} (s : IsSeq d ds) : toL (k + 1) d = .list (ds.map (toL k)) := by
  cases s <;> rfl
theorem toL_flat {n : Nat} {d : PyData} (hs : (isL d || isT d) = false) : toL n d = d := by
  cases d with
  | list ds => exact absurd (show true = false from hs) (by decide)
  | tuple ds => exact absurd (show true = false from hs) (by decide)
  | _ => cases n <;> rfl
section
variable {P : Program} {w : World} {K : PySem.W.Frag} {mg : Str → Option Value} {base : Heap}
def R_l_lists (n : Nat) : List PyData → PyData → Prop := fun ds d => ∃ x, ds = [x] ∧ sm n x = true ∧ d = toL n x
theorem ok_l_lists (T : Tx K mg) : ∀ n, FnOk P w K mg base CX0 (n + 1) T.l_lists.f T.l_lists.fd ["_law_matter"] (spD (R_l_lists n)) := by
  intro n
  induction n with
  | zero =>
    refine ok_D T.l_lists.F sc_l_lists (fun ds d h => ?_) (fun cdv A outer s H E ds d hr hR => ?_)
    · obtain ⟨x, rfl, _⟩ := h
      rfl
    · obtain ⟨x, rfl, hx, hd⟩ := hR
      rw [hd]
      refine b_ret (d_if (k := isL x || isT x) (t_val (d_isi2 (ty := "list") (ty2 := "tuple") T.z_isinstance T.z_list T.z_tuple (dv 0 rfl) (kit_list x) (kit_tuple x))) (fun hk => ?_) (fun hk => ?_)) rfl
      · obtain ⟨k, _, e, _⟩ := sm_seq hx hk
        cases e
      · exact d_is (dv 0 rfl) (toL_flat hk).symm
  | succ k ih =>
    refine ok_D T.l_lists.F sc_l_lists (fun ds d h => ?_) (fun cdv A outer s H E ds d hr hR => ?_)
    · obtain ⟨x, rfl, _⟩ := h
      rfl
    · obtain ⟨x, rfl, hx, rfl⟩ := hR
      have nd := sc_l_lists.nd
      refine b_ret (d_if (k := isL x || isT x) (t_val (d_isi2 (ty := "list") (ty2 := "tuple") T.z_isinstance T.z_list T.z_tuple (dv 0 rfl) (kit_list x) (kit_tuple x))) (fun hk => ?_) (fun hk => ?_)) rfl
      · obtain ⟨j, ds, e, sx, hs, hz⟩ := sm_seq hx hk
        cases e
        rw [toL_seq sx]
        exact d_lcm (L := ds) (c := fun x => x) (f := toL k) (j := 1) (by rw [List.map_id']; exact i_seq sx (dv 0 rfl)) (blkOk_by (N := ["_law_matter", "_law_bit"]) (sc := defScope s_l_lists) (by decide +kernel)) (fun _ _ _ _ _ => pg_name (i := 1) nd rfl (by first | exact Or.inl rfl | exact Or.inr rfl)) (fun _ _ _ _ _ y hy => d_call ih hr T.l_lists.g T.l_lists.F.kp T.l_lists.b (a_cons (dv 1 rfl) a_nil) ⟨y, rfl, hs y hy, rfl⟩) (by omega) nd
      · exact d_is (dv 0 rfl) (toL_flat hk).symm
def R_l_same (n : Nat) : List PyData → PyData → Prop := fun ds d => ∃ x, ds = [x, x] ∧ sm n x = true ∧ d = .bool true
theorem sm_flat {n : Nat} {d : PyData} (h : sm n d = true) (hs : (isL d || isT d) = false) : d = .none ∨ (∃ b, d = .bool b) ∨ (∃ x, d = .str x) ∨ ∃ i, d = .int i := by
  cases d with
  | list ds => exact absurd (show true = false from hs) (by decide)
  | tuple ds => exact absurd (show true = false from hs) (by decide)
  | none => exact .inl rfl
  | bool b => exact .inr (.inl ⟨b, rfl⟩)
  | str x => exact .inr (.inr (.inl ⟨x, rfl⟩))
  | int i => exact .inr (.inr (.inr ⟨i, rfl⟩))
  | dict kvs =>
    cases n with
    | zero => exact absurd (show false = true from h) Bool.false_ne_true
    | succ k => exact absurd (show false = true from h) Bool.false_ne_true
theorem eqv_none : PyData.eqv .none .none = true := by simp [PyData.eqv]
theorem shaped_none : SeqAt.shaped .none = true := by decide +kernel
theorem zip_self : ∀ ds : List PyData, zipD ds ds = ds.map fun x => .tuple [x, x]
  | [] => rfl
  | d :: ds => by
    have ih := zip_self ds
    unfold zipD at ih ⊢
    rw [List.zip_cons_cons, List.map_cons, List.map_cons, ih]
theorem ok_l_same (T : Tx K mg) : ∀ n, FnOk P w K mg base CX0 (n + 1) T.l_same.f T.l_same.fd ["_law_got", "_law_due"] (spD (R_l_same n)) := by
  have main : ∀ (n k : Nat), (∀ j, n = j + 1 → FnOk P w K mg base CX0 k T.l_same.f T.l_same.fd ["_law_got", "_law_due"] (spD (R_l_same j))) → FnOk P w K mg base CX0 (k + 1) T.l_same.f T.l_same.fd ["_law_got", "_law_due"] (spD (R_l_same n)) := by
    intro n k hrec
    refine ok_D T.l_same.F sc_l_same (fun ds d h => ?_) (fun cdv A outer s H E ds d hr hR => ?_)
    · obtain ⟨x, rfl, _⟩ := h
      rfl
    · obtain ⟨x, rfl, hx, rfl⟩ := hR
      have nd := sc_l_same.nd
      refine b_if (k := isL x || isT x) (t_val (d_isi2 (ty := "list") (ty2 := "tuple") T.z_isinstance T.z_list T.z_tuple (dv 1 rfl) (kit_list x) (kit_tuple x))) (fun hk => ?_) (fun hk => ?_)
      · obtain ⟨j, ds, e, sx, hs, hz⟩ := sm_seq hx hk
        have F := hrec j e
        refine b_if (k := false) (PW.pt (t_or (k := false) (t_is (t_cmp op_ne r_neB (d_isi T.z_isinstance T.z_list (dv 0 rfl) (kit_list x)) (d_isi T.z_isinstance T.z_list (dv 1 rfl) (kit_list x))) (by simp)) fun _ => t_or1 (k := false) (t_is (t_cmp op_ne r_neB (d_isi T.z_isinstance T.z_tuple (dv 0 rfl) (kit_tuple x)) (d_isi T.z_isinstance T.z_tuple (dv 1 rfl) (kit_tuple x))) (by simp)))) (fun hk => absurd hk Bool.false_ne_true) fun _ => ?_
        refine b_ret (d_andB (k := decide ((ds.length : Int) = (ds.length : Int))) (l := ds.all fun _ => true) (d_cmp op_eq r_eqI (d_callB call_len_seq (c_len sx) T.z_len (a_cons (dv 0 rfl) a_nil)) (d_callB call_len_seq (c_len sx) T.z_len (a_cons (dv 1 rfl) a_nil))) fun _ => d_one (d_callB (cr_all rfl) c_allM T.z_all (a_cons
          (d_lcp (L := ds) (c1 := fun x => x) (c2 := fun x => x) (f := fun _ => .bool true) (i := 2) (j := 3) ?_ (blkOk_by (N := ["_law_got", "_law_due", "_law_mine", "_law_its"]) (sc := defScope s_l_same) (by decide +kernel)) (fun _ _ _ _ _ => pg_tup (n := 2) rfl (pgs_cons (pg_name (i := 2) nd rfl (Or.inl rfl)) (pgs_cons (pg_name (i := 3) nd rfl (Or.inl rfl)) pgs_nil)))
          (fun _ _ _ _ _ y hy => d_call F hr T.l_same.g T.l_same.F.kp T.l_same.b (a_cons (dv 2 rfl) (a_cons (dv 3 rfl) a_nil)) ⟨y, rfl, hs y hy, rfl⟩) (by decide) (by omega) nd) a_nil))) ?_
        · rw [← zip_self]
          refine i_zip ?_ T.z_zip (a_cons (dv 0 rfl) (a_cons (dv 1 rfl) a_nil))
          cases sx with
          | tup => exact .inr ⟨rfl, rfl⟩
          | lst => exact .inl ⟨rfl, rfl⟩
        · have h1 : (ds.all fun _ => true) = true := List.all_eq_true.mpr fun _ _ => rfl
          rw [h1, Bool.and_true, decide_eq_true rfl]
      · rcases sm_flat hx hk with rfl | ⟨b, rfl⟩ | ⟨z, rfl⟩ | ⟨i, rfl⟩
        · refine b_if (k := true || (isB .none || isS .none)) (PW.pt (t_or (k := true) (t_cmp op_isN' r_isN (dv 1 rfl) dc_non) fun _ => t_or1 (t_val (d_isi2 (ty := "bool") (ty2 := "str") T.z_isinstance T.z_bool T.z_str (dv 1 rfl) (kit_bool _) (kit_str _))))) (fun _ => ?_) (fun hk => absurd hk (by decide))
          exact b_ret (d_andB (k := true) (l := true) (d_is (d_cmp (op_eqD hr.units) (r_eqD shaped_none shaped_none) (dv 0 rfl) (dv 1 rfl)) (by rw [eqv_none])) fun _ => d_andB (k := true) (l := true) (d_is (d_cmp op_eq r_eqB (d_isi T.z_isinstance T.z_bool (dv 0 rfl) (kit_bool _)) (d_isi T.z_isinstance T.z_bool (dv 1 rfl) (kit_bool _))) (by rw [beq_self_eq_true])) fun _ => d_one (d_cmp op_eq r_eqB (d_cmp op_isN' r_isN (dv 0 rfl) dc_non) (d_cmp op_isN' r_isN (dv 1 rfl) dc_non))) rfl
        · refine b_if (k := false || (isB (.bool b) || isS (.bool b))) (PW.pt (t_or (k := false) (t_cmp op_isN' r_isN (dv 1 rfl) dc_non) fun _ => t_or1 (t_val (d_isi2 (ty := "bool") (ty2 := "str") T.z_isinstance T.z_bool T.z_str (dv 1 rfl) (kit_bool _) (kit_str _))))) (fun _ => ?_) (fun hk => absurd hk Bool.noConfusion)
          exact b_ret (d_andB (k := true) (l := true) (d_is (d_cmp op_eq r_eqB (dv 0 rfl) (dv 1 rfl)) (by rw [beq_self_eq_true])) fun _ => d_andB (k := true) (l := true) (d_is (d_cmp op_eq r_eqB (d_isi T.z_isinstance T.z_bool (dv 0 rfl) (kit_bool _)) (d_isi T.z_isinstance T.z_bool (dv 1 rfl) (kit_bool _))) (by rw [beq_self_eq_true])) fun _ => d_one (d_cmp op_eq r_eqB (d_cmp op_isN' r_isN (dv 0 rfl) dc_non) (d_cmp op_isN' r_isN (dv 1 rfl) dc_non))) rfl
        · refine b_if (k := false || (isB (.str z) || isS (.str z))) (PW.pt (t_or (k := false) (t_cmp op_isN' r_isN (dv 1 rfl) dc_non) fun _ => t_or1 (t_val (d_isi2 (ty := "bool") (ty2 := "str") T.z_isinstance T.z_bool T.z_str (dv 1 rfl) (kit_bool _) (kit_str _))))) (fun _ => ?_) (fun hk => absurd hk Bool.noConfusion)
          exact b_ret (d_andB (k := true) (l := true) (d_is (d_cmp op_eq r_eqS (dv 0 rfl) (dv 1 rfl)) (by rw [decide_eq_true rfl])) fun _ => d_andB (k := true) (l := true) (d_is (d_cmp op_eq r_eqB (d_isi T.z_isinstance T.z_bool (dv 0 rfl) (kit_bool _)) (d_isi T.z_isinstance T.z_bool (dv 1 rfl) (kit_bool _))) (by rw [beq_self_eq_true])) fun _ => d_one (d_cmp op_eq r_eqB (d_cmp op_isN' r_isN (dv 0 rfl) dc_non) (d_cmp op_isN' r_isN (dv 1 rfl) dc_non))) rfl
        · refine b_if (k := false || (isB (.int i) || isS (.int i))) (PW.pt (t_or (k := false) (t_cmp op_isN' r_isN (dv 1 rfl) dc_non) fun _ => t_or1 (t_val (d_isi2 (ty := "bool") (ty2 := "str") T.z_isinstance T.z_bool T.z_str (dv 1 rfl) (kit_bool _) (kit_str _))))) (fun hk => absurd hk Bool.noConfusion) (fun _ => ?_)
          exact b_ret (d_andB (k := true) (l := true) (d_isi T.z_isinstance T.z_int (dv 0 rfl) (kit_int _)) fun _ => d_andB (k := true) (l := true) (d_not (k := false) (d_isi T.z_isinstance T.z_bool (dv 0 rfl) (kit_bool _))) fun _ => d_one (d_is (d_cmp op_eq r_eqI (dv 0 rfl) (dv 1 rfl)) (by rw [decide_eq_true rfl]))) rfl
  intro n
  induction n with
  | zero => exact main 0 0 fun j e => nomatch e
  | succ j ih => exact main (j + 1) (j + 1) fun i e => Nat.succ.inj e ▸ ih
end
end DL
namespace DL
open PySem PySem.Spec PyProof.Rows L2
section
variable {P : Program} {w : World} {K : PySem.W.Frag} {mg : Str → Option Value} {base : Heap}
def R_l_subsets : List PyData → PyData → Prop := fun ds d => ∃ h : Nat, ds = [.list ((rg h).map .int)] ∧ h ≤ 8 ∧ d = .list ((subs h).map tI)
theorem ok_l_subsets (T : Tx K mg) : FnOk P w K mg base CX0 1 T.l_subsets.f T.l_subsets.fd ["_law_things_so"] (spD R_l_subsets) := by
  refine ok_D T.l_subsets.F sc_l_subsets (fun ds d h => ?_) (fun cdv A outer s H E ds d hr hR => ?_)
  · obtain ⟨h, rfl, _⟩ := h
    rfl
  · obtain ⟨h, rfl, hh, rfl⟩ := hR
    have nd := sc_l_subsets.nd
    refine b_cons (s_set (i := 1) (d := .list ((subs 0).map tI)) (d_lst (a_cons (d_tup (ds := []) a_nil (Nat.zero_le _)) a_nil) (by show 1 ≤ sizeLine; decide))) ?_
    refine b_cons (s_for (L := rg h) (c := .int) (j := 2) (fun i => [(1, .dat (.list ((subs i).map tI)))]) (i_seq (.lst _) (dv 0 rfl)) (wk_cons rfl (wk_nil _)) (fun i a ha => ?_) PassesOwn.never) (b_ret (dv 1 rfl) (by rw [rg_len]))
    have hi : i < h := by
      have := (List.getElem?_eq_some_iff.mp ha).1
      rw [rg_len] at this
      exact this
    have ea : a = (i : Int) := by
      unfold rg at ha
      rw [List.getElem?_map, List.getElem?_range hi] at ha
      exact (Option.some.inj ha).symm
    subst ea
    have hs := subs_small (n := 8) (by omega) (show i ≤ 8 by omega)
    refine ns_wk (env1 := (1, .dat (.list ((subs (i + 1)).map tI))) :: (2, .dat (.int (i : Int))) :: [(1, .dat (.list ((subs i).map tI)))]) (wk_cons rfl (wk_nil _)) (n_one (s_set (i := 1) (d_is (d_op op_cat (r_catL ?_) (dv 1 rfl)
      (d_lcm (L := subs i) (c := tI) (f := fun r => .tuple (r.map .int ++ [.int (i : Int)])) (j := 3) (i_seq (.lst _) (dv 1 rfl)) (blkOk_by (N := ["_law_things_so", "_law_found", "_law_thing_so", "_law_own"]) (sc := defScope s_l_subsets) (by decide +kernel)) (fun _ _ _ _ _ => pg_name (i := 3) nd rfl (by first | exact Or.inl rfl | exact Or.inr rfl)) (fun _ _ _ _ _ r hr => d_op op_catA (r_catT ?_) (dv 3 rfl) (d_tup (a_cons (dv 2 rfl) a_nil) (by show 1 ≤ sizeLine; decide))) (by omega) nd)) ?_)))
    · rw [List.length_map, List.length_map]
      exact small6' (by omega)
    · have := subs_row i r hr
      rw [List.length_map, List.length_singleton]
      exact small6' (by omega)
    · show PyData.list ((subs i).map tI ++ (subs i).map _) = .list ((subs i ++ (subs i).map fun r => r ++ [(i : Int)]).map tI)
      rw [List.map_append, List.map_map]
      congr 2
      refine List.map_congr_left fun r _ => ?_
      show _ = PyData.tuple ((r ++ [(i : Int)]).map .int)
      rw [List.map_append]
      rfl
def R_l_hides : List PyData → PyData → Prop := fun ds d => ∃ (x : PyData) (hs r : List Int), ds = [tI r, x] ∧ IsSeq x (hs.map .int) ∧ r.length ≤ 1000 ∧ d = .bool (hid hs r)
theorem hid_filter (hs r : List Int) : (!((r.filter fun x => !hs.contains x).map PyData.int).isEmpty) = hid hs r := by
  unfold hid
  induction r with
  | nil => rfl
  | cons x r ih =>
    rw [List.filter_cons, List.any_cons]
    by_cases h : (!hs.contains x) = true
    · rw [if_pos h, h]; rfl
    · have h' : (!hs.contains x) = false := Bool.eq_false_iff.mpr h
      rw [if_neg h, ih, h', Bool.false_or]
theorem ok_l_hides (T : Tx K mg) : FnOk P w K mg base CX0 1 T.l_hides.f T.l_hides.fd ["_law_route_so", "_law_houses_so"] (spD R_l_hides) := by
  refine ok_D T.l_hides.F sc_l_hides (fun ds d h => ?_) (fun cdv A outer s H E ds d hr hR => ?_)
  · obtain ⟨x, hs, r, rfl, _⟩ := h
    rfl
  · obtain ⟨x, hs, r, rfl, sx, hz, rfl⟩ := hR
    have nd := sc_l_hides.nd
    refine b_ret (d_is (d_cmp (op_neD hr.units) (r_neD (shaped_lI (r.filter fun x => !hs.contains x)) shaped_nil) (d_lc (L := r) (c := .int) (f := .int) (t := fun x => !hs.contains x) (j := 2) (i_seq (.tup _) (dv 0 rfl)) (blkOk_by (N := ["_law_route_so", "_law_houses_so", "_law_own"]) (sc := defScope s_l_hides) (by decide +kernel)) (fun _ _ _ _ _ => pg_name (i := 2) nd rfl (by first | exact Or.inl rfl | exact Or.inr rfl)) (fun _ _ _ _ _ i _ => ts_one (t_cmp op_notIn_seq (r_nin sx) (dv 2 rfl) (dv 1 rfl))) (fun _ _ _ _ _ i _ _ => dv 2 rfl) (by omega) nd) (d_lst a_nil (Nat.zero_le _))) ?_) rfl
    rw [eqv_nil, hid_filter]
def R_l_fraction : List PyData → PyData → Prop := fun ds d => ∃ a b : Nat, ds = [.int (a : Int), .int (b : Int)] ∧ 0 < b ∧ b ≤ 1000000 ∧ a ≤ 1000000 ∧ d = frD a b
theorem ok_l_fraction (T : Tx K mg) : FnOk P w K mg base CX0 1 T.l_fraction.f T.l_fraction.fd ["_law_above_so", "_law_below_so"] (spD R_l_fraction) := by
  refine ok_D T.l_fraction.F sc_l_fraction (fun ds d h => ?_) (fun cdv A outer s H E ds d hr hR => ?_)
  · obtain ⟨a, b, rfl, _⟩ := h
    rfl
  · obtain ⟨a, b, rfl, hb, hb2, ha2, rfl⟩ := hR
    have nd := sc_l_fraction.nd
    have hg0 : 0 < Nat.gcd a b := Nat.gcd_pos_of_pos_right a hb
    have hg1 : Nat.gcd a b ≤ b := Nat.gcd_le_right a hb
    refine b_cons (s_par (i := 2) (j := 3) (a_cons (d_is (d2 := .int (a : Int)) (d_callB call_abs c_abs T.z_abs (a_cons (dv 0 rfl) a_nil)) (by rw [if_neg (by omega)])) (a_cons (dv 1 rfl) a_nil))) ?_
    refine b_cons (s_while (env1 := [(0, .dat (.int (a : Int))), (1, .dat (.int (b : Int))), (2, .dat (.int ((Nat.gcd a b : Nat) : Int)))]) (fun i : Nat × Nat => [(0, .dat (.int (a : Int))), (1, .dat (.int (b : Int))), (2, .dat (.int (i.1 : Int))), (3, .dat (.int (i.2 : Int)))]) (fun i => Nat.gcd i.1 i.2 = Nat.gcd a b) (fun i => i.2) (fun i => !decide ((i.2 : Int) = 0)) (fun i => (i.2, i.1 % i.2)) (a, b) rfl
      (wk_cons rfl (wk_cons rfl (wk_cons rfl (wk_cons rfl (wk_nil _))))) (fun i _ => t_cmp op_ne r_neI (dv 3 rfl) dc_int) (fun i ci ht => ?_) (fun i ci ht => ?_) PassesOwn.never) ?_
    · have h0 : 0 < i.2 := by
        have : ¬ (i.2 : Int) = 0 := by simpa using ht
        omega
      refine ⟨?_, Nat.mod_lt _ h0, ?_⟩
      · show Nat.gcd i.2 (i.1 % i.2) = _
        rw [← ci, Nat.gcd_comm i.1 i.2, Nat.gcd_rec i.2 i.1, Nat.gcd_comm]
      · refine ns_wk ?_ (n_one (s_par (i := 2) (j := 3) (a_cons (dv 3 rfl) (a_cons (d_op op_mod (r_I (by show (0 : Int) < (i.2 : Int); omega)) (dv 2 rfl) (dv 3 rfl)) a_nil))))
        exact wk_cons rfl (wk_cons rfl (wk_cons rfl (wk_cons rfl (wk_nil _))))
    · have h0 : i.2 = 0 := by
        have : (i.2 : Int) = 0 := by simpa using ht
        omega
      have h1 : i.1 = Nat.gcd a b := by rw [← ci, h0, Nat.gcd_zero_right]
      exact wk_cons rfl (wk_cons rfl (wk_cons (by rw [← h1]; rfl) (wk_nil _)))
    · refine b_ret (d_if (k := true) (t_is (t_cmp op_ne r_neI (dv 2 rfl) dc_int) ?_) (fun _ => ?_) (fun hk => absurd hk.symm Bool.false_ne_true)) rfl
      · rw [decide_eq_false (by omega)]
        rfl
      · exact d_tup (a_cons (d_op op_fdiv (r_I ⟨by omega, by omega⟩) (dv 0 rfl) (dv 2 rfl)) (a_cons (d_op op_fdiv (r_I ⟨by omega, by omega⟩) (dv 1 rfl) (dv 2 rfl)) a_nil)) (by show 2 ≤ sizeLine; decide)
/-! ### try .. except -/
def R_l_shortest : List PyData → PyData → Prop := fun ds d => ∃ (p h : Nat) (lots : List (List Int)), NL ds p h lots ∧ d = bestD (sfs h lots)
/-- the list that the clause returns -/
def tPaper (a : Addr) : TE := fun σ H Q => σ[2]? = some (some (V.ref a)) ∧ ∀ p, H p = none → Q (.ref p) (upd H p (.lst [.str "paper", .bl true]))
def tsPaper (C : Addr) : Addr → Value → Option Addr → TS := fun a cls d D σ H => cls = .ref C ∧ d = none ∧ tRet (tPaper a) D σ H
theorem ok_l_shortest (T : Tx K mg) : FnOk P w K mg base CX0 4 T.l_shortest.f T.l_shortest.fd ["_law_net_so", "_law_lots_so"] (spD R_l_shortest) := by
  refine T.l_shortest.F.ok sc_l_shortest (fun vs H Q E h => ?_) (fun cdv A outer s H vs Q E hr h => ?_)
  · obtain ⟨N, ds, d, _, r, ⟨p, h, lots, ⟨⟨n, ld, c, rfl, _⟩, _⟩, _⟩, _⟩ := h
    rw [r.length]
    rfl
  · obtain ⟨N, ds, d, f, r, ⟨p, h, lots, nl, rfl⟩, q⟩ := h
    obtain ⟨⟨n, ld, c, rfl, sn, sl, sc⟩, hh, hf⟩ := id nl
    have nd := sc_l_shortest.nd
    refine ⟨_, pss_one (ps_try_as (i := 2) (tb := fun W => tRet (tCallS (spShort T.C) (WE W) (tA (argE 0 [n, ld]) [n, ld]))) (ts := tsPaper T.C) (Wout := fun _ _ _ _ => False) rfl rfl nd rfl rfl ⟨rfl, by decide, Or.inl T.gC⟩ takes0
      (fun W pn xe tk _ => pss_one (ps_ret (pe_callS (ok_shortest_safe T) hr rfl T.shortest_safe.g T.shortest_safe.F.kp T.shortest_safe.b (fun σ => passAt tk σ) (a_cons (dv 0 rfl) (a_cons (dv 1 rfl) a_nil)))))
      (fun a oe cls d pn hz hf => ⟨fun pins s σ H D I ⟨h1, h2, hw⟩ => ?_⟩)), ?_⟩
    · subst h1 h2
      refine (pss_one (ps_ret (PE.imp (pe_lst (pa_cons pe_str (pa_cons (pe_callB (call_isE T.eC hz hf) (by exact rfl) T.z_isinstance (by decide +kernel) (pa_cons (pv 2) (pa_cons (pe_bltn (v := .ty "ValueError") (by exact rfl) T.z_ValueError (by decide +kernel) rfl (by decide) (by decide)) pa_nil))) pa_nil))) (t' := tPaper a) fun σ H Q hl hq => ?_))).run pins s σ H D I hw
      obtain ⟨h1, h2⟩ := hq
      exact ⟨_, h1, _, _, true, rfl, (fun u ru => by cases ru; rfl), T.vC, (by show 2 ≤ sizeLine; decide), h2⟩
    · refine ⟨N, [], none, sta_start f r, fun us H1 e1 r1 => ⟨N, _, p, h, lots, fr_mono f e1, r1, nl, fun hne v H2 e2 r2 => q v H2 (e1.trans e2) r2, fun hnil H2 e2 => ?_⟩⟩
      refine ⟨true, PySem.W.exm_ref T.bC T.eC.hd T.tC T.sC, fun _ a ha => ⟨rfl, rfl, ?_, fun p hp => ?_⟩, fun z => absurd z.symm Bool.false_ne_true⟩
      · have hl := r.length
        match vs, hl with
        | [v1, v2], _ => rfl
      · refine q _ _ ((e1.trans e2).trans (same_new hp)) ?_
        rw [hnil]
        exact .lst (hide_some.mpr ⟨not_in (fr_mono f (e1.trans e2)) hp, upd_same⟩) (.cons (.str _) (.cons (.bl _) .nil))
end
end DL
namespace DL
open PySem PySem.Spec PyProof.Rows L2
/-! ### own lists: read and written -/
theorem Sta.updO {N W : List Addr} {T : Option Addr} {H : Hp} {σ : L2.St} {env : En} {i : Nat} {a : Addr} {xs xs' : List V} {ds ds' : List PyData} (S : Sta N W T H σ env) (hk : env.lookup i = some (.own ds)) (g1 : σ[i]? = some (some (.ref a))) (g2 : a ∈ W) (g3 : T ≠ some a) (g4 : H a = some (.lst xs)) (r : Rps (hide N H) xs' ds') :
    Sta N W T (upd H a (.lst xs')) σ ((i, .own ds') :: env) ∧ SameW W H (upd H a (.lst xs')) ∧ (∀ m, BoxO T H m → BoxO T (upd H a (.lst xs')) m) ∧ Same (hide N H) (hide N (upd H a (.lst xs'))) := by
  have aN : a ∈ N := S.sub a g2
  have hi : i < σ.length := (List.getElem?_eq_some_iff.mp g1).1
  have hk' : Same (hide N H) (hide N (upd H a (.lst xs'))) := fun b o hb => by
    obtain ⟨b1, b2⟩ := hide_some.mp hb
    exact hide_some.mpr ⟨b1, by rw [upd_ne (fun z => b1 (by rw [z]; exact aN))]; exact b2⟩
  have sw' : SameW W H (upd H a (.lst xs')) := fun b o hb hbo => by
    rw [upd_ne (fun z => hb (by rw [z]; exact g2))]
    exact hbo
  have eσ : σ.set i (some (.ref a)) = σ := by
    apply List.ext_getElem?
    intro k
    by_cases hik : k = i
    · rw [hik, List.getElem?_set_self hi, g1]
    · rw [List.getElem?_set_ne (Ne.symm hik)]
  have S2 : Sta N W T (upd H a (.lst xs')) σ ((i, .unk) :: env) := by
    refine ⟨fun b hb => ?_, S.sub, S.tw, ⟨fun k d' hkk => ?_, fun k ds' hkk => ?_, fun k l dk dl b hkk hll => ?_, fun k hkk => ?_⟩⟩
    · by_cases hba : b = a
      · rw [hba, upd_same]
        exact fun z => nomatch z
      · rw [upd_ne hba]
        exact S.fr b hb
    · rw [lk_cons] at hkk
      by_cases hki : k = i
      · rw [if_pos hki] at hkk
        cases hkk
      · rw [if_neg hki] at hkk
        obtain ⟨w, a1, a2⟩ := S.sl.dat k d' hkk
        exact ⟨w, a1, a2.mono hk'⟩
    · rw [lk_cons] at hkk
      by_cases hki : k = i
      · rw [if_pos hki] at hkk
        cases hkk
      · rw [if_neg hki] at hkk
        obtain ⟨b, ys, a1, a2, a3, a4, a5⟩ := S.sl.own k ds' hkk
        have hba : b ≠ a := fun z => hki (S.sl.inj k i ds' ds a hkk hk (z ▸ a1) g1)
        exact ⟨b, ys, a1, a2, a3, by rw [upd_ne hba]; exact a4, a5.mono hk'⟩
    · rw [lk_cons] at hkk hll
      by_cases hki : k = i
      · rw [if_pos hki] at hkk
        cases hkk
      · by_cases hli : l = i
        · rw [if_pos hli] at hll
          cases hll
        · rw [if_neg hki] at hkk
          rw [if_neg hli] at hll
          exact S.sl.inj k l dk dl b hkk hll
    · rw [lk_cons] at hkk
      by_cases hki : k = i
      · rw [if_pos hki] at hkk
        cases hkk
      · rw [if_neg hki] at hkk
        exact S.sl.box k hkk
  have S3 := S2.putO (ds := ds') (i := i) (a := a) (xs := xs') hi g2 g3 upd_same (r.mono hk') (fun j dj hj hji ej => by
    rw [lk_cons, if_neg hji] at hj
    exact hji (S.sl.inj j i dj ds a hj hk ej g1))
  rw [eσ] at S3
  refine ⟨S3.wk ?_, sw', fun m B t ht => ?_, hk'⟩
  · intro k y hy
    rw [lk_cons] at hy ⊢
    by_cases hki : k = i
    · rw [if_pos hki] at hy ⊢
      exact .inr hy
    · rw [if_neg hki] at hy ⊢
      rw [lk_cons, if_neg hki]
      exact .inr hy
  · obtain ⟨u1, u2, u3, hu, hu'⟩ := B t ht
    exact ⟨u1, u2, u3, by rw [upd_ne (fun z => g3 (by rw [ht, z]))]; exact hu, hu'⟩
section
variable {X : Cx} {env env1 env2 : En} {m m' m1 m2 mE : Nat} {e e2 a b c tg : Expr} {es : List Expr} {d d1 d2 d3 : PyData} {ds : List PyData} {pos p p2 : Pos} {st : Stmt} {rest body : List Stmt} {P : PyData → Prop}
/-- x[j], x one's own -/
theorem d_ixO {i : Nat} {k : Int} {x : Str} (j : Nat) (hk : env.lookup i = some (.own ds)) (hj : ds[j]? = some d) (hb : PE X b (tD env (.int k))) (hkj : k = (j : Int) := by rfl) (hN : X.N[i]? = some x := by rfl) (hv : Vis X.env.scope x := by first | exact Or.inl rfl | exact Or.inr (Or.inl rfl) | exact Or.inr (Or.inr rfl))
    (hd : (x == ("__debug__" : Str)) = false := by decide) (hcd : (x == ("__classdict__" : Str)) = false := by decide) (hs : PlainIx b := by exact fun _ _ => rfl) : PE X (.Subscript (.Name x p) b pos) (tD env d) := by
  subst hkj
  refine PE.imp (pe_ix (ix_list (X := X)) (pe_var hN hv hd hcd) hb hs) fun σ H Q _ ⟨N, W, T, S, q⟩ => ?_
  obtain ⟨a, xs, g1, g2, g3, g4, g5⟩ := S.sl.own i ds hk
  refine ⟨_, g1, N, W, T, S, fun v H' e r => ?_⟩
  cases r
  obtain ⟨v, k1, k2⟩ := g5.get hj
  exact ⟨a, xs, _, v, rfl, rfl, SqL.of (e _ _ g4), atI_nat k1, q v H' e (k2.mono (hide_same e))⟩
/-- len(x), x one's own -/
theorem d_lenO {i : Nat} {x : Str} (hk : env.lookup i = some (.own ds)) (hm : X.mg "len" = none) (hN : X.N[i]? = some x := by rfl) (hg : Gl X "len" := by rfl) (hv : Vis X.env.scope x := by first | exact Or.inl rfl | exact Or.inr (Or.inl rfl) | exact Or.inr (Or.inr rfl))
    (hd : (x == ("__debug__" : Str)) = false := by decide) (hcd : (x == ("__classdict__" : Str)) = false := by decide) (he : starEach [.Name x p2] X.env = (false, eval (.Name x p2) X.env) :: starEach [] X.env := by rfl) (hpl : (backTo pos (starEach [] X.env)).any (·.1) = false := by rfl) :
    PE X (.Call (.Name "len" p) [.Name x p2] [] pos) (tD env (.int (ds.length : Int))) :=
  PE.imp (pe_callB call_len_seq hg hm (by decide +kernel) (pa_cons (pe_var hN hv hd hcd) pa_nil he) (by decide) (by decide) he hpl) fun σ H Q _ ⟨N, W, T, S, q⟩ => by
    obtain ⟨a, xs, g1, g2, g3, g4, g5⟩ := S.sl.own i ds hk
    refine ⟨_, g1, a, xs, rfl, .inl (SqL.of g4), ?_⟩
    rw [g5.length]
    exact q _ H (Same.refl H) (.int _)
theorem ixN_nat {n j : Nat} (h : j < n) : ixN n (j : Int) = some j := by
  unfold ixN
  rw [if_pos (by omega), if_pos (by omega), Int.toNat_natCast]
theorem Rps.set {H : Hp} : ∀ {ds : List PyData} {vs : List V} (n : Nat) {v : V} {d : PyData}, Rps H vs ds → Rp H v d → Rps H (vs.set n v) (ds.set n d)
  | [], _, n, _, _, h, _ => by cases h; exact .nil
  | d :: ds, _, 0, _, _, h, k => by
    cases h with
    | cons h1 h2 => exact .cons k h2
  | d :: ds, _, n + 1, _, _, h, k => by
    cases h with
    | cons h1 h2 => exact .cons h1 (Rps.set n h2 k)
/-- x[j] = e, x one's own -/
theorem s_setO {i : Nat} {k : Int} {x : Str} {sp : Pos} (j : Nat) (hk : env.lookup i = some (.own ds)) (hj : j < ds.length) (h : PE X e (tD env d)) (hb : PE X b (tD env (.int k))) (hkj : k = (j : Int) := by rfl) (hN : X.N[i]? = some x := by rfl) (hv : Vis X.env.scope x := by first | exact Or.inl rfl | exact Or.inr (Or.inl rfl) | exact Or.inr (Or.inr rfl))
    (hd : (x == ("__debug__" : Str)) = false := by decide) (hcd : (x == ("__classdict__" : Str)) = false := by decide)
    (ha : ∀ v, assign (.Subscript (.Name x p) b sp) X.env v = (do
      let ov ← holding [v] (eval (.Name x p) X.env)
      let iv ← holding [v, ov] (eval b X.env)
      standAt sp
      holding [v, ov, iv] (setItem ov iv v)
      release [v, ov, iv] []) := by intro _; rfl)
    (hs : swapsWithSole [.Subscript (.Name x p) b sp] e pos.line X.env = pure false := by rfl) (hw : swappedStores [.Subscript (.Name x p) b sp] e X.env = pure none := by rfl)
    (h1 : (assignEach [.Subscript (.Name x p) b sp] X.env).map (·.2) = [assign (.Subscript (.Name x p) b sp) X.env] := by rfl) :
    PS X (.Assign [.Subscript (.Name x p) b sp] e pos) (tN m m env ((i, .own (ds.set j d)) :: env)) := by
  subst hkj
  refine PS.imp (ps_asg h (pg_sub (pe_var hN hv hd hcd) hb set_list ha) hs hw h1) fun D σ H _ ⟨N, W, T, S, B, q⟩ => ⟨N, W, T, S, fun v H' e r => ?_⟩
  have S1 := S.mono e
  obtain ⟨a, xs, g1, g2, g3, g4, g5⟩ := S1.sl.own i ds hk
  refine ⟨_, g1, N, W, T, S1, fun y H2 e2 r2 => ?_⟩
  cases r2
  have S2 := S1.mono e2
  obtain ⟨u1, u2, u3, u4⟩ := S2.updO hk g1 g2 g3 (e2 _ _ g4) ((g5.mono (hide_same e2)).set j (r.mono (hide_same e2)))
  exact ⟨a, xs, _, j, rfl, rfl, e2 _ _ g4, ixN_nat (by rw [g5.length]; exact hj), q σ _ rfl ((Same.w (e.trans e2)).trans u2) u1 (u3 _ ((B.mono e).mono e2))⟩
end

/-! ### what may touch the box -/
def SameT (T : Option Addr) (H H' : Hp) : Prop := ∀ a o, T ≠ some a → H a = some o → H' a = some o
theorem SameT.refl (T : Option Addr) (H : Hp) : SameT T H H := fun _ _ _ h => h
theorem Same.t {T : Option Addr} {H H' : Hp} (e : Same H H') : SameT T H H' := fun a o _ h => e a o h
theorem SameT.trans {T : Option Addr} {H H1 H2 : Hp} (a : SameT T H H1) (b : SameT T H1 H2) : SameT T H H2 := fun c o n h => b c o n (a c o n h)
section
variable {N W : List Addr} {T : Option Addr} {H H' : Hp} {σ : L2.St} {env : En} {m m' : Nat}
theorem SameT.hide (e : SameT T H H') (S : Sta N W T H σ env) : Same (hide N H) (hide N H') := fun a o h => by
  obtain ⟨h1, h2⟩ := hide_some.mp h
  exact hide_some.mpr ⟨h1, e a o (fun z => h1 (S.sub a (S.tw a z))) h2⟩
theorem SameT.w (e : SameT T H H') (S : Sta N W T H σ env) : SameW W H H' := fun a o n h => e a o (fun z => n (S.tw a z)) h
theorem SameT.fr (e : SameT T H H') (B : BoxO T H' m) (f : ∀ a ∈ N, H a ≠ none) : ∀ a ∈ N, H' a ≠ none := fun a ha => by
  by_cases z : T = some a
  · obtain ⟨_, _, _, h, _⟩ := B a z
    rw [h]
    exact fun z => nomatch z
  · cases q : H a with
    | none => exact absurd q (f a ha)
    | some o =>
      rw [e a o z q]
      exact fun z => nomatch z
theorem Sta.boxed (S : Sta N W T H σ env) (e : SameT T H H') (B : BoxO T H' m) : Sta N W T H' σ env where
  fr := e.fr B S.fr
  sub := S.sub
  tw := S.tw
  sl := ⟨fun i d hi => by
      obtain ⟨v, a, b⟩ := S.sl.dat i d hi
      exact ⟨v, a, b.mono (e.hide S)⟩,
    fun i ds hi => by
      obtain ⟨a, xs, a1, a2, a3, a4, a5⟩ := S.sl.own i ds hi
      exact ⟨a, xs, a1, a2, a3, e _ _ a3 a4, a5.mono (e.hide S)⟩, S.sl.inj, S.sl.box⟩
end
def tX (m m' : Nat) (env : En) (P : PyData → Prop) : TE := fun σ H Q => ∃ N W T, Sta N W T H σ env ∧ BoxO T H m ∧ ∀ v d H', P d → SameT T H H' → BoxO T H' m' → Rp (hide N H') v d → Q v H'
def tXA (m m' : Nat) (env : En) (P : List PyData → Prop) : TA := fun σ H Q => ∃ N W T, Sta N W T H σ env ∧ BoxO T H m ∧ ∀ vs ds H', P ds → SameT T H H' → BoxO T H' m' → Rps (hide N H') vs ds → Q vs H'
def tXT (m m' : Nat) (env : En) (k : Bool) : TT := fun σ H Q => ∃ N W T, Sta N W T H σ env ∧ BoxO T H m ∧ ∀ H', SameT T H H' → BoxO T H' m' → Q k H'
/-- a def that takes the box first -/
def spT (k : Nat) (C : List PyData → Prop) (R : List PyData → PyData → Prop) : Sp := fun vs H Q _ => ∃ N t vs' ds m, (∀ a ∈ N, H a ≠ none) ∧ t ∈ N ∧ vs = .ref t :: vs' ∧ Rps (hide N H) vs' ds ∧ BoxOk t H m ∧ m + k ≤ 100000 ∧ C ds ∧
  ∀ v d H', R ds d → SameT (some t) H H' → BoxOk t H' (m + k) → Rp (hide N H') v d → Q v H'
section
variable {X : Cx} {env env1 env2 : En} {m m' m1 m2 mE : Nat} {e e2 a b c tg : Expr} {es : List Expr} {d d1 d2 d3 : PyData} {ds : List PyData} {pos p p2 : Pos} {st : Stmt} {rest body : List Stmt} {P P1 P2 : PyData → Prop} {A A1 A2 : List PyData → Prop}
theorem x_pure (h : PE X e (tD env d)) (hP : P d) : PE X e (tX m m env P) := PE.imp h fun σ H Q _ ⟨N, W, T, S, B, q⟩ => ⟨N, W, T, S, fun v H' e r => q v d H' hP (Same.t e) (B.mono e) r⟩
theorem x_imp (h : PE X e (tX m m1 env P1)) (hP : ∀ d, P1 d → P d) (hm : m1 ≤ m2) : PE X e (tX m m2 env P) := PE.imp h fun σ H Q _ ⟨N, W, T, S, B, q⟩ => ⟨N, W, T, S, B, fun v d H' p e B' r => q v d H' (hP d p) e (B'.le hm) r⟩
theorem xa_nil (hA : A []) : PA X [] (tXA m m env A) := PA.imp pa_nil fun σ H Q ⟨N, W, T, S, B, q⟩ => q [] [] H hA (SameT.refl T H) B .nil
theorem xa_pure (h : PA X es (tA env ds)) (hA : A ds) : PA X es (tXA m m env A) := PA.imp h fun σ H Q ⟨N, W, T, S, B, q⟩ => ⟨N, W, T, S, fun v H' e r => q v ds H' hA (Same.t e) (B.mono e) r⟩
theorem xa_cons (ha : PE X e (tX m m1 env P1)) (hr : PA X es (tXA m1 m2 env A1)) (hA : ∀ d ds, P1 d → A1 ds → A (d :: ds)) (hs : starEach (e :: es) X.env = (false, eval e X.env) :: starEach es X.env := by rfl) : PA X (e :: es) (tXA m m2 env A) :=
  PA.imp (pa_cons ha hr hs) fun σ H Q ⟨N, W, T, S, B, q⟩ => ⟨N, W, T, S, B, fun v d H1 p1 e1 B1 r1 => ⟨N, W, T, S.boxed e1 B1, B1, fun vs ds H2 p2 e2 B2 r2 => q (v :: vs) (d :: ds) H2 (hA d ds p1 p2) (e1.trans e2) B2 (.cons (r1.mono (e2.hide (S.boxed e1 B1))) r2)⟩⟩
theorem x_op {op : Operator} {r : R2} (ho : OpR X (binaryOp op) r) (hr : ∀ d1 d2, P1 d1 → P2 d2 → ∃ d, RD2 r d1 d2 d ∧ P d) (ha : PE X a (tX m m1 env P1)) (hb : PE X b (tX m1 m2 env P2)) : PE X (.BinOp a op b pos) (tX m m2 env P) :=
  PE.imp (pe_op ho ha hb) fun σ H Q _ ⟨N, W, T, S, B, q⟩ => ⟨N, W, T, S, B, fun x d1 H1 p1 e1 B1 r1 => ⟨N, W, T, S.boxed e1 B1, B1, fun y d2 H2 p2 e2 B2 r2 => by
    obtain ⟨d, h, hp⟩ := hr d1 d2 p1 p2
    have S2 := (S.boxed e1 B1).boxed e2 B2
    exact h N H2 x y Q S2.fr (r1.mono (e2.hide (S.boxed e1 B1))) r2 fun v H3 e3 r3 => q v d H3 hp ((e1.trans e2).trans (Same.t e3)) (B2.mono e3) r3⟩⟩
theorem x_tup {x1} (h : PA X es (tXA m m1 env A)) (hz : ∀ ds, A ds → ds.length ≤ sizeLine) : PE X (.Tuple es x1 pos) (tX m m1 env fun d => ∃ ds, d = .tuple ds ∧ A ds) :=
  PE.imp (pe_tup h) fun σ H Q _ ⟨N, W, T, S, B, q⟩ => ⟨N, W, T, S, B, fun vs ds H' p e B' r => ⟨by rw [r.length]; exact hz ds p, fun x hp => q _ _ _ ⟨ds, rfl, p⟩ (e.trans (Same.t (same_new hp))) (B'.mono (same_new hp)) (rp_newT (e.fr B' S.fr) hp r)⟩⟩
theorem x_lst (h : PA X es (tXA m m1 env A)) (hz : ∀ ds, A ds → ds.length ≤ sizeLine) : PE X (.List es pos) (tX m m1 env fun d => ∃ ds, d = .list ds ∧ A ds) :=
  PE.imp (pe_lst h) fun σ H Q _ ⟨N, W, T, S, B, q⟩ => ⟨N, W, T, S, B, fun vs ds H' p e B' r => ⟨by rw [r.length]; exact hz ds p, fun x hp => q _ _ _ ⟨ds, rfl, p⟩ (e.trans (Same.t (same_new hp))) (B'.mono (same_new hp)) (rp_newL (e.fr B' S.fr) hp r)⟩⟩
theorem x_callB {x : Str} {id : String} {r : List V → Hp → VK → Prop} (hc : CallR X (.builtin id) r) (hr : ∀ ds, A ds → ∃ d, RDc r ds d ∧ P d) (hm : X.mg x = none) (ha : PA X (e :: es) (tXA m m1 env A)) (hv : bootBuiltins x = some (.builtin id) := by decide +kernel) (hg : Gl X x := by rfl) (hn : x ≠ "__name__" := by decide) (hdb : (x == ("__debug__" : Str)) = false := by decide)
    (he : starEach (e :: es) X.env = (false, eval e X.env) :: starEach es X.env := by rfl) (hpl : (backTo pos (starEach es X.env)).any (·.1) = false := by rfl) : PE X (.Call (.Name x p) (e :: es) [] pos) (tX m m1 env P) :=
  PE.imp (pe_callB hc hg hm hv ha hn hdb he hpl) fun σ H Q _ ⟨N, W, T, S, B, q⟩ => ⟨N, W, T, S, B, fun vs ds H' p e B' r => by
    obtain ⟨d, h, hp⟩ := hr ds p
    exact h N H' vs Q (e.fr B' S.fr) r fun v H2 e2 r2 => q v d H2 hp (e.trans (Same.t e2)) (B'.mono e2) r2⟩
theorem x_callTy {x : Str} {ty : String} {r : List V → Hp → VK → Prop} (hc : CallR X (.type ty) r) (hr : ∀ ds, A ds → ∃ d, RDc r ds d ∧ P d) (hm : X.mg x = none) (ha : PA X (e :: es) (tXA m m1 env A)) (hv : bootBuiltins x = some (.type ty) := by decide +kernel) (hg : Gl X x := by rfl) (hn : x ≠ "__name__" := by decide) (hdb : (x == ("__debug__" : Str)) = false := by decide)
    (he : starEach (e :: es) X.env = (false, eval e X.env) :: starEach es X.env := by rfl) (hpl : (backTo pos (starEach es X.env)).any (·.1) = false := by rfl) : PE X (.Call (.Name x p) (e :: es) [] pos) (tX m m1 env P) :=
  PE.imp (pe_callTy hc hg hm hv ha hn hdb he hpl) fun σ H Q _ ⟨N, W, T, S, B, q⟩ => ⟨N, W, T, S, B, fun vs ds H' p e B' r => by
    obtain ⟨d, h, hp⟩ := hr ds p
    exact h N H' vs Q (e.fr B' S.fr) r fun v H2 e2 r2 => q v d H2 hp (e.trans (Same.t e2)) (B'.mono e2) r2⟩
/-- a pure def on what was drawn -/
theorem x_call {R : List PyData → PyData → Prop} {k : Nat} {f : Addr} {fd : FuncData} {ps : List Str} {x : Str} (F : FnOk X.prog X.w X.K X.mg X.base CX0 k f fd ps (spD R)) (hr : Room k X.A) (hm : X.mg x = some (.ref f)) (hk : PySem.W.keepIn X.K (.ref f) = true) (hb : Binds X.K fd ps [])
    (ha : PA X (e :: es) (tXA m m1 env A)) (hR : ∀ ds, A ds → ∃ d, R ds d ∧ P d) (hg : Gl X x := by rfl) (hdb : (x == ("__debug__" : Str)) = false := by decide) (he : starEach (e :: es) X.env = (false, eval e X.env) :: starEach es X.env := by rfl) (hpl : (backTo pos (starEach es X.env)).any (·.1) = false := by rfl) :
    PE X (.Call (.Name x p) (e :: es) [] pos) (tX m m1 env P) :=
  PE.imp (pe_call F hr hg hm hk hb .nil (E := E0) pass0 ha hdb he hpl) fun σ H Q _ ⟨N, W, T, S, B, q⟩ => ⟨N, W, T, S, B, fun vs ds H' p e B' r => by
    show spD R (vs ++ []) H' Q E0
    rw [List.append_nil]
    obtain ⟨d, h, hp⟩ := hR ds p
    exact ⟨N, ds, d, e.fr B' S.fr, r, h, fun v H2 e2 r2 => q v d H2 hp (e.trans (Same.t e2)) (B'.mono e2) r2⟩⟩
/-- a def that draws -/
theorem x_callT {C : List PyData → Prop} {R : List PyData → PyData → Prop} {n k i : Nat} {f : Addr} {fd : FuncData} {ps : List Str} {x y : Str} {py : Pos} (F : FnOk X.prog X.w X.K X.mg X.base CX0 n f fd ps (spT k C R)) (hr : Room n X.A) (hm : X.mg x = some (.ref f)) (hk : PySem.W.keepIn X.K (.ref f) = true) (hb : Binds X.K fd ps [])
    (hi : env.lookup i = some .box) (ha : PA X es (tXA m m1 env A)) (hC : ∀ ds, A ds → C ds) (hP : ∀ ds d, A ds → R ds d → P d) (hz : m1 + k ≤ 100000) (hN : X.N[i]? = some y := by rfl) (hv : Vis X.env.scope y := by first | exact Or.inl rfl | exact Or.inr (Or.inl rfl) | exact Or.inr (Or.inr rfl))
    (hd : (y == ("__debug__" : Str)) = false := by decide) (hcd : (y == ("__classdict__" : Str)) = false := by decide) (hs : starEach (.Name y py :: es) X.env = (false, eval (.Name y py) X.env) :: starEach es X.env := by rfl)
    (hg : Gl X x := by rfl) (hdb : (x == ("__debug__" : Str)) = false := by decide) (hpl : (backTo pos (starEach es X.env)).any (·.1) = false := by rfl) :
    PE X (.Call (.Name x p) (.Name y py :: es) [] pos) (tX m (m1 + k) env P) :=
  PE.imp (pe_call F hr hg hm hk hb .nil (E := E0) pass0 (pa_cons (pe_var hN hv hd hcd) ha hs) hdb hs hpl) fun σ H Q _ ⟨N, W, T, S, B, q⟩ => by
    obtain ⟨t, ht, g1⟩ := S.sl.box i hi
    subst ht
    refine ⟨_, g1, N, W, some t, S, B, fun vs ds H' p e B' r => ?_⟩
    show spT k C R ((V.ref t :: vs) ++ []) H' Q E0
    rw [List.append_nil]
    exact ⟨N, t, vs, ds, m1, e.fr B' S.fr, S.sub t (S.tw t rfl), rfl, r, B' t rfl, hz, hC ds p, fun v d H2 hR e2 B2 r2 => q v d H2 (hP ds d p hR) (e.trans e2) (fun t' ht' => Option.some.inj ht' ▸ B2) r2⟩
theorem b_setX {i : Nat} {x : Str} {p' : Pos} (h : PE X e (tX m m1 env P1)) (hr : ∀ d, P1 d → PSs X rest (tB m1 mE ((i, .dat d) :: env) P)) (hi : X.N[i]? = some x := by rfl) (hN : X.N.Nodup := by assumption) (hx : Loc X.env.scope x := by first | exact Or.inl rfl | exact Or.inr rfl) (hs : swapsWith e (some (.Name x p')) pos.line X.env = pure false := by rfl) (hf : X.fn x = true ∨ X.env.scope.names.lookup x = some .local := by first | exact .inl rfl | exact .inr rfl | assumption) :
    PSs X (.Assign [.Name x p'] e pos :: rest) (tB m mE env P) :=
  PSs.imp (pss_cons (ps_set hN hi hx h hs hf) (PSs.ex hr)) fun D σ H hl ⟨N0, N, W, T, h1, h2, S, B, q⟩ => ⟨N, W, T, S, B, fun v d H' p e B' r =>
    ⟨d, p, N0, N, W, T, h1, h2, (S.boxed e B').put (by rw [hl]; exact (List.getElem?_eq_some_iff.mp hi).1) r, B', fun v2 d2 H2 sw2 => q v2 d2 H2 ((e.w S).trans sw2)⟩⟩
theorem b_retX (h : PE X e (tX m m1 env P)) (hm : m1 ≤ mE) : PSs X [.Return (some e) pos] (tB m mE env P) :=
  PSs.imp (pss_one (ps_ret h)) fun D σ H _ ⟨N0, N, W, T, h1, h2, S, B, q⟩ => ⟨N, W, T, S, B, fun v d H' p e B' r => q v d H' (e.w S) (B'.le hm) p (r.mono (hide_less h1 H'))⟩
theorem xt_val {k : Bool} (h : PE X e (tX m m1 env fun d => d = .bool k)) (he : ∀ whole, isTrue e X.env whole = (do let v ← whole; standAt e.pos; holding [v] (truthy v)) := by intro _; rfl) : PT X e (tXT m m1 env k) :=
  PT.imp (pt_val h he) fun σ H Q _ ⟨N, W, T, S, B, q⟩ => ⟨N, W, T, S, B, fun v d H' p e B' r => by
    subst p
    cases r
    exact ⟨k, rfl, q H' e B'⟩⟩
theorem xt_not {k : Bool} (h : PT X e (tXT m m1 env k)) : PT X (.UnaryOp .Not e pos) (tXT m m1 env (!k)) :=
  PT.imp (pt_not h) fun σ H Q _ ⟨N, W, T, S, B, q⟩ => ⟨N, W, T, S, B, fun H' e B' => q H' e B'⟩
theorem xt_or {l : Bool} {rest : List Expr} (h : PT X a (tT env false)) (h2 : PW X (.BoolOp .Or (b :: rest) pos) (tXT m m1 env l)) : PW X (.BoolOp .Or (a :: b :: rest) pos) (tXT m m1 env l) := by
  refine ⟨fun wh pins s σ H Q I hq => (pw_or h h2).run wh pins s σ H Q I ?_⟩
  obtain ⟨N, W, T, S, B, q⟩ := hq
  refine ⟨N, W, T, S, fun H' e => ?_⟩
  show tXT m m1 env l σ H' Q
  exact ⟨N, W, T, S.mono e, B.mono e, fun H2 e2 B2 => q H2 ((Same.t e).trans e2) B2⟩
theorem b_ifX {k : Bool} (h : PT X c (tXT m m1 env k)) (h1 : k = true → PSs X body (tB m1 mE env P)) (h2 : k = false → PSs X rest (tB m1 mE env P)) : PSs X (.If c body [] pos :: rest) (tB m mE env P) := by
  cases k with
  | true =>
    exact PSs.imp (pss_cons (ps_if h (h1 rfl) (pss_nil)) (u := fun _ _ _ => False) ⟨fun _ _ _ _ _ _ z => z.elim⟩) fun D σ H _ ⟨N0, N, W, T, g1, g2, S, B, q⟩ => ⟨N, W, T, S, B, fun H' e B' => by
      show tB m1 mE env P _ σ H'
      exact ⟨N0, N, W, T, g1, g2, S.boxed e B', B', fun v d H2 sw => q v d H2 ((e.w S).trans sw)⟩⟩
  | false =>
    exact PSs.imp (pss_cons (ps_if (t := fun _ _ _ => False) h ⟨fun _ _ _ _ _ _ z => z.elim⟩ pss_nil) (h2 rfl)) fun D σ H _ ⟨N0, N, W, T, g1, g2, S, B, q⟩ => ⟨N, W, T, S, B, fun H' e B' => by
      show tB m1 mE env P D σ H'
      exact ⟨N0, N, W, T, g1, g2, S.boxed e B', B', fun v d H2 sw => q v d H2 ((e.w S).trans sw)⟩⟩
end
section
variable {P : Program} {w : World} {K : PySem.W.Frag} {mg : Str → Option Value} {base : Heap}
theorem sta_box {Nm : List Str} {N : List Addr} {H : Hp} {t : Addr} {vs : List V} {ds : List PyData} (f : ∀ a ∈ N, H a ≠ none) (ht : t ∈ N) (r : Rps (hide N H) vs ds) : Sta N [t] (some t) H (start Nm (.ref t :: vs)) ((0, .box) :: argE 1 ds) := by
  have g : ∀ {k e}, ((0, Ent.box) :: argE 1 ds).lookup k = some e → (k = 0 ∧ e = .box) ∨ ∃ d j, k = 1 + j ∧ ds[j]? = some d ∧ e = .dat d := fun {k e} h => by
    rw [lk_cons] at h
    by_cases hk : k = 0
    · rw [if_pos hk] at h
      exact .inl ⟨hk, (Option.some.inj h).symm⟩
    · rw [if_neg hk] at h
      exact .inr (argE_get ds 1 k e h)
  refine ⟨f, fun b hb => by rw [List.mem_singleton.mp hb]; exact ht, fun t' h => by rw [Option.some.inj h]; exact List.mem_singleton.mpr rfl, ⟨fun i d h => ?_, fun i d h => ?_, fun i j di dj a h => ?_, fun i h => ?_⟩⟩
  · rcases g h with ⟨_, z⟩ | ⟨d', j, h1, h2, h3⟩
    · cases z
    · cases h3
      obtain ⟨v, k1, k2⟩ := r.get h2
      have e : i = j + 1 := by omega
      subst e
      refine ⟨v, ?_, k2⟩
      have hl : j < vs.length := (List.getElem?_eq_some_iff.mp k1).1
      unfold L2.start
      rw [List.getElem?_append_left (by rw [List.length_map, List.length_cons]; omega), List.getElem?_map, List.getElem?_cons_succ, k1]
      rfl
  · rcases g h with ⟨_, z⟩ | ⟨d', j, h1, h2, h3⟩
    · cases z
    · cases h3
  · rcases g h with ⟨_, z⟩ | ⟨d', j, h1, h2, h3⟩
    · cases z
    · cases h3
  · rcases g h with ⟨z, _⟩ | ⟨d', j, h1, h2, h3⟩
    · exact ⟨t, rfl, by rw [z]; rfl⟩
    · cases h3
theorem ok_T {k n : Nat} {C : List PyData → Prop} {R : List PyData → PyData → Prop} {x qual : Str} {st : Stmt} {f : Addr} {fd : FuncData} {Nm ps : List Str} (F : Fun K x qual st f fd) (S : FnScope Nm ps (defScope st)) (len : ∀ ds, C ds → ds.length + 1 = ps.length)
    (hb : ∀ (cdv : Value) (A : Around) (outer : List Env) (s : Shared) (H : Hp) (E : XK) (ds : List PyData) (m : Nat), Room n (A.deeper (envOfC qual (defScope st) s.heap.objs.size f cdv)) → C ds → m + k ≤ 100000 →
      PSs (cxOf CX0 P w K mg base Nm qual (defScope st) f cdv A outer s H E).nox (defBody st) (tB m (m + k) ((0, .box) :: argE 1 ds) (R ds))) : FnOk P w K mg base CX0 (n + 1) f fd ps (spT k C R) := by
  refine F.ok S (fun vs H Q E h => ?_) (fun cdv A outer s H vs Q E hr h => ?_)
  · obtain ⟨N, t, vs', ds, m, f', ht, rfl, r, bx, hz, hC, q⟩ := h
    rw [List.length_cons, r.length]
    exact len ds hC
  · obtain ⟨N, t, vs', ds, m, f', ht, rfl, r, bx, hz, hC, q⟩ := h
    refine ⟨_, hb cdv A outer s H E ds m hr hC hz, N, N, [t], some t, fun _ h => h, fun a ha hn => absurd (by rw [List.mem_singleton.mp ha]) hn, sta_box f' ht r, fun t' ht' => Option.some.inj ht' ▸ bx, fun v d H' sw B' hP r' => q v d H' hP (fun a o hn ha => sw a o (fun z => hn (by rw [List.mem_singleton.mp z])) ha) (B' t rfl) r'⟩
end
end DL
namespace DL
open PySem PySem.Spec PyProof.Rows L2
/-! ### a new list put into a slot -/
theorem Sta.new {N W : List Addr} {T : Option Addr} {H H' : Hp} {σ : L2.St} {env : En} {i : Nat} {p : Addr} {xs : List V} {ds : List PyData} (S : Sta N W T H σ env) (e : Same H H') (hp : H p = none) (hp' : H' p = some (.lst xs)) (r : Rps (hide (p :: N) H') xs ds) (hi : i < σ.length) :
    Sta (p :: N) (p :: W) T H' (σ.set i (some (.ref p))) ((i, .own ds) :: env) ∧ p ∉ W ∧ p ∉ N := by
  have nD : H' p ≠ none := by rw [hp']; exact fun z => nomatch z
  have S1 : Sta (p :: N) W T H' σ env := S.under e hp nD
  have S2 : Sta (p :: N) (p :: W) T H' σ env := ⟨S1.fr, fun b hb => by
    rcases List.mem_cons.mp hb with rfl | hb
    · exact List.mem_cons_self
    · exact S1.sub b hb, fun t ht => List.mem_cons_of_mem _ (S1.tw t ht), ⟨S1.sl.dat, fun k dk hk => by
      obtain ⟨b, ys, a1, a2, a3⟩ := S1.sl.own k dk hk
      exact ⟨b, ys, a1, List.mem_cons_of_mem _ a2, a3⟩, S1.sl.inj, S1.sl.box⟩⟩
  have pN : p ∉ N := fun z => S.fr p z hp
  have pW : p ∉ W := fun z => pN (S.sub p z)
  have S3 := S2.putO (ds := ds) (i := i) hi List.mem_cons_self (fun z => pW (S.tw p z)) hp' r (fun j dj hj _ ej => by
    obtain ⟨b, ys, a1, a2, _⟩ := S.sl.own j dj hj
    rw [a1] at ej
    have eb : V.ref b = V.ref p := Option.some.inj (Option.some.inj ej)
    have eb' : b = p := V.ref.inj eb
    exact pW (eb' ▸ a2))
  exact ⟨S3, pW, pN⟩
section
variable {X : Cx} {env env1 env2 : En} {m m' m1 m2 mE : Nat} {e e2 a b c tg : Expr} {es : List Expr} {d d1 d2 d3 : PyData} {ds : List PyData} {pos p p2 : Pos} {st : Stmt} {rest body : List Stmt} {P P1 P2 : PyData → Prop} {A A1 A2 : List PyData → Prop}
/-- x, y = list(e), [] -/
theorem b_par2 {i j : Nat} {x y : Str} {px py pt lp lc ep : Pos} {kt k2 : Nat} {pt2 : Pos} (s : IsSeq d ds) (hm : X.mg "list" = none) (ha : PE X e (tD env d)) (hr : PSs X rest (tB m mE ((j, .own []) :: (i, .own ds) :: env) P)) (hi : X.N[i]? = some x := by rfl) (hj : X.N[j]? = some y := by rfl) (hij : i ≠ j := by decide) (hN : X.N.Nodup := by assumption)
    (hx : X.env.scope.names.lookup x = some .local := by rfl) (hy : X.env.scope.names.lookup y = some .local := by rfl) (hc : X.calm = true := by rfl) (hg : Gl X "list" := by rfl)
    (hw : swappedStores [.Tuple [.Name x px, .Name y py] kt pt] (.Tuple [.Call (.Name "list" lp) [e] [] lc, .List [] ep] k2 pt2) X.env = pure (some [x, y]) := by rfl)
    (hs : swapsWithSole [.Tuple [.Name x px, .Name y py] kt pt] (.Tuple [.Call (.Name "list" lp) [e] [] lc, .List [] ep] k2 pt2) pos.line X.env = pure false := by rfl)
    (he : starEach [e] X.env = (false, eval e X.env) :: starEach [] X.env := by rfl) (hpl : (backTo lc (starEach [] X.env)).any (·.1) = false := by rfl)
    (h1 : starEach [.Call (.Name "list" lp) [e] [] lc, .List [] ep] X.env = (false, eval (.Call (.Name "list" lp) [e] [] lc) X.env) :: starEach [.List [] ep] X.env := by rfl)
    (h2 : starEach [.List [] ep] X.env = (false, eval (.List [] ep) X.env) :: starEach [] X.env := by rfl) :
    PSs X (.Assign [.Tuple [.Name x px, .Name y py] kt pt] (.Tuple [.Call (.Name "list" lp) [e] [] lc, .List [] ep] k2 pt2) pos :: rest) (tB m mE env P) := by
  refine PSs.imp (pss_cons (ps_par hc hN hi hj hij hx hy (pa_cons (pe_callTy call_list_of hg hm (by decide +kernel) (pa_cons ha pa_nil he) (by decide) (by decide) he hpl) (pa_cons (pe_lst pa_nil) pa_nil h2) h1) hw hs) hr) fun D σ H hl ⟨N0, N, W, T, g1, g2, S, B, q⟩ => ?_
  refine ⟨N, W, T, S, fun v H1 e1 r1 => ?_⟩
  obtain ⟨a, xs, rfl, r2, h3⟩ := r1.seq2 (K := X.K) s
  refine ⟨a, xs, rfl, h3, fun l hl1 => ⟨Nat.zero_le _, fun l2 hl2 => ⟨_, _, rfl, ?_⟩⟩⟩
  have hil : i < σ.length := by rw [hl]; exact (List.getElem?_eq_some_iff.mp hi).1
  have hjl : j < σ.length := by rw [hl]; exact (List.getElem?_eq_some_iff.mp hj).1
  have eA : Same H (upd H1 l (.lst xs)) := e1.trans (same_new hl1)
  obtain ⟨S1, pW1, pN1⟩ := S.new (i := i) eA (e1.free hl1) upd_same (r2.mono (hide_cons (same_new hl1) hl1)) hil
  obtain ⟨S2, pW2, pN2⟩ := S1.new (i := j) (same_new hl2) hl2 upd_same .nil (by rw [List.length_set]; exact hjl)
  refine ⟨N0, _, _, T, fun b hb => List.mem_cons_of_mem _ (List.mem_cons_of_mem _ (g1 b hb)), fun b hb hT => ?_, S2, (B.mono eA).mono (same_new hl2), fun v d H'' sw B'' hP r' => q v d H'' (fun b o hb hbo => ?_) B'' hP r'⟩
  · rcases List.mem_cons.mp hb with rfl | hb
    · exact fun z => pN2 (List.mem_cons_of_mem _ (g1 _ z))
    · rcases List.mem_cons.mp hb with rfl | hb
      · exact fun z => pN1 (g1 _ z)
      · exact g2 b hb hT
  · refine sw b o (fun z => ?_) ((same_new hl2) _ _ (eA b o hbo))
    rcases List.mem_cons.mp z with rfl | z
    · rw [eA _ _ hbo] at hl2
      cases hl2
    · rcases List.mem_cons.mp z with rfl | z
      · rw [e1 _ _ hbo] at hl1
        cases hl1
      · exact hb z

/-! ### loops that draw -/
def tNI (m m' : Nat) (env : En) (I : En → Prop) : TS := fun D σ H => ∃ N W T, Sta N W T H σ env ∧ BoxO T H m ∧ ∀ env' σ' H', I env' → σ'.length = σ.length → SameW W H H' → Sta N W T H' σ' env' → BoxO T H' m' → D.nx σ' H'
theorem b_consI {I : En → Prop} (h : PS X st (tNI m m1 env I)) (hr : ∀ env1, I env1 → PSs X rest (tB m1 mE env1 P)) : PSs X (st :: rest) (tB m mE env P) :=
  PSs.imp (pss_cons h (PSs.ex hr)) fun D σ H _ ⟨N0, N, W, T, h1, h2, S, B, q⟩ => ⟨N, W, T, S, B, fun env1 σ' H' i _ sw S' B' => ⟨env1, i, N0, N, W, T, h1, h2, S', B', fun v d H'' sw2 => q v d H'' (sw.trans sw2)⟩⟩
theorem s_forI {α : Type} {L : List α} {c : α → PyData} {j : Nat} {x : Str} {px : Pos} {iter : Expr} (I : Nat → En → Prop) (k : Nat) (env0 : En) (hi : PI X (.Name x px) iter (tIt env (L.map c))) (h0 : Wk env env0) (hI : I 0 env0)
    (hb : ∀ i a env', L[i]? = some a → I i env' → PSs X body (tNI (m + i * k) (m + (i + 1) * k) ((j, .dat (c a)) :: env') (I (i + 1)))) (hp : PassesOwn (model X.prog X.w) X.A X.env X.xe) (hN : X.N.Nodup := by assumption) (hj : X.N[j]? = some x := by rfl) (hx : Loc X.env.scope x := by first | exact Or.inl rfl | exact Or.inr rfl) (hf : X.fn x = true ∨ X.env.scope.names.lookup x = some .local := by first | exact .inl rfl | exact .inr rfl) (hc : X.calm = true := by rfl)
    (hs : ∀ x, foldedSetIterable iter X.env x = pure x := by intro _; rfl) : PS X (.For (.Name x px) iter body [] pos) (tNI m (m + L.length * k) env (I L.length)) := by
  have hbody : PSs X body (fun D σ H => ∃ z : Nat × α × En, (L[z.1]? = some z.2.1 ∧ I z.1 z.2.2) ∧ tNI (m + z.1 * k) (m + (z.1 + 1) * k) ((j, .dat (c z.2.1)) :: z.2.2) (I (z.1 + 1)) D σ H) := PSs.ex fun z hz => hb z.1 z.2.1 z.2.2 hz.1 hz.2
  refine PS.imp (ps_for hp hc hi (pg_name hN hj hx hf) hbody hs) fun D σ H hl ⟨N, W, T, S, B, q⟩ => ⟨N, W, T, S, fun J H1 e1 walk => ?_⟩
  have hjl : j < X.N.length := (List.getElem?_eq_some_iff.mp hj).1
  refine ⟨fun i r σ' H' => r = L.length - i ∧ i ≤ L.length ∧ SameW W H1 H' ∧ (∃ env', I i env' ∧ Sta N W T H' σ' env') ∧ BoxO T H' (m + i * k) ∧ σ'.length = σ.length, ⟨L.length, rfl, Nat.zero_le _, SameW.refl W H1, ⟨env0, hI, (S.mono e1).wk h0⟩, by rw [Nat.zero_mul]; exact B.mono e1, rfl⟩, ?_⟩
  rintro i r σ' H' ⟨rfl, hil, sw, ⟨env', hI', S'⟩, B', hl'⟩
  obtain ⟨w1, w2⟩ := walk i H' N (sw.hide S.sub) S'.fr
  by_cases hlt : i < L.length
  · have hget : L[i]? = some L[i] := List.getElem?_eq_getElem hlt
    obtain ⟨go, yl⟩ := w1 (c L[i]) (by rw [List.getElem?_map, hget]; rfl)
    refine .inr ⟨go, fun σ2 H2 => i + 1 ≤ L.length ∧ SameW W H1 H2 ∧ (∃ env', I (i + 1) env' ∧ Sta N W T H2 σ2 env') ∧ BoxO T H2 (m + (i + 1) * k) ∧ σ2.length = σ.length, fun σ2 H2 z => ⟨L.length - (i + 1), by omega, rfl, z⟩, fun v H2 y => ?_⟩
    obtain ⟨e3, rx⟩ := yl v H2 y
    refine ⟨(i, L[i], env'), ⟨hget, hI'⟩, N, W, T, (S'.mono e3).put (by rw [hl', hl]; exact hjl) rx, B'.mono e3, fun env3 σ3 H3 i3 l3 sw3 S3 B3 => ⟨hlt, (sw.trans (Same.w e3)).trans sw3, ⟨env3, i3, S3⟩, B3, ?_⟩⟩
    rw [l3, List.length_set, hl']
  · have ei : i = L.length := by omega
    subst ei
    exact .inl ⟨w2 (by rw [List.length_map]; exact Nat.le_refl _), q env' σ' H' hI' hl' ((Same.w e1).trans sw) S' B'⟩
/-- f.append(l.pop(draw)), f and l one's own -/
theorem s_appPop {i j : Nat} {x y : Str} {px ap cp py ap2 cp2 : Pos} {dx dy : List PyData} (hij : i ≠ j) (hk : env.lookup i = some (.own dx)) (hl : env.lookup j = some (.own dy)) (h : PE X e (tX m m1 env fun d => ∃ r : Int, d = .int r ∧ 0 ≤ r ∧ r < (dy.length : Int))) (hz : dx.length < sizeLine) (hz2 : dy.length ≤ 1000)
    (hi : X.N[i]? = some x := by rfl) (hv : Vis X.env.scope x := by first | exact Or.inl rfl | exact Or.inr (Or.inl rfl) | exact Or.inr (Or.inr rfl)) (hd : (x == ("__debug__" : Str)) = false := by decide) (hcd : (x == ("__classdict__" : Str)) = false := by decide)
    (hi2 : X.N[j]? = some y := by rfl) (hv2 : Vis X.env.scope y := by first | exact Or.inl rfl | exact Or.inr (Or.inl rfl) | exact Or.inr (Or.inr rfl)) (hd2 : (y == ("__debug__" : Str)) = false := by decide) (hcd2 : (y == ("__classdict__" : Str)) = false := by decide)
    (hbase2 : attributeBase (.Name y py) "pop" X.env (eval (.Name y py) X.env) = eval (.Name y py) X.env := by rfl)
    (hfew2 : ((backTo cp2 (starEach [e] X.env)).all (fun x => !x.1) && (backToKw cp2 (keywordEach [] X.env)).all (fun x => x.1.isSome)
      && decide (([e] : List Expr).length + ([] : List Keyword).length + (if ([] : List Keyword).isEmpty then 0 else 1) < 30)) = true := by rfl)
    (hline2 : (ap2.endLine == cp2.line) = true := by rfl) (hst2 : starEach [e] X.env = (false, eval e X.env) :: starEach [] X.env := by rfl) (hplain2 : (backTo cp2 (starEach [] X.env)).any (·.1) = false := by rfl)
    (hbase : attributeBase (.Name x px) "append" X.env (eval (.Name x px) X.env) = eval (.Name x px) X.env := by rfl)
    (hfew : ((backTo cp (starEach [.Call (.Attribute (.Name y py) "pop" ap2) [e] [] cp2] X.env)).all (fun x => !x.1) && (backToKw cp (keywordEach [] X.env)).all (fun x => x.1.isSome)
      && decide (([.Call (.Attribute (.Name y py) "pop" ap2) [e] [] cp2] : List Expr).length + ([] : List Keyword).length + (if ([] : List Keyword).isEmpty then 0 else 1) < 30)) = true := by rfl)
    (hline : (ap.endLine == cp.line) = true := by rfl) (hst : starEach [.Call (.Attribute (.Name y py) "pop" ap2) [e] [] cp2] X.env = (false, eval (.Call (.Attribute (.Name y py) "pop" ap2) [e] [] cp2) X.env) :: starEach [] X.env := by rfl) (hplain : (backTo cp (starEach [] X.env)).any (·.1) = false := by rfl)
    (hsw : swapsWith (.Call (.Attribute (.Name x px) "append" ap) [.Call (.Attribute (.Name y py) "pop" ap2) [e] [] cp2] [] cp) none pos.line X.env = pure false := by rfl) :
    PS X (.Expr (.Call (.Attribute (.Name x px) "append" ap) [.Call (.Attribute (.Name y py) "pop" ap2) [e] [] cp2] [] cp) pos) (tNI m m1 env fun env' => ∃ (r : Nat) (d : PyData), dy[r]? = some d ∧ env' = (i, .own (dx ++ [d])) :: (j, .own (dy.eraseIdx r)) :: env) :=
  PS.imp (ps_expr (pe_bm PySem.F.plainAttrs_list PySem.F.slot_list_append PySem.F.type_list_append mt_append (pe_var hi hv hd hcd) (pa_cons (pe_bm PySem.F.plainAttrs_list PySem.F.slot_list_pop PySem.F.type_list_pop mt_popAt (pe_var hi2 hv2 hd2 hcd2) (pa_cons h pa_nil hst2) hbase2 hfew2 hline2 hst2 hplain2) pa_nil hst) hbase hfew hline hst hplain) hsw) fun D σ H hsl ⟨N, W, T, S, B, q⟩ => by
    obtain ⟨a, xs, g1, g2, g3, g4, g5⟩ := S.sl.own i dx hk
    obtain ⟨b, ys, k1, k2, k3, k4, k5⟩ := S.sl.own j dy hl
    refine ⟨_, g1, .inl ⟨rfl, xs, SqL.of g4⟩, _, k1, .inl ⟨rfl, ys, SqL.of k4⟩, N, W, T, S, B, fun v d H' p e B' r => ?_⟩
    obtain ⟨i0, rfl, h0, h9⟩ := p
    cases r
    obtain ⟨r0, rfl⟩ : ∃ r0 : Nat, i0 = (r0 : Int) := ⟨i0.toNat, by omega⟩
    have S1 := S.boxed e B'
    have hr0 : r0 < dy.length := by omega
    obtain ⟨d, hd⟩ : ∃ d, dy[r0]? = some d := ⟨dy[r0], List.getElem?_eq_getElem hr0⟩
    obtain ⟨y, e1, e2⟩ := k5.get hd
    have hlen : ys.length = dy.length := k5.length
    obtain ⟨u1, u2, u3, u4⟩ := S1.updO hl k1 k2 k3 (e _ _ k3 k4) ((k5.eraseIdx r0).mono (e.hide S))
    have hab : a ≠ b := fun z => hij (S.sl.inj i j dx dy a hk hl g1 (z ▸ k1))
    refine ⟨b, ys, (r0 : Int), r0, y, rfl, rfl, e _ _ k3 k4, by omega, by omega, (ixN_seq (ixN_nat (by omega))).1, e1, a, xs, y, rfl, rfl, by rw [upd_ne hab]; exact e _ _ g3 g4, by rw [g5.length]; exact hz, ?_⟩
    obtain ⟨w1, w2, w3, w4⟩ := u1.updO (i := i) (ds := dx) (ds' := dx ++ [d]) (by rw [lk_cons, if_neg hij]; exact hk) g1 g2 g3 (by rw [upd_ne hab]; exact e _ _ g3 g4) (((g5.mono (e.hide S)).mono u4).append (.cons ((e2.mono (e.hide S)).mono u4) .nil))
    exact q _ σ _ ⟨r0, d, hd, rfl⟩ rfl (((e.w S).trans u2).trans w2) w1 (w3 _ (u3 _ B'))
end
end DL
namespace DL
open PySem PySem.Spec PyProof.Rows L2
/-! ### a body that holds the box open -/
def tK (t : Addr) (env : En) (P : PyData → List PyData → Prop) : TS := fun D σ H => ∃ N, Sta N [t] none H σ env ∧ ∀ v d H' xs ds, SameT (some t) H H' → H' t = some (.lst xs) → Rps (hide N H') xs ds → P d ds → Rp (hide N H') v d → D.rt v H'
theorem wt {t : Addr} {H H' : Hp} (sw : SameW [t] H H') : SameT (some t) H H' := fun a o n h => sw a o (fun z => n (by rw [List.mem_singleton.mp z])) h
section
variable {X : Cx} {env env1 env2 : En} {m m' m1 m2 mE : Nat} {e e2 a b c tg : Expr} {es : List Expr} {d d1 d2 d3 : PyData} {ds : List PyData} {pos p p2 : Pos} {st : Stmt} {rest body : List Stmt} {P : PyData → List PyData → Prop} {t : Addr}
theorem k_cons (h : PS X st (tN 0 0 env env1)) (hr : PSs X rest (tK t env1 P)) : PSs X (st :: rest) (tK t env P) :=
  PSs.imp (pss_cons h hr) fun D σ H _ ⟨N, S, q⟩ => ⟨N, [t], none, S, fun _ h => (by cases h), fun σ' H' _ sw S' _ => ⟨N, S', fun v d H'' xs ds e => q v d H'' xs ds ((wt sw).trans e)⟩⟩
theorem k_ret (h : PE X e (tD env d)) (hk : env.lookup 0 = some (.own ds)) (hP : P d ds) : PSs X [.Return (some e) pos] (tK t env P) :=
  PSs.imp (pss_one (ps_ret h)) fun D σ H _ ⟨N, S, q⟩ => ⟨N, [t], none, S, fun v H' e r => by
    obtain ⟨a, xs, g1, g2, g3, g4, g5⟩ := S.sl.own 0 ds hk
    cases List.mem_singleton.mp g2
    exact q v d H' xs ds (Same.t e) (e _ _ g4) (g5.mono (hide_same e)) hP r⟩
theorem k_if {k : Bool} (h : PT X c (tT env k)) (h1 : k = true → PSs X body (tK t env P)) (h2 : k = false → PSs X rest (tK t env P)) : PSs X (.If c body [] pos :: rest) (tK t env P) := by
  cases k with
  | true =>
    exact PSs.imp (pss_cons (ps_if h (h1 rfl) (pss_nil)) (u := fun _ _ _ => False) ⟨fun _ _ _ _ _ _ z => z.elim⟩) fun D σ H _ ⟨N, S, q⟩ => ⟨N, [t], none, S, fun H' e => by
      show tK t env P _ σ H'
      exact ⟨N, S.mono e, fun v d H2 xs ds e2 => q v d H2 xs ds ((Same.t e).trans e2)⟩⟩
  | false =>
    exact PSs.imp (pss_cons (ps_if (t := fun _ _ _ => False) h ⟨fun _ _ _ _ _ _ z => z.elim⟩ pss_nil) (h2 rfl)) fun D σ H _ ⟨N, S, q⟩ => ⟨N, [t], none, S, fun H' e => by
      show tK t env P D σ H'
      exact ⟨N, S.mono e, fun v d H2 xs ds e2 => q v d H2 xs ds ((Same.t e).trans e2)⟩⟩
end
section
variable {P : Program} {w : World} {K : PySem.W.Frag} {mg : Str → Option Value} {base : Heap}
/-- the box, its content told -/
theorem sta_open {Nm : List Str} {N : List Addr} {H : Hp} {t : Addr} {vs xs : List V} {ds es : List PyData} (f : ∀ a ∈ N, H a ≠ none) (ht : t ∈ N) (r : Rps (hide N H) vs ds) (h : H t = some (.lst xs)) (r2 : Rps (hide N H) xs es) :
    Sta N [t] none H (start Nm (.ref t :: vs)) ((0, .own es) :: argE 1 ds) := by
  have S := sta_box (Nm := Nm) f ht r
  have g : ∀ {k e}, ((0, Ent.own es) :: argE 1 ds).lookup k = some e → (k = 0 ∧ e = .own es) ∨ (((0, Ent.box) :: argE 1 ds).lookup k = some e ∧ ∃ d, e = .dat d) := fun {k e} h => by
    rw [lk_cons] at h
    by_cases hk : k = 0
    · rw [if_pos hk] at h
      exact .inl ⟨hk, (Option.some.inj h).symm⟩
    · rw [if_neg hk] at h
      obtain ⟨d, j, _, _, h3⟩ := argE_get ds 1 k e h
      exact .inr ⟨by rw [lk_cons, if_neg hk]; exact h, d, h3⟩
  refine ⟨S.fr, S.sub, fun _ z => (by cases z), ⟨fun i d h => ?_, fun i d' h' => ?_, fun i j di dj a h h' => ?_, fun i h => ?_⟩⟩
  · rcases g h with ⟨_, z⟩ | ⟨z, _⟩
    · cases z
    · exact S.sl.dat i d z
  · rcases g h' with ⟨z1, z⟩ | ⟨_, d, z⟩
    · cases z
      exact ⟨t, xs, by rw [z1]; rfl, List.mem_singleton.mpr rfl, (fun z => nomatch z), h, r2⟩
    · cases z
  · rcases g h with ⟨z1, z⟩ | ⟨_, d, z⟩
    · rcases g h' with ⟨z2, z'⟩ | ⟨_, d, z'⟩
      · intro _ _
        rw [z1, z2]
      · cases z'
    · cases z
  · rcases g h with ⟨_, z⟩ | ⟨_, d, z⟩
    · cases z
    · cases z
def C_take : List PyData → Prop := fun ds => ∃ n : Int, ds = [.int n] ∧ 0 < n ∧ n < 1073741824
def R_take : List PyData → PyData → Prop := fun ds d => ∃ n r : Int, ds = [.int n] ∧ d = .int r ∧ 0 ≤ r ∧ r < n
theorem ok_l_take (T : Tx K mg) : FnOk P w K mg base CX0 1 T.l_take.f T.l_take.fd ["_law_tin", "_law_below_so"] (spT 1 C_take R_take) := by
  refine T.l_take.F.ok sc_l_take (fun vs H Q E h => ?_) (fun cdv A outer s H vs Q E hr h => ?_)
  · obtain ⟨N, t, vs', ds, m, f', ht, rfl, r, bx, hz, ⟨n, rfl, _⟩, q⟩ := h
    rw [List.length_cons, r.length]
    rfl
  · obtain ⟨N, t, vs', ds, m, f', ht, rfl, r, ⟨a, b, c, hb, ha0, hb0, hb9, hc0, hcm⟩, hz, ⟨n, rfl, hn0, hn9⟩, q⟩ := h
    have nd := sc_l_take.nd
    refine ⟨tK t ((0, .own [.int a, .int b, .int c]) :: argE 1 [.int n]) (fun d ds => ∃ r a' b' c' : Int, d = .int r ∧ 0 ≤ r ∧ r < n ∧ ds = [.int a', .int b', .int c'] ∧ 0 ≤ a' ∧ 0 ≤ b' ∧ b' < 2 ^ 62 ∧ 0 ≤ c' ∧ c' ≤ (m + 1 : Nat)), ?_, N, sta_open f' ht r hb (.cons (.int a) (.cons (.int b) (.cons (.int c) .nil))), ?_⟩
    · refine k_if (t_cmp op_gt r_IB (d_ixO (i := 0) 0 rfl rfl dc_int) dc_int) (fun hk => ?_) (fun hk => ?_)
      · refine k_cons (s_set (i := 2) (d_op op_mod (r_I hn0) (d_callTy call_int1 c_int T.z_int (a_cons (d_ixO (i := 0) 0 rfl rfl dc_int) a_nil)) (dv 1 rfl))) ?_
        refine k_cons (s_setO (i := 0) 0 rfl (by show 0 < 3; decide) (d_op op_fdiv (r_I ⟨hn0, hn9⟩) (d_ixO (i := 0) 0 rfl rfl dc_int) (dv 1 rfl)) dc_int) ?_
        exact k_ret (dv 2 rfl) rfl ⟨_, _, _, _, rfl, Int.emod_nonneg _ (by omega), Int.emod_lt_of_pos _ hn0, rfl, Int.ediv_nonneg ha0 (by omega), hb0, hb9, hc0, by omega⟩
      · refine k_cons (s_setO (i := 0) 2 rfl (by show 2 < 3; decide) (d_op op_add r_I0 (d_ixO (i := 0) 2 rfl rfl dc_int) dc_int) dc_int) ?_
        have i1 : ∀ x : Int, 0 ≤ x % 2147483647 ∧ x % 2147483647 < 2147483647 := fun x => ⟨Int.emod_nonneg _ (by decide), Int.emod_lt_of_pos _ (by decide)⟩
        refine k_cons (s_set (i := 3) (d_op op_mod (r_I (by decide)) (d_callTy call_int1 c_int T.z_int (a_cons (d_op op_mul (r_I (.inl ?_)) (d_op op_add r_I0 (d_ixO (i := 0) 1 rfl rfl dc_int) (d_op op_mul (r_I (.inl ⟨by decide, by decide⟩)) dc_int (d_ixO (i := 0) 2 rfl rfl dc_int))) (d_op op_add r_I0 dc_int (d_ixO (i := 0) 2 rfl rfl dc_int))) a_nil)) dc_int)) ?_
        · omega
        refine k_cons (s_set (i := 4) (d_op op_add r_I0 (d_op op_mod (r_I (by decide)) (d_callTy call_int1 c_int T.z_int (a_cons (dv 3 rfl) a_nil)) dc_int) dc_int)) ?_
        refine k_cons (s_set (i := 5) (d_op op_mod (r_I (by decide)) (d_callTy call_int1 c_int T.z_int (a_cons (d_op op_mul (r_I (.inr ?_)) (d_op op_add r_I0 (d_op op_add r_I0 (dv 3 rfl) (d_ixO (i := 0) 2 rfl rfl dc_int)) (d_op op_fdiv (r_I ⟨by decide, by decide⟩) (d_ixO (i := 0) 1 rfl rfl dc_int) dc_int)) (dv 4 rfl)) a_nil)) dc_int)) ?_
        · omega
        refine k_ret (d_op op_mod (r_I hn0) (d_callTy call_int1 c_int T.z_int (a_cons (d_op op_fdiv (r_I ⟨by decide, by decide⟩) (d_op op_mod (r_I (by decide)) (d_callTy call_int1 c_int T.z_int (a_cons (d_op op_add r_I0 (d_op op_mul (r_I (.inr ⟨by decide, by decide⟩)) (dv 5 rfl) dc_int) (dv 3 rfl)) a_nil)) dc_int) dc_int) a_nil)) (dv 1 rfl)) rfl ?_
        exact ⟨_, _, _, _, rfl, Int.emod_nonneg _ (by omega), Int.emod_lt_of_pos _ hn0, rfl, ha0, hb0, hb9, by omega, by omega⟩
    · rintro v d H' xs ds e hx rx ⟨r, a', b', c', rfl, hr0, hr9, rfl, h1, h2, h3, h4, h5⟩ rv
      refine q v _ H' ⟨n, r, rfl, rfl, hr0, hr9⟩ e ⟨a', b', c', ?_, h1, h2, h3, h4, h5⟩ rv
      have z := Rps.ints (ns := [a', b', c']) rx
      rw [hx, z]
      rfl
/-! ### picks -/
theorem erase_map {α β : Type} (f : α → β) : ∀ (l : List α) (r : Nat), (l.map f).eraseIdx r = (l.eraseIdx r).map f
  | [], _ => rfl
  | _ :: _, 0 => rfl
  | x :: l, r + 1 => by
    rw [List.map_cons, List.eraseIdx_cons_succ, List.eraseIdx_cons_succ, List.map_cons, erase_map f l r]
theorem erase_perm : ∀ (l : List Int) (r : Nat) (x : Int), l[r]? = some x → (x :: l.eraseIdx r).Perm l
  | [], _, _, h => by cases h
  | y :: l, 0, x, h => by
    cases h
    exact .refl _
  | y :: l, r + 1, x, h => by
    rw [List.eraseIdx_cons_succ]
    exact (List.Perm.swap y x _).trans ((erase_perm l r x h).cons y)
def C_pick : List PyData → Prop := fun ds => ∃ (goods : List Int) (c : Int), ds = [.list (goods.map .int), .int c] ∧ goods.length ≤ 100 ∧ 0 ≤ c
def R_pick : List PyData → PyData → Prop := fun ds d => ∃ (goods : List Int) (c : Int) (found rest : List Int), ds = [.list (goods.map .int), .int c] ∧ d = .list (found.map .int) ∧ (found ++ rest).Perm goods
theorem ok_l_pick (T : Tx K mg) : FnOk P w K mg base CX0 2 T.l_pick.f T.l_pick.fd ["_law_tin", "_law_goods_so", "_law_count_so"] (spT 100 C_pick R_pick) := by
  refine ok_T T.l_pick.F sc_l_pick (fun ds h => ?_) (fun cdv A outer s H E ds m hr hC hm => ?_)
  · obtain ⟨g, c, rfl, _⟩ := h
    rfl
  · obtain ⟨goods, c, rfl, hg, hc0⟩ := hC
    have nd := sc_l_pick.nd
    refine b_par2 (i := 3) (j := 4) (.lst _) T.z_list (dv 1 rfl) ?_
    obtain ⟨n, en, hn⟩ : ∃ n : Nat, (if ((goods.map PyData.int).length : Int) < c then ((goods.map PyData.int).length : Int) else c) = (n : Int) ∧ n ≤ goods.length := by
      rw [List.length_map]
      split
      · exact ⟨goods.length, rfl, Nat.le_refl _⟩
      · exact ⟨c.toNat, by omega, by omega⟩
    refine b_consI (s_forI (m := m) (L := rg n) (c := .int) (j := 5) (fun i env' => ∃ pool found : List Int, env' = [(0, .box), (3, .own (pool.map .int)), (4, .own (found.map .int))] ∧ (found ++ pool).Perm goods ∧ pool.length + i = goods.length) 1 [(0, .box), (3, .own (goods.map .int)), (4, .own [])]
      (i_rg (by omega) T.z_range (d_is (d_callB (call_min2 rfl) c_min2 T.z_min (a_cons (d_callTy call_int1 c_int T.z_int (a_cons (dv 2 rfl) a_nil)) (a_cons (d_lenO (i := 3) rfl T.z_len) a_nil))) (by rw [en])))
      (wk_cons rfl (wk_cons rfl (wk_cons rfl (wk_nil _)))) ⟨goods, [], rfl, .refl _, rfl⟩ (fun i a env' ha hI => ?_) PassesOwn.never) ?_
    · obtain ⟨pool, found, rfl, hp, hl⟩ := hI
      have hi : i < n := by
        have := (List.getElem?_eq_some_iff.mp ha).1
        rw [rg_len] at this
        exact this
      have hp' := hp.length_eq
      rw [List.length_append] at hp'
      refine PSs.imp (pss_one (s_appPop (m := m + i * 1) (env := (5, .dat (.int a)) :: [(0, .box), (3, .own (pool.map .int)), (4, .own (found.map .int))]) (i := 4) (j := 3) (dx := found.map .int) (dy := pool.map .int) (by decide) rfl rfl (x_callT (k := 1) (i := 0) (ok_l_take T) hr T.l_take.g T.l_take.F.kp T.l_take.b rfl (xa_pure (A := fun ds => ds = [.int (pool.length : Int)]) (a_cons (d_is (d2 := .int (pool.length : Int)) (d_lenO (ds := pool.map .int) (i := 3) rfl T.z_len) (by rw [List.length_map])) a_nil) rfl) (fun ds h => ⟨_, h, by omega, by omega⟩) (fun ds d h hR => ?_) (by omega)) (by rw [List.length_map]; exact small6 (by omega)) (by rw [List.length_map]; omega))) fun D σ H hsl ⟨N, W, Tt, S, B, q⟩ => ?_
      · obtain ⟨n', r, h1, h2, h3, h4⟩ := hR
        subst h
        cases h1
        exact ⟨r, h2, h3, by rw [List.length_map]; exact h4⟩
      · refine ⟨N, W, Tt, S, B, fun env1 σ' H' ⟨r, d, h1, h2⟩ hl' sw S' B' => q _ σ' H' ?_ hl' sw (S'.wk (env' := [(0, .box), (3, .own ((pool.map PyData.int).eraseIdx r)), (4, .own (found.map PyData.int ++ [d]))]) (by subst h2; exact wk_cons rfl (wk_cons rfl (wk_cons rfl (wk_nil _))))) ?_⟩
        · obtain ⟨x, hx, rfl⟩ : ∃ x, pool[r]? = some x ∧ d = .int x := by
            rw [List.getElem?_map] at h1
            cases hx : pool[r]? with
            | none => rw [hx] at h1; cases h1
            | some x => rw [hx] at h1; exact ⟨x, rfl, (Option.some.inj h1).symm⟩
          have hr' : r < pool.length := (List.getElem?_eq_some_iff.mp hx).1
          refine ⟨pool.eraseIdx r, found ++ [x], ?_, ?_, ?_⟩
          · rw [List.map_append, erase_map]
            rfl
          · rw [List.append_assoc]
            exact .trans (.append_left found (erase_perm pool r x hx)) hp
          · rw [List.length_eraseIdx_of_lt hr']
            omega
        · have : m + i * 1 + 1 = m + (i + 1) * 1 := by omega
          rw [← this]
          exact B'
    · rintro env1 ⟨pool, found, rfl, hp, hl⟩
      refine b_freeze 4 rfl (b_ret (dv 4 rfl) ⟨goods, c, found, pool, rfl, rfl, hp⟩ ?_)
      rw [rg_len]
      omega
end
end DL
namespace DL
open PySem PySem.Spec PyProof.Rows L2
/-! ### enumerate -/
def enumD (ds : List PyData) : List PyData := (List.range ds.length).map fun (i : Nat) => .tuple [.int (i : Int), ds.getD i .none]
theorem walk_enum {K : PySem.W.Frag} {N : List Addr} {H1 : Hp} {a : Addr} {xs : List V} {ds : List PyData} (h : hide N H1 a = some (.lst xs)) (r : Rps (hide N H1) xs ds) : WalkD (Ite K a) N H1 (enumD ds) := fun i H' N' e2 f => by
  have hl : SqL K H' a xs := SqL.of (hide_some.mp (e2 a _ h)).2
  refine ⟨fun d hd => ?_, fun hi => ⟨xs, hl, ?_⟩⟩
  · unfold enumD at hd
    rw [List.getElem?_map] at hd
    by_cases hi : i < ds.length
    · rw [List.getElem?_range hi] at hd
      have ed : PyData.tuple [.int (i : Int), ds.getD i .none] = d := Option.some.inj hd
      subst ed
      have hg : ds[i]? = some (ds.getD i .none) := by
        rw [List.getD_eq_getElem?_getD, List.getElem?_eq_getElem hi]
        rfl
      obtain ⟨v, h1, h2⟩ := r.get hg
      refine ⟨⟨xs, v, hl, h1⟩, fun x H'' y => ?_⟩
      obtain ⟨T, x1, rfl, hT, rfl, f1⟩ := y
      have ex : x1 = v := Option.some.inj ((f1 xs hl).symm.trans h1)
      rw [ex]
      exact ⟨same_new hT, rp_newT f hT (.cons (.int _) (.cons (h2.mono e2) .nil))⟩
    · rw [List.getElem?_eq_none (by rw [List.length_range]; omega)] at hd
      cases hd
  · unfold enumD at hi
    rw [List.length_map, List.length_range] at hi
    rw [r.length]
    exact hi
section
variable {X : Cx} {env env1 env2 : En} {m m' m1 m2 mE : Nat} {e e2 a b c tg : Expr} {es : List Expr} {d d1 d2 d3 : PyData} {ds : List PyData} {pos p p2 : Pos} {st : Stmt} {rest body : List Stmt} {P P1 P2 : PyData → Prop} {A A1 A2 : List PyData → Prop}
theorem i_enum {elts : List Expr} {kk : Nat} {tpos : Pos} (hm : X.mg "enumerate" = none) (ha : PE X e (tD env (.list ds))) (hg : Gl X "enumerate" := by rfl) (hs : starEach [e] X.env = [(false, eval e X.env)] := by rfl) (hs2 : starEach [e] X.env = (false, eval e X.env) :: starEach [] X.env := by rfl) :
    PI X (.Tuple elts kk tpos) (.Call (.Name "enumerate" p) [e] [] pos) (tIt env (enumD ds)) :=
  PI.imp (pi_enum hg hm (a_cons ha a_nil hs2) hs) fun σ H R ⟨N, W, T, S, q⟩ => ⟨N, W, T, S, fun vs H' e1 r => by
    obtain ⟨v, rfl, r1⟩ := r.one
    cases r1 with
    | lst h1 h2 => exact ⟨_, _, rfl, SqL.of (hide_some.mp h1).2, q _ H' e1 (walk_enum h1 h2)⟩⟩
/-- for x, y in pairs -/
theorem s_for2 {α : Type} {L : List α} {c1 c2 : α → PyData} {j1 j2 : Nat} {x y : Str} {px py tp : Pos} {kk : Nat} {iter : Expr} (E : Nat → En) (hi : PI X (.Tuple [.Name x px, .Name y py] kk tp) iter (tIt env (L.map fun a => .tuple [c1 a, c2 a]))) (h0 : Wk env (E 0))
    (hb : ∀ i a, L[i]? = some a → PSs X body (tN m m ((j2, .dat (c2 a)) :: (j1, .dat (c1 a)) :: E i) (E (i + 1)))) (hp : PassesOwn (model X.prog X.w) X.A X.env X.xe) (hN : X.N.Nodup := by assumption) (hj1 : X.N[j1]? = some x := by rfl) (hj2 : X.N[j2]? = some y := by rfl) (hx : Loc X.env.scope x := by first | exact Or.inl rfl | exact Or.inr rfl) (hy : Loc X.env.scope y := by first | exact Or.inl rfl | exact Or.inr rfl)
    (hf1 : X.fn x = true ∨ X.env.scope.names.lookup x = some .local := by first | exact .inl rfl | exact .inr rfl) (hf2 : X.fn y = true ∨ X.env.scope.names.lookup y = some .local := by first | exact .inl rfl | exact .inr rfl) (hc : X.calm = true := by rfl)
    (hg : PG X (.Tuple [.Name x px, .Name y py] kk tp) (gTup X.K 2 (gCons (gName j1) (gCons (gName j2) gNil))) := by exact pg_tup (n := 2) rfl (pgs_cons (pg_name (by assumption) rfl (Or.inl rfl)) (pgs_cons (pg_name (by assumption) rfl (Or.inl rfl)) pgs_nil)))
    (hs : ∀ x, foldedSetIterable iter X.env x = pure x := by intro _; rfl) : PS X (.For (.Tuple [.Name x px, .Name y py] kk tp) iter body [] pos) (tN m m env (E L.length)) := by
  have hbody : PSs X body (fun D σ H => ∃ z : Nat × α, L[z.1]? = some z.2 ∧ tN m m ((j2, .dat (c2 z.2)) :: (j1, .dat (c1 z.2)) :: E z.1) (E (z.1 + 1)) D σ H) := PSs.ex fun z hz => hb z.1 z.2 hz
  refine PS.imp (ps_for hp hc hi hg hbody hs) fun D σ H hl ⟨N, W, T, S, B, q⟩ => ⟨N, W, T, S, fun J H1 e1 walk => ?_⟩
  have hjl1 : j1 < X.N.length := (List.getElem?_eq_some_iff.mp hj1).1
  have hjl2 : j2 < X.N.length := (List.getElem?_eq_some_iff.mp hj2).1
  refine ⟨fun i k σ' H' => k = L.length - i ∧ i ≤ L.length ∧ SameW W H1 H' ∧ Sta N W T H' σ' (E i) ∧ BoxO T H' m ∧ σ'.length = σ.length, ⟨L.length, rfl, Nat.zero_le _, SameW.refl W H1, (S.mono e1).wk h0, B.mono e1, rfl⟩, ?_⟩
  rintro i k σ' H' ⟨rfl, hil, sw, S', B', hl'⟩
  obtain ⟨w1, w2⟩ := walk i H' N (sw.hide S.sub) S'.fr
  by_cases hlt : i < L.length
  · have hget : L[i]? = some L[i] := List.getElem?_eq_getElem hlt
    obtain ⟨go, yl⟩ := w1 (.tuple [c1 L[i], c2 L[i]]) (by rw [List.getElem?_map, hget]; rfl)
    refine .inr ⟨go, fun σ2 H2 => i + 1 ≤ L.length ∧ SameW W H1 H2 ∧ Sta N W T H2 σ2 (E (i + 1)) ∧ BoxO T H2 m ∧ σ2.length = σ.length, fun σ2 H2 z => ⟨L.length - (i + 1), by omega, rfl, z⟩, fun v H2 y => ?_⟩
    obtain ⟨e3, rx⟩ := yl v H2 y
    cases rx with
    | tup g1 g2 =>
      obtain ⟨u, w, rfl, k1, k2⟩ := g2.two
      refine ⟨_, _, rfl, SqT.of (hide_some.mp g1).2, rfl, u, _, rfl, w, _, rfl, rfl, (i, L[i]), hget, N, W, T, ((S'.mono e3).put (by rw [hl', hl]; exact hjl1) k1).put (by rw [List.length_set, hl', hl]; exact hjl2) k2, B'.mono e3, fun σ3 H3 l3 sw3 S3 B3 => ⟨hlt, (sw.trans (Same.w e3)).trans sw3, S3, B3, ?_⟩⟩
      rw [l3, List.length_set, List.length_set, hl']
  · have ei : i = L.length := by omega
    subst ei
    exact .inl ⟨w2 (by rw [List.length_map]; exact Nat.le_refl _), q σ' H' hl' ((Same.w e1).trans sw) S' B'⟩

/-! ### comprehensions that draw -/
theorem hide_consT {N : List Addr} {H H' : Hp} {D : Addr} (e : Same (hide N H) (hide N H')) (hD : H D = none) : Same (hide N H) (hide (D :: N) H') := fun a o h => by
  obtain ⟨h1, h2⟩ := hide_some.mp h
  obtain ⟨h3, h4⟩ := hide_some.mp (e a o h)
  refine hide_some.mpr ⟨fun z => ?_, h4⟩
  rcases List.mem_cons.mp z with z | z
  · rw [z, hD] at h2
    cases h2
  · exact h1 z
theorem Sta.underT {N W : List Addr} {T : Option Addr} {H H' : Hp} {σ : L2.St} {D : Addr} (S : Sta N W T H σ env) (e : SameT T H H') (B : BoxO T H' m) (hD : H D = none) (hD' : H' D ≠ none) : Sta (D :: N) W T H' σ env := by
  have S' := S.boxed e B
  refine ⟨fun a ha => ?_, fun a ha => List.mem_cons_of_mem _ (S.sub a ha), S.tw, ⟨fun i d' hi => ?_, fun i ds hi => ?_, S.sl.inj, S.sl.box⟩⟩
  · rcases List.mem_cons.mp ha with rfl | ha
    · exact hD'
    · exact S'.fr a ha
  · obtain ⟨v, h1, h2⟩ := S.sl.dat i d' hi
    exact ⟨v, h1, h2.mono (hide_consT (e.hide S) hD)⟩
  · obtain ⟨a, xs, h1, h2, h3, h4, h5⟩ := S.sl.own i ds hi
    exact ⟨a, xs, h1, h2, h3, e _ _ h3 h4, h5.mono (hide_consT (e.hide S) hD)⟩
def tIX (m m' K : Nat) (env : En) : TI := fun σ H R => ∃ N W T, Sta N W T H σ env ∧ BoxO T H m ∧ ∀ J H1 n, n ≤ K → SameT T H H1 → BoxO T H1 m' → WalkD J N H1 (rgF 0 n) → R J H1
theorem ix_rg {K : Nat} (hK : K ≤ 1000) (hm : X.mg "range" = none) (ha : PE X a (tX m m1 env fun d => ∃ n : Nat, d = .int (n : Int) ∧ n ≤ K)) (hg : Gl X "range" := by rfl) (hs : starEach [a] X.env = [(false, eval a X.env)] := by rfl) (hs2 : starEach [a] X.env = (false, eval a X.env) :: starEach [] X.env := by rfl) : PI X tg (.Call (.Name "range" p) [a] [] pos) (tIX m m1 K env) :=
  PI.imp (pi_range1 hg hm (pa_cons ha pa_nil hs2) hs) fun σ H R ⟨N, W, T, S, B, q⟩ => ⟨N, W, T, S, B, fun v d H' p e B' r => by
    obtain ⟨n, rfl, hn⟩ := p
    cases r
    refine ⟨(n : Int), rfl, by omega, by omega, q _ H' n hn e B' ?_⟩
    rw [Int.toNat_natCast]
    exact walk_range⟩
def xlcE (m1 K k j : Nat) (env : En) (P : PyData → Prop) : TE := fun σ H Q => ∃ z : Nat × Nat, z.1 + k ≤ m1 + K * k ∧ tX z.1 (z.1 + k) ((j, .dat (.int (z.2 : Int))) :: env) P σ H Q
def isLs (K : Nat) (P : PyData → Prop) : PyData → Prop := fun d => ∃ ds, d = .list ds ∧ ds.length ≤ K ∧ ∀ z ∈ ds, P z
theorem xlc_read {K k j : Nat} {σ : L2.St} {H : Hp} {Q : VK} (hj : j < σ.length) (hz : K ≤ 1000) (q : tX m (m1 + K * k) env (isLs K P) σ H Q) : tLc (tIX m m1 K env) (gName j) tYes (xlcE m1 K k j env P) [j] σ H Q := by
  obtain ⟨N, W, T, S, B, q⟩ := q
  refine ⟨N, W, T, S, B, fun J H1 n hn e1 B1 walk D hD => ?_⟩
  have S1 := S.boxed e1 B1
  have hTD : T ≠ some D := fun z => by
    obtain ⟨_, _, _, h, _⟩ := B1 D z
    rw [hD] at h
    cases h
  refine ⟨fun i r Hc => r = n - i ∧ i ≤ n ∧ SameT T H1 Hc ∧ BoxO T Hc (m1 + i * k) ∧ ∃ acc ds, Hc D = some (.lst acc) ∧ Rps (hide (D :: N) Hc) acc ds ∧ ds.length = i ∧ ∀ z ∈ ds, P z, ⟨n, rfl, Nat.zero_le _, Same.t (same_new hD), by rw [Nat.zero_mul]; exact B1.mono (same_new hD), [], [], upd_same, .nil, rfl, fun _ h => (by cases h)⟩, ?_⟩
  rintro i r Hc ⟨rfl, hi', e2, B2, acc, ds, hDc, racc, hlen, hP⟩
  have nD : Hc D ≠ none := by rw [hDc]; exact fun z => nomatch z
  have S2 : Sta (D :: N) W T Hc σ env := S1.underT e2 B2 hD nD
  obtain ⟨w1, w2⟩ := walk i Hc (D :: N) (hide_consT (e2.hide S1) hD) S2.fr
  by_cases hlt : i < n
  · obtain ⟨go, yl⟩ := w1 (.int (i : Int)) (by
      unfold rgF
      rw [List.getElem?_map, List.getElem?_range hlt]
      show some (PyData.int ((0 : Int) + (i : Int))) = _
      rw [Int.zero_add])
    refine .inr ⟨go, fun H' => i + 1 ≤ n ∧ SameT T H1 H' ∧ BoxO T H' (m1 + (i + 1) * k) ∧ ∃ acc ds, H' D = some (.lst acc) ∧ Rps (hide (D :: N) H') acc ds ∧ ds.length = i + 1 ∧ ∀ z ∈ ds, P z, fun H' z => ⟨n - (i + 1), by omega, rfl, z⟩, fun x H' y => ?_⟩
    obtain ⟨e3, rx⟩ := yl x H' y
    have S3 : Sta (D :: N) W T H' (σ.set j (some x)) ((j, .dat (.int (i : Int))) :: env) := (S2.mono e3).put hj rx
    refine ⟨?_, ?_⟩
    · show ((σ.set j none).set j (some x)).set j none = σ.set j none
      rw [List.set_set, List.set_set]
    have ew : (σ.set j none).set j (some x) = σ.set j (some x) := List.set_set ..
    rw [← ew] at S3
    have hmul : (i + 1) * k ≤ K * k := Nat.mul_le_mul_right k (by omega)
    have hsucc : (i + 1) * k = i * k + k := Nat.succ_mul i k
    refine ⟨(m1 + i * k, i), by show m1 + i * k + k ≤ _; omega, D :: N, W, T, S3, B2.mono e3, fun y d H4 hPd e4 B4 ry => ⟨acc, e4 _ _ hTD (e3 _ _ hDc), ?_, hlt, ?_, ?_, acc ++ [y], ds ++ [d], upd_same, ?_, ?_, ?_⟩⟩
    · rw [racc.length, hlen]
      exact small6 (by omega)
    · intro a o na ha
      have hne : a ≠ D := fun z => by
        rw [z, hD] at ha
        cases ha
      rw [upd_ne hne]
      exact e4 _ _ na (e3 _ _ (e2 _ _ na ha))
    · intro t ht
      obtain ⟨u1, u2, u3, hu, hu'⟩ := B4 t ht
      refine ⟨u1, u2, u3, ?_, ?_⟩
      · rw [upd_ne (fun z => hTD (by rw [ht, z]))]
        exact hu
      · rw [hsucc, ← Nat.add_assoc]
        exact hu'
    · have hk : Same (hide (D :: N) H4) (hide (D :: N) (upd H4 D (.lst (acc ++ [y])))) := fun b o hb => by
        obtain ⟨b1, b2⟩ := hide_some.mp hb
        exact hide_some.mpr ⟨b1, by rw [upd_ne (fun z => b1 (by rw [z]; exact List.mem_cons_self))]; exact b2⟩
      exact (((racc.mono (hide_same e3)).mono (e4.hide S3)).mono hk).append (.cons (ry.mono hk) .nil)
    · rw [List.length_append, hlen]
      rfl
    · intro z hz'
      rcases List.mem_append.mp hz' with h | h
      · exact hP z h
      · rw [List.mem_singleton.mp h]
        exact hPd
  · have ei : i = n := by omega
    subst ei
    refine .inl ⟨w2 (by unfold rgF; rw [List.length_map, List.length_range]; exact Nat.le_refl _), q _ (.list ds) Hc ⟨ds, rfl, by omega, hP⟩ (e1.trans e2) ?_ (.lst (hide_some.mpr ⟨not_in S1.fr hD, hDc⟩) (racc.mono (hide_less (fun a ha => List.mem_cons_of_mem _ ha) Hc)))⟩
    exact B2.le (Nat.add_le_add_left (Nat.mul_le_mul_right k hn) m1)
theorem x_lcr {K k j : Nat} {x : Str} {px : Pos} {elt iter : Expr} {scope : Scope} (hi : PI X (.Name x px) iter (tIX m m1 K env)) (ok : BlkOk X.N X.env.scope scope [(x, j)])
    (hg : ∀ (s : Shared) (H : Hp) (C : Addr) (cl : List (Str × Addr)) (fp : List Addr), PG (X.blk s H scope (compEnvC scope cl C X.env) fp) (.Name x px) (gName j))
    (he : ∀ (s : Shared) (H : Hp) (C : Addr) (cl : List (Str × Addr)) (fp : List Addr), ∀ mm i : Nat, mm + k ≤ m1 + K * k → PE (X.blk s H scope (compEnvC scope cl C X.env) fp) elt (tX mm (mm + k) ((j, .dat (.int (i : Int))) :: env) P))
    (hz : K ≤ 1000) (hN : X.N.Nodup) (hc : X.calm = true := by rfl) (hs : ∀ x, foldedSetIterable iter X.env x = pure x := by intro _; rfl) :
    PE X (.ListComp elt [⟨.Name x px, iter, [], 0⟩] scope pos) (tX m (m1 + K * k) env (isLs K P)) :=
  PE.imp (pe_lc (tt := tYes) (te := xlcE m1 K k j env P) hc hN hi ok hg (fun s H C cl fp => pts_nil) (fun s H C cl fp => PE.ex fun z hz => he s H C cl fp z.1 z.2 hz) hs) fun σ H Q hl q => xlc_read (by rw [hl]; exact (List.getElem?_eq_some_iff.mp (ok.ix (x, j) (by simp))).1) hz q
theorem b_setXLc {K k j i : Nat} {x y : Str} {px py spos : Pos} {elt iter : Expr} {scope : Scope} {P2 : PyData → Prop} (hi : PI X (.Name x px) iter (tIX m m1 K env)) (ok : BlkOk X.N X.env.scope scope [(x, j)])
    (hg : ∀ (s : Shared) (H : Hp) (C : Addr) (cl : List (Str × Addr)) (fp : List Addr), PG (X.blk s H scope (compEnvC scope cl C X.env) fp) (.Name x px) (gName j))
    (he : ∀ (s : Shared) (H : Hp) (C : Addr) (cl : List (Str × Addr)) (fp : List Addr), ∀ mm i : Nat, mm + k ≤ m1 + K * k → PE (X.blk s H scope (compEnvC scope cl C X.env) fp) elt (tX mm (mm + k) ((j, .dat (.int (i : Int))) :: env) P))
    (hz : K ≤ 1000) (hr : ∀ d, isLs K P d → PSs X rest (tB (m1 + K * k) mE ((i, .dat d) :: env) P2)) (hy : X.N[i]? = some y := by rfl) (hN : X.N.Nodup := by assumption) (hyl : X.env.scope.names.lookup y = some .local := by rfl) (hsw : swapsWith (.ListComp elt [⟨.Name x px, iter, [], 0⟩] scope pos) (some (.Name y py)) spos.line X.env = pure true := by exact sw_true rfl rfl rfl (by decide +kernel))
    (hc : X.calm = true := by rfl) (hs : ∀ x, foldedSetIterable iter X.env x = pure x := by intro _; rfl) :
    PSs X (.Assign [.Name y py] (.ListComp elt [⟨.Name x px, iter, [], 0⟩] scope pos) spos :: rest) (tB m mE env P2) :=
  PSs.imp (pss_cons (ps_setLc (tt := tYes) (te := xlcE m1 K k j env P) hc hN hy hyl hsw hi ok hg (fun s H C cl fp => pts_nil) (fun s H C cl fp => PE.ex fun z hz => he s H C cl fp z.1 z.2 hz) hs) (PSs.ex hr)) fun D σ H hl ⟨N0, N, W, T, h1, h2, S, B, q⟩ => by
    have hj : j < σ.length := by rw [hl]; exact (List.getElem?_eq_some_iff.mp (ok.ix (x, j) (by simp))).1
    show tLc (tIX m m1 K env) (gName j) tYes (xlcE m1 K k j env P) [j] σ H (fun x H1 => gName i x σ H1 _)
    refine xlc_read hj hz ⟨N, W, T, S, B, fun v d H' p e B' r => ?_⟩
    exact ⟨d, p, N0, N, W, T, h1, h2, (S.boxed e B').put (by rw [hl]; exact (List.getElem?_eq_some_iff.mp hy).1) r, B', fun v2 d2 H2 sw2 => q v2 d2 H2 ((e.w S).trans sw2)⟩
/-- list(e) or [0], a new list put into x -/
theorem b_newOr {i : Nat} {x : Str} {p' lp lc ep op : Pos} {ns : List Int} {j0 : Bool} (hm : X.mg "list" = none) (ha : PE X e (tD env (.list (ns.map .int))))
    (hr : PSs X rest (tB m mE ((i, .own ((if ns.isEmpty then [0] else ns).map .int)) :: env) P)) (hi : X.N[i]? = some x := by rfl) (hN : X.N.Nodup := by assumption) (hx : Loc X.env.scope x := by first | exact Or.inl rfl | exact Or.inr rfl) {z1 : Pos} {zk}
    (hs : swapsWith (.BoolOp .Or [.Call (.Name "list" lp) [e] [] lc, .List [.Constant (.int 0) zk z1] ep] op) (some (.Name x p')) pos.line X.env = pure false := by rfl) (hf : X.fn x = true ∨ X.env.scope.names.lookup x = some .local := by first | exact .inl rfl | exact .inr rfl | assumption) (hg : Gl X "list" := by rfl)
    (he : starEach [e] X.env = (false, eval e X.env) :: starEach [] X.env := by rfl) (hpl : (backTo lc (starEach [] X.env)).any (·.1) = false := by rfl) (hs0 : starEach [.Constant (.int 0) zk z1] X.env = (false, eval (.Constant (.int 0) zk z1) X.env) :: starEach [] X.env := by rfl) :
    PSs X (.Assign [.Name x p'] (.BoolOp .Or [.Call (.Name "list" lp) [e] [] lc, .List [.Constant (.int 0) zk z1] ep] op) pos :: rest) (tB m mE env P) := by
  refine b_newAt (pe_orT (pe_callTy call_list_of hg hm (by decide +kernel) (pa_cons ha pa_nil he) (by decide) (by decide) he hpl) (pe_one (pe_lst (pa_cons pe_int pa_nil hs0)))) (fun σ H Q N W T S q => ?_) hr hi hN hx hs hf
  refine ⟨N, W, T, S, fun v H1 e1 r1 => ?_⟩
  cases r1 with
  | lst h1 h2 =>
    have hz : _ = ns.map V.int := h2.ints
    subst hz
    refine ⟨_, _, rfl, .inl (SqL.of (hide_some.mp h1).2), fun l hl => ?_⟩
    cases ns with
    | nil =>
      refine ⟨false, ?_, ?_⟩
      · exact .inl ⟨_, SqL.of upd_same, rfl⟩
      · show _ ≤ sizeLine ∧ _
        refine ⟨by show 1 ≤ sizeLine; decide, fun l2 hl2 => q _ _ _ (e1.trans (same_new hl |>.trans (same_new hl2))) ((e1.trans (same_new hl)).free hl2) upd_same (.cons (.int 0) .nil)⟩
    | cons n ns =>
      refine ⟨true, ?_, ?_⟩
      · exact .inl ⟨_, SqL.of upd_same, rfl⟩
      · show Q _ _
        exact q _ _ _ (e1.trans (same_new hl)) (e1.free hl) upd_same (rps_ints _)
end
end DL
namespace DL
open PySem PySem.Spec PyProof.Rows L2
theorem asc_of : ∀ ns : List Int, ns.Pairwise (· < ·) → asc ns = true
  | [], _ => rfl
  | [x], _ => rfl
  | x :: y :: ns, h => by
    obtain ⟨h1, h2⟩ := List.pairwise_cons.mp h
    have ih := asc_of (y :: ns) h2
    unfold asc at ih ⊢
    rw [List.drop_succ_cons, List.drop_zero, List.zip_cons_cons, List.all_cons]
    rw [List.drop_succ_cons, List.drop_zero] at ih
    rw [ih, Bool.and_true]
    exact decide_eq_true (h1 y List.mem_cons_self)
theorem int_inj : ∀ a b : List Int, a.map PyData.int = b.map .int → a = b
  | [], [], _ => rfl
  | [], _ :: _, h => by cases h
  | _ :: _, [], h => by cases h
  | x :: a, y :: b, h => by
    rw [List.map_cons, List.map_cons] at h
    injection h with h1 h2
    rw [PyData.int.inj h1, int_inj a b h2]
theorem sw01 (b : Bool) : -(2 ^ 64) < (if b = true then (1 : Int) else 0) ∧ (if b = true then (1 : Int) else 0) < 2 ^ 64 := by cases b <;> decide
theorem mem_rg {n : Nat} {x : Int} : x ∈ rg n ↔ 0 ≤ x ∧ x < n := by
  unfold rg
  rw [List.mem_map]
  constructor
  · rintro ⟨i, hi, rfl⟩
    have := List.mem_range.mp hi
    omega
  · rintro ⟨h1, h2⟩
    exact ⟨x.toNat, List.mem_range.mpr (by omega), by omega⟩
theorem rg_pair (n : Nat) : (rg n).Pairwise (· < ·) := by
  unfold rg
  rw [List.pairwise_map]
  exact List.pairwise_lt_range.imp fun h => by omega
theorem rg_nodup (n : Nat) : (rg n).Nodup := (rg_pair n).imp fun h => by omega
/-- sorted picks are a number set -/
theorem nset_of {n : Nat} {L found rest : List Int} (h1 : L.Perm found) (h2 : L.Pairwise (· ≤ ·)) (h3 : (found ++ rest).Perm (rg n)) : nset L n = true ∧ L.length ≤ n := by
  have hl := h3.length_eq
  rw [List.length_append, rg_len] at hl
  have hl2 := h1.length_eq
  have nd : L.Nodup := h1.nodup_iff.mpr ((List.nodup_append.mp (h3.nodup_iff.mpr (rg_nodup n))).1)
  refine ⟨?_, by omega⟩
  unfold nset
  rw [Bool.and_eq_true]
  refine ⟨List.all_eq_true.mpr fun x hx => ?_, asc_of L ?_⟩
  · obtain ⟨k1, k2⟩ := mem_rg.mp (h3.mem_iff.mp (List.mem_append_left rest (h1.mem_iff.mp hx)))
    rw [decide_eq_true k1, decide_eq_true k2]
    rfl
  · exact (h2.and nd).imp fun h => by
      obtain ⟨a, b⟩ := h
      omega
section
variable {P : Program} {w : World} {K : PySem.W.Frag} {mg : Str → Option Value} {base : Heap}
theorem c_sortI {K : PySem.W.Frag} {ns L : List Int} (hz : ns.length < 64) (h1 : L.Perm ns) (h2 : L.Pairwise (· ≤ ·)) : RDc (rSorted K) [.list (ns.map .int)] (.list (L.map .int)) := fun N H vs Q f r q => by
  obtain ⟨v, rfl, rv⟩ := r.one
  cases rv with
  | lst k1 k2 =>
    have hv := k2.ints
    subst hv
    refine ⟨_, ns, rfl, SqL.of (hide_some.mp k1).2, hz, fun ns' p g1 g2 hp => ?_⟩
    have e : ns' = L := List.Perm.eq_of_pairwise (fun a b _ _ h h' => Int.le_antisymm h h') g2 h2 (g1.trans h1.symm)
    rw [e]
    exact q _ _ (same_new hp) (rp_newL f hp (rps_ints _))
def C_some : List PyData → Prop := fun ds => ∃ n : Nat, ds = [.int (n : Int)] ∧ n ≤ 50
def R_some : List PyData → PyData → Prop := fun ds d => ∃ (n : Nat) (L : List Int), ds = [.int (n : Int)] ∧ d = tI L ∧ nset L n = true ∧ L.length ≤ n
theorem ok_l_some (T : Tx K mg) : FnOk P w K mg base CX0 3 T.l_some.f T.l_some.fd ["_law_tin", "_law_below_so"] (spT 101 C_some R_some) := by
  refine ok_T T.l_some.F sc_l_some (fun ds h => ?_) (fun cdv A outer s H E ds m hr hC hm => ?_)
  · obtain ⟨n, rfl, _⟩ := h
    rfl
  · obtain ⟨n, rfl, hn⟩ := hC
    have nd := sc_l_some.nd
    refine b_retX (m1 := m + 1 + 100) (P := R_some [.int (n : Int)]) (x_callTy (A := fun ds => ∃ L : List Int, ds = [.list (L.map .int)] ∧ nset L n = true ∧ L.length ≤ n) call_tuple_of (fun ds h => ?_) T.z_tuple (xa_cons (P1 := fun d => ∃ L : List Int, d = .list (L.map .int) ∧ nset L n = true ∧ L.length ≤ n)
      (x_callB (A := fun ds => ∃ found rest : List Int, ds = [.list (found.map .int)] ∧ (found ++ rest).Perm (rg n)) cr_sorted (fun ds h => ?_) T.z_sorted (xa_cons (P1 := fun d => ∃ found rest : List Int, d = .list (found.map .int) ∧ (found ++ rest).Perm (rg n))
        (x_callT (i := 0) (k := 100) (A := fun ds => ∃ c : Int, ds = [.list ((rg n).map .int), .int c] ∧ 0 ≤ c) (ok_l_pick T) hr T.l_pick.g T.l_pick.F.kp T.l_pick.b rfl
          (xa_cons (P1 := fun d => d = .list ((rg n).map .int)) (x_pure (d_is (d_lstRg (n := (n : Int)) (by omega) T.z_list T.z_range (dv 1 rfl)) (by rw [Int.toNat_natCast, rgD_eq])) rfl)
            (xa_cons (A1 := fun ds => ds = []) (A := fun ds => ∃ c : Int, ds = [.int c] ∧ 0 ≤ c) (P1 := fun d => ∃ c : Int, d = .int c ∧ 0 ≤ c) (x_callT (i := 0) (k := 1) (A := fun ds => ds = [.int ((n : Int) + 1)]) (ok_l_take T) (hr.mono (by decide)) T.l_take.g T.l_take.F.kp T.l_take.b rfl (xa_pure (a_cons (d_op op_add r_I0 (dv 1 rfl) dc_int) a_nil) rfl) (fun ds h => ⟨_, h, by omega, by omega⟩) (fun ds d h hR => ?_) (by omega)) (xa_nil rfl) ?_)
            ?_) (fun ds h => ?_) (fun ds d h hR => ?_) (by omega)) (xa_nil (A := fun ds => ds = []) rfl) ?_)) (xa_nil (A := fun ds => ds = []) rfl) ?_)) (by omega)
    · obtain ⟨L, rfl, h1, h2⟩ := h
      exact ⟨_, c_tuple, n, L, rfl, rfl, h1, h2⟩
    · obtain ⟨found, rest, rfl, hp⟩ := h
      have hl := hp.length_eq
      rw [List.length_append, rg_len] at hl
      have g1 := List.mergeSort_perm found (fun a b => decide (a ≤ b))
      have g2 : (found.mergeSort fun a b => decide (a ≤ b)).Pairwise (· ≤ ·) := (List.pairwise_mergeSort (le := fun a b : Int => decide (a ≤ b)) (fun a b c h1 h2 => decide_eq_true (Int.le_trans (of_decide_eq_true h1) (of_decide_eq_true h2))) (fun a b => by
        rcases Int.le_total a b with h | h
        · rw [decide_eq_true h]; rfl
        · rw [decide_eq_true h, Bool.or_true]) found).imp fun h => of_decide_eq_true h
      exact ⟨_, c_sortI (by omega) g1 g2, _, rfl, nset_of g1 g2 hp⟩
    · obtain ⟨n', r, h1, h2, h3, h4⟩ := hR
      exact ⟨r, h2, h3⟩
    · rintro d ds ⟨c, rfl, h⟩ rfl
      exact ⟨c, rfl, h⟩
    · rintro d ds rfl ⟨c, rfl, h⟩
      exact ⟨c, rfl, h⟩
    · obtain ⟨c, rfl, h⟩ := h
      exact ⟨_, _, rfl, by rw [rg_len]; omega, h⟩
    · obtain ⟨c, rfl, h⟩ := h
      obtain ⟨g, c', found, rest, e1, rfl, hp⟩ := hR
      have eg : (rg n).map PyData.int = g.map .int := by
        injection e1 with e1 _
        injection e1
      have eg' : rg n = g := int_inj _ _ eg
      exact ⟨found, rest, rfl, eg' ▸ hp⟩
    · rintro d ds ⟨found, rest, rfl, h⟩ rfl
      exact ⟨found, rest, rfl, h⟩
    · rintro d ds ⟨L, rfl, h⟩ rfl
      exact ⟨L, rfl, h⟩
/-! ### the box -/
def absI (z : Int) : Int := if z < 0 then -z else z
theorem absI_nn (z : Int) : 0 ≤ absI z := by
  unfold absI
  split <;> omega
def boxD (z : Int) : PyData := .list [.int (absI z * (if decide (absI z ≥ 10 ^ (18 : Int).toNat) = true then 1 else 0)), .int (z % 2305843009213693951 + 39373 * 0 + 9951), .int 0]
def R_l_box : List PyData → PyData → Prop := fun ds d => ∃ z : Int, ds = [.list [.int z], .int 0] ∧ d = boxD z
theorem ok_l_box (T : Tx K mg) : FnOk P w K mg base CX0 1 T.l_box.f T.l_box.fd ["_law_script", "_law_k"] (spD R_l_box) := by
  refine ok_D T.l_box.F sc_l_box (fun ds d h => ?_) (fun cdv A outer s H E ds d hr hR => ?_)
  · obtain ⟨z, rfl, _⟩ := h
    rfl
  · obtain ⟨z, rfl, rfl⟩ := hR
    have nd := sc_l_box.nd
    refine b_cons (s_set (i := 2) (d := .int z) (d_if (k := true) (t_is (t_cmp op_lt r_IB (dv 1 rfl) (d_callB call_len_seq (c_len (.lst _)) T.z_len (a_cons (dv 0 rfl) a_nil))) rfl) (fun _ => d_ix 0 (.lst _) rfl (dv 0 rfl) (dv 1 rfl)) (fun hk => absurd hk.symm Bool.false_ne_true))) ?_
    refine b_ret (d_lst (a_cons (d_op op_mul (r_I (.inr ?_)) (d_callB call_abs c_abs T.z_abs (a_cons (dv 2 rfl) a_nil)) (d_callTy call_int1 c_intB T.z_int (a_cons (d_cmp op_ge r_IB (d_callB call_abs c_abs T.z_abs (a_cons (dv 2 rfl) a_nil)) (d_op op_pow (r_I ⟨by decide, by decide, by decide⟩) dc_int dc_int)) a_nil)))
      (a_cons (d_op op_add r_I0 (d_op op_add r_I0 (d_op op_mod (r_I (by decide)) (d_callTy call_int1 c_int T.z_int (a_cons (dv 2 rfl) a_nil)) dc_int) (d_op op_mul (r_I (.inl ⟨by decide, by decide⟩)) dc_int (dv 1 rfl))) dc_int) (a_cons dc_int a_nil))) (by show 3 ≤ sizeLine; decide)) rfl
    exact sw01 _
/-! ### the cells -/
def cAt (z : Int) (ws : List Int) : Nat → Int
  | 0 => z
  | i + 1 => cAt z ws i + ws.getD i 0 * ((i : Int) + 2)
def hd0 : List Int → Int
  | [] => 0
  | x :: _ => x
def mid (sc : List Int) : List Int := (sc.drop 1).take 62
/-- what the law asks of cells: the script may be any list -/
def spCells (K : PySem.W.Frag) : Sp := fun vs H Q _ => ∃ (a : Addr) (sc : List Int), vs = [.ref a, .int 1] ∧ SqL K H a (sc.map V.int) ∧ ∀ v H', Same H H' → Rp (hide [] H') v (.list [.int (cAt (hd0 sc) (mid sc) (mid sc).length)]) → Q v H'
theorem cut_mid (sc : List Int) : cutD (sc.map PyData.int) (some 1) (some 63) = (mid sc).map .int := by
  unfold cutD mid
  rw [show (some (1 : Int)) = some ((1 : Nat) : Int) from rfl, show (some (63 : Int)) = some ((63 : Nat) : Int) from rfl, HT.sIx_nat, HT.sIx_nat, List.length_map, List.map_take, List.map_drop]
  by_cases h : 63 ≤ sc.length
  · rw [Nat.min_eq_left (show 1 ≤ sc.length by omega), Nat.min_eq_left h]
  · by_cases h0 : 1 ≤ sc.length
    · rw [Nat.min_eq_left h0, Nat.min_eq_right (show sc.length ≤ 63 by omega), List.take_of_length_le (by rw [List.length_drop, List.length_map]; exact Nat.le_refl _), List.take_of_length_le (by rw [List.length_drop, List.length_map]; omega)]
    · have : sc = [] := List.eq_nil_of_length_eq_zero (by omega)
      subst this
      rfl
theorem cut_head (sc : List Int) : cutD (sc.map PyData.int) none (some 1) = (sc.take 1).map .int := by
  rw [show (some (1 : Int)) = some ((1 : Nat) : Int) from rfl, cutD_to, List.map_take]
theorem enum_ints (ns : List Int) : enumD (ns.map .int) = (List.range ns.length).map fun (i : Nat) => .tuple [.int (i : Int), .int (ns.getD i 0)] := by
  unfold enumD
  rw [List.length_map]
  refine List.map_congr_left fun i hi => ?_
  have h := List.mem_range.mp hi
  congr 2
  rw [List.getD_eq_getElem?_getD, List.getElem?_map, List.getD_eq_getElem?_getD, List.getElem?_eq_getElem h]
  rfl
theorem cutV_mid (sc : List Int) : cutV (sc.map V.int) (some 1) (some 63) = (mid sc).map V.int := by
  have h1 : Rps (fun _ => none) (sc.map V.int) (sc.map .int) := rps_ints sc
  have h := h1.cut (some 1) (some 63)
  rw [cut_mid] at h
  exact h.ints
theorem cutV_head (sc : List Int) : cutV (sc.map V.int) none (some 1) = (sc.take 1).map V.int := by
  have h1 : Rps (fun _ => none) (sc.map V.int) (sc.map .int) := rps_ints sc
  have h := h1.cut none (some 1)
  rw [cut_head] at h
  exact h.ints
theorem for2_core {Kg : PySem.W.Frag} {α : Type} {L : List α} {c1 c2 : α → PyData} {j1 j2 m : Nat} (E : Nat → En) {J : It} {N W : List Addr} {Tb : Option Addr} {H1 : Hp} {σ : L2.St} {D : Ends} (S : Sta N W Tb H1 σ (E 0)) (B : BoxO Tb H1 m) (walk : WalkD J N H1 (L.map fun a => .tuple [c1 a, c2 a]))
    (hj1 : j1 < σ.length) (hj2 : j2 < σ.length) (q : ∀ σ' H', σ'.length = σ.length → SameW W H1 H' → Sta N W Tb H' σ' (E L.length) → BoxO Tb H' m → D.nx σ' H') :
    ∃ Wv : Nat → Nat → L2.St → Hp → Prop, (∃ r, Wv 0 r σ H1) ∧ ∀ i r σ H, Wv i r σ H → (J.stop i H ∧ D.nx σ H) ∨ (J.go i H ∧ ∃ Nx : L2.St → Hp → Prop, (∀ σ' H', Nx σ' H' → ∃ r', r' < r ∧ Wv (i + 1) r' σ' H') ∧ ∀ x H', J.yld i H x H' → gTup Kg 2 (gCons (gName j1) (gCons (gName j2) gNil)) x σ H' fun σ2 H2 =>
      (fun D σ H => ∃ z : Nat × α, L[z.1]? = some z.2 ∧ tN m m ((j2, .dat (c2 z.2)) :: (j1, .dat (c1 z.2)) :: E z.1) (E (z.1 + 1)) D σ H : TS) { D with nx := Nx, ct := Nx, bk := D.nx } σ2 H2) := by
  refine ⟨fun i k σ' H' => k = L.length - i ∧ i ≤ L.length ∧ SameW W H1 H' ∧ Sta N W Tb H' σ' (E i) ∧ BoxO Tb H' m ∧ σ'.length = σ.length, ⟨L.length, rfl, Nat.zero_le _, SameW.refl W H1, S, B, rfl⟩, ?_⟩
  rintro i k σ' H' ⟨rfl, hil, sw, S', B', hl'⟩
  obtain ⟨w1, w2⟩ := walk i H' N (sw.hide S.sub) S'.fr
  by_cases hlt : i < L.length
  · have hget : L[i]? = some L[i] := List.getElem?_eq_getElem hlt
    obtain ⟨go, yl⟩ := w1 (.tuple [c1 L[i], c2 L[i]]) (by rw [List.getElem?_map, hget]; rfl)
    refine .inr ⟨go, fun σ2 H2 => i + 1 ≤ L.length ∧ SameW W H1 H2 ∧ Sta N W Tb H2 σ2 (E (i + 1)) ∧ BoxO Tb H2 m ∧ σ2.length = σ.length, fun σ2 H2 z => ⟨L.length - (i + 1), by omega, rfl, z⟩, fun v H2 y => ?_⟩
    obtain ⟨e3, rx⟩ := yl v H2 y
    cases rx with
    | tup g1 g2 =>
      obtain ⟨u, w, rfl, k1, k2⟩ := g2.two
      refine ⟨_, _, rfl, SqT.of (hide_some.mp g1).2, rfl, u, _, rfl, w, _, rfl, rfl, (i, L[i]), hget, N, W, Tb, ((S'.mono e3).put (by rw [hl']; exact hj1) k1).put (by rw [List.length_set, hl']; exact hj2) k2, B'.mono e3, fun σ3 H3 l3 sw3 S3 B3 => ⟨hlt, (sw.trans (Same.w e3)).trans sw3, S3, B3, ?_⟩⟩
      rw [l3, List.length_set, List.length_set, hl']
  · have ei : i = L.length := by omega
    subst ei
    exact .inl ⟨w2 (by rw [List.length_map]; exact Nat.le_refl _), q σ' H' hl' sw S' B'⟩
theorem sta_one {H : Hp} {σ : L2.St} {j : Nat} {v : V} {d : PyData} (h : σ[j]? = some (some v)) (r : Rp (hide [] H) v d) : Sta [] [] none H σ [(j, .dat d)] := by
  have g : ∀ {i e}, ([(j, Ent.dat d)] : En).lookup i = some e → i = j ∧ e = .dat d := fun {i e} hi => by
    rw [lk_cons] at hi
    by_cases hk : i = j
    · rw [if_pos hk] at hi
      exact ⟨hk, (Option.some.inj hi).symm⟩
    · rw [if_neg hk] at hi
      cases hi
  refine ⟨(fun _ h => (by cases h)), (fun _ h => (by cases h)), (fun _ h => (by cases h)), ⟨fun i d' hi => ?_, fun i d' hi => ?_, fun i j' di dj a hi => ?_, fun i hi => ?_⟩⟩
  · obtain ⟨h1, h2⟩ := g hi
    cases h2
    exact ⟨v, by rw [h1]; exact h, r⟩
  · cases (g hi).2
  · cases (g hi).2
  · cases (g hi).2
theorem ok_l_cells (T : Tx K mg) : FnOk P w K mg base CX0 1 T.l_cells.f T.l_cells.fd ["_law_script", "_law_most_so"] (spCells K) := by
  refine T.l_cells.F.ok sc_l_cells (fun vs H Q E h => ?_) (fun cdv A outer s H vs Q E hr h => ?_)
  · obtain ⟨a, sc, rfl, _⟩ := h
    rfl
  · obtain ⟨a, sc, rfl, hs, q⟩ := h
    have nd := sc_l_cells.nd
    have hlen : (mid sc).length ≤ 62 := by unfold mid; rw [List.length_take]; omega
    have e0 : ((if (sc.take 1).isEmpty then [0] else sc.take 1).map PyData.int) = [.int (cAt (hd0 sc) (mid sc) 0)] := by
      cases sc <;> rfl
    refine ⟨_, pss_cons (ps_set (i := 2) nd rfl (Or.inl rfl) (pe_orT (pe_callTy call_list_of rfl T.z_list (by decide +kernel) (pa_cons (pe_slice sl_list (pe_var (i := 0) rfl (Or.inl rfl)) (o_none (env := [(1, .dat (.int 1))])) (o_some (dv (env := [(1, .dat (.int 1))]) 1 rfl))) pa_nil) (by decide) (by decide)) (pe_one (pe_lst (pa_cons pe_int pa_nil)))))
      (pss_cons (ps_for PassesOwn.never rfl (pi_enum rfl T.z_enumerate (pa_cons (pe_slice sl_list (pe_var (i := 0) rfl (Or.inl rfl)) (o_some (dv (env := [(1, .dat (.int 1))]) 1 rfl)) (o_some (dc_int (env := [(1, .dat (.int 1))])))) pa_nil)) (pg_tup (n := 2) rfl (pgs_cons (pg_name (i := 3) nd rfl (Or.inl rfl)) (pgs_cons (pg_name (i := 4) nd rfl (Or.inl rfl)) pgs_nil)))
        (PSs.ex (α := Nat × Nat) (C := fun z => (List.range (mid sc).length)[z.1]? = some z.2) (t := fun z => tN 0 0 ((4, .dat (.int ((mid sc).getD z.2 0))) :: (3, .dat (.int (z.2 : Int))) :: [(1, .dat (.int 1)), (2, .own [.int (cAt (hd0 sc) (mid sc) z.1)])]) [(1, .dat (.int 1)), (2, .own [.int (cAt (hd0 sc) (mid sc) (z.1 + 1))])]) fun z ha => ?_))
      (pss_one (ps_ret (pe_var (i := 2) rfl (Or.inl rfl))))), ?_⟩
    · obtain ⟨i, a⟩ := z
      have h := (List.getElem?_eq_some_iff.mp ha).1
      rw [List.length_range] at h
      have ea : a = i := by
        rw [List.getElem?_range h] at ha
        exact (Option.some.inj ha).symm
      subst ea
      refine n_cons (s_set (i := 5) (d := .int 0) (d_is (d_op op_mod (r_I (by decide)) (d_callTy call_int1 c_int T.z_int (a_cons (dv 3 rfl) a_nil)) (dv 1 rfl)) (by rw [Int.emod_one]))) ?_
      exact n_one (n_wk (wk_cons rfl (wk_cons rfl (wk_nil _))) (s_setO (i := 2) 0 rfl (by show 0 < 1; decide) (d_op op_add r_I0 (d_ixO (i := 2) 0 rfl rfl (dv 5 rfl)) (d_op op_mul (r_I (.inr (by show -(2 ^ 64) < (a : Int) + 2 ∧ (a : Int) + 2 < 2 ^ 64; omega))) (dv 4 rfl) (d_op op_add r_I0 (dv 3 rfl) dc_int))) (dv 5 rfl)))
    · -- the reading: first the new list
      have rest : ∀ (p : Addr) (xs : List V) (H1 : Hp), Same H H1 → H p = none → H1 p = some (.lst xs) → Rps (hide [p] H1) xs [.int (cAt (hd0 sc) (mid sc) 0)] →
          tSeq (tFor (iEnum K (tCons (tSl (rSlL K) (tVar 0) (tO [(1, .dat (.int 1))] (some 1)) (tO [(1, .dat (.int 1))] (some 63))) tNil)) (gTup K 2 (gCons (gName 3) (gCons (gName 4) gNil))) (fun D σ H => ∃ z : Nat × Nat, (List.range (mid sc).length)[z.1]? = some z.2 ∧ tN 0 0 ((4, .dat (.int ((mid sc).getD z.2 0))) :: (3, .dat (.int (z.2 : Int))) :: [(1, .dat (.int 1)), (2, .own [.int (cAt (hd0 sc) (mid sc) z.1)])]) [(1, .dat (.int 1)), (2, .own [.int (cAt (hd0 sc) (mid sc) (z.1 + 1))])] D σ H)) (tRet (tVar 2))
            { nx := fun _ H' => Q .non H', rt := Q } ((start ["_law_script", "_law_most_so", "_law_cells_so", "_law_k", "_law_cell_so", "_law_at_so"] [.ref a, .int 1]).set 2 (some (.ref p))) H1 := by
        intro p xs H1 e1 hp hp1 rx
        have S0 : Sta [] [] none H (start ["_law_script", "_law_most_so", "_law_cells_so", "_law_k", "_law_cell_so", "_law_at_so"] [.ref a, .int 1]) [(1, .dat (.int 1))] := sta_one rfl (.int 1)
        obtain ⟨S1, _, _⟩ := S0.new (i := 2) e1 hp hp1 rx (by show 2 < 6; decide)
        have S2 := S1.wk (env' := [(1, .dat (.int 1)), (2, .own [.int (cAt (hd0 sc) (mid sc) 0)])]) (wk_cons rfl (wk_cons rfl (wk_nil _)))
        have S3 := S2.wk (env' := [(1, .dat (.int 1))]) (wk_cons rfl (wk_nil _))
        have ehd : H p = none := hp
        refine ⟨.ref a, rfl, _, _, _, S3, fun H2 e2 => ⟨_, _, _, S3.mono e2, fun H3 e3 => ⟨a, _, rfl, ((e1.trans e2).trans e3).seq hs, fun l hl => ⟨l, _, rfl, SqL.of upd_same, ?_⟩⟩⟩⟩
        have hlp : l ≠ p := fun z => by
          rw [z, e3 _ _ (e2 _ _ hp1)] at hl
          cases hl
        have e4 : Same H1 (upd H3 l (.lst (cutV (sc.map V.int) (some 1) (some 63)))) := (e2.trans e3).trans (same_new hl)
        refine for2_core (Kg := K) (m := 0) (L := List.range (mid sc).length) (c1 := fun i => .int (i : Int)) (c2 := fun i => .int ((mid sc).getD i 0)) (j1 := 3) (j2 := 4) (fun i => [(1, .dat (.int 1)), (2, .own [.int (cAt (hd0 sc) (mid sc) i)])]) (S2.mono e4) (fun _ h => (by cases h)) ?_ (by show 3 < 6; decide) (by show 4 < 6; decide) (fun σ' H' hl' sw S' _ => ?_)
        · rw [← enum_ints]
          refine walk_enum (hide_some.mpr ⟨fun z => hlp (List.mem_singleton.mp z), upd_same⟩) ?_
          rw [cutV_mid]
          exact rps_ints _
        · obtain ⟨b, ys, g1, g2, g3, g4, g5⟩ := S'.sl.own 2 _ rfl
          have eb : b = p := List.mem_singleton.mp g2
          refine ⟨.ref b, g1, q _ H' (fun x o hx => sw x o (fun z => ?_) (e4 _ _ (e1 _ _ hx))) (.lst (hide_some.mpr ⟨fun z => (by cases z), g4⟩) ?_)⟩
          · rw [List.mem_singleton.mp z, ehd] at hx
            cases hx
          · rw [List.length_range] at g5
            exact g5.mono (hide_less (fun _ h => (by cases h)) H')
      have S0 : Sta [] [] none H (start ["_law_script", "_law_most_so", "_law_cells_so", "_law_k", "_law_cell_so", "_law_at_so"] [.ref a, .int 1]) [(1, .dat (.int 1))] := sta_one rfl (.int 1)
      refine ⟨.ref a, rfl, _, _, _, S0, fun H1 e1 => ⟨_, _, _, S0.mono e1, fun H2 e2 => ⟨a, _, rfl, (e1.trans e2).seq hs, fun l hl => ⟨l, _, rfl, .inl (SqL.of upd_same), fun l2 hl2 => ?_⟩⟩⟩⟩
      rw [cutV_head] at hl2 ⊢
      have eA := (e1.trans e2).trans (same_new (o := .lst ((sc.take 1).map V.int)) hl)
      cases hsc : sc with
      | nil =>
        subst hsc
        refine ⟨false, .inl ⟨_, SqL.of upd_same, rfl⟩, ?_⟩
        refine ⟨by show 1 ≤ sizeLine; decide, fun p hp => ?_⟩
        have eB := eA.trans (same_new (o := .lst ((([] : List Int).take 1).map V.int)) hl2)
        exact rest p _ _ (eB.trans (same_new hp)) (eB.free hp) upd_same (.cons (.int 0) .nil)
      | cons x xs =>
        subst hsc
        refine ⟨true, .inl ⟨_, SqL.of upd_same, rfl⟩, ?_⟩
        exact rest l2 _ _ (eA.trans (same_new hl2)) (eA.free hl2) upd_same (.cons (.int x) .nil)
end
end DL
namespace DL
open PySem PySem.Spec PyProof.Rows L2
/-! ### good data -/
theorem sm_I (n : Nat) (i : Int) : sm n (.int i) = true := by cases n <;> rfl
theorem sm_B (n : Nat) (i : Bool) : sm n (.bool i) = true := by cases n <;> rfl
theorem sm_S (n : Nat) (i : Str) : sm n (.str i) = true := by cases n <;> rfl
theorem sm_N (n : Nat) : sm n .none = true := by cases n <;> rfl
theorem sm_L {n : Nat} {ds : List PyData} (h : ∀ d ∈ ds, sm n d = true) (hz : ds.length ≤ 100000) : sm (n + 1) (.list ds) = true := by
  show (ds.all (sm n) && decide (ds.length ≤ 100000)) = true
  rw [List.all_eq_true.mpr h, decide_eq_true hz]
  rfl
theorem sm_T {n : Nat} {ds : List PyData} (h : ∀ d ∈ ds, sm n d = true) (hz : ds.length ≤ 100000) : sm (n + 1) (.tuple ds) = true := by
  show (ds.all (sm n) && decide (ds.length ≤ 100000)) = true
  rw [List.all_eq_true.mpr h, decide_eq_true hz]
  rfl
theorem sm_map {α : Type} {n : Nat} {L : List α} {f : α → PyData} (h : ∀ a ∈ L, sm n (f a) = true) : ∀ d ∈ L.map f, sm n d = true := fun d hd => by
  obtain ⟨a, ha, rfl⟩ := List.mem_map.mp hd
  exact h a ha
theorem sm_tI {n : Nat} {r : List Int} (hz : r.length ≤ 100000) : sm (n + 1) (tI r) = true := sm_T (sm_map fun i _ => sm_I n i) (by rw [List.length_map]; exact hz)
theorem sm_nil {n : Nat} : ∀ d ∈ ([] : List PyData), sm n d = true := fun _ h => by cases h
theorem sm_cons {n : Nat} {d : PyData} {ds : List PyData} (h : sm n d = true) (k : ∀ d ∈ ds, sm n d = true) : ∀ x ∈ d :: ds, sm n x = true := fun x hx => by
  rcases List.mem_cons.mp hx with rfl | hx
  · exact h
  · exact k x hx
theorem sm_app {n : Nat} {ds es : List PyData} (h : ∀ d ∈ ds, sm n d = true) (k : ∀ d ∈ es, sm n d = true) : ∀ x ∈ ds ++ es, sm n x = true := fun x hx => by
  rcases List.mem_append.mp hx with hx | hx
  · exact h x hx
  · exact k x hx
theorem toL_nt (p h : Nat) : toL 1 (.tuple (nt p h)) = .list (nt p h) := rfl
theorem toL_ints : ∀ ns : List Int, (ns.map PyData.int).map (toL 0) = ns.map .int
  | [] => rfl
  | n :: ns => by
    rw [List.map_cons, List.map_cons, toL_ints ns]
    rfl
theorem toL_bad (a b : List Int) : toL 2 (.tuple [tI a, tI b]) = .list [.list (a.map .int), .list (b.map .int)] := by
  show PyData.list [.list ((a.map PyData.int).map (toL 0)), .list ((b.map PyData.int).map (toL 0))] = _
  rw [toL_ints, toL_ints]
theorem sm_nt (p h : Nat) : sm 1 (.tuple (nt p h)) = true := rfl
theorem sm_bad {a b : List Int} (ha : a.length ≤ 100000) (hb : b.length ≤ 100000) : sm 2 (.tuple [tI a, tI b]) = true := sm_T (sm_cons (sm_tI ha) (sm_cons (sm_tI hb) sm_nil)) (by show 2 ≤ 100000; decide)
/-! ### the spots -/
def sl (p h : Nat) : List (Bool × Int) := (rg h).map (fun n => (false, n)) ++ (rg p).map (fun n => (true, n))
def spz (z : Bool × Int) : PyData := sp z.1 z.2
theorem spots_sl (p h : Nat) : spots p h = (sl p h).map spz := by
  unfold spots sl
  rw [List.map_append, List.map_map, List.map_map]
  rfl
theorem sl_len (p h : Nat) : (sl p h).length = h + p := by
  unfold sl
  rw [List.length_append, List.length_map, List.length_map, rg_len, rg_len]
theorem sl_take (p h : Nat) : (sl p h).take h = (rg h).map fun n => (false, n) := by
  unfold sl
  rw [List.take_append_of_le_length (by rw [List.length_map, rg_len]; exact Nat.le_refl _), List.take_of_length_le (by rw [List.length_map, rg_len]; exact Nat.le_refl _)]
theorem sl_drop (p h : Nat) : (sl p h).drop h = (rg p).map fun n => (true, n) := by
  unfold sl
  have e := List.drop_left' (l₁ := (rg h).map fun n => (false, n)) (l₂ := (rg p).map fun n => (true, n)) (i := h) (by rw [List.length_map, rg_len])
  exact e
def std (p : Nat) (a : List Int) : List Int := (rg p).filter fun i => !a.contains i
theorem std_has {p : Nat} {a : List Int} {n : Int} (h : n ∈ rg p) : (std p a).contains n = !a.contains n := by
  unfold std
  rw [Bool.eq_iff_iff, List.contains_iff_mem, List.mem_filter]
  exact ⟨fun z => z.2, fun z => ⟨h, z⟩⟩
theorem std_len (p : Nat) (a : List Int) : (std p a).length ≤ p := Nat.le_trans (List.length_filter_le _ _) (by rw [rg_len]; exact Nat.le_refl _)
def got1 (p h : Nat) (a b : List Int) : List PyData := [tI (std p a), tI (std h b), .tuple (spots p h), .bool (nset a p && nset b h)]
def got2 (p h : Nat) (a b : List Int) : List PyData := [.list ((sl p h).map fun z => .bool (!(if z.1 then a else b).contains z.2)), .list ((sl p h).map fun z => .bool (spIn p h z.1 z.2))]
def got3 (p h : Nat) (a b : List Int) : List PyData := [.bool (spIn p h false h), .bool (spIn p h true p), .bool (nset (a ++ [(p : Int)]) p && nset b h), .bool false]
def due1 (p h : Nat) (a b : List Int) : List PyData := [tI (std p a), tI (std h b), .tuple (spots p h), .bool true]
def due2 (p h : Nat) (a b : List Int) : List PyData := [.list ((((sl p h).take h).map fun z => .bool ((std h b).contains z.2)) ++ (((sl p h).drop h).map fun z => .bool ((std p a).contains z.2))), .list (List.replicate (h + p) [.bool true]).flatten]
theorem rep_flat {α : Type} (x : α) : ∀ n, (List.replicate n [x]).flatten = List.replicate n x
  | 0 => rfl
  | n + 1 => by
    rw [List.replicate_succ, List.flatten_cons, rep_flat x n, List.replicate_succ]
    rfl
theorem map_true {α : Type} (L : List α) (f : α → Bool) (h : ∀ a ∈ L, f a = true) : (L.map fun a => PyData.bool (f a)) = List.replicate L.length (.bool true) := by
  induction L with
  | nil => rfl
  | cons a L ih =>
    rw [List.map_cons, h a List.mem_cons_self, ih (fun b hb => h b (List.mem_cons_of_mem _ hb)), List.length_cons, List.replicate_succ]
theorem below_rg {n : Nat} {x : Int} (h : x ∈ rg n) : isBelow (.int x) n = true := by
  obtain ⟨h1, h2⟩ := mem_rg.mp h
  show (decide (0 ≤ x) && decide (x < (n : Int))) = true
  rw [decide_eq_true h1, decide_eq_true h2]
  rfl
theorem got_due2 (p h : Nat) (a b : List Int) : got2 p h a b = due2 p h a b := by
  unfold got2 due2
  rw [sl_take, sl_drop, rep_flat]
  congr 2
  · unfold sl
    rw [List.map_append, List.map_map, List.map_map, List.map_map, List.map_map]
    congr 1
    · exact List.map_congr_left fun n hn => by
        show PyData.bool (!(if false = true then a else b).contains n) = .bool ((std h b).contains n)
        rw [std_has hn]
        rfl
    · exact List.map_congr_left fun n hn => by
        show PyData.bool (!(if true = true then a else b).contains n) = .bool ((std p a).contains n)
        rw [std_has hn]
        rfl
  · rw [map_true (sl p h) (fun z => spIn p h z.1 z.2) (fun z hz => ?_), sl_len]
    unfold sl at hz
    rcases List.mem_append.mp hz with hz | hz
    · obtain ⟨n, hn, rfl⟩ := List.mem_map.mp hz
      exact below_rg hn
    · obtain ⟨n, hn, rfl⟩ := List.mem_map.mp hz
      exact below_rg hn
theorem not_below (n : Nat) : isBelow (.int (n : Int)) n = false := by
  show (decide (0 ≤ (n : Int)) && decide ((n : Int) < (n : Int))) = false
  rw [decide_eq_false (Int.lt_irrefl _), Bool.and_false]
theorem got_due3 (p h : Nat) (a b : List Int) : got3 p h a b = (List.replicate 4 [PyData.bool false]).flatten := by
  have h1 : spIn p h false (h : Int) = false := not_below h
  have h2 : spIn p h true (p : Int) = false := not_below p
  have h3 : nset (a ++ [(p : Int)]) p = false := by
    unfold nset
    have : ((a ++ [(p : Int)]).all fun n => decide (0 ≤ n) && decide (n < (p : Int))) = false := by
      rw [List.all_append]
      have e : ([(p : Int)].all fun n => decide (0 ≤ n) && decide (n < (p : Int))) = false := by
        rw [List.all_cons, decide_eq_false (Int.lt_irrefl _), Bool.and_false, Bool.false_and]
      rw [e, Bool.and_false]
    rw [this, Bool.false_and]
  unfold got3
  rw [h1, h2, h3, Bool.false_and]
  rfl
theorem got_due1 {p h : Nat} {a b : List Int} (ha : nset a p = true) (hb : nset b h = true) : got1 p h a b = due1 p h a b := by
  unfold got1 due1
  rw [ha, hb]
  rfl
section
variable {P : Program} {w : World} {K : PySem.W.Frag} {mg : Str → Option Value} {base : Heap}
/-- a net and its rest -/
structure NB (p h : Nat) (a b : List Int) : Prop where
  p8 : p ≤ 8
  h5 : h ≤ 8
  ha : nset a p = true
  hb : nset b h = true
  la : a.length ≤ 8
  lb : b.length ≤ 8
def R_l_spots : List PyData → PyData → Prop := fun ds d => ∃ (p h : Nat) (a b : List Int), ds = [.tuple (nt p h), .tuple [tI a, tI b]] ∧ NB p h a b ∧ d = .bool true
theorem ok_l_spots_right (T : Tx K mg) : FnOk P w K mg base CX0 6 T.l_spots_right.f T.l_spots_right.fd ["_law_net_so", "_law_bad_so"] (spD R_l_spots) := by
  refine ok_D T.l_spots_right.F sc_l_spots_right (fun ds d h => ?_) (fun cdv A outer s H E ds d hr hR => ?_)
  · obtain ⟨p, h, a, b, rfl, _⟩ := h
    rfl
  · obtain ⟨p, h, a, b, rfl, ⟨hp8, hh8, hna, hnb, hla, hlb⟩, rfl⟩ := hR
    have nd := sc_l_spots_right.nd
    have hsl := sl_len p h
    have hl1 := std_len p a
    have hl2 := std_len h b
    have NT : IsSeq (.tuple (nt p h)) (nt p h) := .tup _
    have BD : IsSeq (.tuple [tI a, tI b]) [tI a, tI b] := .tup _
    refine b_cons (s_set (i := 2) (d_lc (L := rg p) (c := .int) (f := .int) (t := fun i => !a.contains i) (j := 7) (i_rg (by omega) T.z_range (d_ix 0 NT rfl (dv 0 rfl) dc_int)) (blkOk_by (N := ["_law_net_so", "_law_bad_so", "_law_people_so", "_law_houses_so", "_law_spots_so", "_law_got", "_law_due", "_law_own"]) (sc := defScope s_l_spots_right) (by decide +kernel)) (fun _ _ _ _ _ => pg_name (i := 7) nd rfl (by first | exact Or.inl rfl | exact Or.inr rfl)) (fun _ _ _ _ _ i _ => ts_one (t_cmp op_notIn_seq (r_nin (.tup _)) (dv 7 rfl) (d_ix 0 BD rfl (dv 1 rfl) dc_int))) (fun _ _ _ _ _ i _ _ => dv 7 rfl) (by rw [rg_len]; omega) nd)) ?_
    refine b_cons (s_set (i := 3) (d_lc (L := rg h) (c := .int) (f := .int) (t := fun i => !b.contains i) (j := 7) (i_rg (by omega) T.z_range (d_ix 1 NT rfl (dv 0 rfl) dc_int)) (blkOk_by (N := ["_law_net_so", "_law_bad_so", "_law_people_so", "_law_houses_so", "_law_spots_so", "_law_got", "_law_due", "_law_own"]) (sc := defScope s_l_spots_right) (by decide +kernel)) (fun _ _ _ _ _ => pg_name (i := 7) nd rfl (by first | exact Or.inl rfl | exact Or.inr rfl)) (fun _ _ _ _ _ i _ => ts_one (t_cmp op_notIn_seq (r_nin (.tup _)) (dv 7 rfl) (d_ix 1 BD rfl (dv 1 rfl) dc_int))) (fun _ _ _ _ _ i _ _ => dv 7 rfl) (by rw [rg_len]; omega) nd)) ?_
    refine b_cons (s_set (i := 4) (d := .list ((sl p h).map spz)) (d_is (d_op op_cat (r_catL ?_)
      (d_lcm (L := rg h) (c := .int) (f := sp false) (j := 7) (i_rg (by omega) T.z_range (d_ix 1 NT rfl (dv 0 rfl) dc_int)) (blkOk_by (N := ["_law_net_so", "_law_bad_so", "_law_people_so", "_law_houses_so", "_law_spots_so", "_law_got", "_law_due", "_law_own"]) (sc := defScope s_l_spots_right) (by decide +kernel)) (fun _ _ _ _ _ => pg_name (i := 7) nd rfl (by first | exact Or.inl rfl | exact Or.inr rfl)) (fun _ _ _ _ _ n _ => d_tup (a_cons dc_str (a_cons (dv 7 rfl) a_nil)) (by show 2 ≤ sizeLine; decide)) (by rw [rg_len]; omega) nd)
      (d_lcm (L := rg p) (c := .int) (f := sp true) (j := 7) (i_rg (by omega) T.z_range (d_ix 0 NT rfl (dv 0 rfl) dc_int)) (blkOk_by (N := ["_law_net_so", "_law_bad_so", "_law_people_so", "_law_houses_so", "_law_spots_so", "_law_got", "_law_due", "_law_own"]) (sc := defScope s_l_spots_right) (by decide +kernel)) (fun _ _ _ _ _ => pg_name (i := 7) nd rfl (by first | exact Or.inl rfl | exact Or.inr rfl)) (fun _ _ _ _ _ n _ => d_tup (a_cons dc_str (a_cons (dv 7 rfl) a_nil)) (by show 2 ≤ sizeLine; decide)) (by rw [rg_len]; omega) nd)) (by rw [← spots_sl]; rfl))) ?_
    · rw [List.length_map, List.length_map, rg_len, rg_len]
      exact small6' (by omega)
    refine b_cons (s_set (i := 5) (d := .list (got1 p h a b)) (d_lst (a_cons (d_call (ok_steady_people T) (hr.mono (by decide)) T.steady_people.g T.steady_people.F.kp T.steady_people.b (a_cons (dv 0 rfl) (a_cons (dv 1 rfl) a_nil)) ⟨_, _, tI a, tI b, p, h, a, rfl, .tup _, .tup _, .tup _, by omega, rfl⟩)
      (a_cons (d_call (ok_steady_houses T) (hr.mono (by decide)) T.steady_houses.g T.steady_houses.F.kp T.steady_houses.b (a_cons (d_call (ok_l_lists T 1) (hr.mono (by decide)) T.l_lists.g T.l_lists.F.kp T.l_lists.b (a_cons (dv 0 rfl) a_nil) ⟨_, rfl, sm_nt p h, rfl⟩) (a_cons (d_call (ok_l_lists T 2) (hr.mono (by decide)) T.l_lists.g T.l_lists.F.kp T.l_lists.b (a_cons (dv 1 rfl) a_nil) ⟨_, rfl, sm_bad (by omega) (by omega), rfl⟩) a_nil)) ⟨_, _, .list (a.map .int), .list (b.map .int), p, h, b, by rw [toL_nt, toL_bad], .lst _, .lst _, .lst _, by omega, rfl⟩)
      (a_cons (d_call (ok_all_spots T) (hr.mono (by decide)) T.all_spots.g T.all_spots.F.kp T.all_spots.b (a_cons (dv 0 rfl) a_nil) ⟨p, h, rfl, by omega, by omega, rfl⟩)
      (a_cons (d_call (ok_is_rest T) hr T.is_rest.g T.is_rest.F.kp T.is_rest.b (a_cons (dv 0 rfl) (a_cons (dv 1 rfl) a_nil)) ⟨p, h, _, rfl, .inr ⟨a, b, rfl, by omega, by omega, rfl⟩⟩) a_nil)))) (by show 4 ≤ sizeLine; decide))) ?_
    refine b_cons (s_set (i := 6) (d := .list (due1 p h a b)) (d_lst (a_cons (d_callTy call_tuple_of c_tuple T.z_tuple (a_cons (dv 2 rfl) a_nil)) (a_cons (d_callTy call_tuple_of c_tuple T.z_tuple (a_cons (dv 3 rfl) a_nil)) (a_cons (d_is (d_callTy call_tuple_of c_tuple T.z_tuple (a_cons (dv 4 rfl) a_nil)) (by rw [← spots_sl])) (a_cons dc_bl a_nil)))) (by show 4 ≤ sizeLine; decide))) ?_
    refine b_cons (s_set (i := 5) (d := .list (got1 p h a b ++ got2 p h a b)) (d_op op_cat (r_catL (by show 4 + 2 ≤ sizeLine; decide)) (dv 5 rfl) (d_lst (a_cons
      (d_lcm (L := sl p h) (c := spz) (f := fun z => .bool (!(if z.1 then a else b).contains z.2)) (j := 7) (i_seq (.lst _) (dv 4 rfl)) (blkOk_by (N := ["_law_net_so", "_law_bad_so", "_law_people_so", "_law_houses_so", "_law_spots_so", "_law_got", "_law_due", "_law_own"]) (sc := defScope s_l_spots_right) (by decide +kernel)) (fun _ _ _ _ _ => pg_name (i := 7) nd rfl (by first | exact Or.inl rfl | exact Or.inr rfl)) (fun _ _ _ _ _ z _ => d_call (ok_is_steady T) (hr.mono (by decide)) T.is_steady.g T.is_steady.F.kp T.is_steady.b (a_cons (dv 1 rfl) (a_cons (dv 7 rfl) a_nil)) ⟨a, b, z.1, z.2, rfl, rfl⟩) (by omega) nd) (a_cons
      (d_lcm (L := sl p h) (c := spz) (f := fun z => .bool (spIn p h z.1 z.2)) (j := 7) (i_seq (.lst _) (dv 4 rfl)) (blkOk_by (N := ["_law_net_so", "_law_bad_so", "_law_people_so", "_law_houses_so", "_law_spots_so", "_law_got", "_law_due", "_law_own"]) (sc := defScope s_l_spots_right) (by decide +kernel)) (fun _ _ _ _ _ => pg_name (i := 7) nd rfl (by first | exact Or.inl rfl | exact Or.inr rfl)) (fun _ _ _ _ _ z _ => d_call (ok_is_spot T) (hr.mono (by decide)) T.is_spot.g T.is_spot.F.kp T.is_spot.b (a_cons (dv 0 rfl) (a_cons (dv 7 rfl) a_nil)) ⟨p, h, z.1, z.2, rfl, rfl⟩) (by omega) nd) a_nil)) (by show 2 ≤ sizeLine; decide)))) ?_
    refine b_cons (s_set (i := 6) (d := .list (due1 p h a b ++ due2 p h a b)) (d_op op_cat (r_catL (by show 4 + 2 ≤ sizeLine; decide)) (dv 6 rfl) (d_lst (a_cons
      (d_op op_cat (r_catL ?_)
        (d_lcm (L := (sl p h).take h) (c := spz) (f := fun z => .bool ((std h b).contains z.2)) (j := 7) (i_seq (.lst _) (d_is (d_slL (dv 4 rfl) o_none (o_some (d_ix 1 NT rfl (dv 0 rfl) dc_int))) (by rw [cutD_to, List.map_take]))) (blkOk_by (N := ["_law_net_so", "_law_bad_so", "_law_people_so", "_law_houses_so", "_law_spots_so", "_law_got", "_law_due", "_law_own"]) (sc := defScope s_l_spots_right) (by decide +kernel)) (fun _ _ _ _ _ => pg_name (i := 7) nd rfl (by first | exact Or.inl rfl | exact Or.inr rfl)) (fun _ _ _ _ _ z _ => d_cmp op_in_seq (r_in (.lst _)) (d_ix (d1 := spz z) 1 (.tup _) rfl (dv 7 rfl) dc_int) (dv 3 rfl)) (by rw [List.length_take]; omega) nd)
        (d_lcm (L := (sl p h).drop h) (c := spz) (f := fun z => .bool ((std p a).contains z.2)) (j := 7) (i_seq (.lst _) (d_is (d_slL (dv 4 rfl) (o_some (d_ix 1 NT rfl (dv 0 rfl) dc_int)) o_none) (by rw [cutD_from, List.map_drop]))) (blkOk_by (N := ["_law_net_so", "_law_bad_so", "_law_people_so", "_law_houses_so", "_law_spots_so", "_law_got", "_law_due", "_law_own"]) (sc := defScope s_l_spots_right) (by decide +kernel)) (fun _ _ _ _ _ => pg_name (i := 7) nd rfl (by first | exact Or.inl rfl | exact Or.inr rfl)) (fun _ _ _ _ _ z _ => d_cmp op_in_seq (r_in (.lst _)) (d_ix (d1 := spz z) 1 (.tup _) rfl (dv 7 rfl) dc_int) (dv 2 rfl)) (by rw [List.length_drop]; omega) nd))
      (a_cons (d_is (d_op op_rep (r_rep (k := (((sl p h).map spz).length : Int)) ?_ ?_ ?_) (d_lst (a_cons dc_bl a_nil) (by show 1 ≤ sizeLine; decide)) (d_callB call_len_seq (c_len (.lst _)) T.z_len (a_cons (dv 4 rfl) a_nil))) ?_) a_nil)) (by show 2 ≤ sizeLine; decide)))) ?_
    · rw [List.length_map, List.length_map, List.length_take, List.length_drop]
      exact small6' (by omega)
    · omega
    · rw [List.length_map]
      omega
    · rw [Int.toNat_natCast, List.length_map]
      show 1 * _ ≤ sizeLine
      exact small6' (by omega)
    · rw [Int.toNat_natCast, List.length_map, sl_len]
    refine b_cons (s_set (i := 5) (d := .list ((got1 p h a b ++ got2 p h a b) ++ got3 p h a b)) (d_op op_cat (r_catL (by show 6 + 4 ≤ sizeLine; decide)) (dv 5 rfl) (d_lst
      (a_cons (d_call (ok_is_spot T) (hr.mono (by decide)) T.is_spot.g T.is_spot.F.kp T.is_spot.b (a_cons (dv 0 rfl) (a_cons (d := sp false h) (d_tup (a_cons dc_str (a_cons (d_ix 1 NT rfl (dv 0 rfl) dc_int) a_nil)) (by show 2 ≤ sizeLine; decide)) a_nil)) ⟨p, h, false, h, rfl, rfl⟩)
      (a_cons (d_call (ok_is_spot T) (hr.mono (by decide)) T.is_spot.g T.is_spot.F.kp T.is_spot.b (a_cons (dv 0 rfl) (a_cons (d := sp true p) (d_tup (a_cons dc_str (a_cons (d_ix 0 NT rfl (dv 0 rfl) dc_int) a_nil)) (by show 2 ≤ sizeLine; decide)) a_nil)) ⟨p, h, true, p, rfl, rfl⟩)
      (a_cons (d_call (ok_is_rest T) hr T.is_rest.g T.is_rest.F.kp T.is_rest.b (a_cons (dv 0 rfl) (a_cons (d := .tuple [tI (a ++ [(p : Int)]), tI b]) (d_tup (a_cons (d_is (d_op op_catA (r_catT ?_) (d_ix 0 BD rfl (dv 1 rfl) dc_int) (d_tup (a_cons (d_ix 0 NT rfl (dv 0 rfl) dc_int) a_nil) (by show 1 ≤ sizeLine; decide))) ?_) (a_cons (d_ix 1 BD rfl (dv 1 rfl) dc_int) a_nil)) (by show 2 ≤ sizeLine; decide)) a_nil)) ⟨p, h, _, rfl, .inr ⟨_, b, rfl, ?_, by omega, rfl⟩⟩)
      (a_cons (d_call (ok_is_rest T) hr T.is_rest.g T.is_rest.F.kp T.is_rest.b (a_cons (dv 0 rfl) (a_cons (d_callTy call_list_of (c_list BD) T.z_list (a_cons (dv 1 rfl) a_nil)) a_nil)) ⟨p, h, _, rfl, .inl ⟨_, rfl, rfl⟩⟩) a_nil)))) (by show 4 ≤ sizeLine; decide)))) ?_
    · rw [List.length_map]
      show a.length + 1 ≤ sizeLine
      exact small6' (by omega)
    · unfold tI
      rw [List.map_append]
      rfl
    · rw [List.length_append]
      show a.length + 1 ≤ _
      omega
    refine b_ret (d_call (ok_l_same T 3) (hr.mono (by decide)) T.l_same.g T.l_same.F.kp T.l_same.b (a_cons (d_is (dv 5 rfl) (by rw [got_due1 hna hnb, got_due2, got_due3]; rfl)) (a_cons (d_op op_cat (r_catL (by show 6 + 4 ≤ sizeLine; decide)) (dv 6 rfl) (d_op op_rep (r_rep (by decide) (by decide) (by show 1 * 4 ≤ sizeLine; decide)) (d_lst (a_cons dc_bl a_nil) (by show 1 ≤ sizeLine; decide)) dc_int)) a_nil)) ⟨_, rfl, ?_, rfl⟩) rfl
    refine sm_L (sm_app (sm_app ?_ ?_) ?_) (by show 10 ≤ 100000; decide)
    · refine sm_cons (sm_tI (by omega)) (sm_cons (sm_tI (by omega)) (sm_cons (sm_T ?_ ?_) (sm_cons (sm_B _ _) sm_nil)))
      · rw [spots_sl]
        exact sm_map fun z _ => sm_T (sm_cons (sm_S _ _) (sm_cons (sm_I _ _) sm_nil)) (by show 2 ≤ 100000; decide)
      · rw [spots_sl, List.length_map]
        omega
    · rw [← got_due2]
      exact sm_cons (sm_L (sm_map fun z _ => sm_B _ _) (by rw [List.length_map]; omega)) (sm_cons (sm_L (sm_map fun z _ => sm_B _ _) (by rw [List.length_map]; omega)) sm_nil)
    · exact sm_cons (sm_B _ _) (sm_cons (sm_B _ _) (sm_cons (sm_B _ _) (sm_cons (sm_B _ _) sm_nil)))
end
end DL
namespace DL
open PySem PySem.Spec PyProof.Rows L2
/-! ### the plain law of the safe routes -/
theorem asc_pair : ∀ ns : List Int, asc ns = true → ns.Pairwise (· < ·)
  | [], _ => .nil
  | [x], _ => List.pairwise_singleton ..
  | x :: y :: ns, h => by
    unfold asc at h
    rw [List.drop_succ_cons, List.drop_zero, List.zip_cons_cons, List.all_cons, Bool.and_eq_true] at h
    have ih := asc_pair (y :: ns) (by unfold asc; rw [List.drop_succ_cons, List.drop_zero]; exact h.2)
    have hxy : x < y := of_decide_eq_true h.1
    refine List.pairwise_cons.mpr ⟨fun z hz => ?_, ih⟩
    rcases List.mem_cons.mp hz with rfl | hz
    · exact hxy
    · exact Int.lt_trans hxy ((List.pairwise_cons.mp ih).1 z hz)
theorem rg_succ (n : Nat) : rg (n + 1) = rg n ++ [(n : Int)] := by
  unfold rg
  rw [List.range_succ, List.map_append]
  rfl
theorem rg_subs : ∀ n, rg n ∈ subs n
  | 0 => List.mem_singleton.mpr rfl
  | n + 1 => by
    rw [rg_succ]
    exact List.mem_append_right _ (List.mem_map.mpr ⟨_, rg_subs n, rfl⟩)
theorem subs_in : ∀ (n : Nat) (r : List Int), r ∈ subs n → ∀ x ∈ r, x ∈ rg n
  | 0, r, h, x, hx => by
    rw [List.mem_singleton.mp (show r ∈ [[]] from h)] at hx
    cases hx
  | n + 1, r, h, x, hx => by
    rw [rg_succ]
    rcases List.mem_append.mp (show r ∈ subs n ++ (subs n).map fun r => r ++ [(n : Int)] from h) with h | h
    · exact List.mem_append_left _ (subs_in n r h x hx)
    · obtain ⟨q, hq, rfl⟩ := List.mem_map.mp h
      rcases List.mem_append.mp hx with hx | hx
      · exact List.mem_append_left _ (subs_in n q hq x hx)
      · exact List.mem_append_right _ hx
theorem rts_in {h : Nat} {r : List Int} (hr : r ∈ rts h) : r ∈ subs h := List.mem_of_mem_drop (List.mem_mergeSort.mp hr)
theorem rg_rts {h : Nat} (h1 : 1 ≤ h) : rg h ∈ rts h := by
  refine List.mem_mergeSort.mpr ?_
  obtain ⟨l, e, hl⟩ := subs_head h
  have := rg_subs h
  rw [e] at this ⊢
  rw [List.drop_succ_cons, List.drop_zero]
  rcases List.mem_cons.mp this with z | z
  · have := congrArg List.length z
    rw [rg_len] at this
    exact absurd this (by simp; omega)
  · exact z
theorem hid_false {l r : List Int} (h : hid l r = false) : ∀ x ∈ r, x ∈ l := fun x hx => by
  unfold hid at h
  have := List.any_eq_false.mp h x hx
  rw [Bool.not_eq_true, Bool.not_eq_false'] at this
  exact List.contains_iff_mem.mp this
theorem hid_none {l r : List Int} (h : ∀ x ∈ r, x ∈ l) : hid l r = false := by
  unfold hid
  refine List.any_eq_false.mpr fun x hx => ?_
  rw [Bool.not_eq_true, Bool.not_eq_false']
  exact List.contains_iff_mem.mpr (h x hx)
theorem nset_full {l : List Int} {h : Nat} (hn : nset l h = true) (hc : ∀ x ∈ rg h, x ∈ l) : l = rg h := by
  unfold nset at hn
  rw [Bool.and_eq_true] at hn
  have h1 := asc_pair l hn.2
  have h2 := rg_pair h
  have hm : ∀ x, x ∈ l ↔ x ∈ rg h := fun x => ⟨fun hx => by
    have := List.all_eq_true.mp hn.1 x hx
    rw [Bool.and_eq_true] at this
    exact mem_rg.mpr ⟨of_decide_eq_true this.1, of_decide_eq_true this.2⟩, hc x⟩
  have hp : l.Perm (rg h) := (List.perm_ext_iff_of_nodup (h1.imp fun h => by omega) (rg_nodup h)).mpr hm
  exact List.Perm.eq_of_pairwise (le := fun a b : Int => a < b) (fun a b _ _ k k' => absurd (Int.lt_trans k k') (Int.lt_irrefl _)) h1 h2 hp
theorem safe_law {h : Nat} {lots : List (List Int)} (h1 : 1 ≤ h) (hn : ∀ l ∈ lots, nset l h = true) : (sfs h lots).isEmpty = lots.any fun l => decide (l = rg h) := by
  rw [Bool.eq_iff_iff, List.isEmpty_iff, List.any_eq_true]
  constructor
  · intro he
    have hr := rg_rts h1
    have hs : safe lots (rg h) = false := by
      refine Bool.eq_false_iff.mpr fun z => ?_
      have : rg h ∈ sfs h lots := List.mem_filter.mpr ⟨hr, z⟩
      rw [he] at this
      cases this
    unfold safe at hs
    obtain ⟨l, hl, hq⟩ := List.all_eq_false.mp hs
    exact ⟨l, hl, decide_eq_true (nset_full (hn l hl) (hid_false (Bool.eq_false_iff.mpr hq)))⟩
  · rintro ⟨l, hl, hq⟩
    have e := of_decide_eq_true hq
    subst e
    refine List.filter_eq_nil_iff.mpr fun r hr => ?_
    intro z
    have := List.all_eq_true.mp z _ hl
    rw [hid_none (subs_in h r (rts_in hr))] at this
    cases this
/-! ### the best one -/
def paper : PyData := .list [.str "paper", .bool true]
theorem paper_best : bestD [] = paper := rfl
theorem shaped_paper : SeqAt.shaped paper = true := by decide +kernel
theorem eqv_paper : PyData.eqv paper paper = true := by decide +kernel
theorem eqv_tp (r : List Int) : PyData.eqv (tI r) paper = false := by simp [tI, paper, PyData.eqv]
theorem best_cons (x : List Int) (xs : List (List Int)) (y : List Int) : bestD ((x :: xs) ++ [y]) = if decide (y.length < (bstF x xs).length) = true then tI y else tI (bstF x xs) := by
  show tI (bstF x (xs ++ [y])) = _
  unfold bstF
  rw [List.foldl_append]
  show tI (if _ then _ else _) = _
  split <;> rfl
theorem subs_filter (h : Nat) : (subs h).filter (fun r => !decide (r = [])) = (subs h).drop 1 := by
  obtain ⟨l, e, hl⟩ := subs_head h
  rw [e, List.drop_succ_cons, List.drop_zero, List.filter_cons, if_neg (by simp)]
  exact List.filter_eq_self.mpr fun r hr => by simp [hl r hr]
theorem toL_rows : ∀ L : List (List Int), (L.map tI).map (toL 1) = L.map fun l => .list (l.map .int)
  | [] => rfl
  | l :: L => by
    rw [List.map_cons, List.map_cons, List.map_cons, toL_rows L]
    congr 1
    show PyData.list ((l.map PyData.int).map (toL 0)) = _
    rw [toL_ints]
theorem sm_rows {L : List (List Int)} {n : Nat} (h1 : ∀ l ∈ L, l.length ≤ 100000) (h2 : L.length ≤ 100000) : sm (n + 2) (.list (L.map tI)) = true := sm_L (sm_map fun l hl => sm_tI (h1 l hl)) (by rw [List.length_map]; exact h2)
theorem bst_in : ∀ (xs : List (List Int)) (x : List Int), bstF x xs ∈ x :: xs
  | [], x => List.mem_cons_self
  | y :: ys, x => by
    show bstF (if decide (y.length < x.length) = true then y else x) ys ∈ _
    split
    · exact List.mem_cons_of_mem _ (bst_in ys y)
    · rcases List.mem_cons.mp (bst_in ys x) with h | h
      · rw [h]; exact List.mem_cons_self
      · exact List.mem_cons_of_mem _ (List.mem_cons_of_mem _ h)
theorem sm_best {n : Nat} {L : List (List Int)} (h1 : ∀ l ∈ L, l.length ≤ 100000) : sm (n + 1) (bestD L) = true := by
  cases L with
  | nil => exact sm_L (sm_cons (sm_S _ _) (sm_cons (sm_B _ _) sm_nil)) (by show 2 ≤ 100000; decide)
  | cons x xs => exact sm_tI (h1 _ (bst_in xs x))
section
variable {P : Program} {w : World} {K : PySem.W.Frag} {mg : Str → Option Value} {base : Heap}
theorem units65 {k : Nat} {A : Around} (r : Room k A) : A.units + 65 < cLine := by have := r.un; omega
def C_safe : List PyData → Prop := fun ds => ∃ p h : Nat, ds = [.tuple (nt p h)] ∧ 1 ≤ h ∧ h ≤ 8
def R_true : List PyData → PyData → Prop := fun _ d => d = .bool true
theorem ok_l_safe_right (T : Tx K mg) : FnOk P w K mg base CX0 6 T.l_safe_right.f T.l_safe_right.fd ["_law_tin", "_law_net_so"] (spT 500 C_safe R_true) := by
  refine ok_T T.l_safe_right.F sc_l_safe_right (fun ds h => ?_) (fun cdv A outer s H E ds m hr hC hm => ?_)
  · obtain ⟨p, h, rfl, _⟩ := h
    rfl
  · obtain ⟨p, h, rfl, hh1, hh8⟩ := hC
    have nd := sc_l_safe_right.nd
    have NT : IsSeq (.tuple (nt p h)) (nt p h) := .tup _
    have hlr := rts_len h hh8
    refine b_setXLc (i := 2) (j := 8) (k := 101) (K := 4) (m1 := m + 1) (P := fun d => ∃ L : List Int, d = tI L ∧ nset L h = true ∧ L.length ≤ h)
        (ix_rg (by omega) T.z_range (x_callT (i := 0) (k := 1) (m1 := m) (A := fun ds => ds = [.int 5]) (ok_l_take T) (hr.mono (by decide)) T.l_take.g T.l_take.F.kp T.l_take.b rfl (xa_pure (a_cons dc_int a_nil) rfl) (fun ds h => ⟨_, h, by omega, by omega⟩) (fun ds d hA hR => ?_) (by omega)))
        (blkOk_by (N := ["_law_tin", "_law_net_so", "_law_lots_so", "_law_routes_so", "_law_own", "_law_best_so", "_law_got", "_law_due", "_law_lap", "_law_route_so", "_law_lot_so"]) (sc := defScope s_l_safe_right) (by decide +kernel)) (fun _ _ _ _ _ => pg_name (i := 8) nd rfl (by first | exact Or.inl rfl | exact Or.inr rfl)) (fun _ _ _ _ _ mm i hmm => x_callT (i := 0) (k := 101) (A := fun ds => ds = [.int (h : Int)]) (ok_l_some T) (hr.mono (by decide)) T.l_some.g T.l_some.F.kp T.l_some.b rfl (xa_pure (a_cons (d_ix 1 NT rfl (dv 1 rfl) dc_int) a_nil) rfl) (fun ds hd => ⟨h, hd, by omega⟩) (fun ds d hA hR => ?_) (by omega)) (by omega) (fun d hd => ?_)
    · obtain ⟨n, r, e, rfl, g1, g2⟩ := hR
      rw [hA] at e
      injection e with e _
      injection e with e
      exact ⟨r.toNat, by rw [Int.toNat_of_nonneg g1], by omega⟩
    · obtain ⟨n, L, e, rfl, g1, g2⟩ := hR
      rw [hA] at e
      injection e with e _
      injection e with e
      have e' : h = n := by omega
      exact ⟨L, rfl, by rw [e]; exact g1, by rw [e']; exact g2⟩
    obtain ⟨lots, rfl, hl4, hlots⟩ : ∃ lots : List (List Int), d = .list (lots.map tI) ∧ lots.length ≤ 4 ∧ ∀ l ∈ lots, nset l h = true ∧ l.length ≤ h := by
      obtain ⟨ds, rfl, hl, hall⟩ := hd
      clear hr hm
      have : ∃ lots : List (List Int), ds = lots.map tI ∧ ∀ l ∈ lots, nset l h = true ∧ l.length ≤ h := by
        clear hl
        induction ds with
        | nil => exact ⟨[], rfl, fun _ h => (by cases h)⟩
        | cons d ds ih =>
          obtain ⟨lots, e, hx⟩ := ih fun z hz => hall z (List.mem_cons_of_mem _ hz)
          obtain ⟨L, rfl, g⟩ := hall d List.mem_cons_self
          refine ⟨L :: lots, by rw [e]; rfl, fun l hl => ?_⟩
          rcases List.mem_cons.mp hl with rfl | hl
          · exact g
          · exact hx l hl
      obtain ⟨lots, rfl, hx⟩ := this
      rw [List.length_map] at hl
      exact ⟨lots, rfl, hl, hx⟩
    have hsl : (sfs h lots).length ≤ 256 := Nat.le_trans (List.length_filter_le _ _) hlr
    refine b_new (i := 3) a_nil (Nat.zero_le _) ?_
    refine b_cons (s_for (L := rts h) (c := tI) (j := 4) (fun i => [(0, .box), (1, .dat (.tuple (nt p h))), (2, .dat (.list (lots.map tI))), (3, .own ((((rts h).take i).filter (safe lots)).map tI))])
      (i_seq (.lst _) (d_callB (cr_sortD hr.units) (c_sortD (L := (subs h).drop 1) ?_ ?_) T.z_sorted (a_cons (d_is (d_lc (L := subs h) (c := tI) (f := tI) (t := fun r => !decide (r = [])) (j := 9) (i_seq (.lst _) (d_call (ok_l_subsets T) (hr.mono (by decide)) T.l_subsets.g T.l_subsets.F.kp T.l_subsets.b (a_cons (d_is (d_lstRg (n := (h : Int)) (by omega) T.z_list T.z_range (d_ix 1 NT rfl (dv 1 rfl) dc_int)) (by rw [Int.toNat_natCast, rgD_eq])) a_nil) ⟨h, rfl, hh8, rfl⟩)) (blkOk_by (N := ["_law_tin", "_law_net_so", "_law_lots_so", "_law_routes_so", "_law_own", "_law_best_so", "_law_got", "_law_due", "_law_lap", "_law_route_so", "_law_lot_so"]) (sc := defScope s_l_safe_right) (by decide +kernel)) (fun _ _ _ _ _ => pg_name (i := 9) nd rfl (by first | exact Or.inl rfl | exact Or.inr rfl))
        (fun _ _ _ _ _ r hrr => ts_one (t_is (t_cmp (op_neD hr.units) (r_neD (shaped_tI r) (shaped_tI [])) (dv 9 rfl) (d_tup (ds := []) a_nil (Nat.zero_le _))) (by rw [eqv_tI]))) (fun _ _ _ _ _ r _ _ => dv 9 rfl) (by have := subs_small hh8 (Nat.le_refl h); omega) nd) (by rw [subs_filter])) a_nil)))
      (wk_cons rfl (wk_cons rfl (wk_cons rfl (wk_cons rfl (wk_nil _))))) (fun i r hri => ?_) PassesOwn.never) ?_
    · obtain ⟨l, e, hl⟩ := subs_head h
      rw [e]
      exact hl
    · have := subs_small hh8 (Nat.le_refl h)
      rw [List.length_drop]
      omega
    · have hrm : r ∈ rts h := List.mem_of_getElem? hri
      have hrl := rts_row h r hrm
      have et : (rts h).take (i + 1) = (rts h).take i ++ [r] := by rw [List.take_add_one, hri]; rfl
      refine n_one (s_if (k := safe lots r) (t_val (d_callB (cr_all rfl) c_allM T.z_all (a_cons (d_lcm (L := lots) (c := tI) (f := fun l => .bool (hid l r)) (j := 10) (i_seq (.lst _) (dv 2 rfl)) (blkOk_by (N := ["_law_tin", "_law_net_so", "_law_lots_so", "_law_routes_so", "_law_own", "_law_best_so", "_law_got", "_law_due", "_law_lap", "_law_route_so", "_law_lot_so"]) (sc := defScope s_l_safe_right) (by decide +kernel)) (fun _ _ _ _ _ => pg_name (i := 10) nd rfl (by first | exact Or.inl rfl | exact Or.inr rfl)) (fun _ _ _ _ _ l _ => d_call (ok_l_hides T) (hr.mono (by decide)) T.l_hides.g T.l_hides.F.kp T.l_hides.b (a_cons (dv 4 rfl) (a_cons (dv 10 rfl) a_nil)) ⟨_, l, r, rfl, .tup _, by omega, rfl⟩) (by omega) nd) a_nil))) (fun hk => ?_) (fun hk => ⟨?_, Nat.le_refl _⟩))
      · refine n_one (n_wk ?_ (s_app (i := 3) rfl (dv 4 rfl) ?_))
        · refine wk_cons rfl (wk_cons rfl (wk_cons rfl (wk_cons ?_ (wk_nil _))))
          rw [et, List.filter_append, List.map_append, List.filter_cons, if_pos hk]
          rfl
        · rw [List.length_map]
          have := List.length_filter_le (safe lots) ((rts h).take i)
          rw [List.length_take] at this
          exact small6 (by omega)
      · refine wk_cons rfl (wk_cons rfl (wk_cons rfl (wk_cons ?_ (wk_nil _))))
        rw [et, List.filter_append, List.filter_cons, if_neg (by rw [hk]; exact Bool.false_ne_true), List.filter_nil, List.append_nil]
        rfl
    refine b_freeze 3 (ds := (sfs h lots).map tI) (by rw [List.take_length]; rfl) ?_
    refine b_cons (s_set (i := 5) (d := bestD ((sfs h lots).take 0)) (d_lst (a_cons dc_str (a_cons dc_bl a_nil)) (by show 2 ≤ sizeLine; decide))) ?_
    refine b_cons (s_for (L := sfs h lots) (c := tI) (j := 4) (fun i => [(0, .box), (1, .dat (.tuple (nt p h))), (2, .dat (.list (lots.map tI))), (3, .dat (.list ((sfs h lots).map tI))), (5, .dat (bestD ((sfs h lots).take i)))]) (i_seq (.lst _) (dv 3 rfl)) (wk_cons rfl (wk_cons rfl (wk_cons rfl (wk_cons rfl (wk_cons rfl (wk_nil _)))))) (fun i r hri => ?_) PassesOwn.never) ?_
    · have et : (sfs h lots).take (i + 1) = (sfs h lots).take i ++ [r] := by rw [List.take_add_one, hri]; rfl
      cases hL : (sfs h lots).take i with
      | nil =>
        rw [et, hL]
        refine n_one (s_if (k := true) (PW.pt (t_or (k := true) (l := true) (t_is (t_cmp (op_eqD hr.units) (r_eqD shaped_paper shaped_paper) (dv 5 rfl) (d_lst (a_cons dc_str (a_cons dc_bl a_nil)) (by show 2 ≤ sizeLine; decide))) (by rw [eqv_paper])) fun hk => absurd hk.symm Bool.false_ne_true)) (fun _ => ?_) (fun hk => absurd hk.symm Bool.false_ne_true))
        exact n_one (n_wk (wk_cons rfl (wk_cons rfl (wk_cons rfl (wk_cons rfl (wk_cons rfl (wk_nil _)))))) (s_set (i := 5) (dv 4 rfl)))
      | cons x xs =>
        rw [et, hL, best_cons]
        refine n_one (s_if (k := decide (r.length < (bstF x xs).length)) (PW.pt (t_or (k := false) (l := decide (r.length < (bstF x xs).length)) (t_is (t_cmp (op_eqD hr.units) (r_eqD (shaped_tI _) shaped_paper) (dv 5 rfl) (d_lst (a_cons dc_str (a_cons dc_bl a_nil)) (by show 2 ≤ sizeLine; decide))) (by rw [eqv_tp])) fun _ => t_or1 (t_is (t_cmp op_lt r_IB (d_callB call_len_seq (c_len (.tup _)) T.z_len (a_cons (dv 4 rfl) a_nil)) (d_callB call_len_seq (c_len (.tup _)) T.z_len (a_cons (dv 5 rfl) a_nil))) (by rw [List.length_map, List.length_map]; exact decide_eq_decide.mpr (by omega))))) (fun hk => ?_) (fun hk => ⟨?_, Nat.le_refl _⟩))
        · rw [if_pos hk]
          exact n_one (n_wk (wk_cons rfl (wk_cons rfl (wk_cons rfl (wk_cons rfl (wk_cons rfl (wk_nil _)))))) (s_set (i := 5) (dv 4 rfl)))
        · rw [if_neg (by rw [hk]; exact Bool.false_ne_true)]
          exact wk_cons rfl (wk_cons rfl (wk_cons rfl (wk_cons rfl (wk_cons rfl (wk_nil _)))))
    rw [List.take_length]
    have NLt : NL [.tuple (nt p h), .tuple (lots.map tI)] p h lots := ⟨⟨_, _, tI, rfl, .tup _, .tup _, fun l => .tup _⟩, hh8, by omega⟩
    have NLl : NL [.list (nt p h), .list (lots.map fun l => .list (l.map .int))] p h lots := ⟨⟨_, _, fun l => .list (l.map .int), rfl, .lst _, .lst _, fun l => .lst _⟩, hh8, by omega⟩
    have row : ∀ l ∈ sfs h lots, l.length ≤ 100000 := fun l hl => by have := sfs_row l hl; omega
    have slots : sm 2 (.list (lots.map tI)) = true := sm_rows (n := 0) (fun l hl => by have := (hlots l hl).2; omega) (by omega)
    refine b_cons (s_set (i := 6) (d := .list [.list ((sfs h lots).map tI), .list ((sfs h lots).map tI), bestD (sfs h lots), bestD (sfs h lots)]) (d_lst
      (a_cons (d_call (ok_safe_routes T) (hr.mono (by decide)) T.safe_routes.g T.safe_routes.F.kp T.safe_routes.b (a_cons (dv 1 rfl) (a_cons (d_callTy call_tuple_of c_tuple T.z_tuple (a_cons (dv 2 rfl) a_nil)) a_nil)) ⟨p, h, lots, NLt, rfl⟩)
      (a_cons (d_call (ok_safe_routes T) (hr.mono (by decide)) T.safe_routes.g T.safe_routes.F.kp T.safe_routes.b (a_cons (d_callTy call_list_of (c_list NT) T.z_list (a_cons (dv 1 rfl) a_nil)) (a_cons (d_is (d_call (ok_l_lists T 2) (hr.mono (by decide)) T.l_lists.g T.l_lists.F.kp T.l_lists.b (a_cons (dv 2 rfl) a_nil) ⟨_, rfl, slots, rfl⟩) (by rw [toL_seq (.lst _), toL_rows])) a_nil)) ⟨p, h, lots, NLl, rfl⟩)
      (a_cons (d_call (ok_l_shortest T) (hr.mono (by decide)) T.l_shortest.g T.l_shortest.F.kp T.l_shortest.b (a_cons (dv 1 rfl) (a_cons (d_callTy call_tuple_of c_tuple T.z_tuple (a_cons (dv 2 rfl) a_nil)) a_nil)) ⟨p, h, lots, NLt, rfl⟩)
      (a_cons (d_call (ok_l_shortest T) (hr.mono (by decide)) T.l_shortest.g T.l_shortest.F.kp T.l_shortest.b (a_cons (d_callTy call_list_of (c_list NT) T.z_list (a_cons (dv 1 rfl) a_nil)) (a_cons (d_is (d_call (ok_l_lists T 2) (hr.mono (by decide)) T.l_lists.g T.l_lists.F.kp T.l_lists.b (a_cons (dv 2 rfl) a_nil) ⟨_, rfl, slots, rfl⟩) (by rw [toL_seq (.lst _), toL_rows])) a_nil)) ⟨p, h, lots, NLl, rfl⟩) a_nil)))) (by show 4 ≤ sizeLine; decide))) ?_
    refine b_cons (s_set (i := 7) (d_lst (a_cons (dv 3 rfl) (a_cons (dv 3 rfl) (a_cons (dv 5 rfl) (a_cons (dv 5 rfl) a_nil)))) (by show 4 ≤ sizeLine; decide))) ?_
    refine b_ret (d_andB (k := true) (l := true) (d_call (ok_l_same T 3) (hr.mono (by decide)) T.l_same.g T.l_same.F.kp T.l_same.b (a_cons (dv 6 rfl) (a_cons (dv 7 rfl) a_nil)) ⟨_, rfl, ?_, rfl⟩) fun _ => d_one (d_is (d_cmp op_eq r_eqB (d_cmp (op_eqD hr.units) (r_eqD (shaped_rows _) shaped_nil) (dv 3 rfl) (d_lst a_nil (Nat.zero_le _))) (d_cmp (op_inD (units65 hr)) (r_inD (shaped_tI (rg h)) (shaped_rows lots)) (d_is (d_tupRg (n := (h : Int)) (by omega) T.z_tuple T.z_range (d_ix 1 NT rfl (dv 1 rfl) dc_int)) (by rw [Int.toNat_natCast, rgD_eq]; rfl)) (dv 2 rfl))) ?_)) rfl
    · exact sm_L (sm_cons (sm_rows (n := 0) row (by omega)) (sm_cons (sm_rows (n := 0) row (by omega)) (sm_cons (sm_best (n := 1) row) (sm_cons (sm_best (n := 1) row) sm_nil)))) (by show 4 ≤ 100000; decide)
    · have e1 : ((sfs h lots).map tI).isEmpty = (sfs h lots).isEmpty := by cases sfs h lots <;> rfl
      have e2 : ((lots.map tI).any fun z => PyData.eqv z (tI (rg h))) = lots.any fun l => decide (l = rg h) := by
        rw [List.any_map]
        congr 1
        funext l
        exact eqv_tI l (rg h)
      rw [eqv_nil, e1, e2, safe_law hh1 fun l hl => (hlots l hl).1, beq_self_eq_true]
end
end DL
namespace DL
open PySem PySem.Spec PyProof.Rows L2
/-! ### the routes of the small nets -/
theorem rts_ev (h : Nat) (L : List (List Int)) (h1 : L.Perm ((subs h).drop 1)) (h2 : L.Pairwise (fun a b => a ≤ b)) : rts h = L :=
  List.Perm.eq_of_pairwise (fun a b _ _ k k' => List.le_antisymm k k') (rts_pair h) h2 ((List.mergeSort_perm _ _).trans h1.symm)
def ins (x : List Int) : List (List Int) → List (List Int)
  | [] => [x]
  | y :: ys => if decide (x ≤ y) = true then x :: y :: ys else y :: ins x ys
def rtsE (h : Nat) : List (List Int) := ((subs h).drop 1).foldr ins []
theorem ins_perm (x : List Int) : ∀ L, (ins x L).Perm (x :: L)
  | [] => .refl _
  | y :: ys => by
    unfold ins
    split
    · exact .refl _
    · exact ((ins_perm x ys).cons y).trans (.swap x y ys)
theorem ins_all : ∀ L : List (List Int), (L.foldr ins []).Perm L
  | [] => .refl _
  | x :: L => (ins_perm x _).trans ((ins_all L).cons x)
def chk0 (h : Nat) : Bool := ((rtsE h).zip ((rtsE h).drop 1)).all fun p => decide (p.1 ≤ p.2)
theorem chain_pair : ∀ L : List (List Int), ((L.zip (L.drop 1)).all fun p => decide (p.1 ≤ p.2)) = true → L.Pairwise (fun a b => a ≤ b)
  | [], _ => .nil
  | [x], _ => List.pairwise_singleton ..
  | x :: y :: ns, h => by
    rw [List.drop_succ_cons, List.drop_zero, List.zip_cons_cons, List.all_cons, Bool.and_eq_true] at h
    have ih := chain_pair (y :: ns) (by rw [List.drop_succ_cons, List.drop_zero]; exact h.2)
    have hxy : x ≤ y := of_decide_eq_true h.1
    refine List.pairwise_cons.mpr ⟨fun z hz => ?_, ih⟩
    rcases List.mem_cons.mp hz with rfl | hz
    · exact hxy
    · exact List.le_trans hxy ((List.pairwise_cons.mp ih).1 z hz)
theorem chk0_ok : ([1, 2, 3, 4, 5].all chk0) = true := by decide +kernel
theorem rts_small {h : Nat} (h1 : 1 ≤ h) (h5 : h ≤ 5) : rts h = rtsE h :=
  rts_ev h _ (ins_all _) (chain_pair _ (List.all_eq_true.mp chk0_ok h (by simp; omega)))
/-! ### what the law counts -/
def sets (h k : Nat) : List (List Int) := (subs h).filter fun s => decide ((s.length : Int) = (k : Int))
def cntR (R : List (List Int)) (s : List Int) : Nat := (R.filter (hid s)).length
def bareR (R : List (List Int)) (h k n : Nat) : List (List Int) := (sets h k).filter fun own => !(R.filter fun r => decide ((r.length : Int) = (n : Int)) && !hid own r).isEmpty
def lensR (R : List (List Int)) (h k i : Nat) : List Nat := ((List.range i).map (· + 1)).filter fun n => (bareR R h k n).isEmpty
def chk (h k : Nat) : Bool := decide (fm ((sets h k).map fun s => ((cntR (rtsE h) s : Nat) : Int)) = 1) && decide (((sets h k).map fun s => cntR (rtsE h) s)[0]? = some (cntR (rtsE h) (rg k))) &&
  decide ((lensR (rtsE h) h k h)[0]? = if k < h then some (k + 1) else none) && decide (0 < (rtsE h).length)
theorem chk_ok : ([1, 2, 3, 4, 5].all fun h => (List.range (h + 1)).all fun k => chk h k) = true := by decide +kernel
structure Cts (h k : Nat) : Prop where
  one : fm ((sets h k).map fun s => ((cntR (rts h) s : Nat) : Int)) = 1
  head : ((sets h k).map fun s => cntR (rts h) s)[0]? = some (cnt h (rg k))
  lens : (lensR (rts h) h k h)[0]? = if k < h then some (k + 1) else none
  pos : 0 < (rts h).length
theorem cts {h k : Nat} (h1 : 1 ≤ h) (h5 : h ≤ 5) (hk : k ≤ h) : Cts h k := by
  have z := List.all_eq_true.mp (List.all_eq_true.mp chk_ok h (by simp; omega)) k (List.mem_range.mpr (by omega))
  unfold chk at z
  rw [← rts_small h1 h5, Bool.and_eq_true, Bool.and_eq_true, Bool.and_eq_true] at z
  obtain ⟨⟨⟨z1, z2⟩, z3⟩, z4⟩ := z
  exact ⟨of_decide_eq_true z1, of_decide_eq_true z2, of_decide_eq_true z3, of_decide_eq_true z4⟩
end DL
namespace DL
open PySem PySem.Spec PyProof.Rows L2
theorem hid_has {h : Nat} {b r : List Int} (hr : r ∈ rts h) : ((((rts h).filter (hid b)).map tI).any fun z => PyData.eqv z (tI r)) = hid b r := by
  rw [List.any_map, Bool.eq_iff_iff, List.any_eq_true]
  constructor
  · rintro ⟨x, hx, hq⟩
    have e : x = r := of_decide_eq_true (by rw [← eqv_tI]; exact hq)
    rw [← e]
    exact (List.mem_filter.mp hx).2
  · intro hq
    exact ⟨r, List.mem_filter.mpr ⟨hr, hq⟩, by show PyData.eqv (tI r) (tI r) = true; rw [eqv_tI, decide_eq_true rfl]⟩
def rtD (h : Nat) : PyData := .list ((rts h).map tI)
def hcD (h : Nat) (b : List Int) : PyData := .tuple [.int (((rts h).filter (hid b)).length : Nat), .int ((rts h).length : Nat)]
def gA (h : Nat) (b : List Int) : List PyData := [rtD h, rtD h, hcD h b, hcD h b]
def gB (h : Nat) (b : List Int) : List PyData := [.list ((rts h).map fun r => .bool (hid b r)), .list ((rts h).map (firstD b))]
def gC (h k : Nat) : List PyData := [frD (cnt h (rg k)) (rts h).length, frD (cnt h (rg k)) (rts h).length]
theorem sm_first (n : Nat) (b r : List Int) : sm n (firstD b r) = true := by
  unfold firstD
  split
  · exact sm_N n
  · exact sm_I n _
theorem sm_lst (n h : Nat) (k : Int) : sm n (lstD h k) = true := by
  unfold lstD
  split
  · exact sm_I n _
  · exact sm_N n
theorem sm_fr (n a b : Nat) : sm (n + 1) (frD a b) = true := sm_T (sm_cons (sm_I _ _) (sm_cons (sm_I _ _) sm_nil)) (by show 2 ≤ 100000; decide)
theorem lst_none (h : Nat) (r : Int) (hr : 0 ≤ r) : lstD h ((h : Int) + r) = .none := by
  unfold lstD
  rw [if_neg (by omega)]
section
variable {X : Cx} {env : En} {a b tg : Expr} {pos p : Pos}
theorem i_rgs {n : Nat} (hn : n ≤ 1000) (hm : X.mg "range" = none) (ha : PE X a (tD env (.int 1))) (hb : PE X b (tD env (.int ((n : Int) + 1)))) (hg : Gl X "range" := by rfl) (hs : starEach [a, b] X.env = [(false, eval a X.env), (false, eval b X.env)] := by rfl) (hs2 : starEach [b] X.env = [(false, eval b X.env)] := by rfl) (h1 : starEach [a, b] X.env = (false, eval a X.env) :: starEach [b] X.env := by rfl) (h2 : starEach [b] X.env = (false, eval b X.env) :: starEach [] X.env := by rfl) :
    PI X tg (.Call (.Name "range" p) [a, b] [] pos) (tIt env ((List.range n).map fun (i : Nat) => .int ((i + 1 : Nat) : Int))) := by
  have z := i_rg2 (tg := tg) (p := p) (pos := pos) (l := 1) (n := (n : Int) + 1) (by omega) (by omega) hm (a_cons ha (a_cons hb a_nil h2) h1) hg hs hs2
  have e : rgF 1 ((n : Int) + 1 - 1).toNat = (List.range n).map fun (i : Nat) => .int ((i + 1 : Nat) : Int) := by
    unfold rgF
    rw [show ((n : Int) + 1 - 1).toNat = n by omega]
    refine List.map_congr_left fun i _ => ?_
    show PyData.int ((1 : Int) + (i : Int)) = .int ((i + 1 : Nat) : Int)
    congr 1
    omega
  rw [e] at z
  exact z
end
section
variable {P : Program} {w : World} {K : PySem.W.Frag} {mg : Str → Option Value} {base : Heap}
def C_routes : List PyData → Prop := fun ds => ∃ (p h : Nat) (a b : List Int), ds = [.tuple (nt p h), .tuple [tI a, tI b]] ∧ NB p h a b ∧ 1 ≤ h ∧ h ≤ 5
theorem ok_l_routes_right (T : Tx K mg) : FnOk P w K mg base CX0 6 T.l_routes_right.f T.l_routes_right.fd ["_law_tin", "_law_net_so", "_law_bad_so"] (spT 2 C_routes R_true) := by
  refine ok_T T.l_routes_right.F sc_l_routes_right (fun ds h => ?_) (fun cdv A outer s H E ds m hr hC hm => ?_)
  · obtain ⟨p, h, a, b, rfl, _⟩ := h
    rfl
  · obtain ⟨p, h, a, b, rfl, ⟨hp8, hh8, hna, hnb, hla, hlb⟩, h1, h5⟩ := hC
    have nd := sc_l_routes_right.nd
    have NT : IsSeq (.tuple (nt p h)) (nt p h) := .tup _
    have BD : IsSeq (.tuple [tI a, tI b]) [tI a, tI b] := .tup _
    have hlr := rts_len h hh8
    have hls := subs_small hh8 (Nat.le_refl h)
    have hrow := rts_row h
    refine b_cons (s_set (i := 3) (d := rtD h) (d_callB (cr_sortD hr.units) (c_sortD (L := (subs h).drop 1) ?_ ?_) T.z_sorted (a_cons (d_is (d_lc (L := subs h) (c := tI) (f := tI) (t := fun r => !decide (r = [])) (j := 8) (i_seq (.lst _) (d_call (ok_l_subsets T) (hr.mono (by decide)) T.l_subsets.g T.l_subsets.F.kp T.l_subsets.b (a_cons (d_is (d_lstRg (n := (h : Int)) (by omega) T.z_list T.z_range (d_ix 1 NT rfl (dv 1 rfl) dc_int)) (by rw [Int.toNat_natCast, rgD_eq])) a_nil) ⟨h, rfl, hh8, rfl⟩)) (blkOk_by (N := ["_law_tin", "_law_net_so", "_law_bad_so", "_law_routes_so", "_law_hidden_so", "_law_got", "_law_due", "_law_firsts_so", "_law_own", "_law_good_so", "_law_many_so", "_law_sets_so", "_law_counts_so", "_law_lengths_so", "_law_size_so", "_law_bare_so", "_law_house_so", "_law_route_so"]) (sc := defScope s_l_routes_right) (by decide +kernel)) (fun _ _ _ _ _ => pg_name (i := 8) nd rfl (by first | exact Or.inl rfl | exact Or.inr rfl))
        (fun _ _ _ _ _ r hrr => ts_one (t_is (t_cmp (op_neD hr.units) (r_neD (shaped_tI r) (shaped_tI [])) (dv 8 rfl) (d_tup (ds := []) a_nil (Nat.zero_le _))) (by rw [eqv_tI]))) (fun _ _ _ _ _ r _ _ => dv 8 rfl) (by omega) nd) (by rw [subs_filter])) a_nil))) ?_
    · obtain ⟨l, e, hl⟩ := subs_head h
      rw [e]
      exact hl
    · rw [List.length_drop]
      omega
    refine b_cons (s_set (i := 4) (d_lc (L := rts h) (c := tI) (f := tI) (t := hid b) (j := 8) (i_seq (.lst _) (dv 3 rfl)) (blkOk_by (N := ["_law_tin", "_law_net_so", "_law_bad_so", "_law_routes_so", "_law_hidden_so", "_law_got", "_law_due", "_law_firsts_so", "_law_own", "_law_good_so", "_law_many_so", "_law_sets_so", "_law_counts_so", "_law_lengths_so", "_law_size_so", "_law_bare_so", "_law_house_so", "_law_route_so"]) (sc := defScope s_l_routes_right) (by decide +kernel)) (fun _ _ _ _ _ => pg_name (i := 8) nd rfl (by first | exact Or.inl rfl | exact Or.inr rfl)) (fun _ _ _ _ _ r hrr => ts_one (t_val (d_call (ok_l_hides T) (hr.mono (by decide)) T.l_hides.g T.l_hides.F.kp T.l_hides.b (a_cons (dv 8 rfl) (a_cons (d_ix 1 BD rfl (dv 2 rfl) dc_int) a_nil)) ⟨_, b, r, rfl, .tup _, by have := hrow r hrr; omega, rfl⟩))) (fun _ _ _ _ _ r _ _ => dv 8 rfl) (by omega) nd)) ?_
    refine b_cons (s_set (i := 5) (d := .list (gA h b)) (d_lst
      (a_cons (d_call (ok_all_routes T) (hr.mono (by decide)) T.all_routes.g T.all_routes.F.kp T.all_routes.b (a_cons (dv 1 rfl) a_nil) ⟨_, p, h, rfl, .tup _, hh8, rfl⟩)
      (a_cons (d_call (ok_all_routes T) (hr.mono (by decide)) T.all_routes.g T.all_routes.F.kp T.all_routes.b (a_cons (d_callTy call_list_of (c_list NT) T.z_list (a_cons (dv 1 rfl) a_nil)) a_nil) ⟨_, p, h, rfl, .lst _, hh8, rfl⟩)
      (a_cons (d_call (ok_routes_hidden T) (hr.mono (by decide)) T.routes_hidden.g T.routes_hidden.F.kp T.routes_hidden.b (a_cons (dv 1 rfl) (a_cons (dv 2 rfl) a_nil)) ⟨_, _, tI a, tI b, p, h, b, rfl, .tup _, .tup _, .tup _, hh8, rfl⟩)
      (a_cons (d_call (ok_routes_hidden T) (hr.mono (by decide)) T.routes_hidden.g T.routes_hidden.F.kp T.routes_hidden.b (a_cons (d_callTy call_list_of (c_list NT) T.z_list (a_cons (dv 1 rfl) a_nil)) (a_cons (d_call (ok_l_lists T 2) (hr.mono (by decide)) T.l_lists.g T.l_lists.F.kp T.l_lists.b (a_cons (dv 2 rfl) a_nil) ⟨_, rfl, sm_bad (by omega) (by omega), rfl⟩) a_nil)) ⟨_, _, .list (a.map .int), .list (b.map .int), p, h, b, by rw [toL_bad], .lst _, .lst _, .lst _, hh8, rfl⟩) a_nil)))) (by show 4 ≤ sizeLine; decide))) ?_
    refine b_new (i := 6) (ds := gA h b) (a_cons (dv 3 rfl) (a_cons (dv 3 rfl)
      (a_cons (d_is (d_tup (a_cons (d_callB call_len_seq (c_len (.lst _)) T.z_len (a_cons (dv 4 rfl) a_nil)) (a_cons (d_callB call_len_seq (c_len (.lst _)) T.z_len (a_cons (dv 3 rfl) a_nil)) a_nil)) (by show 2 ≤ sizeLine; decide)) (by rw [List.length_map, List.length_map]; rfl))
      (a_cons (d_is (d_tup (a_cons (d_callB call_len_seq (c_len (.lst _)) T.z_len (a_cons (dv 4 rfl) a_nil)) (a_cons (d_callB call_len_seq (c_len (.lst _)) T.z_len (a_cons (dv 3 rfl) a_nil)) a_nil)) (by show 2 ≤ sizeLine; decide)) (by rw [List.length_map, List.length_map]; rfl)) a_nil)))) (by show 4 ≤ sizeLine; decide) ?_
    refine b_cons (s_set (i := 5) (d := .list (gA h b ++ gB h b)) (d_op op_cat (r_catL (by show 4 + 2 ≤ sizeLine; decide)) (dv 5 rfl) (d_lst
      (a_cons (d_lcm (L := rts h) (c := tI) (f := fun r => .bool (hid b r)) (j := 8) (i_seq (.lst _) (dv 3 rfl)) (blkOk_by (N := ["_law_tin", "_law_net_so", "_law_bad_so", "_law_routes_so", "_law_hidden_so", "_law_got", "_law_due", "_law_firsts_so", "_law_own", "_law_good_so", "_law_many_so", "_law_sets_so", "_law_counts_so", "_law_lengths_so", "_law_size_so", "_law_bare_so", "_law_house_so", "_law_route_so"]) (sc := defScope s_l_routes_right) (by decide +kernel)) (fun _ _ _ _ _ => pg_name (i := 8) nd rfl (by first | exact Or.inl rfl | exact Or.inr rfl)) (fun _ _ _ _ _ r hrr => d_call (ok_hidden_route T) (hr.mono (by decide)) T.hidden_route.g T.hidden_route.F.kp T.hidden_route.b (a_cons (dv 2 rfl) (a_cons (dv 8 rfl) a_nil)) ⟨_, tI a, tI b, b, r, rfl, .tup _, .tup _, by have := hrow r hrr; omega, rfl⟩) (by omega) nd)
      (a_cons (d_lcm (L := rts h) (c := tI) (f := firstD b) (j := 8) (i_seq (.lst _) (dv 3 rfl)) (blkOk_by (N := ["_law_tin", "_law_net_so", "_law_bad_so", "_law_routes_so", "_law_hidden_so", "_law_got", "_law_due", "_law_firsts_so", "_law_own", "_law_good_so", "_law_many_so", "_law_sets_so", "_law_counts_so", "_law_lengths_so", "_law_size_so", "_law_bare_so", "_law_house_so", "_law_route_so"]) (sc := defScope s_l_routes_right) (by decide +kernel)) (fun _ _ _ _ _ => pg_name (i := 8) nd rfl (by first | exact Or.inl rfl | exact Or.inr rfl)) (fun _ _ _ _ _ r hrr => d_call (ok_first_steady T) (hr.mono (by decide)) T.first_steady.g T.first_steady.F.kp T.first_steady.b (a_cons (dv 2 rfl) (a_cons (dv 8 rfl) a_nil)) ⟨_, tI a, tI b, b, r, rfl, .tup _, .tup _, by have := hrow r hrr; omega, rfl⟩) (by omega) nd) a_nil)) (by show 2 ≤ sizeLine; decide)))) ?_
    refine b_cons (s_app (i := 6) (ds := gA h b) (d := .list ((rts h).map fun r => .bool (hid b r))) rfl (d_lcm (L := rts h) (c := tI) (f := fun r => .bool (hid b r)) (j := 8) (i_seq (.lst _) (dv 3 rfl)) (blkOk_by (N := ["_law_tin", "_law_net_so", "_law_bad_so", "_law_routes_so", "_law_hidden_so", "_law_got", "_law_due", "_law_firsts_so", "_law_own", "_law_good_so", "_law_many_so", "_law_sets_so", "_law_counts_so", "_law_lengths_so", "_law_size_so", "_law_bare_so", "_law_house_so", "_law_route_so"]) (sc := defScope s_l_routes_right) (by decide +kernel)) (fun _ _ _ _ _ => pg_name (i := 8) nd rfl (by first | exact Or.inl rfl | exact Or.inr rfl)) (fun _ _ _ _ _ r hrr => d_is (d_cmp (op_inD (units65 hr)) (r_inD (shaped_tI r) (shaped_rows ((rts h).filter (hid b)))) (dv 8 rfl) (dv 4 rfl)) (by rw [hid_has hrr])) (by omega) nd) (by show 4 < sizeLine; decide)) ?_
    refine b_new (i := 7) a_nil (Nat.zero_le _) ?_
    refine b_cons (s_for (L := rts h) (c := tI) (j := 8) (fun i => [(0, .box), (1, .dat (.tuple (nt p h))), (2, .dat (.tuple [tI a, tI b])), (3, .dat (rtD h)), (5, .dat (.list (gA h b ++ gB h b))), (6, .own (gA h b ++ [.list ((rts h).map fun r => .bool (hid b r))])), (7, .own (((rts h).take i).map (firstD b)))])
      (i_seq (.lst _) (dv 3 rfl)) (wk_cons rfl (wk_cons rfl (wk_cons rfl (wk_cons rfl (wk_cons rfl (wk_cons rfl (wk_cons rfl (wk_nil _)))))))) (fun i r hri => ?_) PassesOwn.never) ?_
    · have hrr : r ∈ rts h := List.mem_of_getElem? hri
      have hrl := hrow r hrr
      have et : (rts h).take (i + 1) = (rts h).take i ++ [r] := by rw [List.take_add_one, hri]; rfl
      refine n_cons (s_setLc (i := 9) (L := r) (c := .int) (f := .int) (t := fun x => !b.contains x) (j := 16) (i_seq (.tup _) (dv 8 rfl)) (blkOk_by (N := ["_law_tin", "_law_net_so", "_law_bad_so", "_law_routes_so", "_law_hidden_so", "_law_got", "_law_due", "_law_firsts_so", "_law_own", "_law_good_so", "_law_many_so", "_law_sets_so", "_law_counts_so", "_law_lengths_so", "_law_size_so", "_law_bare_so", "_law_house_so", "_law_route_so"]) (sc := defScope s_l_routes_right) (by decide +kernel)) (fun _ _ _ _ _ => pg_name (i := 16) nd rfl (by first | exact Or.inl rfl | exact Or.inr rfl)) (fun _ _ _ _ _ x _ => ts_one (t_cmp op_notIn_seq (r_nin (.tup _)) (dv 16 rfl) (d_ix 1 BD rfl (dv 2 rfl) dc_int))) (fun _ _ _ _ _ x _ _ => dv 16 rfl) (by omega)) ?_
      refine n_one (n_wk ?_ (s_app (i := 7) (d := firstD b r) rfl (d_if (t_cmp (op_neD hr.units) (r_neD (shaped_lI _) shaped_nil) (dv 9 rfl) (d_lst a_nil (Nat.zero_le _))) (fun hk => ?_) (fun hk => ?_)) ?_))
      · refine wk_cons rfl (wk_cons rfl (wk_cons rfl (wk_cons rfl (wk_cons rfl (wk_cons rfl (wk_cons ?_ (wk_nil _)))))))
        rw [et, List.map_append]
        rfl
      · rw [eqv_nil] at hk
        unfold firstD
        cases hf : r.filter fun x => !b.contains x with
        | nil => rw [hf] at hk; exact absurd hk (by decide)
        | cons y ys => exact d_ix 0 (.lst _) rfl (dv 9 rfl) dc_int
      · rw [eqv_nil] at hk
        unfold firstD
        cases hf : r.filter fun x => !b.contains x with
        | nil => exact dc_non
        | cons y ys => rw [hf] at hk; exact absurd (show true = false from hk) (by decide)
      · rw [List.length_map, List.length_take]
        exact small6 (by omega)
    refine b_freeze 7 (ds := (rts h).map (firstD b)) (by rw [List.take_length]; rfl) ?_
    refine b_cons (s_app (i := 6) (ds := gA h b ++ [.list ((rts h).map fun r => .bool (hid b r))]) rfl (dv 7 rfl) (by show 5 < sizeLine; decide)) ?_
    refine b_freeze 6 (ds := gA h b ++ gB h b) rfl ?_
    refine b_setX (i := 10) (m1 := m + 1) (P1 := fun d => ∃ k : Nat, d = .int (k : Int) ∧ k ≤ h) (x_callT (i := 0) (k := 1) (A := fun ds => ds = [.int ((h : Int) + 1)]) (ok_l_take T) (hr.mono (by decide)) T.l_take.g T.l_take.F.kp T.l_take.b rfl (xa_pure (a_cons (d_op op_add r_I0 (d_ix 1 NT rfl (dv 1 rfl) dc_int) dc_int) a_nil) rfl) (fun ds hd => ⟨_, hd, by omega, by omega⟩) (fun ds d hA hR => ?_) (by omega)) ?_
    · obtain ⟨n, r, e, rfl, g1, g2⟩ := hR
      rw [hA] at e
      injection e with e _
      injection e with e
      exact ⟨r.toNat, by rw [Int.toNat_of_nonneg g1], by omega⟩
    rintro d ⟨k, rfl, hkh⟩
    have ct := cts h1 h5 hkh
    have hst : (sets h k).length ≤ 256 := Nat.le_trans (List.length_filter_le _ _) hls
    have hsr : ∀ s ∈ sets h k, s.length ≤ 8 := fun s hs => by have := subs_row h s (List.mem_filter.mp hs).1; omega
    refine b_cons (s_setLc (i := 11) (L := subs h) (c := tI) (f := tI) (t := fun s => decide ((s.length : Int) = (k : Int))) (j := 8) (i_seq (.lst _) (d_call (ok_l_subsets T) (hr.mono (by decide)) T.l_subsets.g T.l_subsets.F.kp T.l_subsets.b (a_cons (d_is (d_lstRg (n := (h : Int)) (by omega) T.z_list T.z_range (d_ix 1 NT rfl (dv 1 rfl) dc_int)) (by rw [Int.toNat_natCast, rgD_eq])) a_nil) ⟨h, rfl, hh8, rfl⟩)) (blkOk_by (N := ["_law_tin", "_law_net_so", "_law_bad_so", "_law_routes_so", "_law_hidden_so", "_law_got", "_law_due", "_law_firsts_so", "_law_own", "_law_good_so", "_law_many_so", "_law_sets_so", "_law_counts_so", "_law_lengths_so", "_law_size_so", "_law_bare_so", "_law_house_so", "_law_route_so"]) (sc := defScope s_l_routes_right) (by decide +kernel)) (fun _ _ _ _ _ => pg_name (i := 8) nd rfl (by first | exact Or.inl rfl | exact Or.inr rfl))
      (fun _ _ _ _ _ s _ => ts_one (t_is (t_cmp op_eq r_eqI (d_callB call_len_seq (c_len (.tup _)) T.z_len (a_cons (dv 8 rfl) a_nil)) (dv 10 rfl)) (by rw [List.length_map]))) (fun _ _ _ _ _ s _ _ => dv 8 rfl) (by omega)) ?_
    refine b_cons (s_setLcm (i := 12) (L := sets h k) (c := tI) (f := fun s => .int ((cntR (rts h) s : Nat) : Int)) (j := 8) (i_seq (.lst _) (dv 11 rfl)) (blkOk_by (N := ["_law_tin", "_law_net_so", "_law_bad_so", "_law_routes_so", "_law_hidden_so", "_law_got", "_law_due", "_law_firsts_so", "_law_own", "_law_good_so", "_law_many_so", "_law_sets_so", "_law_counts_so", "_law_lengths_so", "_law_size_so", "_law_bare_so", "_law_house_so", "_law_route_so"]) (sc := defScope s_l_routes_right) (by decide +kernel)) (fun _ _ _ _ _ => pg_name (i := 8) nd rfl (by first | exact Or.inl rfl | exact Or.inr rfl))
      (fun _ _ _ _ _ s hs => d_is (d_callB call_len_seq (c_len (.lst _)) T.z_len (a_cons (d_lc (L := rts h) (c := tI) (f := fun _ => .int 1) (t := hid s) (j := 17) (i_seq (.lst _) (dv 3 rfl)) (blkOk_by (N := ["_law_tin", "_law_net_so", "_law_bad_so", "_law_routes_so", "_law_hidden_so", "_law_got", "_law_due", "_law_firsts_so", "_law_own", "_law_good_so", "_law_many_so", "_law_sets_so", "_law_counts_so", "_law_lengths_so", "_law_size_so", "_law_bare_so", "_law_house_so", "_law_route_so"]) (sc := relS _ (defScope s_l_routes_right)) (by decide +kernel)) (fun _ _ _ _ _ => pg_name (i := 17) nd rfl (by first | exact Or.inl rfl | exact Or.inr rfl)) (fun _ _ _ _ _ r hrr => ts_one (t_val (d_call (ok_l_hides T) (hr.mono (by decide)) T.l_hides.g T.l_hides.F.kp T.l_hides.b (a_cons (dv 17 rfl) (a_cons (dv 8 rfl) a_nil)) ⟨_, s, r, rfl, .tup _, by have := hrow r hrr; omega, rfl⟩))) (fun _ _ _ _ _ r _ _ => dc_int) (by omega) nd) a_nil)) (by rw [List.length_map]; rfl)) (by omega)) ?_
    have eC : ((sets h k).map fun s => PyData.int ((cntR (rts h) s : Nat) : Int)) = ((sets h k).map fun s => ((cntR (rts h) s : Nat) : Int)).map .int := by rw [List.map_map]; rfl
    refine b_if (k := false) (t_is (t_cmp op_ne r_neI (d_lenSet (ns := (sets h k).map fun s => ((cntR (rts h) s : Nat) : Int)) T.z_len T.z_set (d_is (dv 12 rfl) (by rw [eC])) (by rw [List.length_map]; omega)) dc_int) (by rw [ct.one]; rfl)) (fun hk => absurd hk Bool.false_ne_true) fun _ => ?_
    refine b_cons (s_set (i := 5) (d := .list ((gA h b ++ gB h b) ++ gC h k)) (d_op op_cat (r_catL (by show 6 + 2 ≤ sizeLine; decide)) (dv 5 rfl) (d_lst
      (a_cons (d_call (ok_part_hidden T) (hr.mono (by decide)) T.part_hidden.g T.part_hidden.F.kp T.part_hidden.b (a_cons (dv 1 rfl) (a_cons (dv 10 rfl) a_nil)) ⟨_, p, h, k, rfl, .tup _, hh8, by omega, ct.pos, rfl⟩)
      (a_cons (d_call (ok_part_hidden T) (hr.mono (by decide)) T.part_hidden.g T.part_hidden.F.kp T.part_hidden.b (a_cons (d_callTy call_list_of (c_list NT) T.z_list (a_cons (dv 1 rfl) a_nil)) (a_cons (dv 10 rfl) a_nil)) ⟨_, p, h, k, rfl, .lst _, hh8, by omega, ct.pos, rfl⟩) a_nil)) (by show 2 ≤ sizeLine; decide)))) ?_
    have hd0 : ((sets h k).map fun s => PyData.int ((cntR (rts h) s : Nat) : Int))[0]? = some (.int ((cnt h (rg k) : Nat) : Int)) := by
      have z := congrArg (Option.map fun n : Nat => PyData.int (n : Int)) ct.head
      rw [← List.getElem?_map, List.map_map] at z
      exact z
    have hcl : cnt h (rg k) ≤ (rts h).length := List.length_filter_le _ _
    refine b_cons (s_set (i := 6) (d := .list ((gA h b ++ gB h b) ++ gC h k)) (d_op op_cat (r_catL (by show 6 + 2 ≤ sizeLine; decide)) (dv 6 rfl) (d_is (d_op op_rep (r_rep (by decide) (by decide) (by show 1 * 2 ≤ sizeLine; decide)) (d_lst (a_cons (d_call (ok_l_fraction T) (hr.mono (by decide)) T.l_fraction.g T.l_fraction.F.kp T.l_fraction.b (a_cons (d_ix 0 (.lst _) hd0 (dv 12 rfl) dc_int) (a_cons (d_is (d2 := .int (((rts h).length : Nat) : Int)) (d_callB call_len_seq (c_len (.lst _)) T.z_len (a_cons (dv 3 rfl) a_nil)) (by rw [List.length_map])) a_nil)) ⟨_, _, rfl, ct.pos, by omega, by omega, rfl⟩) a_nil) (by show 1 ≤ sizeLine; decide)) dc_int) rfl))) ?_
    refine b_new (i := 13) a_nil (Nat.zero_le _) ?_
    refine b_cons (s_for (L := List.range h) (c := fun i => .int ((i + 1 : Nat) : Int)) (j := 14) (fun i => [(0, .box), (1, .dat (.tuple (nt p h))), (3, .dat (rtD h)), (5, .dat (.list ((gA h b ++ gB h b) ++ gC h k))), (6, .dat (.list ((gA h b ++ gB h b) ++ gC h k))), (10, .dat (.int (k : Int))), (11, .dat (.list ((sets h k).map tI))), (13, .own ((lensR (rts h) h k i).map fun (n : Nat) => .int (n : Int)))])
      (i_rgs (by omega) T.z_range dc_int (d_op op_add r_I0 (d_ix 1 NT rfl (dv 1 rfl) dc_int) dc_int)) (wk_cons rfl (wk_cons rfl (wk_cons rfl (wk_cons rfl (wk_cons rfl (wk_cons rfl (wk_cons rfl (wk_cons rfl (wk_nil _))))))))) (fun i n hi => ?_) PassesOwn.never) ?_
    · have en : n = i := by
        have hlt := (List.getElem?_eq_some_iff.mp hi).1
        rw [List.length_range] at hlt
        rw [List.getElem?_range hlt] at hi
        exact (Option.some.inj hi).symm
      have hih : i < h := by
        have hlt := (List.getElem?_eq_some_iff.mp hi).1
        rw [List.length_range] at hlt
        exact hlt
      subst en
      have et : lensR (rts h) h k (n + 1) = lensR (rts h) h k n ++ if (bareR (rts h) h k (n + 1)).isEmpty = true then [n + 1] else [] := by
        unfold lensR
        rw [List.range_succ, List.map_append, List.filter_append]
        congr 1
        show [n + 1].filter _ = _
        rw [List.filter_cons]
        rfl
      refine n_cons (s_setLc (i := 15) (L := sets h k) (c := tI) (f := fun _ => .int 1) (t := fun own => !((rts h).filter fun r => decide ((r.length : Int) = ((n + 1 : Nat) : Int)) && !hid own r).isEmpty) (j := 8) (i_seq (.lst _) (dv 11 rfl)) (blkOk_by (N := ["_law_tin", "_law_net_so", "_law_bad_so", "_law_routes_so", "_law_hidden_so", "_law_got", "_law_due", "_law_firsts_so", "_law_own", "_law_good_so", "_law_many_so", "_law_sets_so", "_law_counts_so", "_law_lengths_so", "_law_size_so", "_law_bare_so", "_law_house_so", "_law_route_so"]) (sc := defScope s_l_routes_right) (by decide +kernel)) (fun _ _ _ _ _ => pg_name (i := 8) nd rfl (by first | exact Or.inl rfl | exact Or.inr rfl))
        (fun _ _ _ _ _ own ho => ts_one (t_is (t_cmp (op_neD hr.units) (r_neD (shaped_lI (((rts h).filter fun r => decide ((r.length : Int) = ((n + 1 : Nat) : Int)) && !hid own r).map fun _ => 1)) shaped_nil)
          (d_is (d_lc (L := rts h) (c := tI) (f := fun _ => .int 1) (t := fun r => decide ((r.length : Int) = ((n + 1 : Nat) : Int)) && !hid own r) (j := 17) (i_seq (.lst _) (dv 3 rfl)) (blkOk_by (N := ["_law_tin", "_law_net_so", "_law_bad_so", "_law_routes_so", "_law_hidden_so", "_law_got", "_law_due", "_law_firsts_so", "_law_own", "_law_good_so", "_law_many_so", "_law_sets_so", "_law_counts_so", "_law_lengths_so", "_law_size_so", "_law_bare_so", "_law_house_so", "_law_route_so"]) (sc := relS _ (defScope s_l_routes_right)) (by decide +kernel)) (fun _ _ _ _ _ => pg_name (i := 17) nd rfl (by first | exact Or.inl rfl | exact Or.inr rfl))
            (fun _ _ _ _ _ r hrr => ts_one (PW.pt (t_and (t_is (t_cmp op_eq r_eqI (d_callB call_len_seq (c_len (.tup _)) T.z_len (a_cons (dv 17 rfl) a_nil)) (dv 14 rfl)) (by rw [List.length_map])) fun _ => t_and1 (t_not (t_val (d_call (ok_l_hides T) (hr.mono (by decide)) T.l_hides.g T.l_hides.F.kp T.l_hides.b (a_cons (dv 17 rfl) (a_cons (dv 8 rfl) a_nil)) ⟨_, own, r, rfl, .tup _, by have := hrow r hrr; omega, rfl⟩)))))) (fun _ _ _ _ _ r _ _ => dc_int) (by omega) nd) (by rw [List.map_map]; rfl)) (d_lst a_nil (Nat.zero_le _))) (by rw [eqv_nil, List.isEmpty_map, List.isEmpty_map]))) (fun _ _ _ _ _ own _ _ => dc_int) (by omega)) ?_
      refine n_one (s_if (k := (bareR (rts h) h k (n + 1)).isEmpty) (t_is (t_cmp (op_eqD hr.units) (r_eqD (shaped_lI ((bareR (rts h) h k (n + 1)).map fun _ => 1)) shaped_nil) (d_is (dv 15 rfl) (by rw [List.map_map]; rfl)) (d_lst a_nil (Nat.zero_le _))) (by rw [eqv_nil, List.isEmpty_map, List.isEmpty_map])) (fun hk => ?_) (fun hk => ⟨?_, Nat.le_refl _⟩))
      · refine n_one (n_wk ?_ (s_app (i := 13) rfl (dv 14 rfl) ?_))
        · refine wk_cons rfl (wk_cons rfl (wk_cons rfl (wk_cons rfl (wk_cons rfl (wk_cons rfl (wk_cons rfl (wk_cons ?_ (wk_nil _))))))))
          rw [et, if_pos hk, List.map_append]
          rfl
        · rw [List.length_map]
          have z : (lensR (rts h) h k n).length ≤ n := Nat.le_trans (List.length_filter_le _ _) (by rw [List.length_map, List.length_range]; exact Nat.le_refl _)
          exact small6 (by omega)
      · refine wk_cons rfl (wk_cons rfl (wk_cons rfl (wk_cons rfl (wk_cons rfl (wk_cons rfl (wk_cons rfl (wk_cons ?_ (wk_nil _))))))))
        rw [et, if_neg (by rw [hk]; exact Bool.false_ne_true), List.append_nil]
        rfl
    rw [List.length_range]
    refine b_freeze 13 rfl ?_
    refine b_setX (i := 5) (m1 := m + 1 + 1) (P1 := fun d => d = .list (((gA h b ++ gB h b) ++ gC h k) ++ [lstD h k, .none])) (x_op (P1 := fun d => d = .list ((gA h b ++ gB h b) ++ gC h k)) (P2 := fun d => d = .list [lstD h k, .none]) op_cat (fun d1 d2 e1 e2 => ⟨_, by rw [e1, e2]; exact r_catL (by show 8 + 2 ≤ sizeLine; decide), rfl⟩) (x_pure (dv 5 rfl) rfl)
      (x_imp (x_lst (A := fun ds => ds = [lstD h k, .none]) (xa_cons (P1 := fun d => d = lstD h k) (A1 := fun ds => ds = [.none]) (x_pure (d_call (ok_least_route T) (hr.mono (by decide)) T.least_route.g T.least_route.F.kp T.least_route.b (a_cons (dv 1 rfl) (a_cons (dv 10 rfl) a_nil)) ⟨_, p, h, _, rfl, .tup _, rfl⟩) rfl)
        (xa_cons (P1 := fun d => d = .none) (A1 := fun ds => ds = []) (x_call (A := fun ds => ∃ r : Int, ds = [.tuple (nt p h), .int ((h : Int) + r)] ∧ 0 ≤ r) (ok_least_route T) (hr.mono (by decide)) T.least_route.g T.least_route.F.kp T.least_route.b
          (xa_cons (P1 := fun d => d = .tuple (nt p h)) (A1 := fun ds => ∃ r : Int, ds = [.int ((h : Int) + r)] ∧ 0 ≤ r) (x_pure (dv 1 rfl) rfl) (xa_cons (P1 := fun d => ∃ r : Int, d = .int ((h : Int) + r) ∧ 0 ≤ r) (A1 := fun ds => ds = [])
            (x_op (P1 := fun d => d = .int (h : Int)) (P2 := fun d => ∃ r : Int, d = .int r ∧ 0 ≤ r) op_add (fun d1 d2 e1 ⟨r, e2, h0⟩ => ⟨_, by rw [e1, e2]; exact r_I0, r, rfl, h0⟩) (x_pure (d_ix 1 NT rfl (dv 1 rfl) dc_int) rfl)
              (x_callT (i := 0) (k := 1) (A := fun ds => ds = [.int 3]) (ok_l_take T) (hr.mono (by decide)) T.l_take.g T.l_take.F.kp T.l_take.b rfl (xa_pure (a_cons dc_int a_nil) rfl) (fun ds hd => ⟨_, hd, by omega, by omega⟩) (fun ds d hA hR => ?_) (by omega)))
            (xa_nil rfl) ?_) ?_) (fun ds hd => ?_)) (xa_nil rfl) ?_) ?_) (fun ds hd => by rw [hd]; show 2 ≤ sizeLine; decide)) (fun d ⟨ds, e1, e2⟩ => by rw [e1, e2]) (Nat.le_refl _))) ?_
    · obtain ⟨n, r, e, rfl, g1, g2⟩ := hR
      exact ⟨r, rfl, g1⟩
    · rintro d ds ⟨r, rfl, h0⟩ rfl
      exact ⟨r, rfl, h0⟩
    · rintro d ds rfl ⟨r, rfl, h0⟩
      exact ⟨r, rfl, h0⟩
    · obtain ⟨r, rfl, h0⟩ := hd
      exact ⟨_, ⟨_, p, h, _, rfl, .tup _, rfl⟩, lst_none h r h0⟩
    · rintro d ds rfl rfl
      rfl
    · rintro d ds rfl rfl
      rfl
    rintro d rfl
    have eL : (match (lensR (rts h) h k h).map fun (n : Nat) => PyData.int (n : Int) with | [] => PyData.none | x :: _ => x) = lstD h k := by
      have z := ct.lens
      unfold lstD
      cases hL : lensR (rts h) h k h with
      | nil =>
        rw [hL] at z
        by_cases hk : k < h
        · rw [if_pos hk] at z
          cases z
        · rw [if_neg (by omega)]
          rfl
      | cons x xs =>
        rw [hL] at z
        by_cases hk : k < h
        · rw [if_pos hk] at z
          have : x = k + 1 := Option.some.inj z
          rw [if_pos (by omega), this]
          rfl
        · rw [if_neg hk] at z
          cases z
    refine b_ret (d_call (ok_l_same T 3) (hr.mono (by decide)) T.l_same.g T.l_same.F.kp T.l_same.b (a_cons (dv 5 rfl) (a_cons (d_op op_cat (r_catL (by show 8 + 2 ≤ sizeLine; decide)) (dv 6 rfl) (d_lst (a_cons (d := lstD h k) (d_if (t_is (t_cmp (op_neD hr.units) (r_neD (shaped_lI ((lensR (rts h) h k h).map fun (n : Nat) => (n : Int))) shaped_nil) (d_is (dv 13 rfl) (by rw [List.map_map]; rfl)) (d_lst a_nil (Nat.zero_le _))) (k := _) rfl) (fun hk => ?_) (fun hk => ?_)) (a_cons dc_non a_nil)) (by show 2 ≤ sizeLine; decide))) a_nil)) ⟨_, rfl, ?_, rfl⟩) rfl
    · rw [eqv_nil] at hk
      cases hL : lensR (rts h) h k h with
      | nil => rw [hL] at hk; exact absurd hk (by decide)
      | cons x xs =>
        rw [hL] at eL
        rw [← eL]
        exact d_ix 0 (.lst _) rfl (dv 13 rfl) dc_int
    · rw [eqv_nil] at hk
      cases hL : lensR (rts h) h k h with
      | nil =>
        rw [hL] at eL
        rw [← eL]
        exact dc_non
      | cons x xs => rw [hL] at hk; exact absurd (show true = false from hk) (by decide)
    · have hro : sm 2 (rtD h) = true := sm_rows (n := 0) (fun l hl => by have := hrow l hl; omega) (by omega)
      have hhc : sm 2 (hcD h b) = true := sm_T (sm_cons (sm_I _ _) (sm_cons (sm_I _ _) sm_nil)) (by show 2 ≤ 100000; decide)
      refine sm_L (sm_app (sm_app (sm_app ?_ ?_) ?_) ?_) (by show 10 ≤ 100000; decide)
      · exact sm_cons hro (sm_cons hro (sm_cons hhc (sm_cons hhc sm_nil)))
      · exact sm_cons (sm_L (sm_map fun z _ => sm_B _ _) (by rw [List.length_map]; omega)) (sm_cons (sm_L (sm_map fun z _ => sm_first _ _ _) (by rw [List.length_map]; omega)) sm_nil)
      · exact sm_cons (sm_fr _ _ _) (sm_cons (sm_fr _ _ _) sm_nil)
      · exact sm_cons (sm_lst _ _ _) (sm_cons (sm_N _) sm_nil)
end
end DL
namespace DL
open PySem PySem.Spec PyProof.Rows L2
/-! ### by hand -/
theorem rl3 : (rts 3).length = 7 := by rw [rts_small (by decide) (by decide)]; decide +kernel
theorem hc3 : hcD 3 [1] = .tuple [.int 6, .int 7] := by
  have e : ((rts 3).filter (hid [1])).length = 6 := by rw [rts_small (by decide) (by decide)]; decide +kernel
  unfold hcD
  rw [rl3, e]
  rfl
theorem fr1 : frD (cnt 3 (rg 1)) (rts 3).length = .tuple [.int 6, .int 7] := by
  have e : cnt 3 (rg 1) = 6 := by unfold cnt; rw [rts_small (by decide) (by decide)]; decide +kernel
  rw [rl3, e]
  rfl
theorem fr3 : frD (cnt 3 (rg 3)) (rts 3).length = .tuple [.int 0, .int 1] := by
  have e : cnt 3 (rg 3) = 0 := by unfold cnt; rw [rts_small (by decide) (by decide)]; decide +kernel
  rw [rl3, e]
  rfl
theorem sf3 : sfs 3 [[0, 1], [1, 2]] = [[0, 1, 2], [0, 2]] := by unfold sfs; rw [rts_small (by decide) (by decide)]; decide +kernel
theorem sf2 : sfs 2 [[0, 1]] = [] := by unfold sfs; rw [rts_small (by decide) (by decide)]; decide +kernel
theorem st4 : (rg 4).filter (fun i => !([3] : List Int).contains i) = [0, 1, 2] := by decide +kernel
theorem st3 : (rg 3).filter (fun i => !([1] : List Int).contains i) = [0, 2] := by decide +kernel
def duH : List PyData := [.tuple [.int 6, .int 7], .tuple [.int 6, .int 7], .tuple [.int 0, .int 1], .int 2, .none, tI [0, 2]]
def duI : List PyData := [.list [tI [0, 1, 2], tI [0, 2]], paper, .int 2, tI [0, 1, 2], tI [0, 2]]
def duJ : List PyData := [.bool false, sp true 0, .bool false]
section
variable {P : Program} {w : World} {K : PySem.W.Frag} {mg : Str → Option Value} {base : Heap}
def R_hand : List PyData → PyData → Prop := fun ds d => ds = [] ∧ d = .bool true
theorem ok_l_by_hand_right (T : Tx K mg) : FnOk P w K mg base CX0 6 T.l_by_hand_right.f T.l_by_hand_right.fd [] (spD R_hand) := by
  refine ok_D T.l_by_hand_right.F sc_l_by_hand_right (fun ds d h => ?_) (fun cdv A outer s H E ds d hr hR => ?_)
  · rw [h.1]
    rfl
  · obtain ⟨rfl, rfl⟩ := hR
    have nd := sc_l_by_hand_right.nd
    have two : 2 ≤ sizeLine := by decide
    have one : 1 ≤ sizeLine := by decide
    have NT : IsSeq (.tuple (nt 4 3)) (nt 4 3) := .tup _
    have BD : IsSeq (.tuple [tI [3], tI [1]]) [tI [3], tI [1]] := .tup _
    have NL1 : NL [.tuple (nt 4 3), .tuple [tI [0, 1], tI [1, 2]]] 4 3 [[0, 1], [1, 2]] := ⟨⟨_, _, tI, rfl, .tup _, .tup _, fun l => .tup _⟩, by decide, by decide⟩
    have NL2 : NL [.tuple (nt 2 2), .tuple [tI [0, 1]]] 2 2 [[0, 1]] := ⟨⟨_, _, tI, rfl, .tup _, .tup _, fun l => .tup _⟩, by decide, by decide⟩
    refine b_cons (s_un2 (i := 0) (j := 1) (d1 := .tuple (nt 4 3)) (d2 := .tuple [tI [3], tI [1]]) (d_tup (a_cons (d_tup (a_cons dc_int (a_cons dc_int a_nil)) two) (a_cons (d_tup (a_cons (d_tup (a_cons dc_int a_nil) one) (a_cons (d_tup (a_cons dc_int a_nil) one) a_nil)) two) a_nil)) two)) ?_
    refine b_cons (s_set (i := 2) (d := .list duH) (d_lst
      (a_cons (d_is (d_call (ok_routes_hidden T) (hr.mono (by decide)) T.routes_hidden.g T.routes_hidden.F.kp T.routes_hidden.b (a_cons (dv 0 rfl) (a_cons (dv 1 rfl) a_nil)) ⟨_, _, tI [3], tI [1], 4, 3, [1], rfl, .tup _, .tup _, .tup _, by decide, rfl⟩) hc3)
      (a_cons (d_is (d_call (ok_part_hidden T) (hr.mono (by decide)) T.part_hidden.g T.part_hidden.F.kp T.part_hidden.b (a_cons (dv 0 rfl) (a_cons dc_int a_nil)) ⟨_, 4, 3, 1, rfl, .tup _, by decide, by decide, by rw [rl3]; decide, rfl⟩) fr1)
      (a_cons (d_is (d_call (ok_part_hidden T) (hr.mono (by decide)) T.part_hidden.g T.part_hidden.F.kp T.part_hidden.b (a_cons (dv 0 rfl) (a_cons dc_int a_nil)) ⟨_, 4, 3, 3, rfl, .tup _, by decide, by decide, by rw [rl3]; decide, rfl⟩) fr3)
      (a_cons (d_call (ok_least_route T) (hr.mono (by decide)) T.least_route.g T.least_route.F.kp T.least_route.b (a_cons (dv 0 rfl) (a_cons dc_int a_nil)) ⟨_, 4, 3, 1, rfl, .tup _, rfl⟩)
      (a_cons (d_call (ok_least_route T) (hr.mono (by decide)) T.least_route.g T.least_route.F.kp T.least_route.b (a_cons (dv 0 rfl) (a_cons dc_int a_nil)) ⟨_, 4, 3, 3, rfl, .tup _, rfl⟩)
      (a_cons (d_is (d_call (ok_l_shortest T) (hr.mono (by decide)) T.l_shortest.g T.l_shortest.F.kp T.l_shortest.b (a_cons (dv 0 rfl) (a_cons (d := .tuple [tI [0, 1], tI [1, 2]]) (d_tup (a_cons (d_tup (a_cons dc_int (a_cons dc_int a_nil)) two) (a_cons (d_tup (a_cons dc_int (a_cons dc_int a_nil)) two) a_nil)) two) a_nil)) ⟨4, 3, _, NL1, rfl⟩) (by rw [sf3]; rfl)) a_nil)))))) (by show 6 ≤ sizeLine; decide))) ?_
    refine b_cons (s_set (i := 3) (d := .list duH) (d_lst (a_cons (d_tup (a_cons dc_int (a_cons dc_int a_nil)) two) (a_cons (d_tup (a_cons dc_int (a_cons dc_int a_nil)) two) (a_cons (d_tup (a_cons dc_int (a_cons dc_int a_nil)) two) (a_cons dc_int (a_cons dc_non (a_cons (d_tup (a_cons dc_int (a_cons dc_int a_nil)) two) a_nil)))))) (by show 6 ≤ sizeLine; decide))) ?_
    refine b_cons (s_set (i := 2) (d := .list (duH ++ duI)) (d_op op_cat (r_catL (by show 6 + 5 ≤ sizeLine; decide)) (dv 2 rfl) (d_lst
      (a_cons (d_is (d_call (ok_safe_routes T) (hr.mono (by decide)) T.safe_routes.g T.safe_routes.F.kp T.safe_routes.b (a_cons (dv 0 rfl) (a_cons (d := .tuple [tI [0, 1], tI [1, 2]]) (d_tup (a_cons (d_tup (a_cons dc_int (a_cons dc_int a_nil)) two) (a_cons (d_tup (a_cons dc_int (a_cons dc_int a_nil)) two) a_nil)) two) a_nil)) ⟨4, 3, _, NL1, rfl⟩) (by rw [sf3]; rfl))
      (a_cons (d_is (d_call (ok_l_shortest T) (hr.mono (by decide)) T.l_shortest.g T.l_shortest.F.kp T.l_shortest.b (a_cons (d := .tuple (nt 2 2)) (d_tup (a_cons dc_int (a_cons dc_int a_nil)) two) (a_cons (d := .tuple [tI [0, 1]]) (d_tup (a_cons (d_tup (a_cons dc_int (a_cons dc_int a_nil)) two) a_nil) one) a_nil)) ⟨2, 2, _, NL2, rfl⟩) (by rw [sf2]; rfl))
      (a_cons (d_is (d_call (ok_first_steady T) (hr.mono (by decide)) T.first_steady.g T.first_steady.F.kp T.first_steady.b (a_cons (dv 1 rfl) (a_cons (d := tI [1, 2]) (d_tup (a_cons dc_int (a_cons dc_int a_nil)) two) a_nil)) ⟨_, tI [3], tI [1], [1], [1, 2], rfl, .tup _, .tup _, by decide, rfl⟩) (show firstD [1] [1, 2] = .int 2 from rfl))
      (a_cons (d_is (d_call (ok_steady_people T) (hr.mono (by decide)) T.steady_people.g T.steady_people.F.kp T.steady_people.b (a_cons (dv 0 rfl) (a_cons (dv 1 rfl) a_nil)) ⟨_, _, tI [3], tI [1], 4, 3, [3], rfl, .tup _, .tup _, .tup _, by decide, rfl⟩) (by rw [st4]))
      (a_cons (d_is (d_call (ok_steady_houses T) (hr.mono (by decide)) T.steady_houses.g T.steady_houses.F.kp T.steady_houses.b (a_cons (dv 0 rfl) (a_cons (dv 1 rfl) a_nil)) ⟨_, _, tI [3], tI [1], 4, 3, [1], rfl, .tup _, .tup _, .tup _, by decide, rfl⟩) (by rw [st3])) a_nil))))) (by show 5 ≤ sizeLine; decide)))) ?_
    refine b_cons (s_set (i := 3) (d := .list (duH ++ duI)) (d_op op_cat (r_catL (by show 6 + 5 ≤ sizeLine; decide)) (dv 3 rfl) (d_lst
      (a_cons (d_lst (a_cons (d_tup (a_cons dc_int (a_cons dc_int (a_cons dc_int a_nil))) (by show 3 ≤ sizeLine; decide)) (a_cons (d_tup (a_cons dc_int (a_cons dc_int a_nil)) two) a_nil)) two)
      (a_cons (d_lst (a_cons dc_str (a_cons dc_bl a_nil)) two) (a_cons dc_int (a_cons (d_tup (a_cons dc_int (a_cons dc_int (a_cons dc_int a_nil))) (by show 3 ≤ sizeLine; decide)) (a_cons (d_tup (a_cons dc_int (a_cons dc_int a_nil)) two) a_nil))))) (by show 5 ≤ sizeLine; decide)))) ?_
    refine b_cons (s_set (i := 2) (d := .list ((duH ++ duI) ++ duJ)) (d_op op_cat (r_catL (by show 11 + 3 ≤ sizeLine; decide)) (dv 2 rfl) (d_lst
      (a_cons (d_call (ok_hidden_route T) (hr.mono (by decide)) T.hidden_route.g T.hidden_route.F.kp T.hidden_route.b (a_cons (dv 1 rfl) (a_cons (d := tI [1]) (d_tup (a_cons dc_int a_nil) one) a_nil)) ⟨_, tI [3], tI [1], [1], [1], rfl, .tup _, .tup _, by decide, rfl⟩)
      (a_cons (d_ix 2 (.tup (spots 1 2)) rfl (d_call (ok_all_spots T) (hr.mono (by decide)) T.all_spots.g T.all_spots.F.kp T.all_spots.b (a_cons (d := .tuple (nt 1 2)) (d_tup (a_cons dc_int (a_cons dc_int a_nil)) two) a_nil) ⟨1, 2, rfl, by decide, by decide, rfl⟩) dc_int)
      (a_cons (d_call (ok_is_steady T) (hr.mono (by decide)) T.is_steady.g T.is_steady.F.kp T.is_steady.b (a_cons (dv 1 rfl) (a_cons (d := sp false 1) (d_tup (a_cons dc_str (a_cons dc_int a_nil)) two) a_nil)) ⟨[3], [1], false, 1, rfl, rfl⟩) a_nil))) (by show 3 ≤ sizeLine; decide)))) ?_
    refine b_ret (d_call (ok_l_same T 3) (hr.mono (by decide)) T.l_same.g T.l_same.F.kp T.l_same.b (a_cons (dv 2 rfl) (a_cons (d_op op_cat (r_catL (by show 11 + 3 ≤ sizeLine; decide)) (dv 3 rfl) (d_lst (a_cons dc_bl (a_cons (d := sp true 0) (d_tup (a_cons dc_str (a_cons dc_int a_nil)) two) (a_cons dc_bl a_nil))) (by show 3 ≤ sizeLine; decide))) a_nil)) ⟨_, rfl, rfl, rfl⟩) rfl
/-! ### right -/
theorem b_all {ds : List PyData} (h : ∀ z ∈ ds, z = .bool true) : ds = ds.map fun _ => .bool ((fun _ : PyData => true) PyData.none) := by
  induction ds with
  | nil => rfl
  | cons d ds ih =>
    rw [List.map_cons, ← ih fun z hz => h z (List.mem_cons_of_mem _ hz), h d List.mem_cons_self]
def C_right : List PyData → Prop := fun ds => ds = []
theorem ok_l_right (T : Tx K mg) : FnOk P w K mg base CX0 7 T.l_right.f T.l_right.fd ["_law_tin"] (spT 1706 C_right R_true) := by
  refine ok_T T.l_right.F sc_l_right (fun ds h => ?_) (fun cdv A outer s H E ds m hr hC hm => ?_)
  · rw [show ds = [] from h]
    rfl
  · obtain rfl : ds = [] := hC
    have nd := sc_l_right.nd
    refine b_setX (i := 1) (m1 := m + 1 + 1) (P1 := fun d => ∃ p h : Nat, d = .tuple (nt p h) ∧ 1 ≤ p ∧ p ≤ 8 ∧ 1 ≤ h ∧ h ≤ 5) (x_imp (x_tup (A := fun ds => ∃ p h : Nat, ds = nt p h ∧ 1 ≤ p ∧ p ≤ 8 ∧ 1 ≤ h ∧ h ≤ 5)
      (xa_cons (P1 := fun d => ∃ p : Nat, d = .int (p : Int) ∧ 1 ≤ p ∧ p ≤ 8) (A1 := fun ds => ∃ h : Nat, ds = [.int (h : Int)] ∧ 1 ≤ h ∧ h ≤ 5)
        (x_op (P1 := fun d => d = .int 1) (P2 := fun d => ∃ r : Int, d = .int r ∧ 0 ≤ r ∧ r < 8) op_add (fun d1 d2 e1 ⟨r, e2, h0, h9⟩ => ⟨.int (1 + r), by rw [e1, e2]; exact r_I0, (r + 1).toNat, by rw [Int.toNat_of_nonneg (by omega), Int.add_comm], by omega, by omega⟩) (x_pure dc_int rfl)
          (x_callT (i := 0) (k := 1) (A := fun ds => ds = [.int 8]) (ok_l_take T) (hr.mono (by decide)) T.l_take.g T.l_take.F.kp T.l_take.b rfl (xa_pure (a_cons dc_int a_nil) rfl) (fun ds hd => ⟨_, hd, by omega, by omega⟩) (fun ds d hA hR => ?_) (by omega)))
        (xa_cons (P1 := fun d => ∃ h : Nat, d = .int (h : Int) ∧ 1 ≤ h ∧ h ≤ 5) (A1 := fun ds => ds = [])
          (x_op (P1 := fun d => d = .int 1) (P2 := fun d => ∃ r : Int, d = .int r ∧ 0 ≤ r ∧ r < 5) op_add (fun d1 d2 e1 ⟨r, e2, h0, h9⟩ => ⟨.int (1 + r), by rw [e1, e2]; exact r_I0, (r + 1).toNat, by rw [Int.toNat_of_nonneg (by omega), Int.add_comm], by omega, by omega⟩) (x_pure dc_int rfl)
            (x_callT (i := 0) (k := 1) (A := fun ds => ds = [.int 5]) (ok_l_take T) (hr.mono (by decide)) T.l_take.g T.l_take.F.kp T.l_take.b rfl (xa_pure (a_cons dc_int a_nil) rfl) (fun ds hd => ⟨_, hd, by omega, by omega⟩) (fun ds d hA hR => ?_) (by omega)))
          (xa_nil rfl) ?_) ?_) (fun ds hd => ?_)) (fun d hd => ?_) (Nat.le_refl _)) ?_
    · obtain ⟨n, r, e, rfl, g1, g2⟩ := hR
      rw [hA] at e
      injection e with e _
      injection e with e
      exact ⟨r, rfl, g1, by omega⟩
    · obtain ⟨n, r, e, rfl, g1, g2⟩ := hR
      rw [hA] at e
      injection e with e _
      injection e with e
      exact ⟨r, rfl, g1, by omega⟩
    · rintro d ds ⟨h, rfl, g⟩ rfl
      exact ⟨h, rfl, g⟩
    · rintro d ds ⟨p, rfl, g1, g2⟩ ⟨h, rfl, g3⟩
      exact ⟨p, h, rfl, g1, g2, g3⟩
    · obtain ⟨p, h, rfl, _⟩ := hd
      show 2 ≤ sizeLine
      decide
    · obtain ⟨ds, rfl, p, h, rfl, g⟩ := hd
      exact ⟨p, h, rfl, g⟩
    rintro d ⟨p, h, rfl, hp1, hp8, hh1, hh5⟩
    have NT : IsSeq (.tuple (nt p h)) (nt p h) := .tup _
    have some_ok : ∀ {n : Nat} {ds : List PyData} {d : PyData}, ds = [.int (n : Int)] → R_some ds d → ∃ L : List Int, d = tI L ∧ nset L n = true ∧ L.length ≤ n := fun {n ds d} hA hR => by
      obtain ⟨n', L, e, rfl, g1, g2⟩ := hR
      rw [hA] at e
      injection e with e _
      injection e with e
      have e' : n = n' := by omega
      subst e'
      exact ⟨L, rfl, g1, g2⟩
    refine b_setX (i := 2) (m1 := m + 1 + 1 + 101 + 101) (P1 := fun d => ∃ a b : List Int, d = .tuple [tI a, tI b] ∧ (nset a p = true ∧ a.length ≤ p) ∧ nset b h = true ∧ b.length ≤ h) (x_imp (x_tup (A := fun ds => ∃ a b : List Int, ds = [tI a, tI b] ∧ (nset a p = true ∧ a.length ≤ p) ∧ nset b h = true ∧ b.length ≤ h)
      (xa_cons (P1 := fun d => ∃ L : List Int, d = tI L ∧ nset L p = true ∧ L.length ≤ p) (A1 := fun ds => ∃ L : List Int, ds = [tI L] ∧ nset L h = true ∧ L.length ≤ h)
        (x_callT (i := 0) (k := 101) (A := fun ds => ds = [.int (p : Int)]) (ok_l_some T) (hr.mono (by decide)) T.l_some.g T.l_some.F.kp T.l_some.b rfl (xa_pure (a_cons (d_ix 0 NT rfl (dv 1 rfl) dc_int) a_nil) rfl) (fun ds hd => ⟨p, hd, by omega⟩) (fun ds d hA hR => some_ok hA hR) (by omega))
        (xa_cons (P1 := fun d => ∃ L : List Int, d = tI L ∧ nset L h = true ∧ L.length ≤ h) (A1 := fun ds => ds = [])
          (x_callT (i := 0) (k := 101) (A := fun ds => ds = [.int (h : Int)]) (ok_l_some T) (hr.mono (by decide)) T.l_some.g T.l_some.F.kp T.l_some.b rfl (xa_pure (a_cons (d_ix 1 NT rfl (dv 1 rfl) dc_int) a_nil) rfl) (fun ds hd => ⟨h, hd, by omega⟩) (fun ds d hA hR => some_ok hA hR) (by omega))
          (xa_nil rfl) ?_) ?_) (fun ds hd => ?_)) (fun d hd => ?_) (Nat.le_refl _)) ?_
    · rintro d ds ⟨L, rfl, g⟩ rfl
      exact ⟨L, rfl, g⟩
    · rintro d ds ⟨a, rfl, g⟩ ⟨b, rfl, g3⟩
      exact ⟨a, b, rfl, g, g3⟩
    · obtain ⟨a, b, rfl, _⟩ := hd
      show 2 ≤ sizeLine
      decide
    · obtain ⟨ds, rfl, a, b, rfl, g⟩ := hd
      exact ⟨a, b, rfl, g⟩
    rintro d ⟨a, b, rfl, ⟨hna, hla⟩, hnb, hlb⟩
    have nb : NB p h a b := ⟨hp8, by omega, hna, hnb, by omega, by omega⟩
    refine b_ifX (k := false) (m1 := m + 1 + 1 + 101 + 101 + 2) (PW.pt (xt_or (t_is (t_not (t_val (d_call (ok_l_spots_right T) hr T.l_spots_right.g T.l_spots_right.F.kp T.l_spots_right.b (a_cons (dv 1 rfl) (a_cons (dv 2 rfl) a_nil)) ⟨p, h, a, b, rfl, nb, rfl⟩))) rfl) (pw_or1 (xt_not (k := true) (xt_val (x_callT (i := 0) (k := 2) (A := fun ds => ds = [.tuple (nt p h), .tuple [tI a, tI b]]) (ok_l_routes_right T) hr T.l_routes_right.g T.l_routes_right.F.kp T.l_routes_right.b rfl (xa_pure (a_cons (dv 1 rfl) (a_cons (dv 2 rfl) a_nil)) rfl) (fun ds hd => ⟨p, h, a, b, hd, nb, hh1, hh5⟩) (fun ds d hA hR => hR) (by omega))))))) (fun hk => absurd hk Bool.false_ne_true) fun _ => ?_
    refine b_retX (m1 := m + 1 + 1 + 101 + 101 + 2 + 3 * 500) (x_callB (A := fun ds => ∃ es, ds = [.list es] ∧ ∀ z ∈ es, z = .bool true) (cr_all rfl) (fun ds hd => ?_) T.z_all (xa_cons (P1 := isLs 3 fun z => z = .bool true) (A1 := fun ds => ds = [])
      (x_lcr (j := 3) (k := 500) (K := 3) (m1 := m + 1 + 1 + 101 + 101 + 2) (P := fun z => z = .bool true) (ix_rg (by omega) T.z_range (x_pure dc_int ⟨3, rfl, by decide⟩)) (blkOk_by (N := ["_law_tin", "_law_net_so", "_law_bad_so", "_law_lap"]) (sc := defScope s_l_right) (by decide +kernel)) (fun _ _ _ _ _ => pg_name (i := 3) nd rfl (by first | exact Or.inl rfl | exact Or.inr rfl))
        (fun _ _ _ _ _ mm i hmm => x_callT (i := 0) (k := 500) (A := fun ds => ds = [.tuple (nt p h)]) (ok_l_safe_right T) hr T.l_safe_right.g T.l_safe_right.F.kp T.l_safe_right.b rfl (xa_pure (a_cons (dv 1 rfl) a_nil) rfl) (fun ds hd => ⟨p, h, hd, hh1, by omega⟩) (fun ds d hA hR => hR) (by omega)) (by decide) nd) (xa_nil rfl) (fun d ds ⟨es, e1, _, e2⟩ e3 => ⟨es, by rw [e1, e3], e2⟩))) (by omega)
    obtain ⟨es, rfl, he⟩ := hd
    have e := b_all he
    refine ⟨.bool (es.all fun _ => true), ?_, ?_⟩
    · have c := c_allM (K := K) (L := es) (g := fun _ => true)
      rw [← e] at c
      exact c
    · show PyData.bool _ = .bool true
      rw [List.all_eq_true.mpr fun _ _ => rfl]
/-! ### the law -/
def spLaw (K : PySem.W.Frag) : Sp := fun vs H Q _ => ∃ (a : Addr) (sc : List Int), vs = [.ref a] ∧ SqL K H a (sc.map V.int) ∧ ∀ H', Q (.bl true) H'
theorem box_ok {z : Int} {t : Addr} {H : Hp} {xs : List V} (h : H t = some (.lst xs)) (r : ∃ N, Rp (hide N H) (.ref t) (boxD z)) : BoxOk t H 0 := by
  obtain ⟨N, r⟩ := r
  unfold boxD at r
  cases r with
  | lst h1 h2 =>
    have e : xs = _ := HO.lst.inj (Option.some.inj (h.symm.trans (hide_some.mp h1).2))
    subst e
    have e2 := Rps.ints (ns := [absI z * (if decide (absI z ≥ 10 ^ (18 : Int).toNat) = true then 1 else 0), z % 2305843009213693951 + 39373 * 0 + 9951, 0]) h2
    have g1 := Int.emod_nonneg z (show (2305843009213693951 : Int) ≠ 0 by decide)
    have g2 := Int.emod_lt_of_pos z (show (0 : Int) < 2305843009213693951 by decide)
    refine ⟨_, _, _, by rw [h, e2]; rfl, ?_, by omega, by omega, by decide, by decide⟩
    have := absI_nn z
    split
    · omega
    · omega
theorem ok_law (T : Tx K mg) : FnOk P w K mg base CX0 8 T.law.f T.law.fd ["_law_script"] (spLaw K) := by
  refine T.law.F.ok sc_law (fun vs H Q E h => ?_) (fun cdv A outer s H vs Q E hr h => ?_)
  · obtain ⟨a, sc, rfl, _⟩ := h
    rfl
  · obtain ⟨a, sc, rfl, hs, q⟩ := h
    have nd := sc_law.nd
    refine ⟨_, pss_one (ps_ret (pe_and (pe_call0 (ok_l_by_hand_right T) (hr.mono (by decide)) rfl T.l_by_hand_right.g T.l_by_hand_right.F.kp T.l_by_hand_right.b .nil (E := E0) pass0)
      (pe_one (pe_call (ok_l_right T) hr rfl T.l_right.g T.l_right.F.kp T.l_right.b .nil (E := E0) pass0 (pa_cons (pe_call (ok_l_box T) (hr.mono (by decide)) rfl T.l_box.g T.l_box.F.kp T.l_box.b .nil (E := E0) pass0 (pa_cons (pe_call (ok_l_cells T) (hr.mono (by decide)) rfl T.l_cells.g T.l_cells.F.kp T.l_cells.b .nil (E := E0) pass0 (pa_cons (pe_var (i := 0) rfl (Or.inl rfl)) (pa_cons pe_int pa_nil))) (pa_cons pe_int pa_nil))) pa_nil))))), ?_⟩
    refine ⟨[], [], .bool true, (fun _ h => (by cases h)), .nil, ⟨rfl, rfl⟩, fun v H1 e1 r1 => ?_⟩
    cases r1
    refine ⟨true, rfl, ?_⟩
    rw [if_pos rfl]
    refine ⟨.ref a, rfl, a, sc, rfl, e1.seq hs, fun v H2 e2 r2 => ⟨[], [.list [.int (cAt (hd0 sc) (mid sc) (mid sc).length)], .int 0], boxD _, (fun _ h => (by cases h)), .cons r2 (.cons (.int 0) .nil), ⟨_, rfl, rfl⟩, fun v H3 e3 rv => ?_⟩⟩
    have rv' := rv
    unfold boxD at rv'
    cases rv' with
    | lst h1 h2 =>
      rename_i t xs
      have ht := (hide_some.mp h1).2
      refine ⟨[t], t, [], [], 0, fun a ha => ?_, List.mem_singleton.mpr rfl, rfl, .nil, box_ok ht ⟨[], rv⟩, by decide, rfl, fun v d H3 hR _ _ r3 => ?_⟩
      · rw [List.mem_singleton.mp ha, ht]
        exact fun z => nomatch z
      · rw [show d = .bool true from hR] at r3
        cases r3
        exact q H3
end
end DL
namespace DL
open PySem PySem.Spec PyProof.Rows L2
/-! ### what the top has written -/
theorem df_mk {K : PySem.W.Frag} {h : Heap} {mg : Str → Option Value} {x : Str} {st : Stmt} {ps : List Str} {f : Addr} {od an : Option Addr} {sl : Array (Option Value)} {oc kV dc pm cd ct : Value} (X : K.In h) (G : h.Ns mainGlobals mg)
    (b : ∀ (kV dc pm : Value) (an : Option Addr) (cd ct : Value), ∀ us : List Value, us.length = ps.length → bindArgs (PySem.W.fnOf x x (defArgs st) (defBody st) (defScope st) .none kV dc pm an cd ct) ⟨us, []⟩ = pure (ps.zip us))
    (a : PySem.W.nsIn K mainGlobals x = some (some (.ref f))) (l : K.lookup f = some ⟨oc, od, .func (PySem.W.fnOf x x (defArgs st) (defBody st) (defScope st) .none kV dc pm an cd ct), sl⟩) (c : PySem.W.codeIn K cd x = true) (k : PySem.W.keepIn K (.ref f) = true) : Nonempty (Df K mg x st ps) :=
  ⟨⟨f, _, fun_mk (st := st) l c k, PySem.W.mg_of X G a, (fun_mk (st := st) l c k).binds b⟩⟩
/-- the class of the one error that is caught -/
structure Cf (K : PySem.W.Frag) (mg : Str → Option Value) where
  C : Addr
  gC : mg "NoPaper" = some (.ref C)
  kC : PySem.W.keepIn K (.ref C) = true
  xC : PySem.W.excIn K C [.type "ValueError", .type "Exception", .type "BaseException", .type "object"] "ValueError.__new__" = true
  bC : PySem.W.subIn K (.ref C) (.type "BaseException") = some true
  tC : PySem.W.typeIn K (.ref C) = some (.type "type")
  iC : PySem.W.isClsIn K C = true
  sC : PySem.W.subIn K (.ref C) (.ref C) = some true
  vC : PySem.W.kitOne K (.ref C) (.type "ValueError") = some true
  eC : ExcC K C
theorem kit_ve {K : PySem.W.Frag} {C : Addr} (h : PySem.W.subIn K (.ref C) (.type "ValueError") = some true) : PySem.W.kitOne K (.ref C) (.type "ValueError") = some true := by
  show (if (Value.ref C == Value.type "ValueError") = true then some true else (if PySem.W.kitMeta "ValueError" = true then PySem.W.subIn K (.ref C) (.type "ValueError") else none)) = some true
  rw [if_neg (show ¬ ((Value.ref C == Value.type "ValueError") = true) from fun z => nomatch (beq_iff_eq.mp z)), if_pos (show PySem.W.kitMeta "ValueError" = true by decide +kernel)]
  exact h
theorem cf_mk {K : PySem.W.Frag} {h : Heap} {mg : Str → Option Value} {C : Addr} (X : K.In h) (G : h.Ns mainGlobals mg) (aC : PySem.W.nsIn K mainGlobals "NoPaper" = some (some (.ref C))) (kC : PySem.W.keepIn K (.ref C) = true)
    (xC : PySem.W.excIn K C [.type "ValueError", .type "Exception", .type "BaseException", .type "object"] "ValueError.__new__" = true) (bC : PySem.W.subIn K (.ref C) (.type "BaseException") = some true) (tC : PySem.W.typeIn K (.ref C) = some (.type "type")) (iC : PySem.W.isClsIn K C = true)
    (sC : PySem.W.subIn K (.ref C) (.ref C) = some true) (vS : PySem.W.subIn K (.ref C) (.type "ValueError") = some true) (e1 : PySem.W.findIn K (.ref C) "__getattribute__" = some (some (.builtin "BaseException.__getattribute__"))) (e2 : PySem.W.findIn K (.ref C) "__getattr__" = some none) (e4 : PySem.W.hasDictIn K C = true)
    (e5 : PySem.W.findIn K (.ref C) "__class__" = some (some (.builtin "object.__class__"))) (e6 : PySem.W.specialIn K (.builtin "object.__class__") "__get__" = some (some (.builtin "getset_descriptor.__get__"))) (e7 : PySem.W.takesIn K (.builtin "object.__class__") = some true) (e8 : PySem.W.mroIn K C (.type "object") = some true) : Nonempty (Cf K mg) :=
  ⟨⟨C, PySem.W.mg_of X G aC, kC, xC, bC, tC, iC, sC, kit_ve vS, ⟨e1, e2, bC, e4, e5, e6, e7, e8⟩⟩⟩
theorem fin {l : PySem.W.OpenLaw} {w : World} {K : PySem.W.Frag} {mg : Str → Option Value} {fa : Addr} (T : Tx K mg) (hfa : mg "law" = some (.ref fa)) :
    ∃ fd : FuncData, (∀ (s : Shared) (v : Value), BindsTo s fd ⟨[v], []⟩ [("_law_script", v)]) ∧ ∀ base : Heap, K.In base → base.Ns mainGlobals mg → FnOk l.prog w K mg base CX0 8 fa fd ["_law_script"] (spLaw K) := by
  have e : fa = T.law.f := Value.ref.inj (Option.some.inj (hfa.symm.trans T.law.g))
  subst e
  refine ⟨T.law.fd, fun s v => ?_, fun base _ _ => ok_law T⟩
  obtain ⟨oc, od, kV, doc, pm, an, cdv, ct, osl, e, lk, hcd⟩ := T.law.F.ex
  rw [e]
  exact .of_eq rfl
end DL
open PySem PySem.W PyProof.Rows
set_option maxRecDepth 100000 in
set_option maxHeartbeats 0 in
theorem PySem.Challenge.cw_sendershade_k03_whole_nets_and_hidden_ro_holds : PySem.Challenge.rw_sendershade_k03_whole_nets_and_hidden_ro.Holds := by
  w_on; o_law; k_head; (case hw => w_witness2)
  k_fill
  refine L2.walk_ofK (l := PySem.Challenge.rw_sendershade_k03_whole_nets_and_hidden_ro) (n := 63) (k := 8) (x := "_law_script") (CX := L2.CX0) (sp := DL.spLaw) rfl (by decide) rfl ⟨rfl, by decide, by decide⟩ (fun w h Y => PySem.W.kIn_of Y) ?F (fun _ _ a ns hl _ hS => ⟨a, ns, rfl, hS, fun _ => rfl⟩) (fun _ _ _ _ z => z)
  case F =>
    intro w mg fa h KX G hmg
    obtain ⟨d_is_number⟩ : Nonempty (DL.Df _ mg "is_number" DL.s_is_number ["thing"]) := by
      refine' DL.df_mk KX G (fun _ _ _ _ _ _ us hl => match us, hl with | [_], _ => rfl) ?a ?l ?c ?k
      (case a => k_is); (case l => k_is); (case c => k_is); (case k => k_is)
    obtain ⟨d_is_count⟩ : Nonempty (DL.Df _ mg "is_count" DL.s_is_count ["thing"]) := by
      refine' DL.df_mk KX G (fun _ _ _ _ _ _ us hl => match us, hl with | [_], _ => rfl) ?a ?l ?c ?k
      (case a => k_is); (case l => k_is); (case c => k_is); (case k => k_is)
    obtain ⟨d_is_below⟩ : Nonempty (DL.Df _ mg "is_below" DL.s_is_below ["thing", "many"]) := by
      refine' DL.df_mk KX G (fun _ _ _ _ _ _ us hl => match us, hl with | [_, _], _ => rfl) ?a ?l ?c ?k
      (case a => k_is); (case l => k_is); (case c => k_is); (case k => k_is)
    obtain ⟨d_is_tuple_of⟩ : Nonempty (DL.Df _ mg "is_tuple_of" DL.s_is_tuple_of ["thing", "size"]) := by
      refine' DL.df_mk KX G (fun _ _ _ _ _ _ us hl => match us, hl with | [_, _], _ => rfl) ?a ?l ?c ?k
      (case a => k_is); (case l => k_is); (case c => k_is); (case k => k_is)
    obtain ⟨d_ascends⟩ : Nonempty (DL.Df _ mg "ascends" DL.s_ascends ["thing"]) := by
      refine' DL.df_mk KX G (fun _ _ _ _ _ _ us hl => match us, hl with | [_], _ => rfl) ?a ?l ?c ?k
      (case a => k_is); (case l => k_is); (case c => k_is); (case k => k_is)
    obtain ⟨d_is_number_set⟩ : Nonempty (DL.Df _ mg "is_number_set" DL.s_is_number_set ["thing", "many"]) := by
      refine' DL.df_mk KX G (fun _ _ _ _ _ _ us hl => match us, hl with | [_, _], _ => rfl) ?a ?l ?c ?k
      (case a => k_is); (case l => k_is); (case c => k_is); (case k => k_is)
    obtain ⟨d_is_rest⟩ : Nonempty (DL.Df _ mg "is_rest" DL.s_is_rest ["net", "thing"]) := by
      refine' DL.df_mk KX G (fun _ _ _ _ _ _ us hl => match us, hl with | [_, _], _ => rfl) ?a ?l ?c ?k
      (case a => k_is); (case l => k_is); (case c => k_is); (case k => k_is)
    obtain ⟨d_is_spot⟩ : Nonempty (DL.Df _ mg "is_spot" DL.s_is_spot ["net", "thing"]) := by
      refine' DL.df_mk KX G (fun _ _ _ _ _ _ us hl => match us, hl with | [_, _], _ => rfl) ?a ?l ?c ?k
      (case a => k_is); (case l => k_is); (case c => k_is); (case k => k_is)
    obtain ⟨d_all_spots⟩ : Nonempty (DL.Df _ mg "all_spots" DL.s_all_spots ["net"]) := by
      refine' DL.df_mk KX G (fun _ _ _ _ _ _ us hl => match us, hl with | [_], _ => rfl) ?a ?l ?c ?k
      (case a => k_is); (case l => k_is); (case c => k_is); (case k => k_is)
    obtain ⟨d_is_steady⟩ : Nonempty (DL.Df _ mg "is_steady" DL.s_is_steady ["rest", "spot"]) := by
      refine' DL.df_mk KX G (fun _ _ _ _ _ _ us hl => match us, hl with | [_, _], _ => rfl) ?a ?l ?c ?k
      (case a => k_is); (case l => k_is); (case c => k_is); (case k => k_is)
    obtain ⟨d_steady_people⟩ : Nonempty (DL.Df _ mg "steady_people" DL.s_steady_people ["net", "rest"]) := by
      refine' DL.df_mk KX G (fun _ _ _ _ _ _ us hl => match us, hl with | [_, _], _ => rfl) ?a ?l ?c ?k
      (case a => k_is); (case l => k_is); (case c => k_is); (case k => k_is)
    obtain ⟨d_steady_houses⟩ : Nonempty (DL.Df _ mg "steady_houses" DL.s_steady_houses ["net", "rest"]) := by
      refine' DL.df_mk KX G (fun _ _ _ _ _ _ us hl => match us, hl with | [_, _], _ => rfl) ?a ?l ?c ?k
      (case a => k_is); (case l => k_is); (case c => k_is); (case k => k_is)
    obtain ⟨d_all_routes⟩ : Nonempty (DL.Df _ mg "all_routes" DL.s_all_routes ["net"]) := by
      refine' DL.df_mk KX G (fun _ _ _ _ _ _ us hl => match us, hl with | [_], _ => rfl) ?a ?l ?c ?k
      (case a => k_is); (case l => k_is); (case c => k_is); (case k => k_is)
    obtain ⟨d_is_hidden_from⟩ : Nonempty (DL.Df _ mg "is_hidden_from" DL.s_is_hidden_from ["houses", "route"]) := by
      refine' DL.df_mk KX G (fun _ _ _ _ _ _ us hl => match us, hl with | [_, _], _ => rfl) ?a ?l ?c ?k
      (case a => k_is); (case l => k_is); (case c => k_is); (case k => k_is)
    obtain ⟨d_hidden_route⟩ : Nonempty (DL.Df _ mg "hidden_route" DL.s_hidden_route ["rest", "route"]) := by
      refine' DL.df_mk KX G (fun _ _ _ _ _ _ us hl => match us, hl with | [_, _], _ => rfl) ?a ?l ?c ?k
      (case a => k_is); (case l => k_is); (case c => k_is); (case k => k_is)
    obtain ⟨d_first_steady⟩ : Nonempty (DL.Df _ mg "first_steady" DL.s_first_steady ["rest", "route"]) := by
      refine' DL.df_mk KX G (fun _ _ _ _ _ _ us hl => match us, hl with | [_, _], _ => rfl) ?a ?l ?c ?k
      (case a => k_is); (case l => k_is); (case c => k_is); (case k => k_is)
    obtain ⟨d_routes_hidden⟩ : Nonempty (DL.Df _ mg "routes_hidden" DL.s_routes_hidden ["net", "rest"]) := by
      refine' DL.df_mk KX G (fun _ _ _ _ _ _ us hl => match us, hl with | [_, _], _ => rfl) ?a ?l ?c ?k
      (case a => k_is); (case l => k_is); (case c => k_is); (case k => k_is)
    obtain ⟨d_part_hidden⟩ : Nonempty (DL.Df _ mg "part_hidden" DL.s_part_hidden ["net", "many"]) := by
      refine' DL.df_mk KX G (fun _ _ _ _ _ _ us hl => match us, hl with | [_, _], _ => rfl) ?a ?l ?c ?k
      (case a => k_is); (case l => k_is); (case c => k_is); (case k => k_is)
    obtain ⟨d_least_route⟩ : Nonempty (DL.Df _ mg "least_route" DL.s_least_route ["net", "many"]) := by
      refine' DL.df_mk KX G (fun _ _ _ _ _ _ us hl => match us, hl with | [_, _], _ => rfl) ?a ?l ?c ?k
      (case a => k_is); (case l => k_is); (case c => k_is); (case k => k_is)
    obtain ⟨d_safe_routes⟩ : Nonempty (DL.Df _ mg "safe_routes" DL.s_safe_routes ["net", "lots"]) := by
      refine' DL.df_mk KX G (fun _ _ _ _ _ _ us hl => match us, hl with | [_, _], _ => rfl) ?a ?l ?c ?k
      (case a => k_is); (case l => k_is); (case c => k_is); (case k => k_is)
    obtain ⟨d_shortest_safe⟩ : Nonempty (DL.Df _ mg "shortest_safe" DL.s_shortest_safe ["net", "lots"]) := by
      refine' DL.df_mk KX G (fun _ _ _ _ _ _ us hl => match us, hl with | [_, _], _ => rfl) ?a ?l ?c ?k
      (case a => k_is); (case l => k_is); (case c => k_is); (case k => k_is)
    obtain ⟨d_fraction⟩ : Nonempty (DL.Df _ mg "fraction" DL.s_fraction ["above", "below"]) := by
      refine' DL.df_mk KX G (fun _ _ _ _ _ _ us hl => match us, hl with | [_, _], _ => rfl) ?a ?l ?c ?k
      (case a => k_is); (case l => k_is); (case c => k_is); (case k => k_is)
    obtain ⟨d_l_box⟩ : Nonempty (DL.Df _ mg "_law_box" DL.s_l_box ["_law_script", "_law_k"]) := by
      refine' DL.df_mk KX G (fun _ _ _ _ _ _ us hl => match us, hl with | [_, _], _ => rfl) ?a ?l ?c ?k
      (case a => k_is); (case l => k_is); (case c => k_is); (case k => k_is)
    obtain ⟨d_l_take⟩ : Nonempty (DL.Df _ mg "_law_take" DL.s_l_take ["_law_tin", "_law_below_so"]) := by
      refine' DL.df_mk KX G (fun _ _ _ _ _ _ us hl => match us, hl with | [_, _], _ => rfl) ?a ?l ?c ?k
      (case a => k_is); (case l => k_is); (case c => k_is); (case k => k_is)
    obtain ⟨d_l_cells⟩ : Nonempty (DL.Df _ mg "_law_cells" DL.s_l_cells ["_law_script", "_law_most_so"]) := by
      refine' DL.df_mk KX G (fun _ _ _ _ _ _ us hl => match us, hl with | [_, _], _ => rfl) ?a ?l ?c ?k
      (case a => k_is); (case l => k_is); (case c => k_is); (case k => k_is)
    obtain ⟨d_l_pick⟩ : Nonempty (DL.Df _ mg "_law_pick" DL.s_l_pick ["_law_tin", "_law_goods_so", "_law_count_so"]) := by
      refine' DL.df_mk KX G (fun _ _ _ _ _ _ us hl => match us, hl with | [_, _, _], _ => rfl) ?a ?l ?c ?k
      (case a => k_is); (case l => k_is); (case c => k_is); (case k => k_is)
    obtain ⟨d_l_lists⟩ : Nonempty (DL.Df _ mg "_law_lists" DL.s_l_lists ["_law_matter"]) := by
      refine' DL.df_mk KX G (fun _ _ _ _ _ _ us hl => match us, hl with | [_], _ => rfl) ?a ?l ?c ?k
      (case a => k_is); (case l => k_is); (case c => k_is); (case k => k_is)
    obtain ⟨d_l_same⟩ : Nonempty (DL.Df _ mg "_law_same" DL.s_l_same ["_law_got", "_law_due"]) := by
      refine' DL.df_mk KX G (fun _ _ _ _ _ _ us hl => match us, hl with | [_, _], _ => rfl) ?a ?l ?c ?k
      (case a => k_is); (case l => k_is); (case c => k_is); (case k => k_is)
    obtain ⟨d_l_subsets⟩ : Nonempty (DL.Df _ mg "_law_subsets" DL.s_l_subsets ["_law_things_so"]) := by
      refine' DL.df_mk KX G (fun _ _ _ _ _ _ us hl => match us, hl with | [_], _ => rfl) ?a ?l ?c ?k
      (case a => k_is); (case l => k_is); (case c => k_is); (case k => k_is)
    obtain ⟨d_l_fraction⟩ : Nonempty (DL.Df _ mg "_law_fraction" DL.s_l_fraction ["_law_above_so", "_law_below_so"]) := by
      refine' DL.df_mk KX G (fun _ _ _ _ _ _ us hl => match us, hl with | [_, _], _ => rfl) ?a ?l ?c ?k
      (case a => k_is); (case l => k_is); (case c => k_is); (case k => k_is)
    obtain ⟨d_l_shortest⟩ : Nonempty (DL.Df _ mg "_law_shortest" DL.s_l_shortest ["_law_net_so", "_law_lots_so"]) := by
      refine' DL.df_mk KX G (fun _ _ _ _ _ _ us hl => match us, hl with | [_, _], _ => rfl) ?a ?l ?c ?k
      (case a => k_is); (case l => k_is); (case c => k_is); (case k => k_is)
    obtain ⟨d_l_hides⟩ : Nonempty (DL.Df _ mg "_law_hides" DL.s_l_hides ["_law_route_so", "_law_houses_so"]) := by
      refine' DL.df_mk KX G (fun _ _ _ _ _ _ us hl => match us, hl with | [_, _], _ => rfl) ?a ?l ?c ?k
      (case a => k_is); (case l => k_is); (case c => k_is); (case k => k_is)
    obtain ⟨d_l_some⟩ : Nonempty (DL.Df _ mg "_law_some" DL.s_l_some ["_law_tin", "_law_below_so"]) := by
      refine' DL.df_mk KX G (fun _ _ _ _ _ _ us hl => match us, hl with | [_, _], _ => rfl) ?a ?l ?c ?k
      (case a => k_is); (case l => k_is); (case c => k_is); (case k => k_is)
    obtain ⟨d_l_spots_right⟩ : Nonempty (DL.Df _ mg "_law_spots_right" DL.s_l_spots_right ["_law_net_so", "_law_bad_so"]) := by
      refine' DL.df_mk KX G (fun _ _ _ _ _ _ us hl => match us, hl with | [_, _], _ => rfl) ?a ?l ?c ?k
      (case a => k_is); (case l => k_is); (case c => k_is); (case k => k_is)
    obtain ⟨d_l_routes_right⟩ : Nonempty (DL.Df _ mg "_law_routes_right" DL.s_l_routes_right ["_law_tin", "_law_net_so", "_law_bad_so"]) := by
      refine' DL.df_mk KX G (fun _ _ _ _ _ _ us hl => match us, hl with | [_, _, _], _ => rfl) ?a ?l ?c ?k
      (case a => k_is); (case l => k_is); (case c => k_is); (case k => k_is)
    obtain ⟨d_l_safe_right⟩ : Nonempty (DL.Df _ mg "_law_safe_right" DL.s_l_safe_right ["_law_tin", "_law_net_so"]) := by
      refine' DL.df_mk KX G (fun _ _ _ _ _ _ us hl => match us, hl with | [_, _], _ => rfl) ?a ?l ?c ?k
      (case a => k_is); (case l => k_is); (case c => k_is); (case k => k_is)
    obtain ⟨d_l_by_hand_right⟩ : Nonempty (DL.Df _ mg "_law_by_hand_right" DL.s_l_by_hand_right []) := by
      refine' DL.df_mk KX G (fun _ _ _ _ _ _ us hl => match us, hl with | [], _ => rfl) ?a ?l ?c ?k
      (case a => k_is); (case l => k_is); (case c => k_is); (case k => k_is)
    obtain ⟨d_l_right⟩ : Nonempty (DL.Df _ mg "_law_right" DL.s_l_right ["_law_tin"]) := by
      refine' DL.df_mk KX G (fun _ _ _ _ _ _ us hl => match us, hl with | [_], _ => rfl) ?a ?l ?c ?k
      (case a => k_is); (case l => k_is); (case c => k_is); (case k => k_is)
    obtain ⟨d_law⟩ : Nonempty (DL.Df _ mg "law" DL.s_law ["_law_script"]) := by
      refine' DL.df_mk KX G (fun _ _ _ _ _ _ us hl => match us, hl with | [_], _ => rfl) ?a ?l ?c ?k
      (case a => k_is); (case l => k_is); (case c => k_is); (case k => k_is)
    have z_ValueError : mg "ValueError" = none := PySem.W.mg_none_of KX G (by k_is)
    have z_abs : mg "abs" = none := PySem.W.mg_none_of KX G (by k_is)
    have z_all : mg "all" = none := PySem.W.mg_none_of KX G (by k_is)
    have z_any : mg "any" = none := PySem.W.mg_none_of KX G (by k_is)
    have z_bool : mg "bool" = none := PySem.W.mg_none_of KX G (by k_is)
    have z_enumerate : mg "enumerate" = none := PySem.W.mg_none_of KX G (by k_is)
    have z_int : mg "int" = none := PySem.W.mg_none_of KX G (by k_is)
    have z_isinstance : mg "isinstance" = none := PySem.W.mg_none_of KX G (by k_is)
    have z_len : mg "len" = none := PySem.W.mg_none_of KX G (by k_is)
    have z_list : mg "list" = none := PySem.W.mg_none_of KX G (by k_is)
    have z_min : mg "min" = none := PySem.W.mg_none_of KX G (by k_is)
    have z_range : mg "range" = none := PySem.W.mg_none_of KX G (by k_is)
    have z_set : mg "set" = none := PySem.W.mg_none_of KX G (by k_is)
    have z_sorted : mg "sorted" = none := PySem.W.mg_none_of KX G (by k_is)
    have z_str : mg "str" = none := PySem.W.mg_none_of KX G (by k_is)
    have z_tuple : mg "tuple" = none := PySem.W.mg_none_of KX G (by k_is)
    have z_zip : mg "zip" = none := PySem.W.mg_none_of KX G (by k_is)
    have z_gcd : mg "gcd" = some (.builtin "math.gcd") := PySem.W.mg_of KX G (by k_is)
    obtain ⟨cf⟩ : Nonempty (DL.Cf _ mg) := by
      refine' DL.cf_mk KX G ?aC ?kC ?xC ?bC ?tC ?iC ?sC ?vS ?e1 ?e2 ?e4 ?e5 ?e6 ?e7 ?e8
      (case aC => k_is); (case kC => k_is); (case xC => k_exc); (case bC => k_is); (case tC => k_is); (case iC => k_is); (case sC => first | rfl | k_is); (case vS => k_is)
      (case e1 => k_is); (case e2 => k_is); (case e4 => k_is); (case e5 => k_is); (case e6 => k_is); (case e7 => k_is); (case e8 => k_is)
    exact DL.fin { is_number := d_is_number, is_count := d_is_count, is_below := d_is_below, is_tuple_of := d_is_tuple_of, ascends := d_ascends, is_number_set := d_is_number_set, is_rest := d_is_rest, is_spot := d_is_spot, all_spots := d_all_spots, is_steady := d_is_steady, steady_people := d_steady_people, steady_houses := d_steady_houses, all_routes := d_all_routes, is_hidden_from := d_is_hidden_from, hidden_route := d_hidden_route, first_steady := d_first_steady, routes_hidden := d_routes_hidden, part_hidden := d_part_hidden, least_route := d_least_route, safe_routes := d_safe_routes, shortest_safe := d_shortest_safe, fraction := d_fraction, l_box := d_l_box, l_take := d_l_take, l_cells := d_l_cells, l_pick := d_l_pick, l_lists := d_l_lists, l_same := d_l_same, l_subsets := d_l_subsets, l_fraction := d_l_fraction, l_shortest := d_l_shortest, l_hides := d_l_hides, l_some := d_l_some, l_spots_right := d_l_spots_right, l_routes_right := d_l_routes_right, l_safe_right := d_l_safe_right, l_by_hand_right := d_l_by_hand_right, l_right := d_l_right, law := d_law, z_ValueError := z_ValueError, z_abs := z_abs, z_all := z_all, z_any := z_any, z_bool := z_bool, z_enumerate := z_enumerate, z_int := z_int, z_isinstance := z_isinstance, z_len := z_len, z_list := z_list, z_min := z_min, z_range := z_range, z_set := z_set, z_sorted := z_sorted, z_str := z_str, z_tuple := z_tuple, z_zip := z_zip, gcd := z_gcd, C := cf.C, gC := cf.gC, kC := cf.kC, xC := cf.xC, bC := cf.bC, tC := cf.tC, iC := cf.iC, sC := cf.sC, vC := cf.vC, eC := cf.eC } hmg
#print axioms PySem.Challenge.cw_sendershade_k03_whole_nets_and_hidden_ro_holds
