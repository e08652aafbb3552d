import PyProof.Rows.All
import Wide.All
import OpenK.AllK
import Wide.FinOn
import HandS.ForMost
import HandS.Exc
import HandS.ExcOwn
import HandS.WordsExc
import HandS.TryOnly
import HandS.TryMany
import HandS.ExcIs
import HandS.IsInst
import HandS.StrMore
import HandS.Wide
import HandS.EndBits
import PySem.Challenge.RW_tailroad_k06_runs_begun
set_option Elab.async false
set_option linter.all false
set_option maxRecDepth 100000
set_option maxHeartbeats 4000000
/-! the layer Tr: slots that hold data; a def's reading without a heap -/
namespace Tr
open PySem L2
abbrev Frag := PySem.W.Frag

/-! ### paired lists -/
section
variable {α β : Type} {F G : α → β → Prop}
theorem pr_get : ∀ {xs : List α} {ys : List β} {i : Nat} {y : β}, Paired F xs ys → ys[i]? = some y → ∃ x, xs[i]? = some x ∧ F x y
  | _, _, _, _, .nil, e => by simp at e
  | _, _, 0, _, .cons r _, e => by simp at e; subst e; exact ⟨_, rfl, r⟩
  | _, _, i + 1, y, .cons _ t, e => by
    obtain ⟨u, h1, h2⟩ := pr_get (i := i) (y := y) t (by simpa using e)
    exact ⟨u, by simpa using h1, h2⟩
theorem pr_getl : ∀ {xs : List α} {ys : List β} {i : Nat} {x : α}, Paired F xs ys → xs[i]? = some x → ∃ y, ys[i]? = some y ∧ F x y
  | _, _, _, _, .nil, e => by simp at e
  | _, _, 0, _, .cons r _, e => by simp at e; subst e; exact ⟨_, rfl, r⟩
  | _, _, i + 1, y, .cons _ t, e => by
    obtain ⟨u, h1, h2⟩ := pr_getl (i := i) (x := y) t (by simpa using e)
    exact ⟨u, by simpa using h1, h2⟩
theorem pr_mono (h : ∀ a b, F a b → G a b) : ∀ {xs : List α} {ys : List β}, Paired F xs ys → Paired G xs ys
  | _, _, .nil => .nil
  | _, _, .cons r t => .cons (h _ _ r) (pr_mono h t)
theorem pr_app : ∀ {xs us : List α} {ys ws : List β}, Paired F xs ys → Paired F us ws → Paired F (xs ++ us) (ys ++ ws)
  | _, _, _, _, .nil, s => s
  | _, _, _, _, .cons r t, s => .cons r (pr_app t s)
theorem pr_take : ∀ {xs : List α} {ys : List β} (n : Nat), Paired F xs ys → Paired F (xs.take n) (ys.take n)
  | _, _, 0, _ => .nil
  | _, _, _ + 1, .nil => .nil
  | _, _, n + 1, .cons r t => .cons r (pr_take n t)
theorem pr_drop : ∀ {xs : List α} {ys : List β} (n : Nat), Paired F xs ys → Paired F (xs.drop n) (ys.drop n)
  | _, _, 0, r => r
  | _, _, _ + 1, .nil => .nil
  | _, _, n + 1, .cons _ t => pr_drop n t
theorem pr_set {x : α} {y : β} (r : F x y) : ∀ {xs : List α} {ys : List β} (i : Nat), Paired F xs ys → Paired F (xs.set i x) (ys.set i y)
  | _, _, _, .nil => .nil
  | _, _, 0, .cons _ t => .cons r t
  | _, _, i + 1, .cons q t => .cons q (pr_set r i t)
theorem pr_dropLast {xs : List α} {ys : List β} (h : Paired F xs ys) : Paired F xs.dropLast ys.dropLast := by
  rw [List.dropLast_eq_take, List.dropLast_eq_take, h.length]
  exact pr_take _ h
theorem pr_erase : ∀ {xs : List α} {ys : List β} (i : Nat), Paired F xs ys → Paired F (xs.eraseIdx i) (ys.eraseIdx i)
  | _, _, _, .nil => .nil
  | _, _, 0, .cons _ t => t
  | _, _, i + 1, .cons q t => .cons q (pr_erase i t)
theorem pr_of : ∀ {xs : List α} {ys : List β}, xs.length = ys.length → (∀ (i : Nat) (x : α) (y : β), xs[i]? = some x → ys[i]? = some y → F x y) → Paired F xs ys
  | [], [], _, _ => .nil
  | [], _ :: _, h, _ => by simp at h
  | _ :: _, [], h, _ => by simp at h
  | x :: xs, y :: ys, h, k => .cons (k 0 x y rfl rfl) (pr_of (by simpa using h) fun i a b ha hb => k (i + 1) a b (by simpa using ha) (by simpa using hb))
theorem pr_rep {xs : List α} {ys : List β} (h : Paired F xs ys) : ∀ k : Nat, Paired F (List.replicate k xs).flatten (List.replicate k ys).flatten
  | 0 => .nil
  | k + 1 => by
    rw [List.replicate_succ, List.replicate_succ, List.flatten_cons, List.flatten_cons]
    exact pr_app h (pr_rep h k)
end

/-! ### data -/
/-- the value v is the datum, by objects of F alone -/
inductive Dq (F : Hp) : V → PyData → Prop
  | non : Dq F .non .none
  | bl (b : Bool) : Dq F (.bl b) (.bool b)
  | int (i : Int) : Dq F (.int i) (.int i)
  | str (x : Str) : Dq F (.str x) (.str x)
  | lst {a : Addr} {vs : List V} {ds : List PyData} (h : F a = some (.lst vs)) (l : vs.length = ds.length) (k : ∀ (i : Nat) (v : V) (d : PyData), vs[i]? = some v → ds[i]? = some d → Dq F v d) : Dq F (.ref a) (.list ds)
  | tup {a : Addr} {vs : List V} {ds : List PyData} (h : F a = some (.tup vs)) (l : vs.length = ds.length) (k : ∀ (i : Nat) (v : V) (d : PyData), vs[i]? = some v → ds[i]? = some d → Dq F v d) : Dq F (.ref a) (.tuple ds)
abbrev DqA (F : Hp) : List V → List PyData → Prop := Paired (Dq F)
def Ex (H H' : Hp) : Prop := ∀ a o, H a = some o → H' a = some o
theorem Ex.refl (H : Hp) : Ex H H := fun _ _ h => h
theorem Ex.trans {H H1 H2 : Hp} (a : Ex H H1) (b : Ex H1 H2) : Ex H H2 := fun x o h => b x o (a x o h)
theorem Ex.new {H : Hp} {p : Addr} {o : HO} (h : H p = none) : Ex H (upd H p o) := fun a u e => by
  rw [upd_ne (ne_of_none e h)]
  exact e
theorem Ex.back {H H' : Hp} {p : Addr} (e : Ex H H') (h : H' p = none) : H p = none := by
  cases q : H p with
  | none => rfl
  | some o =>
    rw [e p o q] at h
    cases h
section
variable {F F' H : Hp} {v : V} {vs : List V} {d : PyData} {ds : List PyData} {K : Frag} {a : Addr}
theorem Dq.mono (e : Ex F F') (h : Dq F v d) : Dq F' v d := by
  induction h with
  | non => exact .non
  | bl b => exact .bl b
  | int i => exact .int i
  | str x => exact .str x
  | lst h l _ ih => exact .lst (e _ _ h) l ih
  | tup h l _ ih => exact .tup (e _ _ h) l ih
theorem DqA.mono (e : Ex F F') (h : DqA F vs ds) : DqA F' vs ds := pr_mono (fun _ _ => Dq.mono e) h
theorem Dq.list (h : F a = some (.lst vs)) (k : DqA F vs ds) : Dq F (.ref a) (.list ds) := .lst h k.length fun i v d hv hd => by
  obtain ⟨x, hx, r⟩ := pr_get k hd
  rw [hv] at hx
  cases hx
  exact r
theorem Dq.tuple (h : F a = some (.tup vs)) (k : DqA F vs ds) : Dq F (.ref a) (.tuple ds) := .tup h k.length fun i v d hv hd => by
  obtain ⟨x, hx, r⟩ := pr_get k hd
  rw [hv] at hx
  cases hx
  exact r
theorem Dq.inl (h : Dq F v (.list ds)) : ∃ a vs, v = .ref a ∧ F a = some (.lst vs) ∧ DqA F vs ds := by
  cases h with
  | lst h l k => exact ⟨_, _, rfl, h, pr_of l k⟩
theorem Dq.int_ {i : Int} (h : Dq F v (.int i)) : v = .int i := by
  cases h with
  | int _ => rfl
theorem Dq.str_ {x : Str} (h : Dq F v (.str x)) : v = .str x := by
  cases h with
  | str _ => rfl
theorem Dq.bl_ {b : Bool} (h : Dq F v (.bool b)) : v = .bl b := by
  cases h with
  | bl _ => rfl
theorem Dq.non_ (h : Dq F v .none) : v = .non := by
  cases h with
  | non => rfl
theorem Dq.int_tup (h : Dq F v (.tuple ds)) : ∃ a vs, v = .ref a ∧ F a = some (.tup vs) ∧ DqA F vs ds := by
  cases h with
  | tup h l k => exact ⟨_, _, rfl, h, pr_of l k⟩
theorem dpAll_of : ∀ {ds : List PyData} {vs : List V}, vs.length = ds.length → (∀ (i : Nat) (v : V) (d : PyData), vs[i]? = some v → ds[i]? = some d → Dp K F v d) → DpAll K F vs ds
  | [], [], _, _ => .nil
  | [], _ :: _, h, _ => by simp at h
  | _ :: _, [], h, _ => by simp at h
  | d :: ds, v :: vs, h, k => .cons (k 0 v d rfl rfl) (dpAll_of (by simpa using h) fun i a b ha hb => k (i + 1) a b (by simpa using ha) (by simpa using hb))
theorem Dq.dp (h : Dq F v d) : Dp K F v d := by
  induction h with
  | non => exact .non
  | bl b => exact .bl b
  | int i => exact .int i
  | str x => exact .str x
  | lst h l _ ih => exact .lst (SqL.of h) (dpAll_of l ih)
  | tup h l _ ih => exact .tup (SqT.of h) (dpAll_of l ih)
end

/-! ### slots -/
/-- what is known of a slot: nothing; a datum; a list of this def's own; a list of the caller's that is changed here; the script; a value as it is -/
inductive Sl where
  | no | d (x : PyData) | own (xs : List PyData) | ref (xs : List PyData) | sc (ns : List Int) | v (u : V)
abbrev En := List Sl
def Sl.mut : Sl → Bool
  | .own _ => true
  | .ref _ => true
  | _ => false
def Sl.isRef : Sl → Bool
  | .ref _ => true
  | _ => false
/-- a list that may change: none of F's, none of B's -/
def MutL (B F H : Hp) (o : Option V) (xs : List PyData) : Prop := ∃ a vs, o = some (.ref a) ∧ F a = none ∧ B a = none ∧ H a = some (.lst vs) ∧ DqA F vs xs
def SlOk (K : Frag) (B F H : Hp) (o : Option V) : Sl → Prop
  | .no => True
  | .d x => ∃ v, o = some v ∧ Dq F v x
  | .own xs => MutL B F H o xs
  | .ref xs => MutL B F H o xs
  | .sc ns => ∃ a, o = some (.ref a) ∧ SqL K F a (ns.map V.int)
  | .v u => o = some u
/-- F: what stands for good; B: what belongs to others; H: all -/
structure Ok (K : Frag) (B F H : Hp) (σ : St) (Δ : En) : Prop where
  fh : Ex F H
  bh : Ex B H
  bf : ∀ a, B a ≠ none → F a = none
  len : σ.length = Δ.length
  sl : ∀ (i : Nat) (s : Sl), Δ[i]? = some s → ∃ o, σ[i]? = some o ∧ SlOk K B F H o s
  nd : ∀ (i j : Nat) (s t : Sl) (a : Addr), Δ[i]? = some s → Δ[j]? = some t → s.mut = true → t.mut = true → σ[i]? = some (some (.ref a)) → σ[j]? = some (some (.ref a)) → i = j
/-- what an expression comes to: a datum; a list made there; a slot's own value; the script -/
inductive Tm where
  | d (x : PyData) | l (xs : List PyData)
inductive R where
  | d (x : PyData) | nl (xs : List PyData) | sl (i : Nat) | nt (i j : Tm)
def NotMut (σ : St) (Δ : En) (a : Addr) : Prop := ∀ (i : Nat) (s : Sl), Δ[i]? = some s → s.mut = true → σ[i]? ≠ some (some (.ref a))
/-- a part of a tuple made here: a datum, a list made here -/
def TmOk (B F H : Hp) (σ : St) (Δ : En) (v : V) : Tm → Prop
  | .d x => Dq F v x
  | .l xs => ∃ a vs, v = .ref a ∧ F a = none ∧ B a = none ∧ H a = some (.lst vs) ∧ DqA F vs xs ∧ NotMut σ Δ a
def Tm.isL : Tm → Bool
  | .d _ => false
  | .l _ => true
def Tm.dt : Tm → PyData
  | .d x => x
  | .l xs => .list xs
def Res (B F H : Hp) (σ : St) (Δ : En) (v : V) : R → Prop
  | .d x => Dq F v x
  | .nl xs => ∃ a vs, v = .ref a ∧ F a = none ∧ B a = none ∧ H a = some (.lst vs) ∧ DqA F vs xs ∧ NotMut σ Δ a
  | .sl i => σ[i]? = some (some v)
  | .nt i j => ∃ a v1 v2, v = .ref a ∧ F a = none ∧ B a = none ∧ H a = some (.tup [v1, v2]) ∧ TmOk B F H σ Δ v1 i ∧ TmOk B F H σ Δ v2 j ∧ (i.isL = true → j.isL = true → v1 ≠ v2) ∧ NotMut σ Δ a
def tE (K : Frag) (Δ : En) (r : R) (Δ' : En) : TE := fun σ H Q => ∃ B F, Ok K B F H σ Δ ∧ ∀ v F' H', Ok K B F' H' σ Δ' → Ex F F' → Res B F' H' σ Δ' v r → Q v H'
def tT (K : Frag) (Δ : En) (b : Bool) (Δ' : En) : TT := fun σ H Q => ∃ B F, Ok K B F H σ Δ ∧ ∀ F' H', Ok K B F' H' σ Δ' → Ex F F' → Q b H'
def DE (X : Cx) (Δ : En) (e : Expr) (r : R) (Δ' : En) : Prop := PE X e (tE X.K Δ r Δ')
def DT (X : Cx) (Δ : En) (e : Expr) (b : Bool) (Δ' : En) : Prop := PT X e (tT X.K Δ b Δ')
/-- how a block ends -/
inductive Out where
  | nx (Δ : En) | rt (Δ : En) (r : R) | bk (Δ : En) | ct (Δ : En) | xc (Δ : En) (C : Addr)
/-- the caller's lists stay in their slots -/
def Kp (Δ Δ' : En) (σ σ' : St) : Prop := ∀ (i : Nat) (xs : List PyData), Δ[i]? = some (.ref xs) → σ'[i]? = σ[i]? ∧ ∃ ys, Δ'[i]? = some (.ref ys)
def Post (K : Frag) (W : WX) (B F : Hp) (σ : St) (Δ : En) (D : Ends) : Out → Prop
  | .nx Δ' => ∀ σ' F' H', Ok K B F' H' σ' Δ' → Ex F F' → Kp Δ Δ' σ σ' → D.nx σ' H'
  | .rt Δ' r => ∀ v σ' F' H', Ok K B F' H' σ' Δ' → Ex F F' → Kp Δ Δ' σ σ' → Res B F' H' σ' Δ' v r → D.rt v H'
  | .bk Δ' => ∀ σ' F' H', Ok K B F' H' σ' Δ' → Ex F F' → Kp Δ Δ' σ σ' → D.bk σ' H'
  | .ct Δ' => ∀ σ' F' H', Ok K B F' H' σ' Δ' → Ex F F' → Kp Δ Δ' σ σ' → D.ct σ' H'
  | .xc Δ' C => ∀ σ' F' H', Ok K B F' H' σ' Δ' → Ex F F' → Kp Δ Δ' σ σ' → W (.ref C) none σ' H'
def tS (K : Frag) (W : WX) (Δ : En) (o : Out) : TS := fun D σ H => ∃ B F, Ok K B F H σ Δ ∧ Post K W B F σ Δ D o
def DS1 (X : Cx) (W : WX) (Δ : En) (st : Stmt) (o : Out) : Prop := PS X st (tS X.K W Δ o)
def DS (X : Cx) (W : WX) (Δ : En) (sts : List Stmt) (o : Out) : Prop := PSs X sts (tS X.K W Δ o)
/-- for all contexts of a family, the same end -/
def Go1 {ι : Type} (X : ι → Cx) (W : ι → WX) (Δ : En) (st : Stmt) (P : Out → Prop) : Prop := ∃ o, P o ∧ ∀ q, DS1 (X q) (W q) Δ st o
def Go {ι : Type} (X : ι → Cx) (W : ι → WX) (Δ : En) (sts : List Stmt) (P : Out → Prop) : Prop := ∃ o, P o ∧ ∀ q, DS (X q) (W q) Δ sts o
end Tr
namespace Tr
open PySem L2
section
variable {K : Frag} {B B' F F' H H' : Hp} {σ : St} {Δ Δ' : En} {i : Nat} {a p : Addr} {o : HO} {v : V} {x : PyData} {xs ys : List PyData} {vs : List V}
theorem Ok.rd (h : Ok K B F H σ Δ) (e : Δ[i]? = some (.d x)) : ∃ v, σ[i]? = some (some v) ∧ Dq F v x := by
  obtain ⟨o, h1, v, rfl, h2⟩ := h.sl i _ e
  exact ⟨v, h1, h2⟩
theorem Ok.rm (h : Ok K B F H σ Δ) {s : Sl} (e : Δ[i]? = some s) (hs : s = .own xs ∨ s = .ref xs) : ∃ a vs, σ[i]? = some (some (.ref a)) ∧ F a = none ∧ B a = none ∧ H a = some (.lst vs) ∧ DqA F vs xs := by
  obtain ⟨o, h1, h2⟩ := h.sl i _ e
  rcases hs with rfl | rfl
  · obtain ⟨a, vs, rfl, r⟩ := (show MutL B F H o xs from h2)
    exact ⟨a, vs, h1, r⟩
  · obtain ⟨a, vs, rfl, r⟩ := (show MutL B F H o xs from h2)
    exact ⟨a, vs, h1, r⟩
theorem MutL.keep {o : Option V} (h : MutL B F H o xs) (ef : Ex F F') (hf : ∀ a vs, o = some (.ref a) → F a = none → H a = some (.lst vs) → F' a = none ∧ H' a = some (.lst vs)) : MutL B F' H' o xs := by
  obtain ⟨a, vs, rfl, h1, h2, h3, h4⟩ := h
  obtain ⟨q1, q2⟩ := hf a vs rfl h1 h3
  exact ⟨a, vs, rfl, q1, h2, q2, h4.mono ef⟩
theorem SlOk.keep {o : Option V} {s : Sl} (h : SlOk K B F H o s) (ef : Ex F F') (hf : s.mut = true → ∀ a vs, o = some (.ref a) → F a = none → H a = some (.lst vs) → F' a = none ∧ H' a = some (.lst vs)) : SlOk K B F' H' o s := by
  cases s with
  | no => trivial
  | d x =>
    obtain ⟨v, rfl, r⟩ := (show ∃ v, o = some v ∧ Dq F v x from h)
    exact ⟨v, rfl, r.mono ef⟩
  | own xs => exact (show MutL B F H o xs from h).keep ef (hf rfl)
  | ref xs => exact (show MutL B F H o xs from h).keep ef (hf rfl)
  | sc ns =>
    obtain ⟨a, rfl, r⟩ := (show ∃ a, o = some (.ref a) ∧ SqL K F a (ns.map V.int) from h)
    refine ⟨a, rfl, ?_⟩
    rcases r with (r | ⟨u, r⟩) | r
    · exact .inl (.inl (ef _ _ r))
    · exact .inl (.inr ⟨u, ef _ _ r⟩)
    · exact .inr r
  | v u => exact h
/-- a new object, not frozen -/
theorem Ok.new (h : Ok K B F H σ Δ) (hp : H p = none) : Ok K B F (upd H p o) σ Δ :=
  ⟨h.fh.trans (.new hp), h.bh.trans (.new hp), h.bf, h.len, fun i s e => by
    obtain ⟨u, h1, h2⟩ := h.sl i s e
    exact ⟨u, h1, h2.keep (.refl _) fun _ a vs _ hf hl => ⟨hf, by rw [upd_ne (ne_of_none hl hp)]; exact hl⟩⟩, h.nd⟩
theorem none_of {H : Hp} {a b : Addr} {u : HO} (h : H a = some u) (h' : H b = none) : a ≠ b := ne_of_none h h'
/-- what is laid is frozen -/
theorem Ok.ice (h : Ok K B F H σ Δ) (hf : F p = none) (hb : B p = none) (hp : H p = some o) (nm : NotMut σ Δ p) : Ok K B (upd F p o) H σ Δ := by
  refine ⟨fun a u e => ?_, h.bh, fun a hb' => ?_, h.len, fun i s e => ?_, h.nd⟩
  · by_cases ha : a = p
    · subst ha; rw [upd_same] at e; cases e; exact hp
    · rw [upd_ne ha] at e; exact h.fh a u e
  · have ha : a ≠ p := fun z => by subst z; exact hb' hb
    rw [upd_ne ha]; exact h.bf a hb'
  · obtain ⟨u, h1, h2⟩ := h.sl i s e
    refine ⟨u, h1, h2.keep (.new hf) fun hm a vs ho h3 h4 => ⟨?_, h4⟩⟩
    have ha : a ≠ p := fun z => by subst z; exact nm i s e hm (by rw [h1, ho])
    rw [upd_ne ha]; exact h3
theorem Ok.notNew (h : Ok K B F H σ Δ) (hp : H p = none) : NotMut σ Δ p := fun i s e hm q => by
  obtain ⟨u, h1, h2⟩ := h.sl i s e
  have : u = some (.ref p) := Option.some.inj (h1.symm.trans q)
  subst this
  cases s with
  | own xs =>
    obtain ⟨a, vs, e1, _, _, h3, _⟩ := (show MutL B F H _ xs from h2)
    cases e1
    rw [hp] at h3; cases h3
  | ref xs =>
    obtain ⟨a, vs, e1, _, _, h3, _⟩ := (show MutL B F H _ xs from h2)
    cases e1
    rw [hp] at h3; cases h3
  | no => cases hm
  | d x => cases hm
  | sc ns => cases hm
  | v u => cases hm
theorem Ok.fresh (h : Ok K B F H σ Δ) (hp : H p = none) : F p = none ∧ B p = none := ⟨h.fh.back hp, h.bh.back hp⟩
/-- laid and frozen -/
theorem Ok.laid (h : Ok K B F H σ Δ) (hp : H p = none) : Ok K B (upd F p o) (upd H p o) σ Δ :=
  (h.new hp).ice (h.fresh hp).1 (h.fresh hp).2 upd_same (h.notNew hp)
theorem Ok.weakB (h : Ok K B' F H σ Δ) (e : Ex B B') : Ok K B F H σ Δ := by
  have bn : ∀ a, B' a = none → B a = none := fun a q => e.back q
  refine ⟨h.fh, e.trans h.bh, fun a hb => h.bf a fun z => hb (bn a z), h.len, fun i s es => ?_, h.nd⟩
  obtain ⟨o, h1, h2⟩ := h.sl i s es
  refine ⟨o, h1, ?_⟩
  cases s with
  | no => trivial
  | d x => exact h2
  | own xs =>
    obtain ⟨a, vs, e1, q1, q2, q3, q4⟩ := (show MutL B' F H o xs from h2)
    exact ⟨a, vs, e1, q1, bn a q2, q3, q4⟩
  | ref xs =>
    obtain ⟨a, vs, e1, q1, q2, q3, q4⟩ := (show MutL B' F H o xs from h2)
    exact ⟨a, vs, e1, q1, bn a q2, q3, q4⟩
  | sc ns => exact h2
  | v u => exact h2
/-- a list in flight -/
theorem Ok.addB (h : Ok K B F H σ Δ) (hf : F p = none) (hp : H p = some o) (nm : NotMut σ Δ p) : Ok K (upd B p o) F H σ Δ := by
  refine ⟨h.fh, fun a u e => ?_, fun a hb => ?_, h.len, fun i s es => ?_, h.nd⟩
  · by_cases ha : a = p
    · subst ha; rw [upd_same] at e; cases e; exact hp
    · rw [upd_ne ha] at e; exact h.bh a u e
  · by_cases ha : a = p
    · subst ha; exact hf
    · rw [upd_ne ha] at hb; exact h.bf a hb
  · obtain ⟨u, h1, h2⟩ := h.sl i s es
    refine ⟨u, h1, ?_⟩
    have ne : ∀ a, s.mut = true → u = some (.ref a) → a ≠ p := fun a hm ho z => by subst z; exact nm i s es hm (by rw [h1, ho])
    cases s with
    | no => trivial
    | d x => exact h2
    | own xs =>
      obtain ⟨a, vs, e1, q1, q2, q3, q4⟩ := (show MutL B F H u xs from h2)
      exact ⟨a, vs, e1, q1, by rw [upd_ne (ne a rfl e1)]; exact q2, q3, q4⟩
    | ref xs =>
      obtain ⟨a, vs, e1, q1, q2, q3, q4⟩ := (show MutL B F H u xs from h2)
      exact ⟨a, vs, e1, q1, by rw [upd_ne (ne a rfl e1)]; exact q2, q3, q4⟩
    | sc ns => exact h2
    | v u => exact h2
theorem Ok.notB (h : Ok K B F H σ Δ) (hb : B p ≠ none) : NotMut σ Δ p := fun i s e hm q => by
  obtain ⟨u, h1, h2⟩ := h.sl i s e
  have : u = some (.ref p) := Option.some.inj (h1.symm.trans q)
  subst this
  cases s with
  | own xs =>
    obtain ⟨a, vs, e1, _, h3, _⟩ := (show MutL B F H _ xs from h2)
    cases e1
    exact hb h3
  | ref xs =>
    obtain ⟨a, vs, e1, _, h3, _⟩ := (show MutL B F H _ xs from h2)
    cases e1
    exact hb h3
  | no => cases hm
  | d x => cases hm
  | sc ns => cases hm
  | v u => cases hm
theorem Ok.notF (h : Ok K B F H σ Δ) (hb : F p ≠ none) : NotMut σ Δ p := fun i s e hm q => by
  obtain ⟨u, h1, h2⟩ := h.sl i s e
  have : u = some (.ref p) := Option.some.inj (h1.symm.trans q)
  subst this
  cases s with
  | own xs =>
    obtain ⟨a, vs, e1, h3, _⟩ := (show MutL B F H _ xs from h2)
    cases e1
    exact hb h3
  | ref xs =>
    obtain ⟨a, vs, e1, h3, _⟩ := (show MutL B F H _ xs from h2)
    cases e1
    exact hb h3
  | no => cases hm
  | d x => cases hm
  | sc ns => cases hm
  | v u => cases hm

/-- a slot is stored -/
theorem Ok.put (h : Ok K B F H σ Δ) {s : Sl} (hs : SlOk K B F H (some v) s) (hn : s.mut = true → ∀ a, v = .ref a → NotMut σ Δ a) : Ok K B F H (σ.set i (some v)) (Δ.set i s) := by
  have hl := h.len
  refine ⟨h.fh, h.bh, h.bf, by simp [hl], fun j t e => ?_, fun j k t u a e1 e2 m1 m2 r1 r2 => ?_⟩
  · by_cases hj : j = i
    · subst hj
      have hi : j < Δ.length := by
        have := (List.getElem?_eq_some_iff.mp e).1
        simpa using this
      rw [List.getElem?_set_self hi] at e
      cases e
      exact ⟨some v, by rw [List.getElem?_set_self (by omega)], hs⟩
    · rw [List.getElem?_set_ne (Ne.symm hj)] at e
      obtain ⟨o, h1, h2⟩ := h.sl j t e
      exact ⟨o, by rw [List.getElem?_set_ne (Ne.symm hj)]; exact h1, h2⟩
  · have lt : ∀ {k : Nat} {t : Sl}, (Δ.set i s)[k]? = some t → k < Δ.length := fun {k t} e => by
      have := (List.getElem?_eq_some_iff.mp e).1
      simpa using this
    by_cases hj : j = i
    · by_cases hk : k = i
      · exact hj.trans hk.symm
      · exfalso
        have := lt e1
        subst hj
        rw [List.getElem?_set_self (by omega)] at e1 r1
        rw [List.getElem?_set_ne (Ne.symm hk)] at e2 r2
        cases e1
        have ev : v = .ref a := by simpa using r1
        exact hn m1 a ev k u e2 m2 r2
    · by_cases hk : k = i
      · exfalso
        have := lt e2
        subst hk
        rw [List.getElem?_set_self (by omega)] at e2 r2
        rw [List.getElem?_set_ne (Ne.symm hj)] at e1 r1
        cases e2
        have ev : v = .ref a := by simpa using r2
        exact hn m2 a ev j t e1 m1 r1
      · rw [List.getElem?_set_ne (Ne.symm hj)] at e1 r1
        rw [List.getElem?_set_ne (Ne.symm hk)] at e2 r2
        exact h.nd j k t u a e1 e2 m1 m2 r1 r2
/-- a slot's words are weakened, the slots stay -/
theorem Ok.re (h : Ok K B F H σ Δ) {s : Sl} (hs : ∀ o, σ[i]? = some o → SlOk K B F H o s) (hm : s.mut = true → ∃ t, Δ[i]? = some t ∧ t.mut = true) : Ok K B F H σ (Δ.set i s) := by
  refine ⟨h.fh, h.bh, h.bf, by simp [h.len], fun j t e => ?_, fun j k t u a e1 e2 m1 m2 r1 r2 => ?_⟩
  · by_cases hj : j = i
    · subst hj
      have hi : j < Δ.length := by
        have := (List.getElem?_eq_some_iff.mp e).1
        simpa using this
      rw [List.getElem?_set_self hi] at e
      cases e
      have hl := h.len
      have : j < σ.length := by omega
      exact ⟨σ[j], by rw [List.getElem?_eq_getElem this], hs _ (by rw [List.getElem?_eq_getElem this])⟩
    · rw [List.getElem?_set_ne (Ne.symm hj)] at e
      exact h.sl j t e
  · have back : ∀ {k : Nat} {t : Sl}, (Δ.set i s)[k]? = some t → t.mut = true → ∃ t', Δ[k]? = some t' ∧ t'.mut = true := fun {k t} e m => by
      by_cases hk : k = i
      · subst hk
        have hi : k < Δ.length := by
          have := (List.getElem?_eq_some_iff.mp e).1
          simpa using this
        rw [List.getElem?_set_self hi] at e
        cases e
        exact hm m
      · rw [List.getElem?_set_ne (Ne.symm hk)] at e
        exact ⟨t, e, m⟩
    obtain ⟨t', e1', m1'⟩ := back e1 m1
    obtain ⟨u', e2', m2'⟩ := back e2 m2
    exact h.nd j k t' u' a e1' e2' m1' m2' r1 r2
theorem Ok.forget (h : Ok K B F H σ Δ) : Ok K B F H σ (Δ.set i .no) := h.re (fun _ _ => trivial) (fun z => nomatch z)
/-- a list of this def's is changed -/
theorem Ok.write (h : Ok K B F H σ Δ) {s s' : Sl} (e : Δ[i]? = some s) (hs : (s = .own xs ∧ s' = .own ys) ∨ (s = .ref xs ∧ s' = .ref ys)) (hv : σ[i]? = some (some (.ref a))) (hl : DqA F vs ys) (hf : F a = none) (hb : B a = none) :
    Ok K B F (upd H a (.lst vs)) σ (Δ.set i s') := by
  have hm : s.mut = true := by rcases hs with ⟨rfl, _⟩ | ⟨rfl, _⟩ <;> rfl
  have hm' : s'.mut = true := by rcases hs with ⟨_, rfl⟩ | ⟨_, rfl⟩ <;> rfl
  have key : Ok K B F (upd H a (.lst vs)) σ (Δ.set i .no) := by
    refine ⟨fun b u q => ?_, fun b u q => ?_, h.bf, by simp [h.len], fun j t ej => ?_, fun j k t u b e1 e2 m1 m2 r1 r2 => ?_⟩
    · rw [upd_ne (none_of q hf)]; exact h.fh b u q
    · rw [upd_ne (none_of q hb)]; exact h.bh b u q
    · by_cases hj : j = i
      · subst hj
        have hi : j < Δ.length := (List.getElem?_eq_some_iff.mp e).1
        rw [List.getElem?_set_self hi] at ej
        cases ej
        exact ⟨_, hv, trivial⟩
      · rw [List.getElem?_set_ne (Ne.symm hj)] at ej
        obtain ⟨o, h1, h2⟩ := h.sl j t ej
        refine ⟨o, h1, h2.keep (.refl _) fun hmt b ws ho h3 h4 => ⟨h3, ?_⟩⟩
        have hb' : b ≠ a := fun z => by subst z; exact hj (h.nd j i t s b ej e hmt hm (by rw [h1, ho]) hv)
        rw [upd_ne hb']; exact h4
    · have ne : ∀ {k : Nat} {t : Sl}, (Δ.set i Sl.no)[k]? = some t → t.mut = true → Δ[k]? = some t := fun {k t} e m => by
        by_cases hk : k = i
        · subst hk
          have hi : k < Δ.length := by
            have := (List.getElem?_eq_some_iff.mp e).1
            simpa using this
          rw [List.getElem?_set_self hi] at e
          cases e
          cases m
        · rw [List.getElem?_set_ne (Ne.symm hk)] at e
          exact e
      exact h.nd j k t u b (ne e1 m1) (ne e2 m2) m1 m2 r1 r2
  -- and the slot itself
  have mu : MutL B F (upd H a (.lst vs)) (some (.ref a)) ys := ⟨a, vs, rfl, hf, hb, upd_same, hl⟩
  refine ⟨key.fh, key.bh, key.bf, by simp [h.len], fun j t ej => ?_, fun j k t u b e1 e2 m1 m2 r1 r2 => ?_⟩
  · by_cases hj : j = i
    · subst hj
      have hi : j < Δ.length := (List.getElem?_eq_some_iff.mp e).1
      rw [List.getElem?_set_self hi] at ej
      cases ej
      refine ⟨_, hv, ?_⟩
      rcases hs with ⟨_, rfl⟩ | ⟨_, rfl⟩
      · exact mu
      · exact mu
    · refine key.sl j t ?_
      rw [List.getElem?_set_ne (Ne.symm hj)] at ej ⊢
      exact ej
  · have back : ∀ {k : Nat} {t : Sl}, (Δ.set i s')[k]? = some t → t.mut = true → ∃ t', Δ[k]? = some t' ∧ t'.mut = true := fun {k t} e' m => by
      by_cases hk : k = i
      · subst hk
        exact ⟨s, e, hm⟩
      · rw [List.getElem?_set_ne (Ne.symm hk)] at e'
        exact ⟨t, e', m⟩
    obtain ⟨t', e1', m1'⟩ := back e1 m1
    obtain ⟨u', e2', m2'⟩ := back e2 m2
    exact h.nd j k t' u' b e1' e2' m1' m2' r1 r2
/-- an own list is frozen where it stands -/
theorem Ok.iceSlot (h : Ok K B F H σ Δ) (e : Δ[i]? = some (.own xs)) : ∃ a vs, σ[i]? = some (some (.ref a)) ∧ H a = some (.lst vs) ∧ F a = none ∧ Ok K B (upd F a (.lst vs)) H σ (Δ.set i (.d (.list xs))) ∧ Dq (upd F a (.lst vs)) (.ref a) (.list xs) := by
  obtain ⟨a, vs, h1, h2, h3, h4, h5⟩ := h.rm e (.inl rfl)
  have k1 : Ok K B F H σ (Δ.set i .no) := h.forget
  have nm : NotMut σ (Δ.set i .no) a := fun j s ej hm q => by
    by_cases hj : j = i
    · subst hj
      have hi : j < Δ.length := (List.getElem?_eq_some_iff.mp e).1
      rw [List.getElem?_set_self hi] at ej
      cases ej
      cases hm
    · rw [List.getElem?_set_ne (Ne.symm hj)] at ej
      exact hj (h.nd j i s _ a ej e hm rfl q h1)
  have k2 := k1.ice h2 h3 h4 nm
  have d : Dq (upd F a (.lst vs)) (.ref a) (.list xs) := .list upd_same (h5.mono (.new h2))
  have k3 := k2.re (i := i) (s := .d (.list xs)) (fun o ho => ⟨.ref a, by rw [h1] at ho; exact (Option.some.inj ho).symm, d⟩) (fun z => nomatch z)
  rw [List.set_set] at k3
  exact ⟨a, vs, h1, h4, h2, k3, d⟩
end
end Tr
namespace Tr
open PySem L2
/-! ### weaker readings -/
section
variable {X : Cx} {e : Expr} {es : List Expr} {st : Stmt} {sts : List Stmt}
theorem pe_imp {t t' : TE} (h : PE X e t) (k : ∀ σ H Q, t' σ H Q → t σ H Q) : PE X e t' := ⟨fun pins s σ H Q I w => h.run pins s σ H Q I (k _ _ _ w)⟩
theorem pt_imp {t t' : TT} (h : PT X e t) (k : ∀ σ H Q, t' σ H Q → t σ H Q) : PT X e t' := ⟨fun pins s σ H Q I w => h.run pins s σ H Q I (k _ _ _ w)⟩
theorem pa_imp {t t' : TA} (h : PA X es t) (k : ∀ σ H Q, t' σ H Q → t σ H Q) : PA X es t' := ⟨fun pos pins s σ H Q I w => h.run pos pins s σ H Q I (k _ _ _ w)⟩
theorem ps_imp {t t' : TS} (h : PS X st t) (k : ∀ D σ H, t' D σ H → t D σ H) : PS X st t' := ⟨fun pins s σ H D I w => h.run pins s σ H D I (k _ _ _ w)⟩
theorem pss_imp {t t' : TS} (h : PSs X sts t) (k : ∀ D σ H, t' D σ H → t D σ H) : PSs X sts t' := ⟨fun pins s σ H D I w => h.run pins s σ H D I (k _ _ _ w)⟩
end
/-- the caller's lists stay where they are -/
def RK (Δ Δ' : En) : Prop := ∀ (i : Nat) (xs : List PyData), Δ[i]? = some (.ref xs) → ∃ ys, Δ'[i]? = some (.ref ys)
theorem RK.rfl {Δ : En} : RK Δ Δ := fun _ xs h => ⟨xs, h⟩
theorem RK.trans {a b c : En} (h : RK a b) (k : RK b c) : RK a c := fun i xs e => by
  obtain ⟨ys, e⟩ := h i xs e
  exact k i ys e
/-- e comes to r; the slots are then Δ' -/
structure DEx (X : Cx) (Δ : En) (e : Expr) (r : R) (Δ' : En) : Prop where
  rk : RK Δ Δ'
  pe : PE X e (tE X.K Δ r Δ')
structure DTx (X : Cx) (Δ : En) (e : Expr) (b : Bool) (Δ' : En) : Prop where
  rk : RK Δ Δ'
  pt : PT X e (tT X.K Δ b Δ')
/-- arguments: data and slots -/
def tA (K : Frag) (Δ : En) (rs : List R) (Δ' : En) : TA := fun σ H Q => ∃ B F, Ok K B F H σ Δ ∧ ∀ vs F' H', Ok K B F' H' σ Δ' → Ex F F' → Paired (Res B F' H' σ Δ') vs rs → Q vs H'
structure DAx (X : Cx) (Δ : En) (es : List Expr) (rs : List R) (Δ' : En) : Prop where
  rk : RK Δ Δ'
  pa : PA X es (tA X.K Δ rs Δ')
def lite : R → Bool
  | .nl _ => false
  | .nt _ _ => false
  | _ => true
def Sl.rd : Sl → Option PyData
  | .d x => some x
  | .own xs => some (.list xs)
  | .ref xs => some (.list xs)
  | _ => none
def rdOf (Δ : En) : R → Option PyData
  | .d x => some x
  | .nl _ => none
  | .nt _ _ => none
  | .sl i => Δ[i]?.bind Sl.rd
theorem rd_sl {Δ : En} {i : Nat} {x : PyData} (e : rdOf Δ (.sl i) = some x) : Δ[i]? = some (.d x) ∨ ∃ xs, x = .list xs ∧ (Δ[i]? = some (.own xs) ∨ Δ[i]? = some (.ref xs)) := by
  have e : Δ[i]?.bind Sl.rd = some x := e
  cases h : Δ[i]? with
  | none => rw [h] at e; cases e
  | some s =>
    rw [h] at e
    have e : s.rd = some x := e
    cases s with
    | d y => cases e; exact .inl rfl
    | own xs => cases e; exact .inr ⟨xs, rfl, .inl rfl⟩
    | ref xs => cases e; exact .inr ⟨xs, rfl, .inr rfl⟩
    | no => cases e
    | sc ns => cases e
    | v u => cases e
section
variable {K : Frag} {B B' F F' H H' : Hp} {σ : St} {Δ Δ' : En} {v : V} {x : PyData} {xs : List PyData} {r : R}
theorem Res.keep (hr : lite r = true) (e : Ex F F') (h : Res B F H σ Δ v r) : Res B' F' H' σ Δ' v r := by
  cases r with
  | d x => exact Dq.mono e h
  | nl xs => cases hr
  | nt i j => cases hr
  | sl i => exact h
theorem rd_list (ok : Ok K B F H σ Δ) (h : Res B F H σ Δ v r) (e : rdOf Δ r = some (.list xs)) : ∃ a vs, v = .ref a ∧ H a = some (.lst vs) ∧ DqA F vs xs := by
  cases r with
  | d x =>
    cases e
    obtain ⟨a, vs, rfl, h1, h2⟩ := Dq.inl h
    exact ⟨a, vs, rfl, ok.fh _ _ h1, h2⟩
  | nl xs => cases e
  | nt i j => cases e
  | sl i =>
    have hv : σ[i]? = some (some v) := h
    rcases rd_sl e with es | ⟨ys, ey, es⟩
    · obtain ⟨w, h1, h2⟩ := ok.rd es
      rw [hv] at h1
      cases h1
      obtain ⟨a, vs, rfl, h3, h4⟩ := Dq.inl h2
      exact ⟨a, vs, rfl, ok.fh _ _ h3, h4⟩
    · cases ey
      have key : ∀ {s : Sl}, Δ[i]? = some s → (s = .own xs ∨ s = .ref xs) → ∃ a vs, v = .ref a ∧ H a = some (.lst vs) ∧ DqA F vs xs := fun {s} es hs => by
        obtain ⟨a, vs, h1, _, _, h2, h3⟩ := ok.rm es hs
        rw [hv] at h1
        cases h1
        exact ⟨a, vs, rfl, h2, h3⟩
      rcases es with es | es
      · exact key es (.inl rfl)
      · exact key es (.inr rfl)
theorem rd_dq (ok : Ok K B F H σ Δ) (h : Res B F H σ Δ v r) (e : rdOf Δ r = some x) : Dq H v x := by
  cases r with
  | d x => cases e; exact Dq.mono ok.fh h
  | nl xs => cases e
  | nt i j => cases e
  | sl i =>
    have hv : σ[i]? = some (some v) := h
    rcases rd_sl e with es | ⟨ys, ey, es⟩
    · obtain ⟨w, h1, h2⟩ := ok.rd es
      rw [hv] at h1
      cases h1
      exact h2.mono ok.fh
    · cases ey
      obtain ⟨a, vs, rfl, h1, h2⟩ := rd_list ok h e
      exact .list h1 (h2.mono ok.fh)
theorem rd_tup (ok : Ok K B F H σ Δ) (h : Res B F H σ Δ v r) (e : rdOf Δ r = some (.tuple xs)) : ∃ a vs, v = .ref a ∧ F a = some (.tup vs) ∧ DqA F vs xs := by
  cases r with
  | d x => cases e; exact Dq.int_tup h
  | nl xs => cases e
  | nt i j => cases e
  | sl i =>
    have hv : σ[i]? = some (some v) := h
    rcases rd_sl e with es | ⟨ys, ey, es⟩
    · obtain ⟨w, h1, h2⟩ := ok.rd es
      rw [hv] at h1
      cases h1
      exact Dq.int_tup h2
    · cases ey
end

section
variable {X : Cx} {Δ Δ1 Δ2 Δ3 : En} {a b c e : Expr} {es : List Expr} {r r1 r2 r3 : R} {rs : List R} {pos p : Pos} {i j : Int} {x y z : PyData} {xs ys : List PyData} {k l : Bool}
/-! ### constants, names -/
theorem de_int {n : Int} {kk} : DEx X Δ (.Constant (.int n) kk pos) (.d (.int n)) Δ := ⟨.rfl, pe_imp pe_int fun σ H Q ⟨B, F, ok, q⟩ => q _ _ _ ok (.refl _) (Dq.int n)⟩
theorem de_bool {n : Bool} {kk} : DEx X Δ (.Constant (.bool n) kk pos) (.d (.bool n)) Δ := ⟨.rfl, pe_imp pe_bl fun σ H Q ⟨B, F, ok, q⟩ => q _ _ _ ok (.refl _) (Dq.bl n)⟩
theorem de_none {kk} : DEx X Δ (.Constant .none kk pos) (.d .none) Δ := ⟨.rfl, pe_imp pe_non fun σ H Q ⟨B, F, ok, q⟩ => q _ _ _ ok (.refl _) Dq.non⟩
theorem de_str {n : Str} {kk} : DEx X Δ (.Constant (.str n) kk pos) (.d (.str n)) Δ := ⟨.rfl, pe_imp pe_str fun σ H Q ⟨B, F, ok, q⟩ => q _ _ _ ok (.refl _) (Dq.str n)⟩
/-- a name that holds a datum -/
theorem de_nm (i : Nat) {x : Str} {y : PyData} (hΔ : Δ[i]? = some (.d y) := by rfl) (hN : X.N[i]? = some x := by rfl) (hv : Vis X.env.scope x := by first | exact Or.inl rfl | exact Or.inr (Or.inl rfl) | exact Or.inr (Or.inr rfl)) (hd : (x == ("__debug__" : Str)) = false := by decide)
    (hcd : (x == ("__classdict__" : Str)) = false := by decide) : DEx X Δ (.Name x pos) (.d y) Δ := ⟨.rfl, pe_imp (pe_var hN hv hd hcd) fun σ H Q ⟨B, F, ok, q⟩ => by
  obtain ⟨v, h1, h2⟩ := ok.rd hΔ
  exact ⟨v, h1, q _ _ _ ok (.refl _) h2⟩⟩
def Sl.full : Sl → Bool
  | .no => false
  | _ => true
theorem Ok.full {K : Frag} {B F H : Hp} {σ : St} {Δ : En} {i : Nat} {s : Sl} (h : Ok K B F H σ Δ) (e : Δ[i]? = some s) (hs : s.full = true) : ∃ v, σ[i]? = some (some v) := by
  obtain ⟨o, h1, h2⟩ := h.sl i s e
  cases s with
  | no => cases hs
  | d x =>
    obtain ⟨v, rfl, _⟩ := (show ∃ v, o = some v ∧ Dq F v x from h2)
    exact ⟨v, h1⟩
  | own xs =>
    obtain ⟨a, vs, rfl, _⟩ := (show MutL B F H o xs from h2)
    exact ⟨_, h1⟩
  | ref xs =>
    obtain ⟨a, vs, rfl, _⟩ := (show MutL B F H o xs from h2)
    exact ⟨_, h1⟩
  | sc ns =>
    obtain ⟨a, rfl, _⟩ := (show ∃ a, o = some (.ref a) ∧ SqL K F a (ns.map V.int) from h2)
    exact ⟨_, h1⟩
  | v u =>
    have : o = some u := h2
    subst this
    exact ⟨_, h1⟩
/-- a name as it stands -/
theorem de_sl (i : Nat) {x : Str} {s : Sl} (hΔ : Δ[i]? = some s := by rfl) (hs : s.full = true := by rfl) (hN : X.N[i]? = some x := by rfl) (hv : Vis X.env.scope x := by first | exact Or.inl rfl | exact Or.inr (Or.inl rfl) | exact Or.inr (Or.inr rfl)) (hd : (x == ("__debug__" : Str)) = false := by decide)
    (hcd : (x == ("__classdict__" : Str)) = false := by decide) : DEx X Δ (.Name x pos) (.sl i) Δ := ⟨.rfl, pe_imp (pe_var hN hv hd hcd) fun σ H Q ⟨B, F, ok, q⟩ => by
  obtain ⟨v, h1⟩ := ok.full hΔ hs
  exact ⟨v, h1, q _ _ _ ok (.refl _) h1⟩⟩
theorem rk_set {i : Nat} {s t : Sl} (h : Δ[i]? = some s) (hs : s.isRef = false) : RK Δ (Δ.set i t) := fun j xs e => by
  by_cases hj : j = i
  · subst hj
    rw [h] at e
    cases e
    cases hs
  · exact ⟨xs, by rw [List.getElem?_set_ne (Ne.symm hj)]; exact e⟩
/-- an own list's name: frozen from here on -/
theorem de_ic (i : Nat) {x : Str} (hΔ : Δ[i]? = some (.own xs) := by rfl) (hN : X.N[i]? = some x := by rfl) (hv : Vis X.env.scope x := by first | exact Or.inl rfl | exact Or.inr (Or.inl rfl) | exact Or.inr (Or.inr rfl)) (hd : (x == ("__debug__" : Str)) = false := by decide)
    (hcd : (x == ("__classdict__" : Str)) = false := by decide) : DEx X Δ (.Name x pos) (.d (.list xs)) (Δ.set i (.d (.list xs))) := ⟨rk_set hΔ rfl, pe_imp (pe_var hN hv hd hcd) fun σ H Q ⟨B, F, ok, q⟩ => by
  obtain ⟨a, vs, h1, h2, h3, ok2, d⟩ := ok.iceSlot hΔ
  exact ⟨_, h1, q _ _ _ ok2 (.new h3) d⟩⟩
/-- an own list's name: moved away -/
theorem de_mv (i : Nat) {x : Str} (hΔ : Δ[i]? = some (.own xs) := by rfl) (hN : X.N[i]? = some x := by rfl) (hv : Vis X.env.scope x := by first | exact Or.inl rfl | exact Or.inr (Or.inl rfl) | exact Or.inr (Or.inr rfl)) (hd : (x == ("__debug__" : Str)) = false := by decide)
    (hcd : (x == ("__classdict__" : Str)) = false := by decide) : DEx X Δ (.Name x pos) (.nl xs) (Δ.set i .no) := ⟨rk_set hΔ rfl, pe_imp (pe_var hN hv hd hcd) fun σ H Q ⟨B, F, ok, q⟩ => by
  obtain ⟨a, vs, h1, h2, h3, h4, h5⟩ := ok.rm hΔ (.inl rfl)
  refine ⟨_, h1, q _ _ _ ok.forget (.refl _) ⟨a, vs, rfl, h2, h3, h4, h5, fun j s ej hm q => ?_⟩⟩
  by_cases hj : j = i
  · subst hj
    have hi : j < Δ.length := (List.getElem?_eq_some_iff.mp hΔ).1
    rw [List.getElem?_set_self hi] at ej
    cases ej
    cases hm
  · rw [List.getElem?_set_ne (Ne.symm hj)] at ej
    exact hj (ok.nd j i s _ a ej hΔ hm rfl q h1)⟩
/-- a list made here is frozen -/
theorem de_ice (h : DEx X Δ e (.nl xs) Δ1) : DEx X Δ e (.d (.list xs)) Δ1 := ⟨h.rk, pe_imp h.pe fun σ H Q ⟨B, F, ok, q⟩ => ⟨B, F, ok, fun v F' H' ok' ex ⟨a, vs, ev, hf, hb, hh, hd, nm⟩ => by
  subst ev
  exact q _ _ _ (ok'.ice hf hb hh nm) (ex.trans (.new hf)) (.list upd_same (hd.mono (.new hf)))⟩⟩

/-! ### two operands -/
/-- what an operation on two values gives -/
def Bn (K : Frag) (Δ : En) (r1 r2 : R) (rr : R2) (r3 : R) : Prop := ∀ (B F H : Hp) (σ : St) (v w : V) (Q : VK), Ok K B F H σ Δ → Res B F H σ Δ v r1 → Res B F H σ Δ w r2 → (∀ u F' H', Ok K B F' H' σ Δ → Ex F F' → Res B F' H' σ Δ u r3 → Q u H') → rr v w H Q
theorem two_ {rr : R2} (ha : DEx X Δ a r1 Δ1) (hb : DEx X Δ1 b r2 Δ2) (l1 : lite r1 = true) (hr : Bn X.K Δ2 r1 r2 rr r3) : ∀ σ H Q, tE X.K Δ r3 Δ2 σ H Q → tOp rr (tE X.K Δ r1 Δ1) (tE X.K Δ1 r2 Δ2) σ H Q := fun σ H Q ⟨B, F, ok, q⟩ =>
  ⟨B, F, ok, fun v F1 H1 ok1 ex1 hv => ⟨B, F1, ok1, fun w F2 H2 ok2 ex2 hw => hr B F2 H2 σ v w Q ok2 (hv.keep l1 ex2) hw fun u F3 H3 ok3 ex3 hu => q u F3 H3 ok3 ((ex1.trans ex2).trans ex3) hu⟩⟩
theorem de_bin {op : Operator} {rr : R2} (ho : OpR X (binaryOp op) rr) (ha : DEx X Δ a r1 Δ1) (hb : DEx X Δ1 b r2 Δ2) (l1 : lite r1 = true) (hr : Bn X.K Δ2 r1 r2 rr r3) : DEx X Δ (.BinOp a op b pos) r3 Δ2 :=
  ⟨ha.rk.trans hb.rk, pe_imp (pe_op ho ha.pe hb.pe) (two_ ha hb l1 hr)⟩
theorem de_cmp {op : CmpOp} {rr : R2} (ho : OpR X (compareOp op) rr) (ha : DEx X Δ a r1 Δ1) (hb : DEx X Δ1 b r2 Δ2) (l1 : lite r1 = true) (hm : behindInMarks op b = false) (hr : Bn X.K Δ2 r1 r2 rr r3) : DEx X Δ (.Compare a [op] [b] pos) r3 Δ2 :=
  ⟨ha.rk.trans hb.rk, pe_imp (pe_cmpR ho ha.pe hb.pe hm) (two_ ha hb l1 hr)⟩
theorem dt_cmp {op : CmpOp} {rr : R2} (ho : OpR X (compareOp op) rr) (ha : DEx X Δ a r1 Δ1) (hb : DEx X Δ1 b r2 Δ2) (l1 : lite r1 = true) (hm : behindInMarks op b = false) (hr : Bn X.K Δ2 r1 r2 rr (.d (.bool k))) : DTx X Δ (.Compare a [op] [b] pos) k Δ2 :=
  ⟨ha.rk.trans hb.rk, pt_imp (pt_cmpR ho ha.pe hb.pe hm) fun σ H Q ⟨B, F, ok, q⟩ => two_ ha hb l1 hr σ H _ ⟨B, F, ok, fun v F' H' ok' ex hv => ⟨k, Dq.bl_ hv, q F' H' ok' ex⟩⟩⟩
theorem bn_I0 {K : Frag} {g : Int → Int → V} (hg : ∀ F : Hp, Dq F (g i j) z) : Bn K Δ (.d (.int i)) (.d (.int j)) (rI0 g) (.d z) := fun B F H σ v w Q ok hv hw q => by
  cases Dq.int_ hv
  cases Dq.int_ hw
  exact ⟨i, j, rfl, rfl, q _ _ _ ok (.refl _) (hg F)⟩
theorem bn_I {K : Frag} {C : Int → Int → Prop} {g : Int → Int → V} (hc : C i j) (hg : ∀ F : Hp, Dq F (g i j) z) : Bn K Δ (.d (.int i)) (.d (.int j)) (rI C g) (.d z) := fun B F H σ v w Q ok hv hw q => by
  cases Dq.int_ hv
  cases Dq.int_ hw
  exact ⟨i, j, rfl, rfl, hc, q _ _ _ ok (.refl _) (hg F)⟩
theorem de_add (ha : DEx X Δ a (.d (.int i)) Δ1) (hb : DEx X Δ1 b (.d (.int j)) Δ2) : DEx X Δ (.BinOp a .Add b pos) (.d (.int (i + j))) Δ2 := de_bin op_add ha hb rfl (bn_I0 fun _ => .int _)
theorem de_sub (ha : DEx X Δ a (.d (.int i)) Δ1) (hb : DEx X Δ1 b (.d (.int j)) Δ2) : DEx X Δ (.BinOp a .Sub b pos) (.d (.int (i - j))) Δ2 := de_bin op_sub ha hb rfl (bn_I0 fun _ => .int _)
theorem de_mul (ha : DEx X Δ a (.d (.int i)) Δ1) (hb : DEx X Δ1 b (.d (.int j)) Δ2) (hc : CMul i j) : DEx X Δ (.BinOp a .Mult b pos) (.d (.int (i * j))) Δ2 := de_bin op_mul ha hb rfl (bn_I hc fun _ => .int _)
theorem de_div (ha : DEx X Δ a (.d (.int i)) Δ1) (hb : DEx X Δ1 b (.d (.int j)) Δ2) (hc : CDiv i j) : DEx X Δ (.BinOp a .FloorDiv b pos) (.d (.int (i / j))) Δ2 := de_bin op_fdiv ha hb rfl (bn_I hc fun _ => .int _)
theorem de_mod (ha : DEx X Δ a (.d (.int i)) Δ1) (hb : DEx X Δ1 b (.d (.int j)) Δ2) (hc : 0 < j) : DEx X Δ (.BinOp a .Mod b pos) (.d (.int (i % j))) Δ2 := de_bin op_mod ha hb rfl (bn_I hc fun _ => .int _)
theorem de_pow (ha : DEx X Δ a (.d (.int i)) Δ1) (hb : DEx X Δ1 b (.d (.int j)) Δ2) (hc : CPow i j) : DEx X Δ (.BinOp a .Pow b pos) (.d (.int (i ^ j.toNat))) Δ2 := de_bin op_pow ha hb rfl (bn_I hc fun _ => .int _)
theorem de_addS {s t : Str} (ha : DEx X Δ a (.d (.str s)) Δ1) (hb : DEx X Δ1 b (.d (.str t)) Δ2) (hc : s.length + t.length ≤ sizeLine) : DEx X Δ (.BinOp a .Add b pos) (.d (.str (s ++ t))) Δ2 :=
  de_bin op_add_str ha hb rfl fun B F H σ v w Q ok hv hw q => by
    cases Dq.str_ hv
    cases Dq.str_ hw
    exact ⟨s, t, rfl, rfl, hc, q _ _ _ ok (.refl _) (.str _)⟩
theorem res_nl {K : Frag} {B F H : Hp} {σ : St} {Δ : En} {p : Addr} {vs : List V} {xs : List PyData} (ok : Ok K B F H σ Δ) (hp : H p = none) (h : DqA F vs xs) : Res B F (upd H p (.lst vs)) σ Δ (.ref p) (.nl xs) :=
  ⟨p, vs, rfl, (ok.fresh hp).1, (ok.fresh hp).2, upd_same, h, ok.notNew hp⟩
theorem de_cat (ha : DEx X Δ a r1 Δ1) (hb : DEx X Δ1 b r2 Δ2) (l1 : lite r1 = true) (e1 : rdOf Δ2 r1 = some (.list xs)) (e2 : rdOf Δ2 r2 = some (.list ys)) (hl : xs.length + ys.length ≤ 1000000) : DEx X Δ (.BinOp a .Add b pos) (.nl (xs ++ ys)) Δ2 :=
  de_bin op_cat ha hb l1 fun B F H σ v w Q ok hv hw q => by
    obtain ⟨a1, vs, rfl, h1, k1⟩ := rd_list ok hv e1
    obtain ⟨a2, ws, rfl, h2, k2⟩ := rd_list ok hw e2
    refine ⟨a1, a2, vs, ws, rfl, rfl, h1, h2, by rw [k1.length, k2.length, sizeLine_eq]; omega, fun p hp => ?_⟩
    exact q _ _ _ (ok.new hp) (.refl _) (res_nl ok hp (pr_app k1 k2))
theorem de_rep (ha : DEx X Δ a r1 Δ1) (hb : DEx X Δ1 b (.d (.int j)) Δ2) (l1 : lite r1 = true) (e1 : rdOf Δ2 r1 = some (.list xs)) (hj : 0 ≤ j ∧ j ≤ 1000000) (hl : xs.length * j.toNat ≤ 1000000) : DEx X Δ (.BinOp a .Mult b pos) (.nl (List.replicate j.toNat xs).flatten) Δ2 :=
  de_bin op_rep ha hb l1 fun B F H σ v w Q ok hv hw q => by
    obtain ⟨a1, vs, rfl, h1, k1⟩ := rd_list ok hv e1
    cases Dq.int_ hw
    refine ⟨a1, j, vs, rfl, rfl, h1, by omega, by omega, by rw [k1.length, sizeLine_eq]; omega, fun p hp => ?_⟩
    exact q _ _ _ (ok.new hp) (.refl _) (res_nl ok hp (pr_rep k1 _))
theorem de_neg (ha : DEx X Δ a (.d (.int i)) Δ1) : DEx X Δ (.UnaryOp .USub a pos) (.d (.int (-i))) Δ1 := ⟨ha.rk, pe_imp (pe_un un_neg ha.pe) fun σ H Q ⟨B, F, ok, q⟩ => ⟨B, F, ok, fun v F1 H1 ok1 ex1 hv => by
  cases Dq.int_ hv
  exact ⟨i, rfl, q _ _ _ ok1 ex1 (.int _)⟩⟩⟩
/-! comparisons -/
abbrev shp (d : PyData) : Prop := SeqAt.shaped d = true
theorem bn_eq (e1 : rdOf Δ r1 = some x) (e2 : rdOf Δ r2 = some y) (h1 : shp x) (h2 : shp y) : Bn X.K Δ r1 r2 (rEqD X.K) (.d (.bool (PyData.eqv x y))) := fun B F H σ v w Q ok hv hw q =>
  ⟨x, y, (rd_dq ok hv e1).dp, (rd_dq ok hw e2).dp, h1, h2, q _ _ _ ok (.refl _) (.bl _)⟩
theorem bn_ne (e1 : rdOf Δ r1 = some x) (e2 : rdOf Δ r2 = some y) (h1 : shp x) (h2 : shp y) : Bn X.K Δ r1 r2 (rNeD X.K) (.d (.bool (!PyData.eqv x y))) := fun B F H σ v w Q ok hv hw q =>
  ⟨x, y, (rd_dq ok hv e1).dp, (rd_dq ok hw e2).dp, h1, h2, q _ _ _ ok (.refl _) (.bl _)⟩
theorem de_eq (hu : X.A.units + 64 < cLine) (ha : DEx X Δ a r1 Δ1) (hb : DEx X Δ1 b r2 Δ2) (l1 : lite r1 = true) (e1 : rdOf Δ2 r1 = some x) (e2 : rdOf Δ2 r2 = some y) (h1 : shp x) (h2 : shp y) : DEx X Δ (.Compare a [.Eq] [b] pos) (.d (.bool (PyData.eqv x y))) Δ2 :=
  de_cmp (op_eqD hu) ha hb l1 (nomark _) (bn_eq e1 e2 h1 h2)
theorem dt_eq (hu : X.A.units + 64 < cLine) (ha : DEx X Δ a r1 Δ1) (hb : DEx X Δ1 b r2 Δ2) (l1 : lite r1 = true) (e1 : rdOf Δ2 r1 = some x) (e2 : rdOf Δ2 r2 = some y) (h1 : shp x) (h2 : shp y) : DTx X Δ (.Compare a [.Eq] [b] pos) (PyData.eqv x y) Δ2 :=
  dt_cmp (op_eqD hu) ha hb l1 (nomark _) (bn_eq e1 e2 h1 h2)
theorem de_ne (hu : X.A.units + 64 < cLine) (ha : DEx X Δ a r1 Δ1) (hb : DEx X Δ1 b r2 Δ2) (l1 : lite r1 = true) (e1 : rdOf Δ2 r1 = some x) (e2 : rdOf Δ2 r2 = some y) (h1 : shp x) (h2 : shp y) : DEx X Δ (.Compare a [.NotEq] [b] pos) (.d (.bool (!PyData.eqv x y))) Δ2 :=
  de_cmp (op_neD hu) ha hb l1 (nomark _) (bn_ne e1 e2 h1 h2)
theorem dt_ne (hu : X.A.units + 64 < cLine) (ha : DEx X Δ a r1 Δ1) (hb : DEx X Δ1 b r2 Δ2) (l1 : lite r1 = true) (e1 : rdOf Δ2 r1 = some x) (e2 : rdOf Δ2 r2 = some y) (h1 : shp x) (h2 : shp y) : DTx X Δ (.Compare a [.NotEq] [b] pos) (!PyData.eqv x y) Δ2 :=
  dt_cmp (op_neD hu) ha hb l1 (nomark _) (bn_ne e1 e2 h1 h2)
/-- scalars: by the plain rule -/
def flatD : PyData → Option V
  | .none => some .non
  | .bool b => some (.bl b)
  | .int i => some (.int i)
  | .str s => some (.str s)
  | _ => none
theorem Dq.flat {F : Hp} {v u : V} (h : Dq F v x) (e : flatD x = some u) : v = u := by
  cases h <;> cases e <;> rfl
theorem flat_dq {F : Hp} {u : V} (e : flatD x = some u) : Dq F u x := by
  cases x <;> cases e <;> constructor
theorem bn_eqF {u v : V} (e1 : flatD x = some u) (e2 : flatD y = some v) (h : scal u v = true) : Bn X.K Δ (.d x) (.d y) rEq (.d (.bool (decide (u = v)))) := fun B F H σ v' w' Q ok hv hw q => by
  cases Dq.flat hv e1
  cases Dq.flat hw e2
  exact ⟨h, q _ _ _ ok (.refl _) (.bl _)⟩
theorem bn_neF {u v : V} (e1 : flatD x = some u) (e2 : flatD y = some v) (h : scal u v = true) : Bn X.K Δ (.d x) (.d y) rNe (.d (.bool (!decide (u = v)))) := fun B F H σ v' w' Q ok hv hw q => by
  cases Dq.flat hv e1
  cases Dq.flat hw e2
  exact ⟨h, q _ _ _ ok (.refl _) (.bl _)⟩
theorem de_eqI (ha : DEx X Δ a (.d (.int i)) Δ1) (hb : DEx X Δ1 b (.d (.int j)) Δ2) : DEx X Δ (.Compare a [.Eq] [b] pos) (.d (.bool (decide (i = j)))) Δ2 := by
  have := de_cmp (pos := pos) op_eq ha hb rfl (nomark _) (bn_eqF (X := X) rfl rfl rfl)
  simpa only [V.int.injEq] using this
theorem dt_eqI (ha : DEx X Δ a (.d (.int i)) Δ1) (hb : DEx X Δ1 b (.d (.int j)) Δ2) : DTx X Δ (.Compare a [.Eq] [b] pos) (decide (i = j)) Δ2 := by
  have := dt_cmp (pos := pos) op_eq ha hb rfl (nomark _) (bn_eqF (X := X) rfl rfl rfl)
  simpa only [V.int.injEq] using this
theorem dt_neI (ha : DEx X Δ a (.d (.int i)) Δ1) (hb : DEx X Δ1 b (.d (.int j)) Δ2) : DTx X Δ (.Compare a [.NotEq] [b] pos) (!decide (i = j)) Δ2 := by
  have := dt_cmp (pos := pos) op_ne ha hb rfl (nomark _) (bn_neF (X := X) rfl rfl rfl)
  simpa only [V.int.injEq] using this
theorem de_neI (ha : DEx X Δ a (.d (.int i)) Δ1) (hb : DEx X Δ1 b (.d (.int j)) Δ2) : DEx X Δ (.Compare a [.NotEq] [b] pos) (.d (.bool (!decide (i = j)))) Δ2 := by
  have := de_cmp (pos := pos) op_ne ha hb rfl (nomark _) (bn_neF (X := X) rfl rfl rfl)
  simpa only [V.int.injEq] using this
theorem dt_eqS {s t : Str} (ha : DEx X Δ a (.d (.str s)) Δ1) (hb : DEx X Δ1 b (.d (.str t)) Δ2) : DTx X Δ (.Compare a [.Eq] [b] pos) (decide (s = t)) Δ2 := by
  have := dt_cmp (pos := pos) op_eq ha hb rfl (nomark _) (bn_eqF (X := X) rfl rfl rfl)
  simpa only [V.str.injEq] using this
theorem de_eqS {s t : Str} (ha : DEx X Δ a (.d (.str s)) Δ1) (hb : DEx X Δ1 b (.d (.str t)) Δ2) : DEx X Δ (.Compare a [.Eq] [b] pos) (.d (.bool (decide (s = t)))) Δ2 := by
  have := de_cmp (pos := pos) op_eq ha hb rfl (nomark _) (bn_eqF (X := X) rfl rfl rfl)
  simpa only [V.str.injEq] using this
theorem dt_neS {s t : Str} (ha : DEx X Δ a (.d (.str s)) Δ1) (hb : DEx X Δ1 b (.d (.str t)) Δ2) : DTx X Δ (.Compare a [.NotEq] [b] pos) (!decide (s = t)) Δ2 := by
  have := dt_cmp (pos := pos) op_ne ha hb rfl (nomark _) (bn_neF (X := X) rfl rfl rfl)
  simpa only [V.str.injEq] using this
theorem de_neS {s t : Str} (ha : DEx X Δ a (.d (.str s)) Δ1) (hb : DEx X Δ1 b (.d (.str t)) Δ2) : DEx X Δ (.Compare a [.NotEq] [b] pos) (.d (.bool (!decide (s = t)))) Δ2 := by
  have := de_cmp (pos := pos) op_ne ha hb rfl (nomark _) (bn_neF (X := X) rfl rfl rfl)
  simpa only [V.str.injEq] using this
theorem de_lt (ha : DEx X Δ a (.d (.int i)) Δ1) (hb : DEx X Δ1 b (.d (.int j)) Δ2) : DEx X Δ (.Compare a [.Lt] [b] pos) (.d (.bool (decide (i < j)))) Δ2 := de_cmp op_lt ha hb rfl (nomark _) (bn_I0 fun _ => .bl _)
theorem dt_lt (ha : DEx X Δ a (.d (.int i)) Δ1) (hb : DEx X Δ1 b (.d (.int j)) Δ2) : DTx X Δ (.Compare a [.Lt] [b] pos) (decide (i < j)) Δ2 := dt_cmp op_lt ha hb rfl (nomark _) (bn_I0 fun _ => .bl _)
theorem de_le (ha : DEx X Δ a (.d (.int i)) Δ1) (hb : DEx X Δ1 b (.d (.int j)) Δ2) : DEx X Δ (.Compare a [.LtE] [b] pos) (.d (.bool (decide (i ≤ j)))) Δ2 := de_cmp op_le ha hb rfl (nomark _) (bn_I0 fun _ => .bl _)
theorem dt_le (ha : DEx X Δ a (.d (.int i)) Δ1) (hb : DEx X Δ1 b (.d (.int j)) Δ2) : DTx X Δ (.Compare a [.LtE] [b] pos) (decide (i ≤ j)) Δ2 := dt_cmp op_le ha hb rfl (nomark _) (bn_I0 fun _ => .bl _)
theorem de_gt (ha : DEx X Δ a (.d (.int i)) Δ1) (hb : DEx X Δ1 b (.d (.int j)) Δ2) : DEx X Δ (.Compare a [.Gt] [b] pos) (.d (.bool (decide (j < i)))) Δ2 := de_cmp op_gt ha hb rfl (nomark _) (bn_I0 fun _ => .bl _)
theorem dt_gt (ha : DEx X Δ a (.d (.int i)) Δ1) (hb : DEx X Δ1 b (.d (.int j)) Δ2) : DTx X Δ (.Compare a [.Gt] [b] pos) (decide (j < i)) Δ2 := dt_cmp op_gt ha hb rfl (nomark _) (bn_I0 fun _ => .bl _)
theorem de_ge (ha : DEx X Δ a (.d (.int i)) Δ1) (hb : DEx X Δ1 b (.d (.int j)) Δ2) : DEx X Δ (.Compare a [.GtE] [b] pos) (.d (.bool (decide (j ≤ i)))) Δ2 := de_cmp op_ge ha hb rfl (nomark _) (bn_I0 fun _ => .bl _)
theorem dt_ge (ha : DEx X Δ a (.d (.int i)) Δ1) (hb : DEx X Δ1 b (.d (.int j)) Δ2) : DTx X Δ (.Compare a [.GtE] [b] pos) (decide (j ≤ i)) Δ2 := dt_cmp op_ge ha hb rfl (nomark _) (bn_I0 fun _ => .bl _)
/-- x in a list of texts and numbers -/
def flats : List PyData → Option (List V)
  | [] => some []
  | x :: xs => match flatD x, flats xs with
    | some u, some us => some (u :: us)
    | _, _ => none
theorem DqA.flat {F : Hp} : ∀ {xs : List PyData} {vs us : List V}, DqA F vs xs → flats xs = some us → vs = us
  | [], _, _, .nil, e => by cases e; rfl
  | x :: xs, _, _, .cons h t, e => by
    unfold flats at e
    split at e
    · rename_i u us e1 e2
      cases e
      rw [Dq.flat h e1, DqA.flat t e2]
    · cases e
theorem bn_in {u : V} {us : List V} (e1 : flatD x = some u) (e2 : rdOf Δ r2 = some (.list xs)) (e3 : flats xs = some us) (h1 : flatV u = true) (h2 : us.all flatV = true) : Bn X.K Δ (.d x) r2 (rIn X.K false) (.d (.bool (inV u us))) := fun B F H σ v w Q ok hv hw q => by
  cases Dq.flat hv e1
  obtain ⟨a, vs, rfl, ha, hd⟩ := rd_list ok hw e2
  cases DqA.flat hd e3
  exact ⟨a, _, rfl, .inl (SqL.of ha), h1, h2, q _ _ _ ok (.refl _) (.bl _)⟩
theorem bn_ni {u : V} {us : List V} (e1 : flatD x = some u) (e2 : rdOf Δ r2 = some (.list xs)) (e3 : flats xs = some us) (h1 : flatV u = true) (h2 : us.all flatV = true) : Bn X.K Δ (.d x) r2 (rIn X.K true) (.d (.bool (!inV u us))) := fun B F H σ v w Q ok hv hw q => by
  cases Dq.flat hv e1
  obtain ⟨a, vs, rfl, ha, hd⟩ := rd_list ok hw e2
  cases DqA.flat hd e3
  exact ⟨a, _, rfl, .inl (SqL.of ha), h1, h2, q _ _ _ ok (.refl _) (.bl _)⟩
theorem dt_in {u : V} {us : List V} (ha : DEx X Δ a (.d x) Δ1) (hb : DEx X Δ1 b r2 Δ2) (hm : behindInMarks .In b = false) (e1 : flatD x = some u) (e2 : rdOf Δ2 r2 = some (.list xs)) (e3 : flats xs = some us) (h1 : flatV u = true) (h2 : us.all flatV = true) :
    DTx X Δ (.Compare a [.In] [b] pos) (inV u us) Δ2 := dt_cmp op_in_seq ha hb rfl hm (bn_in e1 e2 e3 h1 h2)
theorem de_in {u : V} {us : List V} (ha : DEx X Δ a (.d x) Δ1) (hb : DEx X Δ1 b r2 Δ2) (hm : behindInMarks .In b = false) (e1 : flatD x = some u) (e2 : rdOf Δ2 r2 = some (.list xs)) (e3 : flats xs = some us) (h1 : flatV u = true) (h2 : us.all flatV = true) :
    DEx X Δ (.Compare a [.In] [b] pos) (.d (.bool (inV u us))) Δ2 := de_cmp op_in_seq ha hb rfl hm (bn_in e1 e2 e3 h1 h2)
theorem dt_ni {u : V} {us : List V} (ha : DEx X Δ a (.d x) Δ1) (hb : DEx X Δ1 b r2 Δ2) (hm : behindInMarks .NotIn b = false) (e1 : flatD x = some u) (e2 : rdOf Δ2 r2 = some (.list xs)) (e3 : flats xs = some us) (h1 : flatV u = true) (h2 : us.all flatV = true) :
    DTx X Δ (.Compare a [.NotIn] [b] pos) (!inV u us) Δ2 := dt_cmp op_notIn_seq ha hb rfl hm (bn_ni e1 e2 e3 h1 h2)
/-! tests -/
theorem dt_val (h : DEx X Δ e (.d (.bool k)) Δ1) (he : ∀ whole, isTrue e X.env whole = (do let v ← whole; standAt e.pos; holding [v] (truthy v)) := by intro _; rfl) : DTx X Δ e k Δ1 :=
  ⟨h.rk, pt_imp (pt_val h.pe he) fun σ H Q ⟨B, F, ok, q⟩ => ⟨B, F, ok, fun v F' H' ok' ex hv => ⟨k, Dq.bl_ hv, q F' H' ok' ex⟩⟩⟩
theorem dt_not (h : DTx X Δ e k Δ1) : DTx X Δ (.UnaryOp .Not e pos) (!k) Δ1 := ⟨h.rk, pt_imp (pt_not h.pt) fun σ H Q ⟨B, F, ok, q⟩ => ⟨B, F, ok, fun F' H' ok' ex => q F' H' ok' ex⟩⟩
/-- and, or of several, as a test: DW -/
structure DWx (X : Cx) (Δ : En) (e : Expr) (b : Bool) (Δ' : En) : Prop where
  rk : RK Δ Δ'
  pw : PW X e (tT X.K Δ b Δ')
theorem DWx.dt (h : DWx X Δ e k Δ1) : DTx X Δ e k Δ1 := ⟨h.rk, h.pw.pt⟩
theorem dw_and1 (h : DTx X Δ a k Δ1) : DWx X Δ (.BoolOp .And [a] pos) k Δ1 := ⟨h.rk, pw_and1 h.pt⟩
theorem dw_or1 (h : DTx X Δ a k Δ1) : DWx X Δ (.BoolOp .Or [a] pos) k Δ1 := ⟨h.rk, pw_or1 h.pt⟩
theorem pw_imp {e : Expr} {t t' : TT} (h : PW X e t) (k : ∀ σ H Q, t' σ H Q → t σ H Q) : PW X e t' := ⟨fun wh pins s σ H Q I w => h.run wh pins s σ H Q I (k _ _ _ w)⟩
theorem tT_false {K : Frag} {σ : St} {H : Hp} {Q : Bool → Hp → Prop} : (fun (_ : St) (_ : Hp) (_ : Bool → Hp → Prop) => False) σ H Q → False := id
theorem pw_never {es : List Expr} {op : BoolOp} : PW X (.BoolOp op es pos) (fun _ _ _ => False) := ⟨fun _ _ _ _ _ _ _ h => h.elim⟩
/-- both may be asked; where they leave the slots as they are -/
theorem dw_and (h : DTx X Δ a k Δ) (hb : k = true → DWx X Δ (.BoolOp .And (b :: es) pos) l Δ) : DWx X Δ (.BoolOp .And (a :: b :: es) pos) (k && l) Δ := by
  cases k with
  | true =>
    have hb := hb rfl
    refine ⟨.rfl, pw_imp (pw_and h.pt hb.pw) fun σ H Q ⟨B, F, ok, q⟩ => ⟨B, F, ok, fun F1 H1 ok1 ex1 => ?_⟩⟩
    refine iteT ?_
    exact ⟨B, F1, ok1, fun F2 H2 ok2 ex2 => q F2 H2 ok2 (ex1.trans ex2)⟩
  | false =>
    refine ⟨.rfl, pw_imp (pw_and h.pt pw_never) fun σ H Q ⟨B, F, ok, q⟩ => ⟨B, F, ok, fun F1 H1 ok1 ex1 => ?_⟩⟩
    refine iteF ?_
    exact q F1 H1 ok1 ex1
theorem dw_or (h : DTx X Δ a k Δ) (hb : k = false → DWx X Δ (.BoolOp .Or (b :: es) pos) l Δ) : DWx X Δ (.BoolOp .Or (a :: b :: es) pos) (k || l) Δ := by
  cases k with
  | false =>
    have hb := hb rfl
    refine ⟨.rfl, pw_imp (pw_or h.pt hb.pw) fun σ H Q ⟨B, F, ok, q⟩ => ⟨B, F, ok, fun F1 H1 ok1 ex1 => ?_⟩⟩
    refine iteF ?_
    exact ⟨B, F1, ok1, fun F2 H2 ok2 ex2 => q F2 H2 ok2 (ex1.trans ex2)⟩
  | true =>
    refine ⟨.rfl, pw_imp (pw_or h.pt pw_never) fun σ H Q ⟨B, F, ok, q⟩ => ⟨B, F, ok, fun F1 H1 ok1 ex1 => ?_⟩⟩
    refine iteT ?_
    exact q F1 H1 ok1 ex1
/-! .. as values -/
theorem de_not (h : DEx X Δ a (.d (.bool k)) Δ1) : DEx X Δ (.UnaryOp .Not a pos) (.d (.bool (!k))) Δ1 := ⟨h.rk, pe_imp (pe_not h.pe) fun σ H Q ⟨B, F, ok, q⟩ => ⟨B, F, ok, fun v F' H' ok' ex hv => ⟨k, Dq.bl_ hv, q _ F' H' ok' ex (.bl _)⟩⟩⟩
theorem pe_never {e : Expr} : PE X e (fun _ _ _ => False) := ⟨fun _ _ _ _ _ _ h => h.elim⟩
theorem de_one {op : BoolOp} (h : DEx X Δ a r Δ1) : DEx X Δ (.BoolOp op [a] pos) r Δ1 := ⟨h.rk, pe_one h.pe⟩
theorem de_and (h : DEx X Δ a (.d (.bool k)) Δ) (hb : k = true → DEx X Δ (.BoolOp .And (b :: es) pos) (.d (.bool l)) Δ) : DEx X Δ (.BoolOp .And (a :: b :: es) pos) (.d (.bool (k && l))) Δ := by
  cases k with
  | true =>
    have hb := hb rfl
    refine ⟨.rfl, pe_imp (pe_and h.pe hb.pe) fun σ H Q ⟨B, F, ok, q⟩ => ⟨B, F, ok, fun v F1 H1 ok1 ex1 hv => ⟨true, Dq.bl_ hv, ?_⟩⟩⟩
    refine iteT ?_
    exact ⟨B, F1, ok1, fun v F2 H2 ok2 ex2 h2 => q v F2 H2 ok2 (ex1.trans ex2) h2⟩
  | false =>
    refine ⟨.rfl, pe_imp (pe_and h.pe pe_never) fun σ H Q ⟨B, F, ok, q⟩ => ⟨B, F, ok, fun v F1 H1 ok1 ex1 hv => ⟨false, Dq.bl_ hv, ?_⟩⟩⟩
    refine iteF ?_
    exact q _ F1 H1 ok1 ex1 (.bl false)
theorem de_or (h : DEx X Δ a (.d (.bool k)) Δ) (hb : k = false → DEx X Δ (.BoolOp .Or (b :: es) pos) (.d (.bool l)) Δ) : DEx X Δ (.BoolOp .Or (a :: b :: es) pos) (.d (.bool (k || l))) Δ := by
  cases k with
  | false =>
    have hb := hb rfl
    refine ⟨.rfl, pe_imp (pe_or h.pe hb.pe) fun σ H Q ⟨B, F, ok, q⟩ => ⟨B, F, ok, fun v F1 H1 ok1 ex1 hv => ⟨false, Dq.bl_ hv, ?_⟩⟩⟩
    refine iteF ?_
    exact ⟨B, F1, ok1, fun v F2 H2 ok2 ex2 h2 => q v F2 H2 ok2 (ex1.trans ex2) h2⟩
  | true =>
    refine ⟨.rfl, pe_imp (pe_or h.pe pe_never) fun σ H Q ⟨B, F, ok, q⟩ => ⟨B, F, ok, fun v F1 H1 ok1 ex1 hv => ⟨true, Dq.bl_ hv, ?_⟩⟩⟩
    refine iteT ?_
    exact q _ F1 H1 ok1 ex1 (.bl true)
/-! 0 <= x < n -/
theorem dt_chain {op op' : CmpOp} {rr rr' : R2} (ho : OpR X (compareOp op) rr) (ho' : OpR X (compareOp op') rr') (ha : DEx X Δ a (.d x) Δ) (hb : DEx X Δ b (.d y) Δ) (hc : k = true → DEx X Δ c (.d z) Δ)
    (h1 : Bn X.K Δ (.d x) (.d y) rr (.d (.bool k))) (h2 : k = true → Bn X.K Δ (.d y) (.d z) rr' (.d (.bool l))) (hm : lastMarks [op, op'] [b, c] = false) :
    DTx X Δ (.Compare a [op, op'] [b, c] pos) (k && l) Δ := by
  cases k with
  | true =>
    have hc := hc rfl
    have h2 := h2 rfl
    refine ⟨.rfl, pt_imp (pt_chain ho ho' ha.pe hb.pe hc.pe hm) fun σ H Q ⟨B, F, ok, q⟩ => ⟨B, F, ok, fun v F1 H1 ok1 ex1 hv => ⟨B, F1, ok1, fun w F2 H2 ok2 ex2 hw => ?_⟩⟩⟩
    refine h1 B F2 H2 σ v w _ ok2 (Dq.mono ex2 hv) hw fun u F3 H3 ok3 ex3 hu => ⟨true, Dq.bl_ hu, ?_⟩
    refine iteT ?_
    refine ⟨B, F3, ok3, fun t F4 H4 ok4 ex4 ht => ?_⟩
    exact h2 B F4 H4 σ w t _ ok4 (Dq.mono (ex3.trans ex4) hw) ht fun u F5 H5 ok5 ex5 hu => ⟨l, Dq.bl_ hu, q F5 H5 ok5 ((((ex1.trans ex2).trans ex3).trans ex4).trans ex5)⟩
  | false =>
    refine ⟨.rfl, pt_imp (pt_chain ho ho' ha.pe hb.pe pe_never hm) fun σ H Q ⟨B, F, ok, q⟩ => ⟨B, F, ok, fun v F1 H1 ok1 ex1 hv => ⟨B, F1, ok1, fun w F2 H2 ok2 ex2 hw => ?_⟩⟩⟩
    refine h1 B F2 H2 σ v w _ ok2 (Dq.mono ex2 hv) hw fun u F3 H3 ok3 ex3 hu => ⟨false, Dq.bl_ hu, ?_⟩
    refine iteF ⟨false, rfl, ?_⟩
    exact q F3 H3 ok3 ((ex1.trans ex2).trans ex3)
/-- a <= b < c -/
theorem dt_lelt {n : Int} (ha : DEx X Δ a (.d (.int i)) Δ) (hb : DEx X Δ b (.d (.int j)) Δ) (hc : DEx X Δ c (.d (.int n)) Δ) (hm : lastMarks [.LtE, .Lt] [b, c] = false := by with_unfolding_all rfl) : DTx X Δ (.Compare a [.LtE, .Lt] [b, c] pos) (decide (i ≤ j) && decide (j < n)) Δ :=
  dt_chain op_le op_lt ha hb (fun _ => hc) (bn_I0 fun _ => .bl _) (fun _ => bn_I0 fun _ => .bl _) hm
end
end Tr
namespace Tr
open PySem L2
section
variable {X : Cx} {Δ Δ1 Δ2 Δ3 : En} {a b c e : Expr} {es : List Expr} {r r1 r2 r3 : R} {rs : List R} {pos p p2 : Pos} {i j : Int} {x y z : PyData} {xs ys : List PyData} {k l : Bool}
/-! ### arguments, displays -/
theorem da_nil : DAx X Δ [] [] Δ := ⟨.rfl, pa_imp pa_nil fun σ H Q ⟨B, F, ok, q⟩ => q [] _ _ ok (.refl _) .nil⟩
theorem da_cons (ha : DEx X Δ e r Δ1) (hr : DAx X Δ1 es rs Δ2) (hl : lite r = true := by rfl) (hs : starEach (e :: es) X.env = (false, eval e X.env) :: starEach es X.env := by rfl) : DAx X Δ (e :: es) (r :: rs) Δ2 :=
  ⟨ha.rk.trans hr.rk, pa_imp (pa_cons ha.pe hr.pa hs) fun σ H Q ⟨B, F, ok, q⟩ => ⟨B, F, ok, fun v F1 H1 ok1 ex1 hv => ⟨B, F1, ok1, fun vs F2 H2 ok2 ex2 hvs => q _ F2 H2 ok2 (ex1.trans ex2) (.cons (hv.keep hl ex2) hvs)⟩⟩⟩
/-- all of them data -/
def dats : List R → Option (List PyData)
  | [] => some []
  | .d x :: rs => match dats rs with
    | some ys => some (x :: ys)
    | none => none
  | _ :: _ => none
theorem dats_dq {B F H : Hp} {σ : St} {Δ : En} : ∀ {rs : List R} {vs : List V} {xs : List PyData}, Paired (Res B F H σ Δ) vs rs → dats rs = some xs → DqA F vs xs
  | [], _, _, .nil, e => by cases e; exact .nil
  | .d x :: rs, _, _, .cons h t, e => by
    unfold dats at e
    cases q : dats rs with
    | none => rw [q] at e; cases e
    | some ys =>
      rw [q] at e
      cases e
      exact .cons h (dats_dq t q)
  | .nl x :: rs, _, _, .cons h t, e => by cases e
  | .sl x :: rs, _, _, .cons h t, e => by cases e
  | .nt x y :: rs, _, _, .cons h t, e => by cases e
theorem de_tup {kk} (h : DAx X Δ es rs Δ1) (e : dats rs = some xs := by rfl) (hl : xs.length ≤ 1000 := by first | decide | (simp; done) | omega) : DEx X Δ (.Tuple es kk pos) (.d (.tuple xs)) Δ1 := ⟨h.rk, pe_imp (pe_tup h.pa) fun σ H Q ⟨B, F, ok, q⟩ => ⟨B, F, ok, fun vs F1 H1 ok1 ex1 hv => by
  have hd := dats_dq hv e
  refine ⟨by rw [hd.length, sizeLine_eq]; omega, fun p hp => ?_⟩
  exact q _ _ _ (ok1.laid hp) (ex1.trans (.new (ok1.fresh hp).1)) (.tuple upd_same (hd.mono (.new (ok1.fresh hp).1)))⟩⟩
theorem de_lst (h : DAx X Δ es rs Δ1) (e : dats rs = some xs := by rfl) (hl : xs.length ≤ 1000 := by first | decide | (simp; done) | omega) : DEx X Δ (.List es pos) (.nl xs) Δ1 := ⟨h.rk, pe_imp (pe_lst h.pa) fun σ H Q ⟨B, F, ok, q⟩ => ⟨B, F, ok, fun vs F1 H1 ok1 ex1 hv => by
  have hd := dats_dq hv e
  refine ⟨by rw [hd.length, sizeLine_eq]; omega, fun p hp => ?_⟩
  exact q _ _ _ (ok1.new hp) ex1 (res_nl ok1 hp hd)⟩⟩
/-! ### subscripts -/
theorem plainIx_ (b : Expr) (h : PlainIx b) : PlainIx b := h
theorem de_ixL (ha : DEx X Δ a r1 Δ1) (hb : DEx X Δ1 b (.d (.int i)) Δ2) (l1 : lite r1 = true) (e1 : rdOf Δ2 r1 = some (.list xs)) (hx : atI xs i = some x) (hs : PlainIx b := by exact fun _ _ => rfl) : DEx X Δ (.Subscript a b pos) (.d x) Δ2 :=
  ⟨ha.rk.trans hb.rk, pe_imp (pe_ix ix_list ha.pe hb.pe hs) (two_ ha hb l1 fun B F H σ v w Q ok hv hw q => by
    obtain ⟨a1, vs, rfl, h1, k1⟩ := rd_list ok hv e1
    cases Dq.int_ hw
    obtain ⟨j, hj, hx', hlt, hlo, hhi⟩ := atI_get hx
    obtain ⟨u, hu, hd⟩ := pr_get k1 hx'
    refine ⟨a1, vs, i, u, rfl, rfl, SqL.of h1, ?_, q _ _ _ ok (.refl _) hd⟩
    unfold atI at hx ⊢
    rw [k1.length]
    cases hq : ixN xs.length i with
    | none => rw [hq] at hx; cases hx
    | some j' =>
      have z := ixN_seq hq
      rw [hj] at z
      cases z.1
      exact hu)⟩
theorem de_ixT (ha : DEx X Δ a r1 Δ1) (hb : DEx X Δ1 b (.d (.int i)) Δ2) (l1 : lite r1 = true) (e1 : rdOf Δ2 r1 = some (.tuple xs)) (hx : atI xs i = some x) (hs : PlainIx b := by exact fun _ _ => rfl) : DEx X Δ (.Subscript a b pos) (.d x) Δ2 :=
  ⟨ha.rk.trans hb.rk, pe_imp (pe_ix ix_tup ha.pe hb.pe hs) (two_ ha hb l1 fun B F H σ v w Q ok hv hw q => by
    obtain ⟨a1, vs, rfl, h1, k1⟩ := rd_tup ok hv e1
    cases Dq.int_ hw
    obtain ⟨j, hj, hx', hlt, hlo, hhi⟩ := atI_get hx
    obtain ⟨u, hu, hd⟩ := pr_get k1 hx'
    refine ⟨a1, vs, i, u, rfl, rfl, SqT.of (ok.fh _ _ h1), ?_, q _ _ _ ok (.refl _) hd⟩
    unfold atI at hx ⊢
    rw [k1.length]
    cases hq : ixN xs.length i with
    | none => rw [hq] at hx; cases hx
    | some j' =>
      have z := ixN_seq hq
      rw [hj] at z
      cases z.1
      exact hu)⟩
theorem de_ixS {s : Str} {n : Nat} (ha : DEx X Δ a (.d (.str s)) Δ1) (hb : DEx X Δ1 b (.d (.int i)) Δ2) (hl : s.length ≤ 1000000) (hx : atI s.cps.toList i = some n) (hs : PlainIx b := by exact fun _ _ => rfl) : DEx X Δ (.Subscript a b pos) (.d (.str ⟨#[n]⟩)) Δ2 :=
  ⟨ha.rk.trans hb.rk, pe_imp (pe_ix ix_str ha.pe hb.pe hs) (two_ ha hb rfl fun B F H σ v w Q ok hv hw q => by
    cases Dq.str_ hv
    cases Dq.int_ hw
    exact ⟨s, i, n, rfl, rfl, by rw [sizeLine_eq]; omega, hx, q _ _ _ ok (.refl _) (.str _)⟩)⟩
/-- the script's item -/
theorem de_ixSc {n : Nat} {ns : List Int} {m : Int} (ha : DEx X Δ a (.sl n) Δ) (hb : DEx X Δ b (.d (.int i)) Δ) (e1 : Δ[n]? = some (.sc ns)) (hx : atI ns i = some m) (hs : PlainIx b := by exact fun _ _ => rfl) : DEx X Δ (.Subscript a b pos) (.d (.int m)) Δ :=
  ⟨.rfl, pe_imp (pe_ix ix_list ha.pe hb.pe hs) (two_ ha hb rfl fun B F H σ v w Q ok hv hw q => by
    have hv : σ[n]? = some (some v) := hv
    obtain ⟨o, h1, h2⟩ := ok.sl n _ e1
    rw [hv] at h1
    cases h1
    obtain ⟨a1, ea, hq⟩ := (show ∃ a, some v = some (.ref a) ∧ SqL X.K F a (ns.map V.int) from h2)
    cases ea
    cases Dq.int_ hw
    have hq' : SqL X.K H a1 (ns.map V.int) := by
      rcases hq with (z | ⟨u, z⟩) | z
      · exact .inl (.inl (ok.fh _ _ z))
      · exact .inl (.inr ⟨u, ok.fh _ _ z⟩)
      · exact .inr z
    refine ⟨a1, _, i, .int m, rfl, rfl, hq', ?_, q _ _ _ ok (.refl _) (.int _)⟩
    unfold atI at hx ⊢
    rw [List.length_map]
    cases hq : ixN ns.length i with
    | none => rw [hq] at hx; cases hx
    | some j' =>
      rw [hq] at hx
      have hx : ns[j']? = some m := hx
      show (ns.map V.int)[j']? = _
      rw [List.getElem?_map, hx]
      rfl)⟩
/-- a part of a slice -/
structure DPx (X : Cx) (Δ : En) (e : Option Expr) (o : Option Int) : Prop where
  po : ∃ t : TO, PO X e t ∧ ∀ σ H Q, (∃ B F, Ok X.K B F H σ Δ ∧ ∀ F' H', Ok X.K B F' H' σ Δ → Ex F F' → Q o H') → t σ H Q
theorem dp_no : DPx X Δ none none := ⟨_, po_none, fun σ H Q ⟨B, F, ok, q⟩ => q F H ok (.refl _)⟩
theorem dp_so (h : DEx X Δ e (.d (.int i)) Δ) : DPx X Δ (some e) (some i) := ⟨_, po_some h.pe, fun σ H Q ⟨B, F, ok, q⟩ => ⟨B, F, ok, fun v F' H' ok' ex hv => ⟨i, Dq.int_ hv, q F' H' ok' ex⟩⟩⟩
def cutD (xs : List PyData) (lo hi : Option Int) : List PyData := (xs.drop (HT.sIx xs.length 0 lo)).take (HT.sIx xs.length xs.length hi - HT.sIx xs.length 0 lo)
theorem pr_cut {α : Type} {G : V → α → Prop} {vs : List V} {ds : List α} (h : Paired G vs ds) (lo hi : Option Int) : Paired G (cutV vs lo hi) ((ds.drop (HT.sIx ds.length 0 lo)).take (HT.sIx ds.length ds.length hi - HT.sIx ds.length 0 lo)) := by
  unfold cutV
  rw [h.length]
  exact pr_take _ (pr_drop _ h)
theorem de_slL {lo hi : Option Expr} {m n : Option Int} (ha : DEx X Δ a r1 Δ1) (h1 : DPx X Δ1 lo m) (h2 : DPx X Δ1 hi n) (l1 : lite r1 = true) (e1 : rdOf Δ1 r1 = some (.list xs)) : DEx X Δ (.Subscript a (.Slice lo hi none p2) pos) (.nl (cutD xs m n)) Δ1 := by
  obtain ⟨t1, p1, q1⟩ := h1.po
  obtain ⟨t2, p2, q2⟩ := h2.po
  refine ⟨ha.rk, pe_imp (pe_slice sl_list ha.pe p1 p2) fun σ H Q ⟨B, F, ok, q⟩ => ⟨B, F, ok, fun v F1 H1 ok1 ex1 hv => ?_⟩⟩
  refine q1 _ _ _ ⟨B, F1, ok1, fun F2 H2 ok2 ex2 => q2 _ _ _ ⟨B, F2, ok2, fun F3 H3 ok3 ex3 => ?_⟩⟩
  obtain ⟨a1, vs, rfl, h1, k1⟩ := rd_list ok3 (hv.keep l1 (ex2.trans ex3)) e1
  refine ⟨a1, vs, rfl, SqL.of h1, fun p hp => ?_⟩
  exact q _ _ _ (ok3.new hp) ((ex1.trans ex2).trans ex3) (res_nl ok3 hp (pr_cut k1 m n))
theorem de_slT {lo hi : Option Expr} {m n : Option Int} (ha : DEx X Δ a r1 Δ1) (h1 : DPx X Δ1 lo m) (h2 : DPx X Δ1 hi n) (l1 : lite r1 = true) (e1 : rdOf Δ1 r1 = some (.tuple xs)) (hne : HT.sIx xs.length 0 m ≠ 0 ∨ HT.sIx xs.length xs.length n ≠ xs.length) : DEx X Δ (.Subscript a (.Slice lo hi none p2) pos) (.d (.tuple (cutD xs m n))) Δ1 := by
  obtain ⟨t1, p1, q1⟩ := h1.po
  obtain ⟨t2, p2, q2⟩ := h2.po
  refine ⟨ha.rk, pe_imp (pe_slice sl_tup ha.pe p1 p2) fun σ H Q ⟨B, F, ok, q⟩ => ⟨B, F, ok, fun v F1 H1 ok1 ex1 hv => ?_⟩⟩
  refine q1 _ _ _ ⟨B, F1, ok1, fun F2 H2 ok2 ex2 => q2 _ _ _ ⟨B, F2, ok2, fun F3 H3 ok3 ex3 => ?_⟩⟩
  obtain ⟨a1, vs, rfl, h1, k1⟩ := rd_tup ok3 (hv.keep l1 (ex2.trans ex3)) e1
  refine ⟨a1, vs, rfl, SqT.of (ok3.fh _ _ h1), ?_⟩
  rw [k1.length]
  refine ⟨fun z => hne.elim (fun q => q z.1) (fun q => q z.2), fun p hp => ?_⟩
  exact q _ _ _ (ok3.laid hp) (((ex1.trans ex2).trans ex3).trans (.new (ok3.fresh hp).1)) (.tuple upd_same ((pr_cut k1 m n).mono fun _ _ => Dq.mono (.new (ok3.fresh hp).1)))
theorem de_slS {lo hi : Option Expr} {m n : Option Int} {s : Str} (ha : DEx X Δ a (.d (.str s)) Δ) (h1 : DPx X Δ lo m) (h2 : DPx X Δ hi n) (hl : s.length ≤ 1000000) : DEx X Δ (.Subscript a (.Slice lo hi none p2) pos) (.d (.str (cutS s m n))) Δ := by
  obtain ⟨t1, p1, q1⟩ := h1.po
  obtain ⟨t2, p2, q2⟩ := h2.po
  refine ⟨.rfl, pe_imp (pe_slice sl_str ha.pe p1 p2) fun σ H Q ⟨B, F, ok, q⟩ => ⟨B, F, ok, fun v F1 H1 ok1 ex1 hv => ?_⟩⟩
  refine q1 _ _ _ ⟨B, F1, ok1, fun F2 H2 ok2 ex2 => q2 _ _ _ ⟨B, F2, ok2, fun F3 H3 ok3 ex3 => ?_⟩⟩
  cases Dq.str_ hv
  exact ⟨s, rfl, by rw [sizeLine_eq]; omega, q _ _ _ ok3 ((ex1.trans ex2).trans ex3) (.str _)⟩
/-! ### built-in functions of one argument -/
def Cn (K : Frag) (Δ : En) (r1 : R) (rr : List V → Hp → VK → Prop) (r3 : R) : Prop := ∀ (B F H : Hp) (σ : St) (v : V) (Q : VK), Ok K B F H σ Δ → Res B F H σ Δ v r1 → (∀ u F' H', Ok K B F' H' σ Δ → Ex F F' → Res B F' H' σ Δ u r3 → Q u H') → rr [v] H Q
theorem de_cb {f : Str} {id : String} {rr : List V → Hp → VK → Prop} (hc : CallR X (.builtin id) rr) (hm : X.mg f = none) (hv : bootBuiltins f = some (.builtin id)) (ha : DEx X Δ e r1 Δ1) (l1 : lite r1 = true) (hr : Cn X.K Δ1 r1 rr r3) (hg : Gl X f := by rfl)
    (hn : f ≠ "__name__" := by decide) (hdb : (f == ("__debug__" : Str)) = false := by decide) (hs : starEach [e] X.env = (false, eval e X.env) :: starEach [] X.env := by rfl) : DEx X Δ (.Call (.Name f p) [e] [] pos) r3 Δ1 :=
  ⟨ha.rk, pe_imp (pe_callB hc hg hm hv (pa_cons ha.pe pa_nil hs) hn hdb hs) fun σ H Q ⟨B, F, ok, q⟩ => ⟨B, F, ok, fun v F1 H1 ok1 ex1 hv => hr B F1 H1 σ v Q ok1 hv fun u F2 H2 ok2 ex2 hu => q u F2 H2 ok2 (ex1.trans ex2) hu⟩⟩
theorem de_ct {f : Str} {T : String} {rr : List V → Hp → VK → Prop} (hc : CallR X (.type T) rr) (hm : X.mg f = none) (hv : bootBuiltins f = some (.type T)) (ha : DEx X Δ e r1 Δ1) (l1 : lite r1 = true) (hr : Cn X.K Δ1 r1 rr r3) (hg : Gl X f := by rfl)
    (hn : f ≠ "__name__" := by decide) (hdb : (f == ("__debug__" : Str)) = false := by decide) (hs : starEach [e] X.env = (false, eval e X.env) :: starEach [] X.env := by rfl) : DEx X Δ (.Call (.Name f p) [e] [] pos) r3 Δ1 :=
  ⟨ha.rk, pe_imp (pe_callTy hc hg hm hv (pa_cons ha.pe pa_nil hs) hn hdb hs) fun σ H Q ⟨B, F, ok, q⟩ => ⟨B, F, ok, fun v F1 H1 ok1 ex1 hv => hr B F1 H1 σ v Q ok1 hv fun u F2 H2 ok2 ex2 hu => q u F2 H2 ok2 (ex1.trans ex2) hu⟩⟩
/-- the built-in names are the built-ins -/
structure Blt (mg : Str → Option Value) : Prop where
  len : mg "len" = none
  range : mg "range" = none
  list : mg "list" = none
  int : mg "int" = none
  str : mg "str" = none
  bool : mg "bool" = none
  tuple : mg "tuple" = none
  isi : mg "isinstance" = none
  sum : mg "sum" = none
  min : mg "min" = none
  max : mg "max" = none
  enum : mg "enumerate" = none
theorem de_lenL (G : Blt X.mg) (ha : DEx X Δ e r1 Δ1) (l1 : lite r1 = true) (e1 : rdOf Δ1 r1 = some (.list xs)) (hg : Gl X "len" := by rfl) (hs : starEach [e] X.env = (false, eval e X.env) :: starEach [] X.env := by rfl) : DEx X Δ (.Call (.Name "len" p) [e] [] pos) (.d (.int xs.length)) Δ1 :=
  de_cb call_len_seq G.len PySem.boot_len ha l1 (fun B F H σ v Q ok hv q => by
    obtain ⟨a, vs, rfl, h1, k1⟩ := rd_list ok hv e1
    refine ⟨a, vs, rfl, .inl (SqL.of h1), ?_⟩
    rw [k1.length]
    exact q _ _ _ ok (.refl _) (.int _)) hg (by decide) (by decide) hs
theorem de_lenT (G : Blt X.mg) (ha : DEx X Δ e r1 Δ1) (l1 : lite r1 = true) (e1 : rdOf Δ1 r1 = some (.tuple xs)) (hg : Gl X "len" := by rfl) (hs : starEach [e] X.env = (false, eval e X.env) :: starEach [] X.env := by rfl) : DEx X Δ (.Call (.Name "len" p) [e] [] pos) (.d (.int xs.length)) Δ1 :=
  de_cb call_len_seq G.len PySem.boot_len ha l1 (fun B F H σ v Q ok hv q => by
    obtain ⟨a, vs, rfl, h1, k1⟩ := rd_tup ok hv e1
    refine ⟨a, vs, rfl, .inr (SqT.of (ok.fh _ _ h1)), ?_⟩
    rw [k1.length]
    exact q _ _ _ ok (.refl _) (.int _)) hg (by decide) (by decide) hs
theorem de_lenS {s : Str} (G : Blt X.mg) (ha : DEx X Δ e (.d (.str s)) Δ1) (hl : s.length ≤ 1000000) (hg : Gl X "len" := by rfl) (hs : starEach [e] X.env = (false, eval e X.env) :: starEach [] X.env := by rfl) : DEx X Δ (.Call (.Name "len" p) [e] [] pos) (.d (.int s.length)) Δ1 :=
  de_cb call_len_str G.len PySem.boot_len ha rfl (fun B F H σ v Q ok hv q => by
    cases Dq.str_ hv
    exact ⟨s, rfl, by rw [sizeLine_eq]; omega, q _ _ _ ok (.refl _) (.int _)⟩) hg (by decide) (by decide) hs
theorem de_lenSc {n : Nat} {ns : List Int} (G : Blt X.mg) (ha : DEx X Δ e (.sl n) Δ) (e1 : Δ[n]? = some (.sc ns)) (hg : Gl X "len" := by rfl) (hs : starEach [e] X.env = (false, eval e X.env) :: starEach [] X.env := by rfl) : DEx X Δ (.Call (.Name "len" p) [e] [] pos) (.d (.int ns.length)) Δ :=
  de_cb call_len_seq G.len PySem.boot_len ha rfl (fun B F H σ v Q ok hv q => by
    have hv : σ[n]? = some (some v) := hv
    obtain ⟨o, h1, h2⟩ := ok.sl n _ e1
    rw [hv] at h1
    cases h1
    obtain ⟨a1, ea, hq⟩ := (show ∃ a, some v = some (.ref a) ∧ SqL X.K F a (ns.map V.int) from h2)
    cases ea
    have hq' : SqL X.K H a1 (ns.map V.int) := by
      rcases hq with (z | ⟨u, z⟩) | z
      · exact .inl (.inl (ok.fh _ _ z))
      · exact .inl (.inr ⟨u, ok.fh _ _ z⟩)
      · exact .inr z
    refine ⟨a1, _, rfl, .inl hq', ?_⟩
    rw [List.length_map]
    exact q _ _ _ ok (.refl _) (.int _)) hg (by decide) (by decide) hs
theorem boot_list_ : bootBuiltins "list" = some (.type "list") := by decide +kernel
theorem boot_int_ : bootBuiltins "int" = some (.type "int") := by decide +kernel
theorem boot_str_ : bootBuiltins "str" = some (.type "str") := by decide +kernel
theorem boot_sum_ : bootBuiltins "sum" = some (.builtin "sum") := by decide +kernel
theorem boot_min_ : bootBuiltins "min" = some (.builtin "min") := by decide +kernel
theorem boot_max_ : bootBuiltins "max" = some (.builtin "max") := by decide +kernel
theorem boot_isi_ : bootBuiltins "isinstance" = some (.builtin "isinstance") := by decide +kernel
theorem boot_bool_ : bootBuiltins "bool" = some (.type "bool") := by decide +kernel
theorem boot_tuple_ : bootBuiltins "tuple" = some (.type "tuple") := by decide +kernel
/-- list(x) of a list, of a tuple -/
theorem de_list (G : Blt X.mg) (ha : DEx X Δ e r1 Δ1) (l1 : lite r1 = true) (e1 : rdOf Δ1 r1 = some (.list xs) ∨ rdOf Δ1 r1 = some (.tuple xs)) (hg : Gl X "list" := by rfl) (hs : starEach [e] X.env = (false, eval e X.env) :: starEach [] X.env := by rfl) : DEx X Δ (.Call (.Name "list" p) [e] [] pos) (.nl xs) Δ1 :=
  de_ct call_list_of G.list boot_list_ ha l1 (fun B F H σ v Q ok hv q => by
    rcases e1 with e1 | e1
    · obtain ⟨a, vs, rfl, h1, k1⟩ := rd_list ok hv e1
      exact ⟨a, vs, rfl, .inl (SqL.of h1), fun l hl => q _ _ _ (ok.new hl) (.refl _) (res_nl ok hl k1)⟩
    · obtain ⟨a, vs, rfl, h1, k1⟩ := rd_tup ok hv e1
      exact ⟨a, vs, rfl, .inr (SqT.of (ok.fh _ _ h1)), fun l hl => q _ _ _ (ok.new hl) (.refl _) (res_nl ok hl k1)⟩) hg (by decide) (by decide) hs
theorem de_intB (G : Blt X.mg) (ha : DEx X Δ e (.d (.bool k)) Δ1) (hg : Gl X "int" := by rfl) (hs : starEach [e] X.env = (false, eval e X.env) :: starEach [] X.env := by rfl) : DEx X Δ (.Call (.Name "int" p) [e] [] pos) (.d (.int (if k then 1 else 0))) Δ1 :=
  de_ct call_int1 G.int boot_int_ ha rfl (fun B F H σ v Q ok hv q => by
    cases Dq.bl_ hv
    exact .inr ⟨k, rfl, q _ _ _ ok (.refl _) (.int _)⟩) hg (by decide) (by decide) hs
theorem de_strI (G : Blt X.mg) (ha : DEx X Δ e (.d (.int i)) Δ1) (hb : i.natAbs.log2 < 1920) (hg : Gl X "str" := by rfl) (hs : starEach [e] X.env = (false, eval e X.env) :: starEach [] X.env := by rfl) : DEx X Δ (.Call (.Name "str" p) [e] [] pos) (.d (.str (toString i))) Δ1 :=
  de_ct call_str_int G.str boot_str_ ha rfl (fun B F H σ v Q ok hv q => by
    cases Dq.int_ hv
    exact ⟨i, rfl, hb, q _ _ _ ok (.refl _) (.str _)⟩) hg (by decide) (by decide) hs
theorem dqa_ints {F : Hp} : ∀ {ns : List Int} {vs : List V}, DqA F vs (ns.map PyData.int) → vs = ns.map V.int
  | [], _, .nil => rfl
  | n :: ns, _, .cons h t => by rw [Dq.int_ h, dqa_ints t]; rfl
theorem ints_dqa {F : Hp} : ∀ ns : List Int, DqA F (ns.map V.int) (ns.map PyData.int)
  | [] => .nil
  | n :: ns => .cons (.int n) (ints_dqa ns)
theorem de_sum {ns : List Int} (hcal : X.calm = true) (G : Blt X.mg) (ha : DEx X Δ e r1 Δ1) (l1 : lite r1 = true) (e1 : rdOf Δ1 r1 = some (.list (ns.map PyData.int))) (hg : Gl X "sum" := by rfl) (hs : starEach [e] X.env = (false, eval e X.env) :: starEach [] X.env := by rfl) : DEx X Δ (.Call (.Name "sum" p) [e] [] pos) (.d (.int ns.sum)) Δ1 :=
  de_cb (cr_sum hcal) G.sum boot_sum_ ha l1 (fun B F H σ v Q ok hv q => by
    obtain ⟨a, vs, rfl, h1, k1⟩ := rd_list ok hv e1
    cases dqa_ints k1
    exact ⟨a, ns, rfl, SqL.of h1, q _ _ _ ok (.refl _) (.int _)⟩) hg (by decide) (by decide) hs
/-- min(a, b), max(a, b) of ints -/
theorem de_min2 (hcal : X.calm = true) (G : Blt X.mg) (h : DAx X Δ [a, b] [.d (.int i), .d (.int j)] Δ1) (hg : Gl X "min" := by rfl) (he : starEach [a, b] X.env = (false, eval a X.env) :: starEach [b] X.env := by rfl) (hpl : (backTo pos (starEach [b] X.env)).any (·.1) = false := by rfl) :
    DEx X Δ (.Call (.Name "min" p) [a, b] [] pos) (.d (.int (if j < i then j else i))) Δ1 :=
  ⟨h.rk, pe_imp (pe_callB (call_min2 hcal) hg G.min boot_min_ h.pa (by decide) (by decide) he hpl) fun σ H Q ⟨B, F, ok, q⟩ => ⟨B, F, ok, fun vs F1 H1 ok1 ex1 hv => by
    cases hv with
    | cons h1 t =>
      cases t with
      | cons h2 t =>
        cases t
        cases Dq.int_ h1
        cases Dq.int_ h2
        exact ⟨i, j, rfl, q _ _ _ ok1 ex1 (.int _)⟩⟩⟩
theorem de_max2 (hcal : X.calm = true) (G : Blt X.mg) (h : DAx X Δ [a, b] [.d (.int i), .d (.int j)] Δ1) (hg : Gl X "max" := by rfl) (he : starEach [a, b] X.env = (false, eval a X.env) :: starEach [b] X.env := by rfl) (hpl : (backTo pos (starEach [b] X.env)).any (·.1) = false := by rfl) :
    DEx X Δ (.Call (.Name "max" p) [a, b] [] pos) (.d (.int (if j > i then j else i))) Δ1 :=
  ⟨h.rk, pe_imp (pe_callB (call_max2 hcal) hg G.max boot_max_ h.pa (by decide) (by decide) he hpl) fun σ H Q ⟨B, F, ok, q⟩ => ⟨B, F, ok, fun vs F1 H1 ok1 ex1 hv => by
    cases hv with
    | cons h1 t =>
      cases t with
      | cons h2 t =>
        cases t
        cases Dq.int_ h1
        cases Dq.int_ h2
        exact ⟨i, j, rfl, q _ _ _ ok1 ex1 (.int _)⟩⟩⟩
/-- isinstance(x, T), T a built-in class -/
def tyN : PyData → String
  | .none => "NoneType"
  | .bool _ => "bool"
  | .int _ => "int"
  | .str _ => "str"
  | .list _ => "list"
  | .tuple _ => "tuple"
  | .dict _ => "dict"
theorem Dq.ty {F H : Hp} {v : V} {K : Frag} (h : Dq F v x) (e : Ex F H) : TyX K H v (.type (tyN x)) := by
  cases h with
  | non => exact .base .non
  | bl b => exact .base (.bl b)
  | int i => exact .base (.int i)
  | str s => exact .base (.str s)
  | lst h _ _ => exact .base (.lst (e _ _ h))
  | tup h _ _ => exact .base (.tup (e _ _ h))
theorem de_isi {f : Str} {T : String} (G : Blt X.mg) (ha : DEx X Δ a (.d x) Δ1) (hm : X.mg f = none) (hv : bootBuiltins f = some (.type T)) (hk : kitB (tyN x) T = some k) (hg : Gl X "isinstance" := by rfl) (hg2 : Gl X f := by rfl)
    (he : starEach [a, .Name f p2] X.env = (false, eval a X.env) :: starEach [.Name f p2] X.env := by rfl) (he2 : starEach [.Name f p2] X.env = (false, eval (.Name f p2) X.env) :: starEach [] X.env := by rfl) (hpl : (backTo pos (starEach [.Name f p2] X.env)).any (·.1) = false := by rfl) (hn : f ≠ "__name__" := by decide) (hdb : (f == ("__debug__" : Str)) = false := by decide) :
    DEx X Δ (.Call (.Name "isinstance" p) [a, .Name f p2] [] pos) (.d (.bool k)) Δ1 :=
  ⟨ha.rk, pe_imp (pe_callB call_isi hg G.isi boot_isi_ (pa_cons ha.pe (pa_cons (pe_bltn (v := .ty T) hg2 hm hv rfl hn hdb) pa_nil he2) he) (by decide) (by decide) he hpl) fun σ H Q ⟨B, F, ok, q⟩ => ⟨B, F, ok, fun v F1 H1 ok1 ex1 hv =>
    ⟨v, .ty T, _, _, k, rfl, .ty T, Dq.ty hv ok1.fh, kit_ty hk, q _ _ _ ok1 ex1 (.bl _)⟩⟩⟩
end
end Tr
namespace Tr
open PySem L2
/-! ### what a def does, without a heap: from its parameters to its end -/
abbrev Spec := En → Out → Prop
def SpPost (K : Frag) (B F : Hp) (vs : List V) (Q : VK) (E : XK) : Out → Prop
  | .rt Δ' r => ∀ v F' H', Ok K B F' H' (vs.map some) Δ' → Ex F F' → Res B F' H' (vs.map some) Δ' v r → Q v H'
  | .xc Δ' C => ∀ F' H', Ok K B F' H' (vs.map some) Δ' → Ex F F' → E (.ref C) none H'
  | _ => False
def spOf (K : Frag) (S : Spec) : Sp := fun vs H Q E => ∃ Δ o B F, S Δ o ∧ Ok K B F H (vs.map some) Δ ∧ SpPost K B F vs Q E o
/-- the def of that name keeps S, by at most k calls in one another -/
def Fn (P : Program) (w : World) (K : Frag) (mg : Str → Option Value) (base : Heap) (k : Nat) (x : Str) (S : Spec) : Prop :=
  ∃ f fd ps, mg x = some (.ref f) ∧ PySem.W.keepIn K (.ref f) = true ∧ Binds K fd ps [] ∧ FnOk P w K mg base (L2.CX P w) k f fd ps (spOf K S)
section
variable {P : Program} {w : World} {K : Frag} {mg : Str → Option Value} {base : Heap} {k j : Nat} {x : Str} {S T : Spec}
theorem Fn.mono (h : Fn P w K mg base j x S) (l : j ≤ k) : Fn P w K mg base k x S := by
  obtain ⟨f, fd, ps, a, b, c, d⟩ := h
  exact ⟨f, fd, ps, a, b, c, d.mono l⟩
theorem Fn.imp (h : Fn P w K mg base k x S) (l : ∀ Δ o, T Δ o → S Δ o) : Fn P w K mg base k x T := by
  obtain ⟨f, fd, ps, a, b, c, d⟩ := h
  exact ⟨f, fd, ps, a, b, c, d.imp fun vs H Q E ⟨Δ, o, B, F, s, r⟩ => ⟨Δ, o, B, F, l _ _ s, r⟩⟩
end
def Sl.arg : Sl → Sl
  | .own xs => .ref xs
  | s => s
def argSl (Δ : En) : R → Sl
  | .d x => .d x
  | .nl _ => .no
  | .nt _ _ => .no
  | .sl i => ((Δ[i]?).getD .no).arg
section
variable {K : Frag} {B F H : Hp} {σ : St} {Δ : En} {v : V} {r : R} {rs : List R} {vs : List V}
theorem arg_ok (ok : Ok K B F H σ Δ) (h : Res B F H σ Δ v r) : SlOk K B F H (some v) (argSl Δ r) := by
  cases r with
  | d x => exact ⟨v, rfl, h⟩
  | nl xs => trivial
  | nt i j => trivial
  | sl i =>
    have hv : σ[i]? = some (some v) := h
    show SlOk K B F H (some v) ((Δ[i]?).getD .no).arg
    cases e : Δ[i]? with
    | none => trivial
    | some s =>
      obtain ⟨o, h1, h2⟩ := ok.sl i s e
      rw [hv] at h1
      cases h1
      show SlOk K B F H (some v) s.arg
      cases s with
      | no => trivial
      | d x => exact h2
      | own xs => exact h2
      | ref xs => exact h2
      | sc ns => exact h2
      | v u => exact h2
/-- the callee's slots, where no list of ours is given away: ours are added to what is of others -/
noncomputable def keepB (σ : St) (Δ : En) (B H : Hp) (n : Option Nat) : Hp := fun a => open Classical in if ∃ (j : Nat) (s : Sl), Δ[j]? = some s ∧ s.mut = true ∧ σ[j]? = some (some (.ref a)) ∧ n ≠ some j then H a else B a
theorem keepB_own {n : Option Nat} {a : Addr} {j : Nat} {s : Sl} (e : Δ[j]? = some s) (m : s.mut = true) (hv : σ[j]? = some (some (.ref a))) (hn : n ≠ some j) : keepB σ Δ B H n a = H a := by
  unfold keepB
  exact if_pos ⟨j, s, e, m, hv, hn⟩
theorem keepB_ex {n : Option Nat} (ok : Ok K B F H σ Δ) : Ex B (keepB σ Δ B H n) := fun a o e => by
  unfold keepB
  split
  · exact ok.bh a o e
  · exact e
theorem keepB_h {n : Option Nat} (ok : Ok K B F H σ Δ) : Ex (keepB σ Δ B H n) H := fun a o e => by
  unfold keepB at e
  split at e
  · exact e
  · exact ok.bh a o e
theorem keepB_f {n : Option Nat} (ok : Ok K B F H σ Δ) : ∀ a, keepB σ Δ B H n a ≠ none → F a = none := fun a e => by
  unfold keepB at e
  split at e
  · rename_i h
    obtain ⟨j, s, e1, m, hv, _⟩ := h
    cases s with
    | own xs =>
      obtain ⟨b, vs, h1, h2, _⟩ := ok.rm e1 (.inl rfl)
      rw [hv] at h1
      cases h1
      exact h2
    | ref xs =>
      obtain ⟨b, vs, h1, h2, _⟩ := ok.rm e1 (.inr rfl)
      rw [hv] at h1
      cases h1
      exact h2
    | no => cases m
    | d x => cases m
    | sc ns => cases m
    | v u => cases m
  · exact ok.bf a e
/-- one list of ours, at slot i, is given away (n = some i), as argument q; or none -/
def OneMut (Δ : En) (rs : List R) (n : Option Nat) : Prop := ∀ (q q' : Nat) (r r' : R), rs[q]? = some r → rs[q']? = some r' → (argSl Δ r).mut = true → (argSl Δ r').mut = true → q = q' ∧ ∃ i, r = .sl i ∧ n = some i
theorem ok_call {n : Option Nat} (ok : Ok K B F H σ Δ) (hv : Paired (Res B F H σ Δ) vs rs) (one : OneMut Δ rs n) : Ok K (keepB σ Δ B H n) F H (vs.map some) (rs.map (argSl Δ)) := by
  refine ⟨ok.fh, keepB_h ok, keepB_f ok, by rw [List.length_map, List.length_map, hv.length], fun q s e => ?_, fun q q' s t a e1 e2 m1 m2 r1 r2 => ?_⟩
  · rw [List.getElem?_map] at e
    cases hq : rs[q]? with
    | none => rw [hq] at e; cases e
    | some r =>
      rw [hq] at e
      cases e
      obtain ⟨v, hv1, hv2⟩ := pr_get hv hq
      refine ⟨some v, by rw [List.getElem?_map, hv1]; rfl, ?_⟩
      have h1 := arg_ok ok hv2
      have nB : (argSl Δ r).mut = true → ∀ a, some v = some (.ref a) → B a = none → keepB σ Δ B H n a = none := fun m a ea hb => by
        obtain ⟨_, i, rfl, hn⟩ := one q q r r hq hq m m
        have hvi : σ[i]? = some (some v) := hv2
        have ev : v = .ref a := Option.some.inj ea
        subst ev
        unfold keepB
        split
        · rename_i h
          exfalso
          obtain ⟨j, s', e1, m', hj, hne⟩ := h
          have hs : ∃ s, Δ[i]? = some s ∧ s.mut = true := by
            have m2 : (((Δ[i]?).getD .no).arg).mut = true := m
            cases e2 : Δ[i]? with
            | none => rw [e2] at m2; cases m2
            | some s =>
              rw [e2] at m2
              refine ⟨s, rfl, ?_⟩
              cases s with
              | no => cases m2
              | d x => cases m2
              | own xs => rfl
              | ref xs => rfl
              | sc ns => cases m2
              | v u => cases m2
          obtain ⟨s, e3, m3⟩ := hs
          have := ok.nd j i s' s a e1 e3 m' m3 hj hvi
          subst this
          exact hne hn
        · exact hb
      generalize argSl Δ r = s at h1 nB
      cases s with
      | no => trivial
      | d x => exact h1
      | own xs =>
        obtain ⟨a, ws, ea, q1, q2, q3, q4⟩ := (show MutL B F H (some v) xs from h1)
        exact ⟨a, ws, ea, q1, nB rfl a ea q2, q3, q4⟩
      | ref xs =>
        obtain ⟨a, ws, ea, q1, q2, q3, q4⟩ := (show MutL B F H (some v) xs from h1)
        exact ⟨a, ws, ea, q1, nB rfl a ea q2, q3, q4⟩
      | sc ns => exact h1
      | v u => exact h1
  · rw [List.getElem?_map] at e1 e2
    cases hq : rs[q]? with
    | none => rw [hq] at e1; cases e1
    | some r =>
      cases hq' : rs[q']? with
      | none => rw [hq'] at e2; cases e2
      | some r' =>
        rw [hq] at e1
        rw [hq'] at e2
        cases e1
        cases e2
        exact (one q q' r r' hq hq' m1 m2).1
/-- behind a call that was given nothing to change -/
theorem ok_back {F' H' : Hp} {Δp : En} (ok : Ok K B F H σ Δ) (ok' : Ok K (keepB σ Δ B H none) F' H' (vs.map some) Δp) (ex : Ex F F') : Ok K B F' H' σ Δ := by
  refine ⟨ok'.fh, (keepB_ex ok).trans ok'.bh, fun a hb => ok'.bf a fun z => ?_, ok.len, fun i s e => ?_, ok.nd⟩
  · cases q : B a with
    | none => exact hb q
    | some o => rw [keepB_ex ok a o q] at z; cases z
  · obtain ⟨o, h1, h2⟩ := ok.sl i s e
    refine ⟨o, h1, h2.keep ex fun m a vs ho hf hl => ?_⟩
    subst ho
    have kb : keepB σ Δ B H none a = H a := keepB_own e m h1 (by intro z; cases z)
    refine ⟨ok'.bf a (by rw [kb, hl]; intro z; cases z), ok'.bh a _ (by rw [kb, hl])⟩
theorem notMut_back {H' : Hp} {F' : Hp} {Δp : En} {a : Addr} (ok : Ok K B F H σ Δ) (hb : keepB σ Δ B H none a = none) : NotMut σ Δ a := fun i s e m q => by
  have kb : keepB σ Δ B H none a = H a := keepB_own e m q (by intro z; cases z)
  have hn : ∃ vs, H a = some (.lst vs) := by
    cases s with
    | own xs =>
      obtain ⟨b, vs, h1, _, _, h2, _⟩ := ok.rm e (.inl rfl)
      rw [q] at h1
      cases h1
      exact ⟨vs, h2⟩
    | ref xs =>
      obtain ⟨b, vs, h1, _, _, h2, _⟩ := ok.rm e (.inr rfl)
      rw [q] at h1
      cases h1
      exact ⟨vs, h2⟩
    | no => cases m
    | d x => cases m
    | sc ns => cases m
    | v u => cases m
  obtain ⟨vs, hv⟩ := hn
  rw [kb, hv] at hb
  cases hb
end
/-- what an answer may be -/
theorem TmOk.map {B B' F H : Hp} {σ σ' : St} {Δ Δ' : En} {v : V} {t : Tm} (h : TmOk B F H σ Δ v t) (hb : ∀ a, B a = none → NotMut σ Δ a → B' a = none ∧ NotMut σ' Δ' a) : TmOk B' F H σ' Δ' v t := by
  cases t with
  | d x => exact h
  | l xs =>
    obtain ⟨a, vs, e, h1, h2, h3, h4, h5⟩ := h
    exact ⟨a, vs, e, h1, (hb a h2 h5).1, h3, h4, (hb a h2 h5).2⟩
theorem nt_map {B B' F H : Hp} {σ σ' : St} {Δ Δ' : En} {v : V} {i j : Tm} (h : Res B F H σ Δ v (.nt i j)) (hb : ∀ a, B a = none → NotMut σ Δ a → B' a = none ∧ NotMut σ' Δ' a) : Res B' F H σ' Δ' v (.nt i j) := by
  obtain ⟨a, v1, v2, e, h1, h2, h3, h4, h5, h6, h7⟩ := h
  exact ⟨a, v1, v2, e, h1, (hb a h2 h7).1, h3, h4.map hb, h5.map hb, h6, (hb a h2 h7).2⟩
def R.isNt : R → Bool
  | .nt _ _ => true
  | _ => false
def fin : R → Bool
  | .sl _ => false
  | _ => true
section
variable {X : Cx} {Δ Δ1 Δ2 Δp : En} {e : Expr} {es : List Expr} {r : R} {rs : List R} {pos p : Pos} {k : Nat} {x : Str} {S : Spec}
theorem passL' {X : Cx} : Passes (L2.CX X.prog X.w) X E0 := passL
/-- f(..), nothing of ours is changed -/
theorem de_call (h : Fn X.prog X.w X.K X.mg X.base k x S) (hr : Room k X.A) (ha : DAx X Δ (e :: es) rs Δ1) (hs : S (rs.map (argSl Δ1)) (.rt Δp r)) (hm : OneMut Δ1 rs none) (hf : fin r = true) (hg : Gl X x := by rfl)
    (hdb : (x == ("__debug__" : Str)) = false := by decide) (he : starEach (e :: es) X.env = (false, eval e X.env) :: starEach es X.env := by rfl) (hpl : (backTo pos (starEach es X.env)).any (·.1) = false := by rfl) :
    DEx X Δ (.Call (.Name x p) (e :: es) [] pos) r Δ1 := by
  obtain ⟨f, fd, ps, h1, h2, h3, h4⟩ := h
  refine ⟨ha.rk, pe_imp (pe_call h4 hr hg h1 h2 h3 .nil passL ha.pa hdb he hpl) fun σ H Q ⟨B, F, ok, q⟩ => ⟨B, F, ok, fun vs F1 H1 ok1 ex1 hv => ?_⟩⟩
  show spOf X.K S (vs ++ []) H1 Q E0
  rw [List.append_nil]
  refine ⟨_, _, _, F1, hs, ok_call (n := none) ok1 hv hm, fun v F2 H2 ok2 ex2 hres => ?_⟩
  have ok3 := ok_back ok1 ok2 ex2
  refine q v F2 H2 ok3 (ex1.trans ex2) ?_
  cases r with
  | d x => exact hres
  | nl xs =>
    obtain ⟨a, ws, ev, r1, r2, r3, r4, r5⟩ := hres
    exact ⟨a, ws, ev, r1, (keepB_ex ok1).back r2, r3, r4, notMut_back (H' := H2) (F' := F2) (Δp := Δp) ok1 r2⟩
  | nt i j => exact nt_map hres fun a r2 _ => ⟨(keepB_ex ok1).back r2, notMut_back (H' := H2) (F' := F2) (Δp := Δp) ok1 r2⟩
  | sl i => cases hf
theorem de_call0 (h : Fn X.prog X.w X.K X.mg X.base k x S) (hr : Room k X.A) (hs : S [] (.rt Δp r)) (hf : fin r = true) (hg : Gl X x := by rfl) (hdb : (x == ("__debug__" : Str)) = false := by decide) :
    DEx X Δ (.Call (.Name x p) [] [] pos) r Δ := by
  obtain ⟨f, fd, ps, h1, h2, h3, h4⟩ := h
  refine ⟨.rfl, pe_imp (pe_call0 h4 hr hg h1 h2 h3 .nil passL hdb) fun σ H Q ⟨B, F, ok, q⟩ => ?_⟩
  have hm : OneMut Δ [] none := fun q q' r r' e => by simp at e
  refine ⟨_, _, _, F, hs, ok_call (n := none) (rs := []) (vs := []) ok .nil hm, fun v F2 H2 ok2 ex2 hres => ?_⟩
  have ok3 := ok_back (vs := []) ok ok2 ex2
  refine q v F2 H2 ok3 ex2 ?_
  cases r with
  | d x => exact hres
  | nl xs =>
    obtain ⟨a, ws, ev, r1, r2, r3, r4, r5⟩ := hres
    exact ⟨a, ws, ev, r1, (keepB_ex ok).back r2, r3, r4, notMut_back (H' := H2) (F' := F2) (Δp := Δp) ok r2⟩
  | nt i j => exact nt_map hres fun a r2 _ => ⟨(keepB_ex ok).back r2, notMut_back (H' := H2) (F' := F2) (Δp := Δp) ok r2⟩
  | sl i => cases hf
/-- the slots behind a call that changed the list at slot i -/
def upSl : Sl → List PyData → Sl
  | .own _, ys => .own ys
  | _, ys => .ref ys
theorem rk_up {i : Nat} {s : Sl} {ys : List PyData} (e : Δ[i]? = some s) (m : s.mut = true) : RK Δ (Δ.set i (upSl s ys)) := fun j xs ej => by
  by_cases hj : j = i
  · subst hj
    rw [e] at ej
    cases ej
    have hi : j < Δ.length := (List.getElem?_eq_some_iff.mp e).1
    exact ⟨ys, by rw [List.getElem?_set_self hi]; rfl⟩
  · exact ⟨xs, by rw [List.getElem?_set_ne (Ne.symm hj)]; exact ej⟩
/-- f(.., xs, ..): the list at slot i is given as argument q, and changed to ys -/
theorem de_callM {i q : Nat} {s : Sl} {ys : List PyData} (h : Fn X.prog X.w X.K X.mg X.base k x S) (hr : Room k X.A) (ha : DAx X Δ (e :: es) rs Δ1) (hs : S (rs.map (argSl Δ1)) (.rt Δp r)) (hq : rs[q]? = some (.sl i)) (hi : Δ1[i]? = some s) (hsm : s.mut = true) (hp : Δp[q]? = some (.ref ys))
    (hm : OneMut Δ1 rs (some i)) (hf : (fin r && !r.isNt) = true) (hg : Gl X x := by rfl)
    (hdb : (x == ("__debug__" : Str)) = false := by decide) (he : starEach (e :: es) X.env = (false, eval e X.env) :: starEach es X.env := by rfl) (hpl : (backTo pos (starEach es X.env)).any (·.1) = false := by rfl) :
    DEx X Δ (.Call (.Name x p) (e :: es) [] pos) r (Δ1.set i (upSl s ys)) := by
  obtain ⟨f, fd, ps, h1, h2, h3, h4⟩ := h
  refine ⟨ha.rk.trans (rk_up hi hsm), pe_imp (pe_call h4 hr hg h1 h2 h3 .nil passL ha.pa hdb he hpl) fun σ H Q ⟨B, F, ok, qq⟩ => ⟨B, F, ok, fun vs F1 H1 ok1 ex1 hv => ?_⟩⟩
  show spOf X.K S (vs ++ []) H1 Q E0
  rw [List.append_nil]
  refine ⟨_, _, _, F1, hs, ok_call (n := some i) ok1 hv hm, fun v F2 H2 ok2 ex2 hres => ?_⟩
  -- the argument's address
  obtain ⟨u, hu1, hu2⟩ := pr_get hv hq
  have hui : σ[i]? = some (some u) := hu2
  obtain ⟨a, ws, hp1, hp2, hp3, hp4, hp5⟩ := ok2.rm hp (.inr rfl)
  rw [List.getElem?_map, hu1] at hp1
  have eu : u = .ref a := by simpa using hp1
  subst eu
  have fa1 : F1 a = none ∧ B a = none := by
    cases s with
    | own xs =>
      obtain ⟨b, us, r1, r2, r3, _⟩ := ok1.rm hi (.inl rfl)
      rw [hui] at r1
      cases r1
      exact ⟨r2, r3⟩
    | ref xs =>
      obtain ⟨b, us, r1, r2, r3, _⟩ := ok1.rm hi (.inr rfl)
      rw [hui] at r1
      cases r1
      exact ⟨r2, r3⟩
    | no => cases hsm
    | d x => cases hsm
    | sc ns => cases hsm
    | v u => cases hsm
  have others : ∀ {j : Nat} {t : Sl} {b : Addr} {us : List V}, j ≠ i → Δ1[j]? = some t → t.mut = true → σ[j]? = some (some (.ref b)) → H1 b = some (.lst us) → F2 b = none ∧ H2 b = some (.lst us) := fun {j t b us} hj e m hb hl => by
    have kb : keepB σ Δ1 B H1 (some i) b = H1 b := keepB_own e m hb (by intro z; cases z; exact hj rfl)
    exact ⟨ok2.bf b (by rw [kb, hl]; intro z; cases z), ok2.bh b _ (by rw [kb, hl])⟩
  have ok3 : Ok X.K B F2 H2 σ (Δ1.set i (upSl s ys)) := by
    refine ⟨ok2.fh, (keepB_ex ok1).trans ok2.bh, fun b hb => ok2.bf b fun z => ?_, by simp [ok1.len], fun j t ej => ?_, fun j k' t u b e1 e2 m1 m2 r1 r2 => ?_⟩
    · cases q : B b with
      | none => exact hb q
      | some o => rw [keepB_ex ok1 b o q] at z; cases z
    · by_cases hj : j = i
      · subst hj
        have hl : j < Δ1.length := (List.getElem?_eq_some_iff.mp hi).1
        rw [List.getElem?_set_self hl] at ej
        cases ej
        have mu : MutL B F2 H2 (some (.ref a)) ys := ⟨a, ws, rfl, hp2, fa1.2, hp4, hp5⟩
        refine ⟨_, hui, ?_⟩
        cases s with
        | own xs => exact mu
        | ref xs => exact mu
        | no => cases hsm
        | d x => cases hsm
        | sc ns => cases hsm
        | v u => cases hsm
      · rw [List.getElem?_set_ne (Ne.symm hj)] at ej
        obtain ⟨o, g1, g2⟩ := ok1.sl j t ej
        refine ⟨o, g1, g2.keep ex2 fun m b us ho hf hl => ?_⟩
        subst ho
        exact others hj ej m g1 hl
    · have back : ∀ {k : Nat} {t : Sl}, (Δ1.set i (upSl s ys))[k]? = some t → t.mut = true → ∃ t', Δ1[k]? = some t' ∧ t'.mut = true := fun {k t} e' m => by
        by_cases hk : k = i
        · subst hk
          exact ⟨s, hi, hsm⟩
        · rw [List.getElem?_set_ne (Ne.symm hk)] at e'
          exact ⟨t, e', m⟩
      obtain ⟨t', e1', m1'⟩ := back e1 m1
      obtain ⟨u', e2', m2'⟩ := back e2 m2
      exact ok1.nd j k' t' u' b e1' e2' m1' m2' r1 r2
  refine qq v F2 H2 ok3 (ex1.trans ex2) ?_
  cases r with
  | d x => exact hres
  | nl xs =>
    obtain ⟨b, us, ev, r1, r2, r3, r4, r5⟩ := hres
    refine ⟨b, us, ev, r1, (keepB_ex ok1).back r2, r3, r4, fun j t ej m hb => ?_⟩
    by_cases hj : j = i
    · subst hj
      rw [hui] at hb
      have eb : b = a := by simpa using hb.symm
      subst eb
      exact r5 q _ hp rfl (by rw [List.getElem?_map, hu1]; rfl)
    · rw [List.getElem?_set_ne (Ne.symm hj)] at ej
      obtain ⟨o, g1, g2⟩ := ok1.sl j t ej
      have kb : keepB σ Δ1 B H1 (some i) b = H1 b := keepB_own ej m hb (by intro z; cases z; exact hj rfl)
      rw [hb] at g1
      cases g1
      have hl : ∃ zs, H1 b = some (.lst zs) := by
        cases t with
        | own zs =>
          obtain ⟨c, us', c1, _, _, c2, _⟩ := ok1.rm ej (.inl rfl)
          rw [hb] at c1
          cases c1
          exact ⟨_, c2⟩
        | ref zs =>
          obtain ⟨c, us', c1, _, _, c2, _⟩ := ok1.rm ej (.inr rfl)
          rw [hb] at c1
          cases c1
          exact ⟨_, c2⟩
        | no => cases m
        | d x => cases m
        | sc ns => cases m
        | v u => cases m
      obtain ⟨zs, hz⟩ := hl
      rw [kb, hz] at r2
      cases r2
  | nt i j => cases hf
  | sl i => cases hf
end
end Tr
namespace Tr
open PySem L2
/-! ### statements -/
section
variable {K : Frag} {W : WX} {B F F' H' : Hp} {σ σ' : St} {Δ Δ1 Δ2 : En} {D : Ends} {o : Out}
theorem Kp.refl (h : RK Δ Δ1) : Kp Δ Δ1 σ σ := fun i xs e => ⟨rfl, h i xs e⟩
theorem Kp.trans {σ'' : St} (h : Kp Δ Δ1 σ σ') (k : Kp Δ1 Δ2 σ' σ'') : Kp Δ Δ2 σ σ'' := fun i xs e => by
  obtain ⟨h1, ys, h2⟩ := h i xs e
  obtain ⟨h3, h4⟩ := k i ys h2
  exact ⟨h3.trans h1, h4⟩
theorem Post.step (h : Post K W B F σ Δ D o) (ex : Ex F F') (kp : Kp Δ Δ1 σ σ') : Post K W B F' σ' Δ1 D o := by
  cases o with
  | nx Δ' => exact fun τ G I ok e k => h τ G I ok (ex.trans e) (kp.trans k)
  | rt Δ' r => exact fun v τ G I ok e k hr => h v τ G I ok (ex.trans e) (kp.trans k) hr
  | bk Δ' => exact fun τ G I ok e k => h τ G I ok (ex.trans e) (kp.trans k)
  | ct Δ' => exact fun τ G I ok e k => h τ G I ok (ex.trans e) (kp.trans k)
  | xc Δ' C => exact fun τ G I ok e k => h τ G I ok (ex.trans e) (kp.trans k)
end
def Out.isNx : Out → Bool
  | .nx _ => true
  | _ => false
theorem Post.nxfree {K : Frag} {W : WX} {B F : Hp} {σ : St} {Δ : En} {D : Ends} {o : Out} {N : St → Hp → Prop} (h : Post K W B F σ Δ D o) (ho : o.isNx = false) : Post K W B F σ Δ { D with nx := N } o := by
  cases o with
  | nx Δ' => cases ho
  | rt Δ' r => exact h
  | bk Δ' => exact h
  | ct Δ' => exact h
  | xc Δ' C => exact h
section
variable {X : Cx} {W : WX} {Δ Δ1 Δ2 Δ3 : En} {st : Stmt} {rest sts body suite : List Stmt} {P : Out → Prop} {o : Out} {a b c e tg iter : Expr} {es : List Expr} {r : R} {rs : List R} {pos p p2 apos cpos : Pos} {x y z : PyData} {xs ys : List PyData} {k l : Bool} {i j : Int}
section
variable {ι : Type} {XS : ι → Cx} {WS : ι → WX}
def thenP (XS : ι → Cx) (WS : ι → WX) (rest : List Stmt) (P : Out → Prop) : Out → Prop
  | .nx Δ1 => Go XS WS Δ1 rest P
  | o => P o
end
theorem ds_cons (h1 : DS1 X W Δ st (.nx Δ1)) (h2 : DS X W Δ1 rest o) : DS X W Δ (st :: rest) o := pss_imp (pss_cons h1 h2) fun D σ H ⟨B, F, ok, q⟩ => ⟨B, F, ok, fun σ' F' H' ok' ex kp => ⟨B, F', ok', q.step ex kp⟩⟩
theorem ds_stop (h1 : DS1 X W Δ st o) (ho : o.isNx = false) : DS X W Δ (st :: rest) o := pss_imp (pss_cons h1 pss_never) fun D σ H ⟨B, F, ok, q⟩ => ⟨B, F, ok, q.nxfree ho⟩
theorem ds_nil : DS X W Δ [] (.nx Δ) := pss_imp pss_nil fun D σ H ⟨B, F, ok, q⟩ => q σ F H ok (.refl _) (.refl .rfl)
section
variable {ι : Type} {XS : ι → Cx} {WS : ι → WX}
theorem go_nil (h : P (.nx Δ)) : Go XS WS Δ [] P := ⟨_, h, fun q => ds_nil⟩
theorem go_cons (h : Go1 XS WS Δ st (thenP XS WS rest P)) : Go XS WS Δ (st :: rest) P := by
  obtain ⟨o, hp, h⟩ := h
  cases o with
  | nx Δ1 =>
    obtain ⟨o2, hp2, h2⟩ := hp
    exact ⟨o2, hp2, fun q => ds_cons (h q) (h2 q)⟩
  | rt Δ' r => exact ⟨_, hp, fun q => ds_stop (h q) rfl⟩
  | bk Δ' => exact ⟨_, hp, fun q => ds_stop (h q) rfl⟩
  | ct Δ' => exact ⟨_, hp, fun q => ds_stop (h q) rfl⟩
  | xc Δ' C => exact ⟨_, hp, fun q => ds_stop (h q) rfl⟩
theorem Go1.mono {P' : Out → Prop} (h : Go1 XS WS Δ st P) (k : ∀ o, P o → P' o) : Go1 XS WS Δ st P' := let ⟨o, a, b⟩ := h; ⟨o, k o a, b⟩
theorem Go.mono {P' : Out → Prop} (h : Go XS WS Δ sts P) (k : ∀ o, P o → P' o) : Go XS WS Δ sts P' := let ⟨o, a, b⟩ := h; ⟨o, k o a, b⟩
theorem go_one (h : Go1 XS WS Δ st P) : Go XS WS Δ [st] P := by
  refine go_cons (h.mono fun o hp => ?_)
  cases o with
  | nx Δ1 => exact go_nil hp
  | rt Δ' r => exact hp
  | bk Δ' => exact hp
  | ct Δ' => exact hp
  | xc Δ' C => exact hp
/-- a statement that ends one way -/
theorem go1_of (h : ∀ q, DS1 (XS q) (WS q) Δ st o) (hp : P o) : Go1 XS WS Δ st P := ⟨o, hp, h⟩
/-- such a statement, then the rest -/
theorem go_then (h : ∀ q, DS1 (XS q) (WS q) Δ st (.nx Δ1)) (hp : Go XS WS Δ1 rest P) : Go XS WS Δ (st :: rest) P := go_cons ⟨.nx Δ1, hp, h⟩
theorem go_end (h : ∀ q, DS1 (XS q) (WS q) Δ st o) (ho : o.isNx = false) (hp : P o) : Go XS WS Δ (st :: rest) P := ⟨_, hp, fun q => ds_stop (h q) ho⟩
theorem go_if {c : Expr} {k : Bool} (h : ∀ q, DTx (XS q) Δ c k Δ1) (h1 : k = true → Go XS WS Δ1 body (thenP XS WS rest P)) (h2 : k = false → Go XS WS Δ1 suite (thenP XS WS rest P)) : Go XS WS Δ (.If c body suite pos :: rest) P := by
  refine go_cons ?_
  cases k with
  | true =>
    obtain ⟨o, hp, hs⟩ := h1 rfl
    refine ⟨o, hp, fun q => ps_imp (ps_if (h q).pt (hs q) pss_never) fun D σ H ⟨B, F, ok, qq⟩ => ⟨B, F, ok, fun F' H' ok' ex => ?_⟩⟩
    exact iteT ⟨B, F', ok', qq.step ex (.refl (h q).rk)⟩
  | false =>
    obtain ⟨o, hp, hs⟩ := h2 rfl
    refine ⟨o, hp, fun q => ps_imp (ps_if (h q).pt pss_never (hs q)) fun D σ H ⟨B, F, ok, qq⟩ => ⟨B, F, ok, fun F' H' ok' ex => ?_⟩⟩
    exact iteF ⟨B, F', ok', qq.step ex (.refl (h q).rk)⟩
/-- a branch that goes on behind the if -/
theorem go_on (h : Go XS WS Δ rest P) : Go XS WS Δ [] (thenP XS WS rest P) := go_nil h
end
/-! weaker slots -/
inductive Le : En → En → Prop
  | nil : Le [] []
  | same {s : Sl} {Δ Δ' : En} : Le Δ Δ' → Le (s :: Δ) (s :: Δ')
  | no {s : Sl} {Δ Δ' : En} (h : s.isRef = false) : Le Δ Δ' → Le (s :: Δ) (.no :: Δ')
theorem Le.refl : ∀ Δ : En, Le Δ Δ
  | [] => .nil
  | _ :: Δ => .same (Le.refl Δ)
theorem Le.get {Δ Δ' : En} (h : Le Δ Δ') : Δ.length = Δ'.length ∧ ∀ (i : Nat) (s : Sl), Δ'[i]? = some s → ∃ t, Δ[i]? = some t ∧ (s = t ∨ (s = .no ∧ t.isRef = false)) := by
  induction h with
  | nil => exact ⟨rfl, fun i s e => by simp at e⟩
  | @same s Δ Δ' h ih =>
    refine ⟨by simp [ih.1], fun i t e => ?_⟩
    cases i with
    | zero => exact ⟨t, by simpa using e, .inl rfl⟩
    | succ i => exact ih.2 i t (by simpa using e)
  | @no s Δ Δ' hs h ih =>
    refine ⟨by simp [ih.1], fun i t e => ?_⟩
    cases i with
    | zero =>
      have e : Sl.no = t := by simpa using e
      subst e
      exact ⟨s, rfl, .inr ⟨rfl, hs⟩⟩
    | succ i => exact ih.2 i t (by simpa using e)
theorem Le.rk {Δ Δ' : En} (h : Le Δ Δ') : RK Δ Δ' := by
  induction h with
  | nil => exact .rfl
  | same h ih =>
    intro i xs e
    cases i with
    | zero => exact ⟨xs, e⟩
    | succ i => exact ih i xs (by simpa using e)
  | no hs h ih =>
    intro i xs e
    cases i with
    | zero =>
      have e := Option.some.inj e
      subst e
      cases hs
    | succ i => exact ih i xs (by simpa using e)
theorem Le.ok {K : Frag} {B F H : Hp} {σ : St} {Δ Δ' : En} (h : Le Δ Δ') (ok : Ok K B F H σ Δ) : Ok K B F H σ Δ' := by
  obtain ⟨hl, hg⟩ := h.get
  refine ⟨ok.fh, ok.bh, ok.bf, ok.len.trans hl, fun i s e => ?_, fun i j s t a e1 e2 m1 m2 r1 r2 => ?_⟩
  · obtain ⟨t, h1, h2⟩ := hg i s e
    obtain ⟨u, h3, h4⟩ := ok.sl i t h1
    refine ⟨u, h3, ?_⟩
    rcases h2 with rfl | ⟨rfl, _⟩
    · exact h4
    · trivial
  · obtain ⟨s', h1, h2⟩ := hg i s e1
    obtain ⟨t', h3, h4⟩ := hg j t e2
    have q1 : s'.mut = true := by
      rcases h2 with rfl | ⟨rfl, _⟩
      · exact m1
      · cases m1
    have q2 : t'.mut = true := by
      rcases h4 with rfl | ⟨rfl, _⟩
      · exact m2
      · cases m2
    exact ok.nd i j s' t' a h1 h3 q1 q2 r1 r2
theorem Le.trans {a b c : En} (h : Le a b) : Le b c → Le a c := by
  intro k
  induction h generalizing c with
  | nil => exact k
  | same h ih =>
    cases k with
    | same k => exact .same (ih k)
    | no hs k => exact .no hs (ih k)
  | no hs h ih =>
    cases k with
    | same k => exact .no hs (ih k)
    | no _ k => exact .no hs (ih k)
theorem ds_le (h : Le Δ Δ1) (k : DS X W Δ1 sts o) : DS X W Δ sts o := pss_imp k fun D σ H ⟨B, F, ok, q⟩ => ⟨B, F, h.ok ok, q.step (.refl _) (.refl h.rk)⟩
theorem go_le {ι : Type} {XS : ι → Cx} {WS : ι → WX} (h : Le Δ Δ1) (k : Go XS WS Δ1 sts P) : Go XS WS Δ sts P := let ⟨o, a, b⟩ := k; ⟨o, a, fun q => ds_le h (b q)⟩
theorem de_le' (h : Le Δ Δ1) (k : DEx X Δ1 e r Δ2) : DEx X Δ e r Δ2 := ⟨h.rk.trans k.rk, pe_imp k.pe fun σ H Q ⟨B, F, ok, q⟩ => ⟨B, F, h.ok ok, q⟩⟩
/-! return, if -/
theorem ds1_ret (h : DEx X Δ e r Δ1) : DS1 X W Δ (.Return (some e) pos) (.rt Δ1 r) := ps_imp (ps_ret h.pe) fun D σ H ⟨B, F, ok, q⟩ => ⟨B, F, ok, fun v F' H' ok' ex hv => q v σ F' H' ok' ex (.refl h.rk) hv⟩
theorem ds1_retN : DS1 X W Δ (.Return none pos) (.rt Δ (.d .none)) := ps_imp ps_retN fun D σ H ⟨B, F, ok, q⟩ => q .non σ F H ok (.refl _) (.refl .rfl) Dq.non
theorem ds1_break : DS1 X W Δ (.Break pos) (.bk Δ) := ps_imp ps_break fun D σ H ⟨B, F, ok, q⟩ => q σ F H ok (.refl _) (.refl .rfl)
theorem ds1_cont : DS1 X W Δ (.Continue pos) (.ct Δ) := ps_imp ps_continue fun D σ H ⟨B, F, ok, q⟩ => q σ F H ok (.refl _) (.refl .rfl)
theorem ds1_pass : DS1 X W Δ (.Pass pos) (.nx Δ) := ps_imp ps_pass fun D σ H ⟨B, F, ok, q⟩ => q σ F H ok (.refl _) (.refl .rfl)
/-! targets -/
def tG (K : Frag) (Δ : En) (x : PyData) (Δ' : En) : TG := fun v σ H Q => ∃ B F, Ok K B F H σ Δ ∧ Dq F v x ∧ ∀ σ' F' H', Ok K B F' H' σ' Δ' → Ex F F' → Kp Δ Δ' σ σ' → Q σ' H'
structure DGx (X : Cx) (Δ : En) (tg : Expr) (x : PyData) (Δ' : En) : Prop where
  rk : RK Δ Δ'
  pg : PG X tg (tG X.K Δ x Δ')
theorem pg_imp {e : Expr} {t t' : TG} (h : PG X e t) (k : ∀ v σ H Q, t' v σ H Q → t v σ H Q) : PG X e t' := ⟨fun pins s σ H v u Q I r w => h.run pins s σ H v u Q I r (k _ _ _ _ w)⟩
theorem kp_set {σ : St} {i : Nat} {s t : Sl} {v : Option V} (e : Δ[i]? = some s) (hs : s.isRef = false) : Kp Δ (Δ.set i t) σ (σ.set i v) := fun j xs ej => by
  have hj : j ≠ i := fun z => by
    subst z
    rw [e] at ej
    cases ej
    cases hs
  exact ⟨by rw [List.getElem?_set_ne (Ne.symm hj)], xs, by rw [List.getElem?_set_ne (Ne.symm hj)]; exact ej⟩
theorem dg_name (i : Nat) {n : Str} {s : Sl} (hN : X.N.Nodup) (hΔ : Δ[i]? = some s := by rfl) (hs : s.isRef = false := by rfl) (hi : X.N[i]? = some n := by rfl) (hx : Loc X.env.scope n := by first | exact Or.inl rfl | exact Or.inr rfl) (hf : X.fn n = true ∨ X.env.scope.names.lookup n = some .local := by first | exact .inl rfl | exact .inr rfl | assumption) :
    DGx X Δ (.Name n pos) x (Δ.set i (.d x)) := ⟨rk_set hΔ hs, pg_imp (pg_name hN hi hx hf) fun v σ H Q ⟨B, F, ok, hv, q⟩ => q _ F H (ok.put (s := .d x) ⟨v, rfl, hv⟩ fun z => nomatch z) (.refl _) (kp_set hΔ hs)⟩
def tGs (K : Frag) (Δ : En) (xs : List PyData) (Δ' : En) : TGs := fun vs σ H Q => ∃ B F, Ok K B F H σ Δ ∧ DqA F vs xs ∧ ∀ σ' F' H', Ok K B F' H' σ' Δ' → Ex F F' → Kp Δ Δ' σ σ' → Q σ' H'
structure DGsx (X : Cx) (Δ : En) (tgs : List Expr) (xs : List PyData) (Δ' : En) : Prop where
  rk : RK Δ Δ'
  pg : PGs X tgs (tGs X.K Δ xs Δ')
theorem pgs_imp {es : List Expr} {t t' : TGs} (h : PGs X es t) (k : ∀ v σ H Q, t' v σ H Q → t v σ H Q) : PGs X es t' := ⟨fun pins s σ H v u Q I r w => h.run pins s σ H v u Q I r (k _ _ _ _ w)⟩
theorem dgs_nil : DGsx X Δ [] [] Δ := ⟨.rfl, pgs_imp pgs_nil fun v σ H Q ⟨B, F, ok, hv, q⟩ => by
  cases hv
  exact ⟨rfl, q σ F H ok (.refl _) (.refl .rfl)⟩⟩
theorem dgs_cons (h : DGx X Δ e x Δ1) (k : DGsx X Δ1 es xs Δ2) (hs : (assignEach (e :: es) X.env).map (·.2) = assign e X.env :: (assignEach es X.env).map (·.2) := by rfl) : DGsx X Δ (e :: es) (x :: xs) Δ2 := ⟨h.rk.trans k.rk, pgs_imp (pgs_cons h.pg k.pg hs) fun v σ H Q ⟨B, F, ok, hv, q⟩ => by
  cases hv with
  | cons h1 h2 =>
    exact ⟨_, _, rfl, B, F, ok, h1, fun σ1 F1 H1 ok1 ex1 kp1 => ⟨B, F1, ok1, h2.mono fun _ _ => Dq.mono ex1, fun σ2 F2 H2 ok2 ex2 kp2 => q σ2 F2 H2 ok2 (ex1.trans ex2) (kp1.trans kp2)⟩⟩⟩
theorem dg_tup {kk : Nat} (hc : X.calm = true) (h : DGsx X Δ es xs Δ1) (hn : (assignEach es X.env).length = xs.length := by rfl) (hst : (assignEach es X.env).findIdx? (·.1) = none := by rfl) : DGx X Δ (.Tuple es kk pos) (.tuple xs) Δ1 :=
  ⟨h.rk, pg_imp (pg_tup hc h.pg hn hst) fun v σ H Q ⟨B, F, ok, hv, q⟩ => by
    obtain ⟨a, vs, rfl, h1, h2⟩ := hv.int_tup
    exact ⟨a, vs, rfl, SqT.of (ok.fh _ _ h1), h2.length, B, F, ok, h2, q⟩⟩
/-! assignments -/
theorem ds1_asg {tg : Expr} (h : DEx X Δ e (.d x) Δ1) (g : DGx X Δ1 tg x Δ2) (hs : swapsWithSole [tg] e pos.line X.env = pure false := by rfl) (hw : swappedStores [tg] e X.env = pure none := by rfl) (h1 : (assignEach [tg] X.env).map (·.2) = [assign tg X.env] := by rfl) :
    DS1 X W Δ (.Assign [tg] e pos) (.nx Δ2) := ps_imp (ps_asg h.pe g.pg hs hw h1) fun D σ H ⟨B, F, ok, q⟩ => ⟨B, F, ok, fun v F1 H1 ok1 ex1 hv => ⟨B, F1, ok1, hv, fun σ2 F2 H2 ok2 ex2 kp2 => q σ2 F2 H2 ok2 (ex1.trans ex2) ((Kp.refl h.rk).trans kp2)⟩⟩
/-- x = e, e a datum -/
theorem ds1_set (i : Nat) {n : Str} {s : Sl} (hN : X.N.Nodup) (h : DEx X Δ e (.d x) Δ1) (hΔ : Δ1[i]? = some s := by rfl) (hs : s.isRef = false := by rfl) (hi : X.N[i]? = some n := by rfl) (hx : Loc X.env.scope n := by first | exact Or.inl rfl | exact Or.inr rfl)
    (hsw : swapsWith e (some (.Name n p)) pos.line X.env = pure false := by rfl) (hf : X.fn n = true ∨ X.env.scope.names.lookup n = some .local := by first | exact .inl rfl | exact .inr rfl | assumption) : DS1 X W Δ (.Assign [.Name n p] e pos) (.nx (Δ1.set i (.d x))) :=
  ps_imp (ps_set hN hi hx h.pe hsw hf) fun D σ H ⟨B, F, ok, q⟩ => ⟨B, F, ok, fun v F1 H1 ok1 ex1 hv => q _ F1 H1 (ok1.put (s := .d x) ⟨v, rfl, hv⟩ fun z => nomatch z) ex1 ((Kp.refl h.rk).trans (kp_set hΔ hs))⟩
theorem put_own {K : Frag} {B F H : Hp} {σ : St} {Δ : En} {i : Nat} {v : V} (ok : Ok K B F H σ Δ) (hv : Res B F H σ Δ v (.nl xs)) : Ok K B F H (σ.set i (some v)) (Δ.set i (.own xs)) := by
  obtain ⟨a, vs, rfl, h1, h2, h3, h4, h5⟩ := hv
  exact ok.put (s := .own xs) ⟨a, vs, rfl, h1, h2, h3, h4⟩ fun _ b eb => by cases eb; exact h5
/-- x = e, e a new list, to be changed -/
theorem ds1_own (i : Nat) {n : Str} {s : Sl} (hN : X.N.Nodup) (h : DEx X Δ e (.nl xs) Δ1) (hΔ : Δ1[i]? = some s := by rfl) (hs : s.isRef = false := by rfl) (hi : X.N[i]? = some n := by rfl) (hx : Loc X.env.scope n := by first | exact Or.inl rfl | exact Or.inr rfl)
    (hsw : swapsWith e (some (.Name n p)) pos.line X.env = pure false := by rfl) (hf : X.fn n = true ∨ X.env.scope.names.lookup n = some .local := by first | exact .inl rfl | exact .inr rfl | assumption) : DS1 X W Δ (.Assign [.Name n p] e pos) (.nx (Δ1.set i (.own xs))) :=
  ps_imp (ps_set hN hi hx h.pe hsw hf) fun D σ H ⟨B, F, ok, q⟩ => ⟨B, F, ok, fun v F1 H1 ok1 ex1 hv => q _ F1 H1 (put_own ok1 hv) ex1 ((Kp.refl h.rk).trans (kp_set hΔ hs))⟩
/-- if c: x = e, of a datum's slot: one way -/
theorem go_ifset {ι : Type} {XS : ι → Cx} {WS : ι → WX} (i : Nat) {pos2 : Pos} (hc : ∀ q, DTx (XS q) Δ c k Δ) (h : k = true → ∀ q, DS1 (XS q) (WS q) Δ st (.nx (Δ.set i (.d x)))) (hΔ : Δ[i]? = some (.d y)) (hp : Go XS WS (Δ.set i (.d (if k then x else y))) rest P) : Go XS WS Δ (.If c [st] [] pos2 :: rest) P := by
  refine go_if hc (fun hk => ?_) (fun hk => ?_)
  · subst hk
    exact go_then (h rfl) (go_on hp)
  · subst hk
    have e2 : Δ.set i (.d y) = Δ := by
      obtain ⟨hl, he⟩ := List.getElem?_eq_some_iff.mp hΔ
      rw [← he]
      exact List.set_getElem_self hl
    have hp : Go XS WS (Δ.set i (.d y)) rest P := hp
    rw [e2] at hp
    exact go_on hp
/-! lists that change -/
theorem rm_up {K : Frag} {B F H : Hp} {σ : St} {i : Nat} {s : Sl} (ok : Ok K B F H σ Δ) (e : Δ[i]? = some s) (hs : s = .own xs ∨ s = .ref xs) : ∃ a vs, σ[i]? = some (some (.ref a)) ∧ F a = none ∧ B a = none ∧ H a = some (.lst vs) ∧ DqA F vs xs ∧
    ∀ us ys, DqA F us ys → Ok K B F (upd H a (.lst us)) σ (Δ.set i (upSl s ys)) := by
  obtain ⟨a, vs, h1, h2, h3, h4, h5⟩ := ok.rm e hs
  refine ⟨a, vs, h1, h2, h3, h4, h5, fun us ys hu => ?_⟩
  rcases hs with rfl | rfl
  · exact ok.write e (.inl ⟨rfl, rfl⟩) h1 hu h2 h3
  · exact ok.write e (.inr ⟨rfl, rfl⟩) h1 hu h2 h3
theorem own_mut {s : Sl} (hs : s = .own xs ∨ s = .ref xs) : s.mut = true ∧ s.full = true := by rcases hs with rfl | rfl <;> exact ⟨rfl, rfl⟩
theorem mut_at {K : Frag} {B F H : Hp} {σ : St} {i : Nat} {s : Sl} (ok : Ok K B F H σ Δ) (e : Δ[i]? = some s) (hs : s.mut = true) : ∃ a vs, σ[i]? = some (some (.ref a)) ∧ H a = some (.lst vs) := by
  cases s with
  | own xs =>
    obtain ⟨b, vs, h1, _, _, h2, _⟩ := ok.rm e (.inl rfl)
    exact ⟨b, vs, h1, h2⟩
  | ref xs =>
    obtain ⟨b, vs, h1, _, _, h2, _⟩ := ok.rm e (.inr rfl)
    exact ⟨b, vs, h1, h2⟩
  | no => cases hs
  | d x => cases hs
  | sc ns => cases hs
  | v u => cases hs
/-- xs.append(e) -/
theorem ds1_app (i : Nat) {n : Str} {s : Sl} (h : DEx X Δ e (.d x) Δ1) (hΔ : Δ1[i]? = some s) (hs : s = .own xs ∨ s = .ref xs) (hl : xs.length < 1000000) (hΔ0 : ∃ t, Δ[i]? = some t ∧ t.mut = true) (hN : X.N[i]? = some n := by rfl)
    (hv : Vis X.env.scope n := by first | exact Or.inl rfl | exact Or.inr (Or.inl rfl) | exact Or.inr (Or.inr rfl)) (hd : (n == ("__debug__" : Str)) = false := by decide) (hcd : (n == ("__classdict__" : Str)) = false := by decide)
    (hbase : attributeBase (.Name n p) "append" X.env (eval (.Name n p) X.env) = eval (.Name n p) X.env := by rfl)
    (hfew : ((backTo cpos (starEach [e] X.env)).all (fun x => !x.1) && (backToKw cpos (keywordEach [] X.env)).all (fun x => x.1.isSome)
      && decide ([e].length + ([] : List Keyword).length + (if ([] : List Keyword).isEmpty then 0 else 1) < 30)) = true := by rfl)
    (hline : (apos.endLine == cpos.line) = true := by rfl) (hse : starEach [e] X.env = (false, eval e X.env) :: starEach [] X.env := by rfl) (hplain : (backTo cpos (starEach [] X.env)).any (·.1) = false := by rfl)
    (hsw : swapsWith (.Call (.Attribute (.Name n p) "append" apos) [e] [] cpos) none pos.line X.env = pure false := by rfl) :
    DS1 X W Δ (.Expr (.Call (.Attribute (.Name n p) "append" apos) [e] [] cpos) pos) (.nx (Δ1.set i (upSl s (xs ++ [x])))) := by
  obtain ⟨t, ht, hf⟩ := hΔ0
  refine ps_imp (ps_expr (pe_bm PySem.F.plainAttrs_list PySem.F.slot_list_append PySem.F.type_list_append mt_append (pe_var hN hv hd hcd) (pa_cons h.pe pa_nil hse) hbase hfew hline hse hplain) hsw) fun D σ H ⟨B, F, ok, q⟩ => ?_
  obtain ⟨a, us, hv', hL⟩ := mut_at ok ht hf
  refine ⟨.ref a, hv', Or.inl ⟨rfl, us, Or.inl (Or.inl hL)⟩, B, F, ok, fun y F1 H1 ok1 ex1 hy => ?_⟩
  obtain ⟨b, vs, h1, h2, h3, h4, h5, h6⟩ := rm_up ok1 hΔ hs
  rw [hv'] at h1
  cases h1
  refine ⟨a, vs, y, rfl, rfl, h4, by rw [h5.length, sizeLine_eq]; omega, ?_⟩
  exact q σ F1 _ (h6 _ _ (pr_app h5 (.cons hy .nil))) ex1 (.refl (h.rk.trans (rk_up hΔ (own_mut hs).1)))
end
end Tr
namespace Tr
open PySem L2
section
variable {X : Cx} {W : WX} {Δ Δ1 Δ2 Δ3 : En} {st : Stmt} {rest sts body suite : List Stmt} {P : Out → Prop} {o : Out} {a b c e tg iter : Expr} {es : List Expr} {r : R} {rs : List R} {pos p p2 apos cpos : Pos} {x y z : PyData} {xs ys : List PyData} {k l : Bool} {i j : Int}
/-! ### pop, clear, items stored -/
theorem pr_cons_inv {α β : Type} {G : α → β → Prop} {vs : List α} {y : β} {ys : List β} (h : Paired G vs (y :: ys)) : ∃ v ws, vs = v :: ws ∧ G v y ∧ Paired G ws ys := by
  cases h with
  | cons h1 h2 => exact ⟨_, _, rfl, h1, h2⟩
theorem pr_snoc_inv {α β : Type} {G : α → β → Prop} : ∀ {ys : List β} {vs : List α} {y : β}, Paired G vs (ys ++ [y]) → ∃ v ws, vs = ws ++ [v] ∧ G v y ∧ Paired G ws ys
  | [], vs, y, h => by
    obtain ⟨v, ws, rfl, h1, h2⟩ := pr_cons_inv h
    cases h2
    exact ⟨v, [], rfl, h1, .nil⟩
  | z :: ys, vs, y, h => by
    obtain ⟨v, ws, rfl, h1, h2⟩ := pr_cons_inv h
    obtain ⟨u, us, rfl, h3, h4⟩ := pr_snoc_inv h2
    exact ⟨u, v :: us, rfl, h3, .cons h1 h4⟩
/-- xs.pop(0) -/
theorem de_pop0 (i : Nat) {n : Str} {s : Sl} {kk} (hΔ : Δ[i]? = some s) (hs : s = .own (x :: xs) ∨ s = .ref (x :: xs)) (hN : X.N[i]? = some n := by rfl)
    (hv : Vis X.env.scope n := by first | exact Or.inl rfl | exact Or.inr (Or.inl rfl) | exact Or.inr (Or.inr rfl)) (hd : (n == ("__debug__" : Str)) = false := by decide) (hcd : (n == ("__classdict__" : Str)) = false := by decide)
    (hbase : attributeBase (.Name n p) "pop" X.env (eval (.Name n p) X.env) = eval (.Name n p) X.env := by rfl)
    (hfew : ((backTo cpos (starEach [.Constant (.int 0) kk p2] X.env)).all (fun x => !x.1) && (backToKw cpos (keywordEach [] X.env)).all (fun x => x.1.isSome)
      && decide (([.Constant (.int 0) kk p2] : List Expr).length + ([] : List Keyword).length + (if ([] : List Keyword).isEmpty then 0 else 1) < 30)) = true := by rfl)
    (hline : (apos.endLine == cpos.line) = true := by rfl) (hse : starEach [.Constant (.int 0) kk p2] X.env = (false, eval (.Constant (.int 0) kk p2) X.env) :: starEach [] X.env := by rfl) (hplain : (backTo cpos (starEach [] X.env)).any (·.1) = false := by rfl) :
    DEx X Δ (.Call (.Attribute (.Name n p) "pop" apos) [.Constant (.int 0) kk p2] [] cpos) (.d x) (Δ.set i (upSl s xs)) := by
  refine ⟨rk_up hΔ (own_mut hs).1, pe_imp (pe_bm PySem.F.plainAttrs_list PySem.F.slot_list_pop PySem.F.type_list_pop mt_popAt (pe_var hN hv hd hcd) (pa_cons pe_int pa_nil hse) hbase hfew hline hse hplain) fun σ H Q ⟨B, F, ok, q⟩ => ?_⟩
  obtain ⟨a, vs, h1, h2, h3, h4, h5, h6⟩ := rm_up ok hΔ hs
  obtain ⟨v, ws, rfl, h7, h8⟩ := pr_cons_inv h5
  refine ⟨.ref a, h1, Or.inl ⟨rfl, _, Or.inl (Or.inl h4)⟩, a, v :: ws, 0, 0, v, rfl, rfl, h4, by decide, by decide, ?_, rfl, ?_⟩
  · show seqIndex? 0 (ws.length + 1) = some 0
    unfold seqIndex?
    simp
  · exact q v F _ (h6 ws xs h8) (.refl _) h7
/-- xs.pop() -/
theorem de_pop (i : Nat) {n : Str} {s : Sl} (hΔ : Δ[i]? = some s) (hs : s = .own (xs ++ [x]) ∨ s = .ref (xs ++ [x])) (hN : X.N[i]? = some n := by rfl)
    (hv : Vis X.env.scope n := by first | exact Or.inl rfl | exact Or.inr (Or.inl rfl) | exact Or.inr (Or.inr rfl)) (hd : (n == ("__debug__" : Str)) = false := by decide) (hcd : (n == ("__classdict__" : Str)) = false := by decide)
    (hbase : attributeBase (.Name n p) "pop" X.env (eval (.Name n p) X.env) = eval (.Name n p) X.env := by rfl) (hline : (apos.endLine == cpos.line) = true := by rfl) :
    DEx X Δ (.Call (.Attribute (.Name n p) "pop" apos) [] [] cpos) (.d x) (Δ.set i (upSl s xs)) := by
  refine ⟨rk_up hΔ (own_mut hs).1, pe_imp (pe_bm0 PySem.F.plainAttrs_list PySem.F.slot_list_pop PySem.F.type_list_pop mt_pop (pe_var hN hv hd hcd) hbase hline) fun σ H Q ⟨B, F, ok, q⟩ => ?_⟩
  obtain ⟨a, vs, h1, h2, h3, h4, h5, h6⟩ := rm_up ok hΔ hs
  obtain ⟨v, ws, rfl, h7, h8⟩ := pr_snoc_inv h5
  refine ⟨.ref a, h1, Or.inl ⟨rfl, _, Or.inl (Or.inl h4)⟩, a, ws ++ [v], v, rfl, rfl, h4, by simp, ?_⟩
  rw [List.dropLast_concat]
  exact q v F _ (h6 ws xs h8) (.refl _) h7
/-- xs.clear() -/
theorem ds1_clear (i : Nat) {n : Str} {s : Sl} (hΔ : Δ[i]? = some s) (hs : s = .own xs ∨ s = .ref xs) (hN : X.N[i]? = some n := by rfl)
    (hv : Vis X.env.scope n := by first | exact Or.inl rfl | exact Or.inr (Or.inl rfl) | exact Or.inr (Or.inr rfl)) (hd : (n == ("__debug__" : Str)) = false := by decide) (hcd : (n == ("__classdict__" : Str)) = false := by decide)
    (hbase : attributeBase (.Name n p) "clear" X.env (eval (.Name n p) X.env) = eval (.Name n p) X.env := by rfl) (hline : (apos.endLine == cpos.line) = true := by rfl)
    (hsw : swapsWith (.Call (.Attribute (.Name n p) "clear" apos) [] [] cpos) none pos.line X.env = pure false := by rfl) : DS1 X W Δ (.Expr (.Call (.Attribute (.Name n p) "clear" apos) [] [] cpos) pos) (.nx (Δ.set i (upSl s []))) := by
  refine ps_imp (ps_expr (pe_bm0 PySem.F.plainAttrs_list PySem.F.slot_list_clear PySem.F.type_list_clear mt_clear (pe_var hN hv hd hcd) hbase hline) hsw) fun D σ H ⟨B, F, ok, q⟩ => ?_
  obtain ⟨a, vs, h1, h2, h3, h4, h5, h6⟩ := rm_up ok hΔ hs
  refine ⟨.ref a, h1, Or.inl ⟨rfl, _, Or.inl (Or.inl h4)⟩, a, vs, rfl, rfl, h4, ?_⟩
  exact q σ F _ (h6 [] [] .nil) (.refl _) (.refl (rk_up hΔ (own_mut hs).1))
/-- xs[j] = e -/
theorem ds1_setI (i : Nat) {n : Str} {s : Sl} {m : Nat} (h : DEx X Δ e (.d x) Δ1) (h2 : DEx X Δ1 b (.d (.int j)) Δ1) (hΔ : Δ1[i]? = some s) (hs : s = .own xs ∨ s = .ref xs) (hj : ixN xs.length j = some m) (hN : X.N[i]? = some n := by rfl)
    (hv : Vis X.env.scope n := by first | exact Or.inl rfl | exact Or.inr (Or.inl rfl) | exact Or.inr (Or.inr rfl)) (hd : (n == ("__debug__" : Str)) = false := by decide) (hcd : (n == ("__classdict__" : Str)) = false := by decide)
    (ha : ∀ v, assign (.Subscript (.Name n p) b p2) X.env v = (do
      let ov ← holding [v] (eval (.Name n p) X.env)
      let iv ← holding [v, ov] (eval b X.env)
      standAt p2
      holding [v, ov, iv] (setItem ov iv v)
      release [v, ov, iv] []) := by intro _; rfl)
    (hsw : swapsWithSole [.Subscript (.Name n p) b p2] e pos.line X.env = pure false := by rfl) (hw : swappedStores [.Subscript (.Name n p) b p2] e X.env = pure none := by rfl) (h1 : (assignEach [.Subscript (.Name n p) b p2] X.env).map (·.2) = [assign (.Subscript (.Name n p) b p2) X.env] := by rfl) :
    DS1 X W Δ (.Assign [.Subscript (.Name n p) b p2] e pos) (.nx (Δ1.set i (upSl s (xs.set m x)))) := by
  refine ps_imp (ps_asg h.pe (pg_sub (pe_var hN hv hd hcd) h2.pe set_list ha) hsw hw h1) fun D σ H ⟨B, F, ok, q⟩ => ⟨B, F, ok, fun v F1 H1 ok1 ex1 hv1 => ?_⟩
  obtain ⟨a, us, hv', _⟩ := mut_at ok1 hΔ (own_mut hs).1
  refine ⟨.ref a, hv', B, F1, ok1, fun w F2 H2 ok2 ex2 hw2 => ?_⟩
  cases Dq.int_ hw2
  obtain ⟨b', vs, q1, q2, q3, q4, q5, q6⟩ := rm_up ok2 hΔ hs
  rw [hv'] at q1
  cases q1
  refine ⟨a, vs, j, m, rfl, rfl, q4, by rw [q5.length]; exact hj, ?_⟩
  exact q σ F2 _ (q6 _ _ (pr_set (Dq.mono ex2 hv1) m q5)) (ex1.trans ex2) (.refl (h.rk.trans (rk_up hΔ (own_mut hs).1)))
/-! ### what a for walks -/
structure Wk (K : Frag) (F0 : Hp) (J : It) (xs : List PyData) : Prop where
  go : ∀ i H, i < xs.length → Ex F0 H → J.go i H
  yl : ∀ (i : Nat) (H : Hp) (v : V) (H' B F : Hp) (σ : St) (Δ : En), i < xs.length → J.yld i H v H' → Ok K B F H σ Δ → Ex F0 F → ∃ F', Ok K B F' H' σ Δ ∧ Ex F F' ∧ ∃ d, xs[i]? = some d ∧ Dq F' v d
  stop : ∀ H, Ex F0 H → J.stop xs.length H
def tI (K : Frag) (Δ : En) (xs : List PyData) (Δ' : En) : TI := fun σ H R => ∃ B F, Ok K B F H σ Δ ∧ ∀ J F' H', Ok K B F' H' σ Δ' → Ex F F' → Wk K F' J xs → R J H'
structure DIx (X : Cx) (Δ : En) (tg e : Expr) (xs : List PyData) (Δ' : En) : Prop where
  rk : RK Δ Δ'
  pi : PI X tg e (tI X.K Δ xs Δ')
theorem pi_imp {tg e : Expr} {t t' : TI} (h : PI X tg e t) (k : ∀ σ H R, t' σ H R → t σ H R) : PI X tg e t' := ⟨fun pins s σ H R I w => h.run pins s σ H R I (k _ _ _ w)⟩
theorem sq_ex {K : Frag} {F H : Hp} {a : Addr} {vs : List V} (h : F a = some (.lst vs)) (e : Ex F H) : SqL K H a vs := SqL.of (e _ _ h)
theorem wk_list {K : Frag} {F : Hp} {a : Addr} {vs : List V} (h : F a = some (.lst vs)) (hd : DqA F vs xs) : Wk K F (Itl K a) xs where
  go := fun i H hi ex => ⟨vs, vs[i]'(by rw [hd.length]; exact hi), sq_ex h ex, by rw [List.getElem?_eq_getElem]⟩
  yl := fun i H v H' B F1 σ Δ hi hy ok ex => by
    obtain ⟨rfl, hv⟩ := hy
    obtain ⟨d, h1, h2⟩ := pr_getl hd (hv vs (sq_ex h (ex.trans ok.fh)))
    exact ⟨F1, ok, .refl _, d, h1, h2.mono ex⟩
  stop := fun H ex => ⟨vs, sq_ex h ex, by rw [hd.length]; exact Nat.le_refl _⟩
theorem di_list (h : DEx X Δ e (.d (.list xs)) Δ1) : DIx X Δ tg e xs Δ1 := ⟨h.rk, pi_imp (pi_list h.pe) fun σ H R ⟨B, F, ok, q⟩ => ⟨B, F, ok, fun v F1 H1 ok1 ex1 hv => by
  obtain ⟨a, vs, rfl, h1, h2⟩ := Dq.inl hv
  exact ⟨a, rfl, ⟨vs, sq_ex h1 ok1.fh⟩, q _ F1 H1 ok1 ex1 (wk_list h1 h2)⟩⟩⟩
theorem st_ex {K : Frag} {F H : Hp} {a : Addr} {vs : List V} (h : F a = some (.tup vs)) (e : Ex F H) : SqT K H a vs := SqT.of (e _ _ h)
theorem wk_tup {K : Frag} {F : Hp} {a : Addr} {vs : List V} (h : F a = some (.tup vs)) (hd : DqA F vs xs) : Wk K F (Itt K a) xs where
  go := fun i H hi ex => ⟨vs, vs[i]'(by rw [hd.length]; exact hi), st_ex h ex, by rw [List.getElem?_eq_getElem]⟩
  yl := fun i H v H' B F1 σ Δ hi hy ok ex => by
    obtain ⟨rfl, hv⟩ := hy
    obtain ⟨d, h1, h2⟩ := pr_getl hd (hv vs (st_ex h (ex.trans ok.fh)))
    exact ⟨F1, ok, .refl _, d, h1, h2.mono ex⟩
  stop := fun H ex => ⟨vs, st_ex h ex, by rw [hd.length]; exact Nat.le_refl _⟩
theorem di_tup (h : DEx X Δ e (.d (.tuple xs)) Δ1) : DIx X Δ tg e xs Δ1 := ⟨h.rk, pi_imp (pi_tup h.pe) fun σ H R ⟨B, F, ok, q⟩ => ⟨B, F, ok, fun v F1 H1 ok1 ex1 hv => by
  obtain ⟨a, vs, rfl, h1, h2⟩ := Dq.int_tup hv
  exact ⟨a, rfl, ⟨vs, st_ex h1 ok1.fh⟩, q _ F1 H1 ok1 ex1 (wk_tup h1 h2)⟩⟩⟩
def rngD (lo : Int) (n : Nat) : List PyData := (List.range n).map fun (k : Nat) => PyData.int (lo + (k : Int))
theorem rngD_len (lo : Int) (n : Nat) : (rngD lo n).length = n := by unfold rngD; simp
theorem rngD_get (lo : Int) (n k : Nat) (h : k < n) : (rngD lo n)[k]? = some (.int (lo + (k : Int))) := by unfold rngD; simp [h]
theorem rngD_of {lo : Int} {n k : Nat} {d : PyData} (h : (rngD lo n)[k]? = some d) : k < n ∧ d = .int (lo + (k : Int)) := by
  have hk : k < n := by
    have := (List.getElem?_eq_some_iff.mp h).1
    rw [rngD_len] at this
    exact this
  rw [rngD_get lo n k hk] at h
  exact ⟨hk, (Option.some.inj h).symm⟩
theorem wk_rng {K : Frag} {F : Hp} {lo : Int} {n : Nat} : Wk K F (Itr lo n) (rngD lo n) where
  go := fun i H hi ex => by rw [rngD_len] at hi; exact hi
  yl := fun i H v H' B F1 σ Δ hi hy ok ex => by
    obtain ⟨rfl, rfl⟩ := hy
    rw [rngD_len] at hi
    exact ⟨F1, ok, .refl _, _, rngD_get lo n i hi, .int _⟩
  stop := fun H ex => by rw [rngD_len]; exact Nat.le_refl _
theorem di_rng1 {n : Int} (G : Blt X.mg) (h : DAx X Δ [e] [.d (.int n)] Δ1) (hn : n ≤ 1000000000 ∧ -1000000000 ≤ n) (hg : Gl X "range" := by rfl) (hs : starEach [e] X.env = [(false, eval e X.env)] := by rfl) : DIx X Δ tg (.Call (.Name "range" p) [e] [] pos) (rngD 0 n.toNat) Δ1 :=
  ⟨h.rk, pi_imp (pi_range1 hg G.range h.pa hs) fun σ H R ⟨B, F, ok, q⟩ => ⟨B, F, ok, fun vs F1 H1 ok1 ex1 hv => by
    cases hv with
    | cons h1 t =>
      cases t
      cases Dq.int_ h1
      exact ⟨n, rfl, by omega, by omega, q _ F1 H1 ok1 ex1 wk_rng⟩⟩⟩
theorem di_rng2 {m n : Int} (G : Blt X.mg) (h : DAx X Δ [a, b] [.d (.int m), .d (.int n)] Δ1) (hn : (n ≤ 1000000000 ∧ -1000000000 ≤ n) ∧ (m ≤ 1000000000 ∧ -1000000000 ≤ m)) (hg : Gl X "range" := by rfl) (hs : starEach [a, b] X.env = [(false, eval a X.env), (false, eval b X.env)] := by rfl) (hs2 : starEach [b] X.env = [(false, eval b X.env)] := by rfl) :
    DIx X Δ tg (.Call (.Name "range" p) [a, b] [] pos) (rngD m (n - m).toNat) Δ1 :=
  ⟨h.rk, pi_imp (pi_range2 hg G.range h.pa hs hs2) fun σ H R ⟨B, F, ok, q⟩ => ⟨B, F, ok, fun vs F1 H1 ok1 ex1 hv => by
    cases hv with
    | cons h1 t =>
      cases t with
      | cons h2 t =>
        cases t
        cases Dq.int_ h1
        cases Dq.int_ h2
        exact ⟨m, n, rfl, by omega, q _ F1 H1 ok1 ex1 wk_rng⟩⟩⟩
def enumD (xs : List PyData) : List PyData := (List.range xs.length).map fun (i : Nat) => PyData.tuple [.int (i : Int), xs.getD i .none]
theorem enumD_len (xs : List PyData) : (enumD xs).length = xs.length := by unfold enumD; simp
theorem enumD_get {i : Nat} {d : PyData} (h : xs[i]? = some d) : (enumD xs)[i]? = some (.tuple [.int (i : Int), d]) := by
  have hi := (List.getElem?_eq_some_iff.mp h).1
  unfold enumD
  rw [List.getElem?_map, List.getElem?_range hi]
  show some (PyData.tuple [.int (i : Int), xs.getD i .none]) = _
  rw [List.getD_eq_getElem?_getD, h]
  rfl
theorem enumD_of {i : Nat} {d : PyData} (h : (enumD xs)[i]? = some d) : ∃ z, xs[i]? = some z ∧ d = .tuple [.int (i : Int), z] := by
  have hi : i < xs.length := by
    have := (List.getElem?_eq_some_iff.mp h).1
    rw [enumD_len] at this
    exact this
  have e := List.getElem?_eq_getElem hi
  rw [enumD_get e] at h
  exact ⟨_, e, (Option.some.inj h).symm⟩
theorem wk_enum {K : Frag} {F : Hp} {a : Addr} {vs : List V} (h : F a = some (.lst vs)) (hd : DqA F vs xs) : Wk K F (Ite K a) (enumD xs) where
  go := fun i H hi ex => by
    rw [enumD_len] at hi
    exact ⟨vs, vs[i]'(by rw [hd.length]; exact hi), sq_ex h ex, by rw [List.getElem?_eq_getElem]⟩
  yl := fun i H v H' B F1 σ Δ hi hy ok ex => by
    obtain ⟨T, u, rfl, hT, rfl, hv⟩ := hy
    obtain ⟨d, h1, h2⟩ := pr_getl hd (hv vs (sq_ex h (ex.trans ok.fh)))
    have ex2 : Ex F1 (upd F1 T (.tup [.int (i : Int), u])) := .new (ok.fresh hT).1
    exact ⟨_, ok.laid hT, ex2, _, enumD_get h1, .tuple upd_same (.cons (.int _) (.cons (h2.mono (ex.trans ex2)) .nil))⟩
  stop := fun H ex => ⟨vs, sq_ex h ex, by rw [enumD_len, hd.length]; exact Nat.le_refl _⟩
theorem di_enum {elts : List Expr} {kk : Nat} {tpos : Pos} (G : Blt X.mg) (h : DEx X Δ e (.d (.list xs)) Δ1) (hg : Gl X "enumerate" := by rfl) (hs : starEach [e] X.env = (false, eval e X.env) :: starEach [] X.env := by rfl) (hs2 : starEach [e] X.env = [(false, eval e X.env)] := by rfl) : DIx X Δ (.Tuple elts kk tpos) (.Call (.Name "enumerate" p) [e] [] pos) (enumD xs) Δ1 :=
  ⟨h.rk, pi_imp (pi_enum hg G.enum (pa_cons h.pe pa_nil hs) hs2) fun σ H R ⟨B, F, ok, q⟩ => ⟨B, F, ok, fun v F1 H1 ok1 ex1 hv => by
    obtain ⟨a, vs, rfl, h1, h2⟩ := Dq.inl hv
    exact ⟨a, vs, rfl, sq_ex h1 ok1.fh, q _ F1 H1 ok1 ex1 (wk_enum h1 h2)⟩⟩⟩
/-! ### for -/
/-- how a for goes on from item n on -/
inductive Lp (X : Cx) (W : WX) (tg : Expr) (body : List Stmt) (xs : List PyData) : Nat → En → Out → Prop
  | done {n : Nat} {Δ : En} : n = xs.length → Lp X W tg body xs n Δ (.nx Δ)
  | step {n : Nat} {Δ Δt Δ1 Δ2 : En} {d : PyData} {o : Out} : xs[n]? = some d → DGx X Δ tg d Δt → (DS X W Δt body (.nx Δ1) ∨ DS X W Δt body (.ct Δ1)) → Le Δ1 Δ2 → Lp X W tg body xs (n + 1) Δ2 o → Lp X W tg body xs n Δ o
  | brk {n : Nat} {Δ Δt Δ1 : En} {d : PyData} : xs[n]? = some d → DGx X Δ tg d Δt → DS X W Δt body (.bk Δ1) → Lp X W tg body xs n Δ (.nx Δ1)
  | ret {n : Nat} {Δ Δt Δ1 : En} {d : PyData} {r : R} : xs[n]? = some d → DGx X Δ tg d Δt → DS X W Δt body (.rt Δ1 r) → Lp X W tg body xs n Δ (.rt Δ1 r)
  | exc {n : Nat} {Δ Δt Δ1 : En} {d : PyData} {C : Addr} : xs[n]? = some d → DGx X Δ tg d Δt → DS X W Δt body (.xc Δ1 C) → Lp X W tg body xs n Δ (.xc Δ1 C)
def tAny (X : Cx) (W : WX) (body : List Stmt) : TS := fun D σ H => ∃ Δ o, DS X W Δ body o ∧ tS X.K W Δ o D σ H
theorem pss_any : PSs X body (tAny X W body) := ⟨fun pins s σ H D I ⟨Δ, o, h, q⟩ => h.run pins s σ H D I q⟩
def gAny (X : Cx) (tg : Expr) : TG := fun v σ H Q => ∃ Δ x Δ', DGx X Δ tg x Δ' ∧ tG X.K Δ x Δ' v σ H Q
theorem pg_any : PG X tg (gAny X tg) := ⟨fun pins s σ H v u Q I r ⟨Δ, x, Δ', h, q⟩ => h.pg.run pins s σ H v u Q I r q⟩
theorem ds1_for (hp : PassesOwn (model X.prog X.w) X.A X.env X.xe) (hc : X.calm = true) (hi : DIx X Δ tg iter xs Δ1) (h : Lp X W tg body xs 0 Δ1 o) (hs : ∀ x, foldedSetIterable iter X.env x = pure x := by intro _; rfl) : DS1 X W Δ (.For tg iter body [] pos) o := by
  refine ps_imp (ps_for hp hc hi.pi pg_any (pss_any (W := W)) hs) fun D σ0 H0 ⟨B, F0, ok0, q0⟩ => ⟨B, F0, ok0, fun J F1 H1 ok1 ex1 wk => ?_⟩
  have q1 : Post X.K W B F1 σ0 Δ1 D o := q0.step ex1 (.refl hi.rk)
  refine ⟨fun n m σ H => m = xs.length - n ∧ n ≤ xs.length ∧ ∃ F Δi, Ok X.K B F H σ Δi ∧ Ex F1 F ∧ Post X.K W B F σ Δi D o ∧ Lp X W tg body xs n Δi o, ⟨xs.length, by simp, Nat.zero_le _, F1, Δ1, ok1, .refl _, q1, h⟩, ?_⟩
  rintro n m σ H ⟨rfl, hn, F, Δi, ok, ex, q, lp⟩
  have turn : ∀ {d : PyData} {Δt : En} {o' : Out}, xs[n]? = some d → DGx X Δi tg d Δt → DS X W Δt body o' → ∀ (N : St → Hp → Prop), (∀ F2 σ2, Ex F1 F2 → Post X.K W B F2 σ2 Δt D o → Post X.K W B F2 σ2 Δt { D with nx := N, ct := N, bk := D.nx } o') →
      ∀ v H', J.yld n H v H' → gAny X tg v σ H' fun σ2 H2 => tAny X W body { D with nx := N, ct := N, bk := D.nx } σ2 H2 := fun {d Δt o'} hd hg hb N hN v H' hy => by
    obtain ⟨F', ok', ex', d', hd', hv⟩ := wk.yl n H v H' B F σ Δi (List.getElem?_eq_some_iff.mp hd).1 hy ok ex
    rw [hd] at hd'
    cases hd'
    refine ⟨Δi, d, Δt, hg, B, F', ok', hv, fun σ2 F2 H2 ok2 ex2 kp2 => ?_⟩
    exact ⟨Δt, o', hb, B, F2, ok2, hN F2 σ2 ((ex.trans ex').trans ex2) (q.step (ex'.trans ex2) kp2)⟩
  cases lp with
  | done hx =>
    subst hx
    exact .inl ⟨wk.stop H (ex.trans ok.fh), q σ F H ok (.refl _) (.refl .rfl)⟩
  | @step _ _ Δt Δ1' Δ2' d _ hd hg hb hle lp =>
    have hlt := (List.getElem?_eq_some_iff.mp hd).1
    refine .inr ⟨wk.go n H hlt (ex.trans ok.fh), fun σ' H' => ∃ F Δi, Ok X.K B F H' σ' Δi ∧ Ex F1 F ∧ Post X.K W B F σ' Δi D o ∧ Lp X W tg body xs (n + 1) Δi o, fun σ' H' z => ⟨_, by omega, rfl, hlt, z⟩, ?_⟩
    rcases hb with hb | hb
    · exact turn hd hg hb _ fun F2 σ2 ex2 q2 σ3 F3 H3 ok3 ex3 kp3 => ⟨F3, Δ2', hle.ok ok3, ex2.trans ex3, (q2.step ex3 kp3).step (.refl _) (.refl hle.rk), lp⟩
    · exact turn hd hg hb _ fun F2 σ2 ex2 q2 σ3 F3 H3 ok3 ex3 kp3 => ⟨F3, Δ2', hle.ok ok3, ex2.trans ex3, (q2.step ex3 kp3).step (.refl _) (.refl hle.rk), lp⟩
  | @brk _ _ Δt Δ1' d hd hg hb =>
    have hlt := (List.getElem?_eq_some_iff.mp hd).1
    exact .inr ⟨wk.go n H hlt (ex.trans ok.fh), fun _ _ => False, fun _ _ z => z.elim, turn hd hg hb _ fun F2 σ2 ex2 q2 => q2⟩
  | @ret _ _ Δt Δ1' d r hd hg hb =>
    have hlt := (List.getElem?_eq_some_iff.mp hd).1
    exact .inr ⟨wk.go n H hlt (ex.trans ok.fh), fun _ _ => False, fun _ _ z => z.elim, turn hd hg hb _ fun F2 σ2 ex2 q2 => q2⟩
  | @exc _ _ Δt Δ1' d C hd hg hb =>
    have hlt := (List.getElem?_eq_some_iff.mp hd).1
    exact .inr ⟨wk.go n H hlt (ex.trans ok.fh), fun _ _ => False, fun _ _ z => z.elim, turn hd hg hb _ fun F2 σ2 ex2 q2 => q2⟩
/-- what a turn's end must be: on with I, or out with P -/
def Tn (I : En → Prop) (P : Out → Prop) : Out → Prop
  | .nx Δ => ∃ Δ', Le Δ Δ' ∧ I Δ'
  | .ct Δ => ∃ Δ', Le Δ Δ' ∧ I Δ'
  | .bk Δ => P (.nx Δ)
  | .rt Δ r => P (.rt Δ r)
  | .xc Δ C => P (.xc Δ C)
section
variable {ι : Type} {XS : ι → Cx} {WS : ι → WX}
theorem lp_inv (I : Nat → En → Prop) (hs : ∀ n Δ d, xs[n]? = some d → I n Δ → ∃ Δt, (∀ q, DGx (XS q) Δ tg d Δt) ∧ Go XS WS Δt body (Tn (I (n + 1)) P)) (hd : ∀ Δ, I xs.length Δ → P (.nx Δ)) : ∀ m n Δ, n + m = xs.length → I n Δ → ∃ o, P o ∧ ∀ q, Lp (XS q) (WS q) tg body xs n Δ o := by
  intro m
  induction m with
  | zero =>
    intro n Δ hn hI
    have : n = xs.length := by omega
    subst this
    exact ⟨_, hd Δ hI, fun q => .done rfl⟩
  | succ m ih =>
    intro n Δ hn hI
    have hlt : n < xs.length := by omega
    have he := List.getElem?_eq_getElem hlt
    obtain ⟨Δt, hg, o, ho, hb⟩ := hs n Δ _ he hI
    cases o with
    | nx Δ1 =>
      obtain ⟨Δ2, hle, hI2⟩ := ho
      obtain ⟨o, hp, lp⟩ := ih (n + 1) Δ2 (by omega) hI2
      exact ⟨o, hp, fun q => .step he (hg q) (.inl (hb q)) hle (lp q)⟩
    | ct Δ1 =>
      obtain ⟨Δ2, hle, hI2⟩ := ho
      obtain ⟨o, hp, lp⟩ := ih (n + 1) Δ2 (by omega) hI2
      exact ⟨o, hp, fun q => .step he (hg q) (.inr (hb q)) hle (lp q)⟩
    | bk Δ1 => exact ⟨_, ho, fun q => .brk he (hg q) (hb q)⟩
    | rt Δ1 r => exact ⟨_, ho, fun q => .ret he (hg q) (hb q)⟩
    | xc Δ1 C => exact ⟨_, ho, fun q => .exc he (hg q) (hb q)⟩
/-- THE RULE for a for: I by the turn and the slots -/
theorem go_for (I : Nat → En → Prop) (hp : ∀ q, PassesOwn (model (XS q).prog (XS q).w) (XS q).A (XS q).env (XS q).xe) (hc : ∀ q, (XS q).calm = true) (hi : ∀ q, DIx (XS q) Δ tg iter xs Δ1) (hle : Le Δ1 Δ2) (h0 : I 0 Δ2) (hs : ∀ n Δ d, xs[n]? = some d → I n Δ → ∃ Δt, (∀ q, DGx (XS q) Δ tg d Δt) ∧ Go XS WS Δt body (Tn (I (n + 1)) (thenP XS WS rest P))) (hd : ∀ Δ, I xs.length Δ → Go XS WS Δ rest P)
    (hf : ∀ q x, foldedSetIterable iter (XS q).env x = pure x := by intro _ _; rfl) : Go XS WS Δ (.For tg iter body [] pos :: rest) P := by
  obtain ⟨o, ho, lp⟩ := lp_inv (P := thenP XS WS rest P) I hs hd xs.length 0 Δ2 (by omega) h0
  refine go_cons ⟨o, ho, fun q => ds1_for (hp q) (hc q) (Δ1 := Δ2) ⟨(hi q).rk.trans hle.rk, pi_imp (hi q).pi fun σ H R ⟨B, F, ok, qq⟩ => ⟨B, F, ok, fun J F' H' ok' ex wk => qq J F' H' (hle.ok ok') ex wk⟩⟩ (lp q) (hf q)⟩
end
/-! ### while -/
inductive Lw (X : Cx) (W : WX) (c : Expr) (body : List Stmt) : Nat → En → Out → Prop
  | done {Δ Δ1 : En} : DTx X Δ c false Δ1 → Lw X W c body 0 Δ (.nx Δ1)
  | step {n : Nat} {Δ Δt Δ1 Δ2 : En} {o : Out} : DTx X Δ c true Δt → (DS X W Δt body (.nx Δ1) ∨ DS X W Δt body (.ct Δ1)) → Le Δ1 Δ2 → Lw X W c body n Δ2 o → Lw X W c body (n + 1) Δ o
  | brk {Δ Δt Δ1 : En} : DTx X Δ c true Δt → DS X W Δt body (.bk Δ1) → Lw X W c body 0 Δ (.nx Δ1)
  | ret {Δ Δt Δ1 : En} {r : R} : DTx X Δ c true Δt → DS X W Δt body (.rt Δ1 r) → Lw X W c body 0 Δ (.rt Δ1 r)
  | exc {Δ Δt Δ1 : En} {C : Addr} : DTx X Δ c true Δt → DS X W Δt body (.xc Δ1 C) → Lw X W c body 0 Δ (.xc Δ1 C)
def tAnyT (X : Cx) (c : Expr) : TT := fun σ H Q => ∃ Δ b Δ', DTx X Δ c b Δ' ∧ tT X.K Δ b Δ' σ H Q
theorem pt_any : PT X c (tAnyT X c) := ⟨fun pins s σ H Q I ⟨Δ, b, Δ', h, q⟩ => h.pt.run pins s σ H Q I q⟩
theorem ds1_while {n : Nat} (hp : PassesOwn (model X.prog X.w) X.A X.env X.xe) (h : Lw X W c body n Δ o) : DS1 X W Δ (.While c body [] pos) o := by
  refine ps_imp (ps_while hp pt_any (pss_any (W := W))) fun D σ0 H0 ⟨B, F0, ok0, q0⟩ => ?_
  refine ⟨fun m σ H => ∃ F Δi, Ok X.K B F H σ Δi ∧ Post X.K W B F σ Δi D o ∧ Lw X W c body m Δi o, ⟨n, F0, Δ, ok0, q0, h⟩, ?_⟩
  rintro m σ H ⟨F, Δi, ok, q, lw⟩
  cases lw with
  | done ht => exact ⟨Δi, false, _, ht, B, F, ok, fun F' H' ok' ex => iteF (q σ F' H' ok' ex (.refl ht.rk))⟩
  | @step m _ Δt Δ1 Δ2 _ ht hb hle lw =>
    refine ⟨Δi, true, _, ht, B, F, ok, fun F' H' ok' ex => iteT ⟨fun σ' H' => ∃ F Δi, Ok X.K B F H' σ' Δi ∧ Post X.K W B F σ' Δi D o ∧ Lw X W c body m Δi o, fun σ' H' z => ⟨m, Nat.lt_succ_self _, z⟩, ?_⟩⟩
    have q1 := q.step (Δ1 := Δt) ex (.refl ht.rk)
    rcases hb with hb | hb
    · exact ⟨Δt, _, hb, B, F', ok', fun σ2 F2 H2 ok2 ex2 kp2 => ⟨F2, Δ2, hle.ok ok2, (q1.step ex2 kp2).step (.refl _) (.refl hle.rk), lw⟩⟩
    · exact ⟨Δt, _, hb, B, F', ok', fun σ2 F2 H2 ok2 ex2 kp2 => ⟨F2, Δ2, hle.ok ok2, (q1.step ex2 kp2).step (.refl _) (.refl hle.rk), lw⟩⟩
  | @brk _ Δt Δ1 ht hb =>
    exact ⟨Δi, true, _, ht, B, F, ok, fun F' H' ok' ex => iteT ⟨fun _ _ => False, fun _ _ z => z.elim, Δt, _, hb, B, F', ok', q.step (Δ1 := Δt) ex (.refl ht.rk)⟩⟩
  | @ret _ Δt Δ1 r ht hb =>
    exact ⟨Δi, true, _, ht, B, F, ok, fun F' H' ok' ex => iteT ⟨fun _ _ => False, fun _ _ z => z.elim, Δt, _, hb, B, F', ok', q.step (Δ1 := Δt) ex (.refl ht.rk)⟩⟩
  | @exc _ Δt Δ1 C ht hb =>
    exact ⟨Δi, true, _, ht, B, F, ok, fun F' H' ok' ex => iteT ⟨fun _ _ => False, fun _ _ z => z.elim, Δt, _, hb, B, F', ok', q.step (Δ1 := Δt) ex (.refl ht.rk)⟩⟩
/-- THE RULE for a while: I by a measure and the slots -/
theorem go_while {ι : Type} {XS : ι → Cx} {WS : ι → WX} (I : Nat → En → Prop) {m : Nat} (hp : ∀ q, PassesOwn (model (XS q).prog (XS q).w) (XS q).A (XS q).env (XS q).xe) (hle : Le Δ Δ2) (h0 : I m Δ2)
    (hs : ∀ n Δ, I n Δ → ∃ b Δt, (∀ q, DTx (XS q) Δ c b Δt) ∧ (b = true → Go XS WS Δt body (Tn (fun Δ' => ∃ n', n' < n ∧ I n' Δ') (thenP XS WS rest P))) ∧ (b = false → Go XS WS Δt rest P)) : Go XS WS Δ (.While c body [] pos :: rest) P := by
  have key : ∀ m, ∀ n, n < m → ∀ Δ, I n Δ → ∃ o j, thenP XS WS rest P o ∧ ∀ q, Lw (XS q) (WS q) c body j Δ o := by
    intro m
    induction m with
    | zero => intro n hn; omega
    | succ m ih =>
      intro n hn Δ hI
      obtain ⟨b, Δt, ht, h1, h2⟩ := hs n Δ hI
      cases b with
      | false => exact ⟨.nx Δt, 0, h2 rfl, fun q => .done (ht q)⟩
      | true =>
        obtain ⟨o, ho, hb⟩ := h1 rfl
        cases o with
        | nx Δ1 =>
          obtain ⟨Δ2, hle, n', hn', hI2⟩ := ho
          obtain ⟨o, j, hp, lw⟩ := ih n' (by omega) Δ2 hI2
          exact ⟨o, j + 1, hp, fun q => .step (ht q) (.inl (hb q)) hle (lw q)⟩
        | ct Δ1 =>
          obtain ⟨Δ2, hle, n', hn', hI2⟩ := ho
          obtain ⟨o, j, hp, lw⟩ := ih n' (by omega) Δ2 hI2
          exact ⟨o, j + 1, hp, fun q => .step (ht q) (.inr (hb q)) hle (lw q)⟩
        | bk Δ1 => exact ⟨.nx Δ1, 0, ho, fun q => .brk (ht q) (hb q)⟩
        | rt Δ1 r => exact ⟨.rt Δ1 r, 0, ho, fun q => .ret (ht q) (hb q)⟩
        | xc Δ1 C => exact ⟨.xc Δ1 C, 0, ho, fun q => .exc (ht q) (hb q)⟩
  obtain ⟨o, j, ho, lw⟩ := key (m + 1) m (by omega) Δ2 h0
  exact go_cons ⟨o, ho, fun q => ps_imp (ds1_while (hp q) (lw q)) fun D σ H ⟨B, F, ok, qq⟩ => ⟨B, F, hle.ok ok, qq.step (.refl _) (.refl hle.rk)⟩⟩
end
end Tr
namespace Tr
open PySem L2
section
variable {K : Frag} {B F H : Hp} {σ : St} {Δ Δ' : En} {D : Addr} {u u' : HO} {j : Nat}
theorem Ok.moveB (h : Ok K (upd B D u) F H σ Δ) : Ok K (upd B D u') F (upd H D u') σ Δ := by
  have fD : F D = none := h.bf D (by rw [upd_same]; intro z; cases z)
  refine ⟨fun a o e => ?_, fun a o e => ?_, fun a hb => ?_, h.len, fun i s e => ?_, h.nd⟩
  · rw [upd_ne (none_of e fD)]; exact h.fh a o e
  · by_cases ha : a = D
    · subst ha; rw [upd_same] at e ⊢; exact e
    · rw [upd_ne ha] at e ⊢
      exact h.bh a o (by rw [upd_ne ha]; exact e)
  · by_cases ha : a = D
    · subst ha; exact fD
    · exact h.bf a (by rw [upd_ne ha] at hb ⊢; exact hb)
  · obtain ⟨o, h1, h2⟩ := h.sl i s e
    refine ⟨o, h1, ?_⟩
    have key : ∀ {xs : List PyData}, MutL (upd B D u) F H o xs → MutL (upd B D u') F (upd H D u') o xs := fun {xs} ⟨a, vs, ea, q1, q2, q3, q4⟩ => by
      have ha : a ≠ D := fun z => by subst z; rw [upd_same] at q2; cases q2
      exact ⟨a, vs, ea, q1, by rw [upd_ne ha] at q2 ⊢; exact q2, by rw [upd_ne ha]; exact q3, q4⟩
    cases s with
    | no => trivial
    | d x => exact h2
    | own xs => exact key h2
    | ref xs => exact key h2
    | sc ns => exact h2
    | v w => exact h2
/-- a slot of which nothing is known -/
theorem Ok.noSlot (h : Ok K B F H σ Δ) (hj : Δ[j]? = some .no) (v : Option V) : Ok K B F H (σ.set j v) Δ := by
  refine ⟨h.fh, h.bh, h.bf, by simp [h.len], fun i s e => ?_, fun i k s t a e1 e2 m1 m2 r1 r2 => ?_⟩
  · by_cases hi : i = j
    · subst hi
      rw [hj] at e
      cases e
      have : i < σ.length := by
        have := (List.getElem?_eq_some_iff.mp hj).1
        have := h.len
        omega
      exact ⟨v, List.getElem?_set_self this, trivial⟩
    · rw [List.getElem?_set_ne (Ne.symm hi)]
      exact h.sl i s e
  · have hi : i ≠ j := fun z => by subst z; rw [hj] at e1; cases e1; cases m1
    have hk : k ≠ j := fun z => by subst z; rw [hj] at e2; cases e2; cases m2
    rw [List.getElem?_set_ne (Ne.symm hi)] at r1
    rw [List.getElem?_set_ne (Ne.symm hk)] at r2
    exact h.nd i k s t a e1 e2 m1 m2 r1 r2
theorem set_back {α : Type} {l : List α} {i : Nat} {x y : α} (h : l[i]? = some x) : (l.set i y).set i x = l := by
  rw [List.set_set]
  obtain ⟨hl, he⟩ := List.getElem?_eq_some_iff.mp h
  rw [← he]
  exact List.set_getElem_self hl
end
/-- the contexts of a comprehension's block -/
def Blk (X : Cx) (scope : Scope) (Y : Cx) : Prop := ∃ (s : Shared) (H : Hp) (C : Addr) (cl : List (Str × Addr)) (fp : List Addr), Y = X.blk s H scope (compEnvC scope cl C X.env) fp
section
variable {X : Cx} {W : WX} {Δ Δ1 Δ2 Δ3 Δn : En} {P : Out → Prop} {o : Out} {a b c e elt tg iter : Expr} {es ifs : List Expr} {r : R} {pos spos p p2 : Pos} {x y z : PyData} {xs ys : List PyData} {scope : Scope} {j : Nat} {nm : Str}
/-- one turn: from Δ with the item d in slot j, to Δ'; what is taken -/
inductive Tc (X : Cx) (scope : Scope) (elt : Expr) (ifs : List Expr) (j : Nat) (Δ : En) (d : PyData) : En → Option PyData → Prop
  | take {Δ1 Δ2 Δ3 : En} {y : PyData} (ht : ∀ Y, Blk X scope Y → PTs Y ifs (tT X.K (Δ.set j (.d d)) true Δ1)) (he : ∀ Y, Blk X scope Y → DEx Y Δ1 elt (.d y) Δ2) (hle : Le Δ2 Δ3) (hn : Δ3[j]? = some .no) : Tc X scope elt ifs j Δ d Δ3 (some y)
  | skip {Δ1 Δ3 : En} (ht : ∀ Y, Blk X scope Y → PTs Y ifs (tT X.K (Δ.set j (.d d)) false Δ1)) (hle : Le Δ1 Δ3) (hn : Δ3[j]? = some .no) : Tc X scope elt ifs j Δ d Δ3 none
inductive Lc (X : Cx) (scope : Scope) (elt : Expr) (ifs : List Expr) (j : Nat) (xs : List PyData) : Nat → En → List PyData → En → Prop
  | done {n : Nat} {Δ : En} : n = xs.length → Lc X scope elt ifs j xs n Δ [] Δ
  | turn {n : Nat} {Δ Δ' Δn : En} {d : PyData} {yo : Option PyData} {ys : List PyData} : xs[n]? = some d → Tc X scope elt ifs j Δ d Δ' yo → Lc X scope elt ifs j xs (n + 1) Δ' ys Δn → Lc X scope elt ifs j xs n Δ (yo.toList ++ ys) Δn
def eAny (X : Cx) (scope : Scope) (e : Expr) : TE := fun σ H Q => ∃ Δ r Δ', (∀ Y, Blk X scope Y → DEx Y Δ e r Δ') ∧ tE X.K Δ r Δ' σ H Q
theorem pe_any {Y : Cx} (hY : Blk X scope Y) : PE Y e (eAny X scope e) := ⟨fun pins s σ H Q I ⟨Δ, r, Δ', h, q⟩ => by
  have hk : Y.K = X.K := by
    obtain ⟨s, H, C, cl, fp, rfl⟩ := hY
    rfl
  refine (h Y hY).pe.run pins s σ H Q I ?_
  rw [hk]
  exact q⟩
def fAny (X : Cx) (scope : Scope) (ifs : List Expr) : TT := fun σ H Q => ∃ Δ b Δ', (∀ Y, Blk X scope Y → PTs Y ifs (tT X.K Δ b Δ')) ∧ tT X.K Δ b Δ' σ H Q
theorem pts_any {Y : Cx} (hY : Blk X scope Y) : PTs Y ifs (fAny X scope ifs) := ⟨fun pins s σ H Q I ⟨Δ, b, Δ', h, q⟩ => (h Y hY).run pins s σ H Q I q⟩
theorem pts_imp {t t' : TT} (h : PTs X ifs t) (k : ∀ σ H Q, t' σ H Q → t σ H Q) : PTs X ifs t' := ⟨fun pins s σ H Q I w => h.run pins s σ H Q I (k _ _ _ w)⟩
theorem pts_yes {K : Frag} {Y : Cx} : PTs Y [] (tT K Δ true Δ) := pts_imp pts_nil fun σ H Q ⟨B, F, ok, q⟩ => q F H ok (.refl _)
theorem pts_if {Y : Cx} {k : Bool} (h : DTx Y Δ c k Δ1) : PTs Y [c] (tT Y.K Δ k Δ1) := pts_one h.pt
theorem tLc_of {Q : VK} {σ : St} {H : Hp} (h : Lc X scope elt ifs j xs 0 Δ1 ys Δn) (hj : Δ1[j]? = some .no) (hl : ys.length ≤ 1000000) (q : tE X.K Δ (.nl ys) Δn σ H Q) : tLc (tI X.K Δ xs Δ1) (gName j) (fAny X scope ifs) (eAny X scope elt) [j] σ H Q := by
  obtain ⟨B, F0, ok0, q⟩ := q
  refine ⟨B, F0, ok0, fun J F1 H1 ok1 ex1 wk D hD => ?_⟩
  have w1 : ∀ u : Option V, wipe ((wipe σ [j]).set j u) [j] = wipe σ [j] := fun u => by
    show ((σ.set j none).set j u).set j none = σ.set j none
    rw [List.set_set, List.set_set]
  have bD := (ok1.fresh hD).2
  have ok2 : Ok X.K (upd B D (.lst [])) F1 (upd H1 D (.lst [])) (wipe σ [j]) Δ1 := ((ok1.new hD).addB (ok1.fresh hD).1 upd_same (ok1.notNew hD)).noSlot hj none
  refine ⟨fun i m H => m = xs.length - i ∧ i ≤ xs.length ∧ ∃ F Δi acc dn rs, Ok X.K (upd B D (.lst acc)) F H (wipe σ [j]) Δi ∧ Ex F1 F ∧ DqA F acc dn ∧ Lc X scope elt ifs j xs i Δi rs Δn ∧ dn ++ rs = ys ∧ Δi[j]? = some .no, ⟨xs.length, by simp, Nat.zero_le _, F1, Δ1, [], [], ys, ok2, .refl _, .nil, h, rfl, hj⟩, ?_⟩
  rintro i m H ⟨rfl, hi, F, Δi, acc, dn, rs, ok, ex, hd, lc, hys, hjn⟩
  have hlen : dn.length ≤ ys.length := by rw [← hys, List.length_append]; omega
  cases lc with
  | done hx =>
    subst hx
    rw [List.append_nil] at hys
    subst hys
    refine .inl ⟨wk.stop H (ex.trans ok.fh), ?_⟩
    have okS : Ok X.K (upd B D (.lst acc)) F H σ Δn := by
      have z := ok.noSlot hjn (σ[j]?.getD none)
      have hjl : j < σ.length := by
        have := (List.getElem?_eq_some_iff.mp hj).1
        have := ok1.len
        omega
      have e : (wipe σ [j]).set j (σ[j]?.getD none) = σ := by
        have hjx := List.getElem?_eq_getElem hjl
        rw [hjx]
        exact set_back hjx
      rw [e] at z
      exact z
    have fD : F D = none := okS.bf D (by rw [upd_same]; intro z; cases z)
    have hDD : H D = some (.lst acc) := okS.bh D _ upd_same
    exact q _ F H (okS.weakB (.new bD)) (ex1.trans ex) ⟨D, acc, rfl, fD, bD, hDD, hd, okS.notB (by rw [upd_same]; intro z; cases z)⟩
  | @turn _ _ Δ' _ d yo rs hd' tc lc =>
    have hlt := (List.getElem?_eq_some_iff.mp hd').1
    refine .inr ⟨wk.go i H hlt (ex.trans ok.fh), fun H' => ∃ F Δi acc dn rs, Ok X.K (upd B D (.lst acc)) F H' (wipe σ [j]) Δi ∧ Ex F1 F ∧ DqA F acc dn ∧ Lc X scope elt ifs j xs (i + 1) Δi rs Δn ∧ dn ++ rs = ys ∧ Δi[j]? = some .no, fun H' z => ⟨_, by omega, rfl, hlt, z⟩, fun v H' hy => ?_⟩
    obtain ⟨F', ok', ex', d', e', hv⟩ := wk.yl i H v H' _ F _ Δi hlt hy ok ex
    rw [hd'] at e'
    cases e'
    refine ⟨w1 _, ?_⟩
    have okt : Ok X.K (upd B D (.lst acc)) F' H' ((wipe σ [j]).set j (some v)) (Δi.set j (.d d)) := ok'.put (s := .d d) ⟨v, rfl, hv⟩ fun z => nomatch z
    have backσ : ∀ {F3 H3 : Hp} {Δ3 : En} {B3 : Hp}, Ok X.K B3 F3 H3 ((wipe σ [j]).set j (some v)) Δ3 → Δ3[j]? = some .no → Ok X.K B3 F3 H3 (wipe σ [j]) Δ3 := fun {F3 H3 Δ3 B3} o3 n3 => by
      have z := o3.noSlot n3 none
      have e : ((wipe σ [j]).set j (some v)).set j none = wipe σ [j] := w1 _
      rw [e] at z
      exact z
    cases tc with
    | @take Δa Δb _ y ht he hle hn =>
      refine ⟨_, true, _, ht, _, F', okt, fun F2 H2 ok2 ex2 => iteT ⟨Δa, .d y, Δb, he, _, F2, ok2, fun u F3 H3 ok3 ex3 hu => ?_⟩⟩
      have hDD : H3 D = some (.lst acc) := ok3.bh D _ upd_same
      refine ⟨acc, hDD, by rw [hd.length, sizeLine_eq]; omega, F3, Δ', acc ++ [u], dn ++ [y], rs, ?_, ((ex.trans ex').trans ex2).trans ex3, pr_app (DqA.mono ((ex'.trans ex2).trans ex3) hd) (.cons hu .nil), lc, ?_, hn⟩
      · exact backσ (hle.ok ok3).moveB hn
      · rw [List.append_assoc]; exact hys
    | @skip Δa _ ht hle hn =>
      refine ⟨_, false, _, ht, _, F', okt, fun F2 H2 ok2 ex2 => iteF ⟨F2, Δ', acc, dn, rs, ?_, (ex.trans ex').trans ex2, DqA.mono (ex'.trans ex2) hd, lc, hys, hn⟩⟩
      exact backσ (hle.ok ok2) hn
/-- the slot j is none of the caller's -/
theorem rk_no {s : Sl} (hj : Δ[j]? = some .no) : RK Δ (Δ.set j s) := rk_set hj rfl
theorem de_lc {own : List (Str × Nat)} (hN : X.N.Nodup) (hc : X.calm = true) (hi : DIx X Δ (.Name nm p) iter xs Δ1) (h : Lc X scope elt ifs j xs 0 Δ1 ys Δn) (hj : Δ1[j]? = some .no) (hl : ys.length ≤ 1000000) (rk : RK Δ1 Δn) (hown : own = [(nm, j)]) (ok : BlkOk X.N X.env.scope scope own)
    (hg : ∀ (s : Shared) (H : Hp) (C : Addr) (cl : List (Str × Addr)) (fp : List Addr), PG (X.blk s H scope (compEnvC scope cl C X.env) fp) (.Name nm p) (gName j)) (hs : ∀ x, foldedSetIterable iter X.env x = pure x := by intro _; rfl) :
    DEx X Δ (.ListComp elt [⟨.Name nm p, iter, ifs, 0⟩] scope pos) (.nl ys) Δn := by
  subst hown
  exact ⟨hi.rk.trans rk, pe_imp (pe_lc hc hN hi.pi ok hg (fun s H C cl fp => pts_any ⟨s, H, C, cl, fp, rfl⟩) (fun s H C cl fp => pe_any ⟨s, H, C, cl, fp, rfl⟩) hs) fun σ H Q q => tLc_of h hj hl q⟩
/-- x = [..], x a local -/
theorem ds1_setLc {own : List (Str × Nat)} {i : Nat} {v : Str} {py : Pos} {s : Sl} (hN : X.N.Nodup) (hc : X.calm = true) (hi : DIx X Δ (.Name nm p) iter xs Δ1) (h : Lc X scope elt ifs j xs 0 Δ1 ys Δn) (hj : Δ1[j]? = some .no) (hl : ys.length ≤ 1000000) (rk : RK Δ1 Δn) (hown : own = [(nm, j)]) (ok : BlkOk X.N X.env.scope scope own)
    (hg : ∀ (s : Shared) (H : Hp) (C : Addr) (cl : List (Str × Addr)) (fp : List Addr), PG (X.blk s H scope (compEnvC scope cl C X.env) fp) (.Name nm p) (gName j)) (hΔ : Δn[i]? = some s) (hsr : s.isRef = false) (hy : X.N[i]? = some v) (hyl : X.env.scope.names.lookup v = some .local)
    (hsw : swapsWith (.ListComp elt [⟨.Name nm p, iter, ifs, 0⟩] scope pos) (some (.Name v py)) spos.line X.env = pure true) (hs : ∀ x, foldedSetIterable iter X.env x = pure x := by intro _; rfl) :
    DS1 X W Δ (.Assign [.Name v py] (.ListComp elt [⟨.Name nm p, iter, ifs, 0⟩] scope pos) spos) (.nx (Δn.set i (.own ys))) := by
  subst hown
  refine ps_imp (ps_setLc hc hN hy hyl hsw hi.pi ok hg (fun s H C cl fp => pts_any ⟨s, H, C, cl, fp, rfl⟩) (fun s H C cl fp => pe_any ⟨s, H, C, cl, fp, rfl⟩) hs) fun D σ H ⟨B, F, ok, q⟩ => ?_
  exact tLc_of (Q := fun x H1 => D.nx (σ.set i (some x)) H1) h hj hl ⟨B, F, ok, fun x F1 H1 ok1 ex1 hv => q _ F1 H1 (put_own ok1 hv) ex1 ((Kp.refl (hi.rk.trans rk)).trans (kp_set hΔ hsr))⟩
/-- THE RULE's turn by turn: I by the turn, the slots, what is made so far -/
theorem lc_inv {ι : Type} {XS : ι → Cx} (I : Nat → En → List PyData → Prop) (hs : ∀ n Δ d dn, xs[n]? = some d → I n Δ dn → ∃ Δ' yo, (∀ q, Tc (XS q) scope elt ifs j Δ d Δ' yo) ∧ I (n + 1) Δ' (dn ++ yo.toList)) : ∀ m n Δ dn, n + m = xs.length → I n Δ dn → ∃ rs Δn, (∀ q, Lc (XS q) scope elt ifs j xs n Δ rs Δn) ∧ I xs.length Δn (dn ++ rs) := by
  intro m
  induction m with
  | zero =>
    intro n Δ dn hn hI
    have : n = xs.length := by omega
    subst this
    exact ⟨[], Δ, fun q => .done rfl, by rw [List.append_nil]; exact hI⟩
  | succ m ih =>
    intro n Δ dn hn hI
    have hlt : n < xs.length := by omega
    have he := List.getElem?_eq_getElem hlt
    obtain ⟨Δ', yo, tc, hI2⟩ := hs n Δ _ dn he hI
    obtain ⟨rs, Δn, lc, hI3⟩ := ih (n + 1) Δ' _ (by omega) hI2
    exact ⟨_, Δn, fun q => .turn he (tc q) (lc q), by rw [← List.append_assoc]; exact hI3⟩
theorem tc0 {d : PyData} (he : ∀ Y, Blk X scope Y → DEx Y (Δ.set j (.d d)) elt (.d y) Δ2) (hle : Le Δ2 Δ3) (hn : Δ3[j]? = some .no) : Tc X scope elt [] j Δ d Δ3 (some y) := .take (fun _ _ => pts_yes) he hle hn
theorem le_set : ∀ {Δ : En} {j : Nat} {s : Sl}, Δ[j]? = some .no → s.isRef = false → Le (Δ.set j s) Δ
  | [], _, _, h, _ => by simp at h
  | t :: Δ, 0, s, h, hs => by
    have e : t = .no := by simpa using h
    subst e
    exact .no hs (Le.refl _)
  | t :: Δ, j + 1, s, h, hs => .same (le_set (j := j) (by simpa using h) hs)
/-- every item is taken, the slots stay as they are: for all contexts the same -/
theorem lc_ex {ι : Type} {XS : ι → Cx} (R : Nat → PyData → PyData → Prop) (hj : Δ[j]? = some .no) (hs : ∀ n d, xs[n]? = some d → ∃ y, R n d y ∧ ∀ q Y, Blk (XS q) scope Y → DEx Y (Δ.set j (.d d)) elt (.d y) (Δ.set j (.d d))) :
    ∃ ys : List PyData, ys.length = xs.length ∧ (∀ (n : Nat) (d y : PyData), xs[n]? = some d → ys[n]? = some y → R n d y) ∧ ∀ q, Lc (XS q) scope elt [] j xs 0 Δ ys Δ := by
  obtain ⟨rs, Δn, lc, e1, e2, e3⟩ := lc_inv (XS := XS) (scope := scope) (elt := elt) (ifs := []) (j := j) (xs := xs) (fun n Δ' dn => Δ' = Δ ∧ dn.length = n ∧ ∀ (m : Nat) (d y : PyData), xs[m]? = some d → dn[m]? = some y → R m d y) (fun n Δ' d dn hd ⟨h1, h2, h3⟩ => by
    subst h1
    obtain ⟨y, hR, hy⟩ := hs n d hd
    refine ⟨_, some y, fun q => .take (fun Y hY => pts_yes) (hy q) (le_set hj rfl) hj, rfl, by simp [h2], fun m d' y' hm hy' => ?_⟩
    by_cases hmn : m < dn.length
    · exact h3 m d' y' hm (by rw [List.getElem?_append_left hmn] at hy'; exact hy')
    · have hm2 : m < (dn ++ [y]).length := (List.getElem?_eq_some_iff.mp hy').1
      have e : m = n := by simp at hm2; omega
      subst e
      rw [hd] at hm
      cases hm
      have : (dn ++ [y])[m]? = some y := by rw [List.getElem?_append_right (by omega), h2]; simp
      have hy' : (dn ++ [y])[m]? = some y' := hy'
      rw [this] at hy'
      cases hy'
      exact hR) xs.length 0 Δ [] (by omega) ⟨rfl, rfl, fun m d y _ h => by simp at h⟩
  subst e1
  refine ⟨rs, by simpa using e2, fun n d y hd hy => e3 n d y hd (by simpa using hy), lc⟩
theorem lc_map (f : Nat → PyData → PyData) (hj : Δ[j]? = some .no) (hs : ∀ n d, xs[n]? = some d → ∀ Y, Blk X scope Y → DEx Y (Δ.set j (.d d)) elt (.d (f n d)) (Δ.set j (.d d))) : Lc X scope elt [] j xs 0 Δ (xs.mapIdx f) Δ := by
  obtain ⟨ys, h1, h2, h3⟩ := lc_ex (ι := Unit) (XS := fun _ => X) (scope := scope) (elt := elt) (j := j) (xs := xs) (fun n d y => y = f n d) hj fun n d hd => ⟨f n d, rfl, fun _ Y hY => hs n d hd Y hY⟩
  have e : ys = xs.mapIdx f := by
    apply List.ext_getElem?
    intro n
    rw [List.getElem?_mapIdx]
    cases hx : xs[n]? with
    | none =>
      have : ys[n]? = none := List.getElem?_eq_none_iff.mpr (by rw [h1]; exact List.getElem?_eq_none_iff.mp hx)
      rw [this]
      rfl
    | some d =>
      have hn : n < ys.length := by rw [h1]; exact (List.getElem?_eq_some_iff.mp hx).1
      have hy := List.getElem?_eq_getElem hn
      rw [hy, h2 n d _ hx hy]
      rfl
  rw [← e]
  exact h3 ()
/-- over items that are known by something else -/
theorem lc_of {α : Type} (ts : List α) (g h : α → PyData) (hj : Δ[j]? = some .no) (hs : ∀ t ∈ ts, ∀ Y, Blk X scope Y → DEx Y (Δ.set j (.d (g t))) elt (.d (h t)) (Δ.set j (.d (g t)))) : Lc X scope elt [] j (ts.map g) 0 Δ (ts.map h) Δ := by
  obtain ⟨ys, h1, h2, h3⟩ := lc_ex (ι := Unit) (XS := fun _ => X) (scope := scope) (elt := elt) (j := j) (xs := ts.map g) (fun n d y => ∃ t, ts[n]? = some t ∧ y = h t) hj fun n d hd => by
    rw [List.getElem?_map] at hd
    cases ht : ts[n]? with
    | none => rw [ht] at hd; cases hd
    | some t =>
      rw [ht] at hd
      cases hd
      exact ⟨h t, ⟨t, rfl, rfl⟩, fun _ Y hY => hs t (List.mem_of_getElem? ht) Y hY⟩
  have e : ys = ts.map h := by
    apply List.ext_getElem?
    intro n
    rw [List.getElem?_map]
    cases hx : ts[n]? with
    | none =>
      have : ys[n]? = none := List.getElem?_eq_none_iff.mpr (by rw [h1, List.length_map]; exact List.getElem?_eq_none_iff.mp hx)
      rw [this]
      rfl
    | some d =>
      have hn : n < ys.length := by rw [h1, List.length_map]; exact (List.getElem?_eq_some_iff.mp hx).1
      have hy := List.getElem?_eq_getElem hn
      obtain ⟨t, ht, e⟩ := h2 n (g d) _ (by rw [List.getElem?_map, hx]; rfl) hy
      rw [hx] at ht
      cases ht
      rw [hy, e]
      rfl
  rw [← e]
  exact h3 ()
end
end Tr
namespace Tr
open PySem L2
/-! ### a def, by its body -/
section
variable {K : Frag} {B F F' H H' : Hp} {σ σ' : St} {Δ Δ' Δ'' : En} {vs : List V} {N : List Str}
def nos (n : Nat) : En := List.replicate n .no
theorem start_ok (ok : Ok K B F H (vs.map some) Δ) : Ok K B F H (L2.start N vs) (Δ ++ nos (N.length - vs.length)) := by
  have hl : vs.length = Δ.length := by have := ok.len; rwa [List.length_map] at this
  have at_ : ∀ {i : Nat} {s : Sl}, (Δ ++ nos (N.length - vs.length))[i]? = some s → (Δ[i]? = some s ∧ (L2.start N vs)[i]? = (vs.map some)[i]?) ∨ (s = .no ∧ ∃ o, (L2.start N vs)[i]? = some o) := fun {i s} e => by
    by_cases hi : i < Δ.length
    · rw [List.getElem?_append_left hi] at e
      refine .inl ⟨e, ?_⟩
      unfold L2.start
      rw [List.getElem?_append_left (by rw [List.length_map]; omega)]
    · rw [List.getElem?_append_right (by omega)] at e
      unfold nos at e
      have hr := (List.getElem?_eq_some_iff.mp e).1
      rw [List.length_replicate] at hr
      rw [List.getElem?_replicate_of_lt hr] at e
      refine .inr ⟨(Option.some.inj e).symm, none, ?_⟩
      unfold L2.start
      rw [List.getElem?_append_right (by rw [List.length_map]; omega), List.length_map, hl]
      exact List.getElem?_replicate_of_lt (by omega)
  refine ⟨ok.fh, ok.bh, ok.bf, ?_, fun i s e => ?_, fun i j s t a e1 e2 m1 m2 r1 r2 => ?_⟩
  · unfold L2.start nos
    rw [List.length_append, List.length_append, List.length_map, List.length_replicate, List.length_replicate, hl]
  · rcases at_ e with ⟨h1, h2⟩ | ⟨rfl, o, h⟩
    · obtain ⟨o, h3, h4⟩ := ok.sl i s h1
      exact ⟨o, h2.trans h3, h4⟩
    · exact ⟨o, h, trivial⟩
  · rcases at_ e1 with ⟨h1, h2⟩ | ⟨rfl, _⟩
    · rcases at_ e2 with ⟨h3, h4⟩ | ⟨rfl, _⟩
      · exact ok.nd i j s t a h1 h3 m1 m2 (h2.symm.trans r1) (h4.symm.trans r2)
      · cases m2
    · cases m1
/-- the parameters' slots at the end -/
def Fin (Δ Δ'' Δ' : En) : Prop := Δ'.length = Δ.length ∧ ∀ (i : Nat) (s : Sl), Δ'[i]? = some s → (Δ[i]? = some s ∧ s.mut = false) ∨ s = .no ∨ ∃ xs ys, Δ[i]? = some (.ref xs) ∧ s = .ref ys ∧ Δ''[i]? = some (.ref ys)
theorem Fin.refl (h : ∀ (i : Nat) (s : Sl), Δ[i]? = some s → s.mut = false) : Fin Δ Δ'' Δ := ⟨rfl, fun i s e => .inl ⟨e, h i s e⟩⟩
theorem fin_ok (ok : Ok K B F H (vs.map some) Δ) (ok' : Ok K B F' H' σ' Δ'') (ex : Ex F F') (kp : Kp (Δ ++ nos (N.length - vs.length)) Δ'' (L2.start N vs) σ') (fn : Fin Δ Δ'' Δ') : Ok K B F' H' (vs.map some) Δ' ∧ ∀ (i : Nat) (s : Sl), Δ'[i]? = some s → s.mut = true → (vs.map some)[i]? = σ'[i]? ∧ ∃ t, Δ''[i]? = some t ∧ t.mut = true := by
  have hl : vs.length = Δ.length := by have := ok.len; rwa [List.length_map] at this
  have at_ : ∀ {i : Nat} {xs : List PyData}, Δ[i]? = some (.ref xs) → σ'[i]? = (vs.map some)[i]? := fun {i xs} e => by
    have hi : i < Δ.length := (List.getElem?_eq_some_iff.mp e).1
    have := (kp i xs (by rw [List.getElem?_append_left hi]; exact e)).1
    rw [this]
    unfold L2.start
    rw [List.getElem?_append_left (by rw [List.length_map]; omega)]
  have key : ∀ (i : Nat) (s : Sl), Δ'[i]? = some s → s.mut = true → (vs.map some)[i]? = σ'[i]? ∧ Δ''[i]? = some s := fun i s e m => by
    rcases fn.2 i s e with ⟨_, h⟩ | rfl | ⟨xs, ys, h1, rfl, h2⟩
    · rw [h] at m; cases m
    · cases m
    · exact ⟨(at_ h1).symm, h2⟩
  refine ⟨⟨ok'.fh, ok'.bh, ok'.bf, by rw [ok.len, fn.1], fun i s e => ?_, fun i j s t a e1 e2 m1 m2 r1 r2 => ?_⟩, fun i s e m => ⟨(key i s e m).1, s, (key i s e m).2, m⟩⟩
  · rcases fn.2 i s e with ⟨h1, h2⟩ | rfl | ⟨xs, ys, h1, rfl, h2⟩
    · obtain ⟨o, h3, h4⟩ := ok.sl i s h1
      exact ⟨o, h3, h4.keep ex fun m => by rw [h2] at m; cases m⟩
    · have hi : i < Δ'.length := (List.getElem?_eq_some_iff.mp e).1
      have : i < (vs.map some).length := by rw [List.length_map, hl, ← fn.1]; exact hi
      exact ⟨_, List.getElem?_eq_getElem this, trivial⟩
    · obtain ⟨o, h3, h4⟩ := ok'.sl i _ h2
      exact ⟨o, (at_ h1).symm.trans h3, h4⟩
  · obtain ⟨h1, h2⟩ := key i s e1 m1
    obtain ⟨h3, h4⟩ := key j t e2 m2
    exact ok'.nd i j s t a h2 h4 m1 m2 (h1.symm.trans r1) (h3.symm.trans r2)
/-- how a body's end is the promise's -/
def End (Δ : En) : Out → Out → Prop
  | .rt Δ'' r', .rt Δ' r => r' = r ∧ fin r = true ∧ Fin Δ Δ'' Δ'
  | .nx Δ'', .rt Δ' r => r = .d .none ∧ Fin Δ Δ'' Δ'
  | .xc Δ'' C', .xc Δ' C => C' = C ∧ Fin Δ Δ'' Δ'
  | _, _ => False
end
section
variable {P : Program} {w : World} {K : Frag} {mg : Str → Option Value} {base : Heap} {k : Nat} {x : Str} {st : Stmt} {f : Addr} {fd : FuncData} {N ps : List Str} {S : Spec}
abbrev BX (P : Program) (w : World) (K : Frag) (mg : Str → Option Value) (base : Heap) (N : List Str) (x : Str) (sc : Scope) (f : Addr) (cdv : Value) (A : Around) (outer : List Env) (s : Shared) (H : Hp) (E : XK) : Cx := cxOf (L2.CX P w) P w K mg base N x sc f cdv A outer s H E
def W0 : WX := fun _ _ _ _ => False
def WEx (E : XK) : WX := fun cls d _ H => E cls d H
theorem end_run {W : WX} {E : XK} {Δ : En} {o o' : Out} {B F H : Hp} {vs : List V} {Q : VK} (ok : Ok K B F H (vs.map some) Δ) (he : End Δ o' o) (hw : ∀ Δ' C σ' H', o = .xc Δ' C → E (.ref C) none H' → W (.ref C) none σ' H')
    (q : SpPost K B F vs Q E o) : Post K W B F (L2.start N vs) (Δ ++ nos (N.length - vs.length)) { nx := fun _ H' => Q .non H', rt := Q } o' := by
  cases o with
  | rt Δ' r =>
    cases o' with
    | rt Δ'' r' =>
      obtain ⟨rfl, hf, fn⟩ := he
      intro v σ' F' H' ok' ex kp hr
      obtain ⟨okp, hm⟩ := fin_ok ok ok' ex kp fn
      refine q v F' H' okp ex ?_
      cases r' with
      | d x => exact hr
      | nl xs =>
        obtain ⟨a, us, ev, r1, r2, r3, r4, r5⟩ := hr
        refine ⟨a, us, ev, r1, r2, r3, r4, fun i s e m hv => ?_⟩
        obtain ⟨h1, t, h2, h3⟩ := hm i s e m
        exact r5 i t h2 h3 (h1.symm.trans hv)
      | nt i' j' => exact nt_map hr fun a hb nm => ⟨hb, fun i s e m hv => by
        obtain ⟨h1, t, h2, h3⟩ := hm i s e m
        exact nm i t h2 h3 (h1.symm.trans hv)⟩
      | sl i => cases hf
    | nx Δ'' =>
      obtain ⟨rfl, fn⟩ := he
      intro σ' F' H' ok' ex kp
      obtain ⟨okp, _⟩ := fin_ok ok ok' ex kp fn
      exact q .non F' H' okp ex .non
    | xc Δ'' C => exact he.elim
    | bk Δ'' => exact he.elim
    | ct Δ'' => exact he.elim
  | xc Δ' C =>
    cases o' with
    | xc Δ'' C' =>
      obtain ⟨rfl, fn⟩ := he
      intro σ' F' H' ok' ex kp
      obtain ⟨okp, _⟩ := fin_ok ok ok' ex kp fn
      exact hw _ _ _ _ rfl (q F' H' okp ex)
    | rt Δ'' r' => exact he.elim
    | nx Δ'' => exact he.elim
    | bk Δ'' => exact he.elim
    | ct Δ'' => exact he.elim
  | nx Δ' => exact q.elim
  | bk Δ' => exact q.elim
  | ct Δ' => exact q.elim
/-- what a call of a def brings: its code object, what runs around, the frames, the state, the objects, the wish -/
structure Par where
  cdv : Value
  A : Around
  outer : List Env
  s : Shared
  H : Hp
  E : XK
abbrev BC (P : Program) (w : World) (K : Frag) (mg : Str → Option Value) (base : Heap) (N : List Str) (x : Str) (sc : Scope) (f : Addr) (p : Par) : Cx := BX P w K mg base N x sc f p.cdv p.A p.outer p.s p.H p.E
/-- the calls for which there is room -/
abbrev Cl (P : Program) (w : World) (K : Frag) (mg : Str → Option Value) (base : Heap) (N : List Str) (x : Str) (sc : Scope) (f : Addr) (k : Nat) : Type := { p : Par // Room k (BC P w K mg base N x sc f p).A }
theorem fnOk_one {g : Addr} {gd : FuncData} (Fu : Fun K x x st g gd) (sc : FnScope N ps (defScope st)) {Δ : En} (hlen : Δ.length = ps.length) {o o' : Out} (he : End Δ o' o) (ds : ∀ q : Cl P w K mg base N x (defScope st) g k, DS (BC P w K mg base N x (defScope st) g q.1) (WEx q.1.E) (Δ ++ nos (N.length - ps.length)) (defBody st) o') :
    FnOk P w K mg base (L2.CX P w) (k + 1) g gd ps (spOf K (fun Δ' o' => Δ' = Δ ∧ o' = o)) := by
  have hl : ∀ vs H Q E, spOf K (fun D o2 => D = Δ ∧ o2 = o) vs H Q E → vs.length = ps.length := fun vs H Q E ⟨D, o, B, F, s, ok, _⟩ => by
    have h1 := ok.len
    rw [List.length_map] at h1
    rw [h1, s.1, hlen]
  refine Fu.okX sc hl fun cdv A outer s H vs Q E hr hsp => ?_
  have hvl := hl _ _ _ _ hsp
  obtain ⟨D, o, B, F, ⟨e1, e2⟩, ok, q⟩ := hsp
  subst e1 e2
  refine ⟨_, ds ⟨⟨cdv, A, outer, s, H, E⟩, hr⟩, B, F, ?_, ?_⟩
  · have z := start_ok (N := N) ok
    rw [hvl] at z
    exact z
  · have z := end_run (N := N) (W := WEx E) (E := E) ok he (fun Δ' C σ' H' e he => he) q
    rw [hvl] at z
    exact z
theorem post_w {K : Frag} {W W' : WX} {B F : Hp} {σ : St} {Δ : En} {D : Ends} {o : Out} (h : Post K W B F σ Δ D o) (ho : ∀ Δ' C, o ≠ .xc Δ' C) : Post K W' B F σ Δ D o := by
  cases o with
  | nx Δ' => exact h
  | rt Δ' r => exact h
  | bk Δ' => exact h
  | ct Δ' => exact h
  | xc Δ' C => exact absurd rfl (ho _ _)
theorem ds_nox {X : Cx} {W : WX} {Δ : En} {sts : List Stmt} {o : Out} (h : DS X.nox W0 Δ sts o) (ho : ∀ Δ' C, o ≠ .xc Δ' C) : DS X W Δ sts o := pss_imp (PSs.nox h) fun D σ H ⟨B, F, ok, q⟩ => ⟨B, F, ok, post_w q ho⟩
theorem end_noX {Δ : En} {o o' : Out} (he : End Δ o' o) (h : ∀ Δ' C, o ≠ .xc Δ' C) : ∀ Δ' C, o' ≠ .xc Δ' C := fun Δ' C e => by
  subst e
  cases o with
  | xc Δ2 C2 => exact h _ _ rfl
  | rt Δ2 r => exact he.elim
  | nx Δ2 => exact he.elim
  | bk Δ2 => exact he.elim
  | ct Δ2 => exact he.elim
theorem fn_union {g : Addr} {gd : FuncData} (hm : mg x = some (.ref g)) (hk : PySem.W.keepIn K (.ref g) = true) (hb : Binds K gd ps []) (h : ∀ Δ o, S Δ o → FnOk P w K mg base (L2.CX P w) k g gd ps (spOf K (fun Δ' o' => Δ' = Δ ∧ o' = o))) : Fn P w K mg base k x S :=
  ⟨g, gd, ps, hm, hk, hb, ⟨fun vs H Q E ⟨Δ, o, B, F, s, r⟩ => (h Δ o s).len vs H Q E ⟨Δ, o, B, F, ⟨rfl, rfl⟩, r⟩, fun A outer s H args us vs Q E a b c d ⟨Δ, o, B, F, s', r⟩ => (h Δ o s').run A outer s H args us vs Q E a b c d ⟨Δ, o, B, F, ⟨rfl, rfl⟩, r⟩⟩⟩
/-- a def that raises nothing, its ends told by S -/
theorem def_ok (Fu : Fun K x x st f fd) (sc : FnScope N ps (defScope st)) (hm : mg x = some (.ref f)) (hb : Binds K fd ps []) (hlen : ∀ Δ o, S Δ o → Δ.length = ps.length ∧ ∀ Δ' C, o ≠ .xc Δ' C)
    (hgo : ∀ Δ o, S Δ o → Go (fun q : Cl P w K mg base N x (defScope st) f k => (BC P w K mg base N x (defScope st) f q.1).nox) (fun _ => W0) (Δ ++ nos (N.length - ps.length)) (defBody st) (fun o' => End Δ o' o)) : Fn P w K mg base (k + 1) x S :=
  fn_union hm Fu.kp hb fun Δ o s => by
    obtain ⟨o', he, ds⟩ := hgo Δ o s
    exact fnOk_one Fu sc (hlen _ _ s).1 he fun q => ds_nox (ds q) (end_noX he (hlen _ _ s).2)
/-- .. that may raise -/
theorem def_okX (Fu : Fun K x x st f fd) (sc : FnScope N ps (defScope st)) (hm : mg x = some (.ref f)) (hb : Binds K fd ps []) (hlen : ∀ Δ o, S Δ o → Δ.length = ps.length)
    (hgo : ∀ Δ o, S Δ o → Go (fun q : Cl P w K mg base N x (defScope st) f k => BC P w K mg base N x (defScope st) f q.1) (fun q => WEx q.1.E) (Δ ++ nos (N.length - ps.length)) (defBody st) (fun o' => End Δ o' o)) : Fn P w K mg base (k + 1) x S :=
  fn_union hm Fu.kp hb fun Δ o s => by
    obtain ⟨o', he, ds⟩ := hgo Δ o s
    exact fnOk_one Fu sc (hlen _ _ s) he ds
/-- a def that raises nothing: it comes to some end that pleases R; the same end each time -/
theorem def_ex (Fu : Fun K x x st f fd) (sc : FnScope N ps (defScope st)) (hm : mg x = some (.ref f)) (hb : Binds K fd ps []) {V : En → Prop} {R : En → Out → Prop} (hlen : ∀ Δ, V Δ → Δ.length = ps.length)
    (hgo : ∀ Δ, V Δ → Go (fun q : Cl P w K mg base N x (defScope st) f k => (BC P w K mg base N x (defScope st) f q.1).nox) (fun _ => W0) (Δ ++ nos (N.length - ps.length)) (defBody st) (fun o' => ∃ Δ' r, End Δ o' (.rt Δ' r) ∧ R Δ (.rt Δ' r))) :
    ∃ T : En → Out, (∀ Δ, V Δ → R Δ (T Δ)) ∧ Fn P w K mg base (k + 1) x (fun Δ o => V Δ ∧ o = T Δ) := by
  have key : ∀ Δ, ∃ o, V Δ → R Δ o ∧ FnOk P w K mg base (L2.CX P w) (k + 1) f fd ps (spOf K (fun Δ' o' => Δ' = Δ ∧ o' = o)) := fun Δ => by
    by_cases v : V Δ
    · obtain ⟨o', ⟨Δ', r, he, hR⟩, ds⟩ := hgo Δ v
      exact ⟨.rt Δ' r, fun _ => ⟨hR, fnOk_one Fu sc (hlen _ v) he fun q => ds_nox (ds q) (end_noX he fun _ _ e => by cases e)⟩⟩
    · exact ⟨.nx [], fun h => absurd h v⟩
  obtain ⟨T, hT⟩ := Classical.axiomOfChoice key
  exact ⟨T, fun Δ v => (hT Δ v).1, fn_union hm Fu.kp hb fun Δ o ⟨v, e⟩ => by subst e; exact (hT Δ v).2⟩
/-- nothing can be asked -/
theorem fn_never {g : Addr} {gd : FuncData} (hm : mg x = some (.ref g)) (hk : PySem.W.keepIn K (.ref g) = true) (hb : Binds K gd ps []) (h : ∀ Δ o, ¬ S Δ o) : Fn P w K mg base k x S :=
  ⟨g, gd, ps, hm, hk, hb, ⟨fun vs H Q E ⟨Δ, o, _, _, s, _⟩ => absurd s (h _ _), fun A outer s H args us vs Q E _ _ _ _ ⟨Δ, o, _, _, s, _⟩ => absurd s (h _ _)⟩⟩
end
/-! ### what is raised -/
structure Xc (K : Frag) (mg : Str → Option Value) (n : Str) (C : Addr) : Prop where
  g : mg n = some (.ref C)
  ex : PySem.W.excIn K C [.type "ValueError", .type "Exception", .type "BaseException", .type "object"] "ValueError.__new__" = true
  kp : PySem.W.keepIn K (.ref C) = true
  sub : PySem.W.subIn K (.ref C) (.type "BaseException") = some true
  ty : PySem.W.typeIn K (.ref C) = some (.type "type")
section
variable {X : Cx} {W : WX} {Δ Δ1 Δ2 : En} {P : Out → Prop} {e : Expr} {es : List Expr} {rs : List R} {pos p p2 pos2 : Pos} {n : Str} {C : Addr} {k i : Nat}
theorem ds1_raise {m : Str} {j} (hc : X.calm = true) (tk : Takes X W) (h : Xc X.K X.mg n C) (hg : Gl X n := by rfl) (hdb : (n == ("__debug__" : Str)) = false := by decide) : DS1 X W Δ (.Raise (some (.Call (.Name n p) [.Constant (.str m) j p2] [] pos2)) none pos) (.xc Δ C) :=
  ps_imp (ps_raise hc tk (pmk_own PySem.F.excBase_ValueError h.ex h.g h.kp (raises_own h.sub h.ty) hg hdb)) fun D σ H ⟨B, F, ok, q⟩ => q σ F H ok (.refl _) (.refl .rfl)
/-- an expression that raises -/
def tX (K : Frag) (W : WX) (Δ : En) (Δ' : En) (C : Addr) : TE := fun σ H _ => ∃ B F, Ok K B F H σ Δ ∧ ∀ F' H', Ok K B F' H' σ Δ' → Ex F F' → W (.ref C) none σ H'
structure DXx (X : Cx) (W : WX) (Δ : En) (e : Expr) (Δ' : En) (C : Addr) : Prop where
  rk : RK Δ Δ'
  pe : PE X e (tX X.K W Δ Δ' C)
theorem dx_call {x : Str} {S : Spec} {Δp : En} (tk : Takes X W) (h : Fn X.prog X.w X.K X.mg X.base k x S) (hr : Room k X.A) (ha : DAx X Δ (e :: es) rs Δ1) (hs : S (rs.map (argSl Δ1)) (.xc Δp C)) (hm : OneMut Δ1 rs none) (hg : Gl X x := by rfl)
    (hdb : (x == ("__debug__" : Str)) = false := by decide) (he : starEach (e :: es) X.env = (false, eval e X.env) :: starEach es X.env := by rfl) (hpl : (backTo pos (starEach es X.env)).any (·.1) = false := by rfl) : DXx X W Δ (.Call (.Name x p) (e :: es) [] pos) Δ1 C := by
  obtain ⟨f, fd, ps, h1, h2, h3, h4⟩ := h
  refine ⟨ha.rk, pe_imp (pe_callS h4 hr hg h1 h2 h3 (fun σ => passAt tk σ) ha.pa hdb he hpl) fun σ H Q ⟨B, F, ok, q⟩ => ⟨B, F, ok, fun vs F1 H1 ok1 ex1 hv => ?_⟩⟩
  exact ⟨_, _, _, F1, hs, ok_call (n := none) ok1 hv hm, fun F2 H2 ok2 ex2 => q F2 H2 (ok_back ok1 ok2 ex2) (ex1.trans ex2)⟩
theorem ds1_exprX (h : DXx X W Δ e Δ1 C) (hs : swapsWith e none pos.line X.env = pure false := by rfl) : DS1 X W Δ (.Expr e pos) (.xc Δ1 C) := ps_imp (ps_expr h.pe hs) fun D σ H ⟨B, F, ok, q⟩ => ⟨B, F, ok, fun F' H' ok' ex => q σ F' H' ok' ex (.refl h.rk)⟩
theorem ds1_expr {r : R} (h : DEx X Δ e r Δ1) (hs : swapsWith e none pos.line X.env = pure false := by rfl) : DS1 X W Δ (.Expr e pos) (.nx Δ1) := ps_imp (ps_expr h.pe hs) fun D σ H ⟨B, F, ok, q⟩ => ⟨B, F, ok, fun v F' H' ok' ex hv => q σ F' H' ok' ex (.refl h.rk)⟩
theorem ds1_retX (h : DXx X W Δ e Δ1 C) : DS1 X W Δ (.Return (some e) pos) (.xc Δ1 C) := ps_imp (ps_ret h.pe) fun D σ H ⟨B, F, ok, q⟩ => ⟨B, F, ok, fun F' H' ok' ex => q σ F' H' ok' ex (.refl h.rk)⟩
theorem ds1_setX (i : Nat) {m : Str} (hN : X.N.Nodup) (h : DXx X W Δ e Δ1 C) (hi : X.N[i]? = some m := by rfl) (hx : Loc X.env.scope m := by first | exact Or.inl rfl | exact Or.inr rfl)
    (hsw : swapsWith e (some (.Name m p)) pos.line X.env = pure false := by rfl) (hf : X.fn m = true ∨ X.env.scope.names.lookup m = some .local := by first | exact .inl rfl | exact .inr rfl | assumption) : DS1 X W Δ (.Assign [.Name m p] e pos) (.xc Δ1 C) :=
  ps_imp (ps_set hN hi hx h.pe hsw hf) fun D σ H ⟨B, F, ok, q⟩ => ⟨B, F, ok, fun F' H' ok' ex => q σ F' H' ok' ex (.refl h.rk)⟩
end
end Tr
namespace Tr
open PySem L2
/-! ### small things that the walks want -/
/-- where a def stands -/
def Df (K : Frag) (mg : Str → Option Value) (x : Str) (st : Stmt) (ps : List Str) : Prop := ∃ f fd, mg x = some (.ref f) ∧ Fun K x x st f fd ∧ Binds K fd ps []
section
variable {P : Program} {w : World} {K : Frag} {mg : Str → Option Value} {base : Heap} {k : Nat} {x : Str} {st : Stmt} {N ps : List Str} {S : Spec}
/-- the contexts of a def's calls -/
abbrev XN (P : Program) (w : World) (K : Frag) (mg : Str → Option Value) (base : Heap) (N : List Str) (x : Str) (sc : Scope) (f : Addr) (k : Nat) : Cl P w K mg base N x sc f k → Cx := fun q => (BC P w K mg base N x sc f q.1).nox
abbrev XR (P : Program) (w : World) (K : Frag) (mg : Str → Option Value) (base : Heap) (N : List Str) (x : Str) (sc : Scope) (f : Addr) (k : Nat) : Cl P w K mg base N x sc f k → Cx := fun q => BC P w K mg base N x sc f q.1
abbrev WN {ι : Type} : ι → WX := fun _ => W0
theorem mk_ok (D : Df K mg x st ps) (sc : FnScope N ps (defScope st)) (hlen : ∀ Δ o, S Δ o → Δ.length = ps.length ∧ ∀ Δ' C, o ≠ .xc Δ' C)
    (hgo : ∀ f, ∀ Δ o, S Δ o → Go (XN P w K mg base N x (defScope st) f k) WN (Δ ++ nos (N.length - ps.length)) (defBody st) (fun o' => End Δ o' o)) : Fn P w K mg base (k + 1) x S := by
  obtain ⟨f, fd, hm, Fu, hb⟩ := D
  exact def_ok Fu sc hm hb hlen (hgo f)
theorem mk_okX (D : Df K mg x st ps) (sc : FnScope N ps (defScope st)) (hlen : ∀ Δ o, S Δ o → Δ.length = ps.length)
    (hgo : ∀ f, ∀ Δ o, S Δ o → Go (XR P w K mg base N x (defScope st) f k) (fun q => WEx q.1.E) (Δ ++ nos (N.length - ps.length)) (defBody st) (fun o' => End Δ o' o)) : Fn P w K mg base (k + 1) x S := by
  obtain ⟨f, fd, hm, Fu, hb⟩ := D
  exact def_okX Fu sc hm hb hlen (hgo f)
theorem mk_ex (D : Df K mg x st ps) (sc : FnScope N ps (defScope st)) {V : En → Prop} {R : En → Out → Prop} (hlen : ∀ Δ, V Δ → Δ.length = ps.length)
    (hgo : ∀ f, ∀ Δ, V Δ → Go (XN P w K mg base N x (defScope st) f k) WN (Δ ++ nos (N.length - ps.length)) (defBody st) (fun o' => ∃ Δ' r, End Δ o' (.rt Δ' r) ∧ R Δ (.rt Δ' r))) :
    ∃ T : En → Out, (∀ Δ, V Δ → R Δ (T Δ)) ∧ Fn P w K mg base (k + 1) x (fun Δ o => V Δ ∧ o = T Δ) := by
  obtain ⟨f, fd, hm, Fu, hb⟩ := D
  exact def_ex Fu sc hm hb hlen (hgo f)
theorem mk_never (D : Df K mg x st ps) (h : ∀ Δ o, ¬ S Δ o) : Fn P w K mg base k x S := by
  obtain ⟨f, fd, hm, Fu, hb⟩ := D
  exact fn_never hm Fu.kp hb h
end
theorem go_eq {ι : Type} {XS : ι → Cx} {WS : ι → WX} {Δ Δ' : En} {sts : List Stmt} {P : Out → Prop} (h : Δ = Δ') (k : Go XS WS Δ' sts P) : Go XS WS Δ sts P := h ▸ k
/-- nothing among the arguments is ours to change -/
theorem oneN {Δ : En} {rs : List R} (h : rs.all (fun r => !(argSl Δ r).mut) = true) : OneMut Δ rs none := fun q q' r r' h1 _ m _ => by
  have := List.all_eq_true.mp h r (List.mem_of_getElem? h1)
  rw [m] at this
  cases this
/-- one list, at slot i, is given away, as the argument q -/
theorem oneM {Δ : En} {rs : List R} {i : Nat} (n : Nat) (hn : rs[n]? = some (.sl i)) (h : ((List.range rs.length).all fun q => q == n || (match rs[q]? with | some r => !(argSl Δ r).mut | none => true)) = true) : OneMut Δ rs (some i) := fun q q' r r' h1 h2 m m' => by
  have key : ∀ {q : Nat} {r : R}, rs[q]? = some r → (argSl Δ r).mut = true → q = n := fun {q r} h1 m => by
    have hq : q < rs.length := (List.getElem?_eq_some_iff.mp h1).1
    have := List.all_eq_true.mp h q (List.mem_range.mpr hq)
    rw [h1] at this
    simp only [m, Bool.not_true, Bool.or_false] at this
    simpa using this
  have e1 := key h1 m
  have e2 := key h2 m'
  subst e1
  rw [hn] at h1
  cases h1
  exact ⟨e2.symm, i, rfl, rfl⟩
theorem fin0 {Δ D : En} (h : Δ.all (fun s => !s.mut) = true) : Fin Δ D Δ := .refl fun i s e => by
  have := List.all_eq_true.mp h s (List.mem_of_getElem? e)
  cases hs : s.mut with
  | true => rw [hs] at this; cases this
  | false => rfl
section
variable {X : Cx} {Δ Δ1 : En} {a : Expr} {r1 : R} {x : PyData} {xs : List PyData} {pos p2 p3 : Pos} {kk : Nat}
/-- t[1:] of a tuple -/
theorem de_tail (ha : DEx X Δ a r1 Δ1) (l1 : lite r1 = true) (e1 : rdOf Δ1 r1 = some (.tuple (x :: xs))) : DEx X Δ (.Subscript a (.Slice (some (.Constant (.int 1) kk p3)) none none p2) pos) (.d (.tuple xs)) Δ1 := by
  have h := de_slT (pos := pos) (p2 := p2) ha (dp_so (de_int (n := 1) (kk := kk) (pos := p3))) dp_no l1 e1 (.inl (by show HT.sIx (xs.length + 1) 0 (some ((1 : Nat) : Int)) ≠ 0; rw [HT.sIx_nat]; omega))
  have e : cutD (x :: xs) (some 1) none = xs := by
    unfold cutD
    have q : HT.sIx (x :: xs).length 0 (some 1) = 1 := by show HT.sIx (xs.length + 1) 0 (some ((1 : Nat) : Int)) = 1; rw [HT.sIx_nat]; omega
    rw [q, HT.sIx_none]
    show (xs.take _) = xs
    exact List.take_of_length_le (by simp)
  rw [e] at h
  exact h
end
theorem at0 {α : Type} {x : α} {xs : List α} : atI (x :: xs) 0 = some x := atI_nat (j := 0) rfl
theorem at1 {α : Type} {x y : α} {xs : List α} : atI (x :: y :: xs) 1 = some y := atI_nat (j := 1) rfl
theorem at_get {α : Type} {xs : List α} {i : Int} {d : α} (h0 : 0 ≤ i) (h1 : i < xs.length) : atI xs i = some (xs.getD i.toNat d) := by
  have e : i = ((i.toNat : Nat) : Int) := by omega
  have hl : i.toNat < xs.length := by omega
  have q : atI xs ((i.toNat : Nat) : Int) = some (xs.getD i.toNat d) := atI_nat (by rw [List.getElem?_eq_getElem hl, List.getD_eq_getElem?_getD, List.getElem?_eq_getElem hl]; rfl)
  rw [← e] at q
  exact q
theorem at_map {α : Type} {xs : List α} {i : Int} (f : α → PyData) (d : α) (h0 : 0 ≤ i) (h1 : i < xs.length) : atI (xs.map f) i = some (f (xs.getD i.toNat d)) := by
  have e : i = ((i.toNat : Nat) : Int) := by omega
  have hl : i.toNat < xs.length := by omega
  have q : atI (xs.map f) ((i.toNat : Nat) : Int) = some (f (xs.getD i.toNat d)) := atI_nat (by rw [List.getElem?_map, List.getElem?_eq_getElem hl, List.getD_eq_getElem?_getD, List.getElem?_eq_getElem hl]; rfl)
  rw [← e] at q
  exact q
theorem RK.nil {Δ : En} : RK [] Δ := fun i xs e => by cases e
theorem RK.refc {xs ys : List PyData} {Δ Δ' : En} (h : RK Δ Δ') : RK (.ref xs :: Δ) (.ref ys :: Δ') := fun i zs e => by
  cases i with
  | zero => exact ⟨ys, Eq.refl _⟩
  | succ i => exact h i zs e
theorem RK.skip {s t : Sl} {Δ Δ' : En} (hs : s.isRef = false) (h : RK Δ Δ') : RK (s :: Δ) (t :: Δ') := fun i zs e => by
  cases i with
  | zero => cases e; cases hs
  | succ i => exact h i zs e
/-! ### places in a text -/
def stAt (sts : List Stmt) (i : Nat) : Stmt := sts.getD i (.Pass ⟨0, 0, 0, 0⟩)
def exRet : Stmt → Expr
  | .Return (some e) _ => e
  | .Assign _ e _ => e
  | .Expr e _ => e
  | .If c _ _ _ => c
  | .For _ e _ _ _ => e
  | _ => .Name "" ⟨0, 0, 0, 0⟩
def bodyOf : Stmt → List Stmt
  | .If _ b _ _ => b
  | .For _ _ b _ _ => b
  | .While _ b _ _ => b
  | .Try b _ _ _ _ => b
  | _ => []
def elsOf : Stmt → List Stmt
  | .If _ _ b _ => b
  | _ => []
def kidAt : Expr → Nat → Expr
  | .Tuple es _ _, i => es.getD i (.Name "" ⟨0, 0, 0, 0⟩)
  | .List es _, i => es.getD i (.Name "" ⟨0, 0, 0, 0⟩)
  | .Call _ es _ _, i => es.getD i (.Name "" ⟨0, 0, 0, 0⟩)
  | .BinOp a _ b _, i => if i = 0 then a else b
  | .Compare a _ bs _, i => if i = 0 then a else bs.getD (i - 1) (.Name "" ⟨0, 0, 0, 0⟩)
  | .BoolOp _ es _, i => es.getD i (.Name "" ⟨0, 0, 0, 0⟩)
  | .UnaryOp _ a _, _ => a
  | .Subscript a b _, i => if i = 0 then a else b
  | e, _ => e
def lcElt : Expr → Expr
  | .ListComp e _ _ _ => e
  | e => e
def lcScope : Expr → Scope
  | .ListComp _ _ sc _ => sc
  | _ => { kind := .function, names := [], isGenerator := false, isCoroutine := false }
theorem shp_ints (ns : List Int) : shp (.list (ns.map PyData.int)) := by
  have h1 : ∀ ns : List Int, PyData.canLayAll0 (ns.map PyData.int) = true := fun ns => by
    induction ns with
    | nil => simp [PyData.canLayAll0]
    | cons n ns ih => simp [PyData.canLayAll0, PyData.canLay0, ih]
  have h2 : ∀ ns : List Int, PyData.depthAll (ns.map PyData.int) = 0 := fun ns => by
    induction ns with
    | nil => simp [PyData.depthAll]
    | cons n ns ih => simp [PyData.depthAll, PyData.depth, ih]
  show ((PyData.list (ns.map PyData.int)).canLay0 && decide ((PyData.list (ns.map PyData.int)).depth ≤ 64)) = true
  rw [Bool.and_eq_true]
  exact ⟨by simp [PyData.canLay0, h1], decide_eq_true (by simp [PyData.depth, h2])⟩
theorem shp_refl {x : PyData} (h : shp x) : PyData.eqv x x = true := PySem.SeqAt.eqv_refl x ((Bool.and_eq_true_iff).mp (show (x.canLay0 && decide (x.depth ≤ 64)) = true from h)).1
theorem shp_nil : shp (.list []) := shp_ints []
/-! ### cells -/
def cellAt (ns : List Int) (k : Int) : Int := if k < ns.length then (ns.getD k.toNat 0 * 48271 + k * 7919) % 1000003 else 0
theorem cellAt_lo (ns : List Int) (k : Int) : 0 ≤ cellAt ns k := by
  unfold cellAt
  split
  · exact Int.emod_nonneg _ (by decide)
  · exact Int.le_refl _
theorem cellAt_hi (ns : List Int) (k : Int) : cellAt ns k < 1000003 := by
  unfold cellAt
  split
  · exact Int.emod_lt_of_pos _ (by decide)
  · decide
def cellsL (ns : List Int) (lo hi : Int) : List Int := (List.range ((if (ns.length : Int) < hi then (ns.length : Int) else hi) - lo).toNat).map fun (k : Nat) => cellAt ns (lo + (k : Int))
def Cell (c : Int) : Prop := 0 ≤ c ∧ c < 1000003
theorem cellsL_ok (ns : List Int) (lo hi : Int) : ∀ c ∈ cellsL ns lo hi, Cell c := fun c h => by
  obtain ⟨k, _, rfl⟩ := List.mem_map.mp h
  exact ⟨cellAt_lo _ _, cellAt_hi _ _⟩
theorem cellsL_len (ns : List Int) (lo hi : Int) (h : 0 ≤ lo) : (cellsL ns lo hi).length ≤ ns.length := by
  unfold cellsL
  rw [List.length_map, List.length_range]
  split <;> omega
/-! ### trees -/
inductive Tree where
  | num (n : Int) | arg (k : Int) | bin (w : Str) (a b : Tree) | sure (a : Tree) | lett (a b : Tree) | pick (a b c : Tree) | call (f : Int) (as : List Tree)
mutual
def enc : Tree → PyData
  | .num n => .tuple [.str "num", .int n]
  | .arg k => .tuple [.str "arg", .int k]
  | .bin w a b => .tuple [.str w, enc a, enc b]
  | .sure a => .tuple [.str "sure", enc a]
  | .lett a b => .tuple [.str "let", enc a, enc b]
  | .pick a b c => .tuple [.str "pick", enc a, enc b, enc c]
  | .call f as => .tuple [.str "call", .int f, .list (encs as)]
def encs : List Tree → List PyData
  | [] => []
  | t :: ts => enc t :: encs ts
end
theorem encs_map : ∀ ts : List Tree, encs ts = ts.map enc
  | [] => rfl
  | t :: ts => by rw [encs, encs_map ts]; rfl
def kids : Tree → List Tree
  | .num _ => []
  | .arg _ => []
  | .bin _ a b => [a, b]
  | .sure a => [a]
  | .lett a b => [a, b]
  | .pick a b c => [a, b, c]
  | .call _ as => as
def opW (w : Str) : Prop := w = "add" ∨ w = "sub" ∨ w = "less"
mutual
def wf : Tree → Prop
  | .num _ => True
  | .arg _ => True
  | .bin w a b => opW w ∧ wf a ∧ wf b
  | .sure a => wf a
  | .lett a b => wf a ∧ wf b
  | .pick a b c => wf a ∧ wf b ∧ wf c
  | .call _ as => as.length ≤ 1000 ∧ wfs as
def wfs : List Tree → Prop
  | [] => True
  | t :: ts => wf t ∧ wfs ts
end
theorem wfs_iff : ∀ ts : List Tree, wfs ts ↔ ∀ t ∈ ts, wf t
  | [] => by simp [wfs]
  | t :: ts => by simp [wfs, wfs_iff ts]
theorem wf_kids : ∀ t : Tree, wf t → ∀ c ∈ kids t, wf c
  | .num _, _, c, h => by simp [kids] at h
  | .arg _, _, c, h => by simp [kids] at h
  | .bin w a b, hw, c, h => by
    simp only [kids, List.mem_cons, List.not_mem_nil, or_false] at h
    rcases h with rfl | rfl
    · exact hw.2.1
    · exact hw.2.2
  | .sure a, hw, c, h => by
    simp only [kids, List.mem_cons, List.not_mem_nil, or_false] at h
    subst h
    exact hw
  | .lett a b, hw, c, h => by
    simp only [kids, List.mem_cons, List.not_mem_nil, or_false] at h
    rcases h with rfl | rfl
    · exact hw.1
    · exact hw.2
  | .pick a b d, hw, c, h => by
    simp only [kids, List.mem_cons, List.not_mem_nil, or_false] at h
    rcases h with rfl | rfl | rfl
    · exact hw.1
    · exact hw.2.1
    · exact hw.2.2
  | .call f as, hw, c, h => (wfs_iff as).mp hw.2 c h
/-- it goes with what is known and with the functions -/
def okT (cs : List Int) : Nat → Int → Tree → Prop
  | 0, _, _ => False
  | n + 1, kn, t => match t with
    | .num _ => True
    | .arg k => 0 ≤ k ∧ k < kn
    | .bin w a b => opW w ∧ okT cs n kn a ∧ okT cs n kn b
    | .sure a => okT cs n kn a
    | .lett a b => okT cs n kn a ∧ okT cs n (kn + 1) b
    | .pick a b c => okT cs n kn a ∧ okT cs n kn b ∧ okT cs n kn c
    | .call f as => 0 ≤ f ∧ f < cs.length ∧ (as.length : Int) = cs.getD f.toNat 0 ∧ as.length ≤ 1000 ∧ ∀ a ∈ as, okT cs n kn a
theorem okT_wf {cs : List Int} : ∀ {n : Nat} {kn : Int} {t : Tree}, okT cs n kn t → wf t
  | 0, _, _, h => h.elim
  | n + 1, kn, .num _, _ => trivial
  | n + 1, kn, .arg _, _ => trivial
  | n + 1, kn, .bin w a b, h => ⟨h.1, okT_wf h.2.1, okT_wf h.2.2⟩
  | n + 1, kn, .sure a, h => okT_wf (n := n) (kn := kn) (t := a) h
  | n + 1, kn, .lett a b, h => ⟨okT_wf h.1, okT_wf h.2⟩
  | n + 1, kn, .pick a b c, h => ⟨okT_wf h.1, okT_wf h.2.1, okT_wf h.2.2⟩
  | n + 1, kn, .call f as, h => ⟨h.2.2.2.1, (wfs_iff as).mpr fun a ha => okT_wf (h.2.2.2.2 a ha)⟩
theorem okT_mono {cs : List Int} : ∀ {n m : Nat} {kn : Int} {t : Tree}, n ≤ m → okT cs n kn t → okT cs m kn t
  | 0, _, _, _, _, h => h.elim
  | n + 1, 0, _, _, l, _ => by omega
  | n + 1, m + 1, kn, .num _, _, _ => trivial
  | n + 1, m + 1, kn, .arg _, _, h => h
  | n + 1, m + 1, kn, .bin w a b, l, h => ⟨h.1, okT_mono (by omega) h.2.1, okT_mono (by omega) h.2.2⟩
  | n + 1, m + 1, kn, .sure a, l, h => okT_mono (n := n) (m := m) (kn := kn) (t := a) (by omega) h
  | n + 1, m + 1, kn, .lett a b, l, h => ⟨okT_mono (by omega) h.1, okT_mono (by omega) h.2⟩
  | n + 1, m + 1, kn, .pick a b c, l, h => ⟨okT_mono (by omega) h.1, okT_mono (by omega) h.2.1, okT_mono (by omega) h.2.2⟩
  | n + 1, m + 1, kn, .call f as, l, h => ⟨h.1, h.2.1, h.2.2.1, h.2.2.2.1, fun a ha => okT_mono (by omega) (h.2.2.2.2 a ha)⟩
/-- how deep the datum is -/
def pd (t : Tree) : Nat := (enc t).depth
theorem depthAll_mem : ∀ {xs : List PyData} {x : PyData}, x ∈ xs → x.depth ≤ PyData.depthAll xs
  | y :: ys, x, h => by
    rw [PyData.depthAll]
    rcases List.mem_cons.mp h with rfl | h
    · omega
    · have := depthAll_mem h
      omega
theorem depthAll_le {n : Nat} : ∀ {xs : List PyData}, (∀ x ∈ xs, x.depth ≤ n) → PyData.depthAll xs ≤ n
  | [], _ => by rw [PyData.depthAll]; omega
  | y :: ys, h => by
    rw [PyData.depthAll]
    have h1 := h y (by simp)
    have h2 := depthAll_le fun x hx => h x (List.mem_cons_of_mem _ hx)
    omega
theorem pd_kids (t : Tree) : ∀ c ∈ kids t, pd c < pd t := fun c h => by
  cases t with
  | num n => simp [kids] at h
  | arg n => simp [kids] at h
  | bin w a b =>
    simp only [kids, List.mem_cons, List.not_mem_nil, or_false] at h
    unfold pd
    rw [enc, PyData.depth]
    rcases h with rfl | rfl
    · exact Nat.lt_succ_of_le (depthAll_mem (by simp))
    · exact Nat.lt_succ_of_le (depthAll_mem (by simp))
  | sure a =>
    simp only [kids, List.mem_cons, List.not_mem_nil, or_false] at h
    subst h
    unfold pd
    rw [enc, PyData.depth]
    exact Nat.lt_succ_of_le (depthAll_mem (by simp))
  | lett a b =>
    simp only [kids, List.mem_cons, List.not_mem_nil, or_false] at h
    unfold pd
    rw [enc, PyData.depth]
    rcases h with rfl | rfl
    · exact Nat.lt_succ_of_le (depthAll_mem (by simp))
    · exact Nat.lt_succ_of_le (depthAll_mem (by simp))
  | pick a b d =>
    simp only [kids, List.mem_cons, List.not_mem_nil, or_false] at h
    unfold pd
    rw [enc, PyData.depth]
    rcases h with rfl | rfl | rfl
    · exact Nat.lt_succ_of_le (depthAll_mem (by simp))
    · exact Nat.lt_succ_of_le (depthAll_mem (by simp))
    · exact Nat.lt_succ_of_le (depthAll_mem (by simp))
  | call f as =>
    have h : c ∈ as := h
    unfold pd
    rw [enc, PyData.depth]
    have h1 : (PyData.list (encs as)).depth ≤ PyData.depthAll [.str "call", .int f, .list (encs as)] := depthAll_mem (by simp)
    rw [PyData.depth] at h1
    have h2 : (enc c).depth ≤ PyData.depthAll (encs as) := depthAll_mem (by rw [encs_map]; exact List.mem_map_of_mem h)
    omega
theorem so_num : PyData.strOk "num" = true := by decide +kernel
theorem so_arg : PyData.strOk "arg" = true := by decide +kernel
theorem so_sure : PyData.strOk "sure" = true := by decide +kernel
theorem so_let : PyData.strOk "let" = true := by decide +kernel
theorem so_pick : PyData.strOk "pick" = true := by decide +kernel
theorem so_call : PyData.strOk "call" = true := by decide +kernel
theorem so_op {w : Str} (h : opW w) : PyData.strOk w = true := by rcases h with rfl | rfl | rfl <;> decide +kernel
theorem depth_tup {xs : List PyData} {n : Nat} (h : ∀ x ∈ xs, x.depth ≤ n) : (PyData.tuple xs).depth ≤ n + 1 := by
  rw [PyData.depth]
  have := depthAll_le h
  omega
theorem depth_lst {xs : List PyData} {n : Nat} (h : ∀ x ∈ xs, x.depth ≤ n) : (PyData.list xs).depth ≤ n + 1 := by
  rw [PyData.depth]
  have := depthAll_le h
  omega
theorem depth_str (s : Str) : (PyData.str s).depth = 0 := by rw [PyData.depth]
theorem depth_int (i : Int) : (PyData.int i).depth = 0 := by rw [PyData.depth]
/-- no call at its root: one deeper than its parts -/
theorem pd_le1 {n : Nat} : ∀ {t : Tree}, (∀ c ∈ kids t, pd c ≤ n) → (∀ f as, t ≠ .call f as) → pd t ≤ n + 1
  | .num m, h, _ => depth_tup (n := n) fun x hx => by
    simp only [List.mem_cons, List.not_mem_nil, or_false] at hx
    rcases hx with rfl | rfl
    · rw [depth_str]; omega
    · rw [depth_int]; omega
  | .arg m, h, _ => depth_tup (n := n) fun x hx => by
    simp only [List.mem_cons, List.not_mem_nil, or_false] at hx
    rcases hx with rfl | rfl
    · rw [depth_str]; omega
    · rw [depth_int]; omega
  | .bin w a b, h, _ => depth_tup (n := n) fun x hx => by
    simp only [List.mem_cons, List.not_mem_nil, or_false] at hx
    rcases hx with rfl | rfl | rfl
    · rw [depth_str]; omega
    · exact h a (by simp [kids])
    · exact h b (by simp [kids])
  | .sure a, h, _ => depth_tup (n := n) fun x hx => by
    simp only [List.mem_cons, List.not_mem_nil, or_false] at hx
    rcases hx with rfl | rfl
    · rw [depth_str]; omega
    · exact h a (by simp [kids])
  | .lett a b, h, _ => depth_tup (n := n) fun x hx => by
    simp only [List.mem_cons, List.not_mem_nil, or_false] at hx
    rcases hx with rfl | rfl | rfl
    · rw [depth_str]; omega
    · exact h a (by simp [kids])
    · exact h b (by simp [kids])
  | .pick a b c, h, _ => depth_tup (n := n) fun x hx => by
    simp only [List.mem_cons, List.not_mem_nil, or_false] at hx
    rcases hx with rfl | rfl | rfl | rfl
    · rw [depth_str]; omega
    · exact h a (by simp [kids])
    · exact h b (by simp [kids])
    · exact h c (by simp [kids])
  | .call f as, _, h2 => absurd rfl (h2 f as)
theorem pd_le2 {n : Nat} {t : Tree} (h : ∀ c ∈ kids t, pd c ≤ n) : pd t ≤ n + 2 := by
  cases t with
  | call f as =>
    refine depth_tup (n := n + 1) fun x hx => ?_
    simp only [List.mem_cons, List.not_mem_nil, or_false] at hx
    rcases hx with rfl | rfl | rfl
    · rw [depth_str]; omega
    · rw [depth_int]; omega
    · refine depth_lst fun x hx => ?_
      rw [encs_map] at hx
      obtain ⟨c, hc, rfl⟩ := List.mem_map.mp hx
      exact h c hc
  | num m => exact Nat.le_succ_of_le (pd_le1 h fun _ _ e => by cases e)
  | arg m => exact Nat.le_succ_of_le (pd_le1 h fun _ _ e => by cases e)
  | bin w a b => exact Nat.le_succ_of_le (pd_le1 h fun _ _ e => by cases e)
  | sure a => exact Nat.le_succ_of_le (pd_le1 h fun _ _ e => by cases e)
  | lett a b => exact Nat.le_succ_of_le (pd_le1 h fun _ _ e => by cases e)
  | pick a b c => exact Nat.le_succ_of_le (pd_le1 h fun _ _ e => by cases e)
mutual
theorem lay_enc : ∀ t : Tree, wf t → (enc t).canLay0 = true
  | .num n, _ => by simp [enc, PyData.canLay0, PyData.canLayAll0, so_num]
  | .arg n, _ => by simp [enc, PyData.canLay0, PyData.canLayAll0, so_arg]
  | .bin w a b, h => by simp [enc, PyData.canLay0, PyData.canLayAll0, lay_enc a h.2.1, lay_enc b h.2.2, so_op h.1]
  | .sure a, h => by simp [enc, PyData.canLay0, PyData.canLayAll0, lay_enc a h, so_sure]
  | .lett a b, h => by simp [enc, PyData.canLay0, PyData.canLayAll0, lay_enc a h.1, lay_enc b h.2, so_let]
  | .pick a b c, h => by simp [enc, PyData.canLay0, PyData.canLayAll0, lay_enc a h.1, lay_enc b h.2.1, lay_enc c h.2.2, so_pick]
  | .call f as, h => by simp [enc, PyData.canLay0, PyData.canLayAll0, lay_encs as h.2, so_call]
theorem lay_encs : ∀ ts : List Tree, wfs ts → PyData.canLayAll0 (encs ts) = true
  | [], _ => by simp [encs, PyData.canLayAll0]
  | t :: ts, h => by simp [encs, PyData.canLayAll0, lay_enc t h.1, lay_encs ts h.2]
end
theorem shp_enc {t : Tree} (hw : wf t) (h : pd t ≤ 64) : shp (enc t) := by
  show ((enc t).canLay0 && decide ((enc t).depth ≤ 64)) = true
  rw [Bool.and_eq_true]
  exact ⟨lay_enc t hw, decide_eq_true h⟩
/-- its word -/
def wd : Tree → Str
  | .num _ => "num"
  | .arg _ => "arg"
  | .bin w _ _ => w
  | .sure _ => "sure"
  | .lett _ _ => "let"
  | .pick _ _ _ => "pick"
  | .call _ _ => "call"
mutual
def allCalls : Tree → Int
  | .num _ => 0
  | .arg _ => 0
  | .bin _ a b => allCalls a + allCalls b
  | .sure a => allCalls a
  | .lett a b => allCalls a + allCalls b
  | .pick a b c => allCalls a + allCalls b + allCalls c
  | .call _ as => 1 + allCallss as
def allCallss : List Tree → Int
  | [] => 0
  | t :: ts => allCalls t + allCallss ts
end
theorem allCallss_sum : ∀ ts : List Tree, allCallss ts = (ts.map allCalls).sum
  | [] => rfl
  | t :: ts => by rw [allCallss, allCallss_sum ts]; rfl
def lastCalls : Tree → Int
  | .lett _ b => lastCalls b
  | .pick _ b c => lastCalls b + lastCalls c
  | .call _ _ => 1
  | _ => 0
end Tr
namespace Tr
open PySem L2
/-! ### the top -/
section
variable {P : Program} {w : World} {K : Frag} {mg : Str → Option Value} {base : Heap} {k : Nat} {x : Str} {st : Stmt} {N ps : List Str} {S : Spec}
/-- def law, from its body -/
theorem law_ok {f : Addr} {fd : FuncData} (Fu : Fun K x x st f fd) (sc : FnScope N ps (defScope st)) (hlen : ∀ Δ o, S Δ o → Δ.length = ps.length ∧ ∀ Δ' C, o ≠ .xc Δ' C)
    (hgo : ∀ Δ o, S Δ o → Go (XN P w K mg base N x (defScope st) f k) WN (Δ ++ nos (N.length - ps.length)) (defBody st) (fun o' => End Δ o' o)) : FnOk P w K mg base (L2.CX P w) (k + 1) f fd ps (spOf K S) := by
  have h : ∀ Δ o, S Δ o → FnOk P w K mg base (L2.CX P w) (k + 1) f fd ps (spOf K (fun Δ' o' => Δ' = Δ ∧ o' = o)) := fun Δ o s => by
    obtain ⟨o', he, ds⟩ := hgo Δ o s
    exact fnOk_one Fu sc (hlen _ _ s).1 he fun q => ds_nox (ds q) (end_noX he (hlen _ _ s).2)
  exact ⟨fun vs H Q E ⟨Δ, o, B, F, s, r⟩ => (h Δ o s).len vs H Q E ⟨Δ, o, B, F, ⟨rfl, rfl⟩, r⟩, fun A outer s H args us vs Q E a b c d ⟨Δ, o, B, F, s', r⟩ => (h Δ o s').run A outer s H args us vs Q E a b c d ⟨Δ, o, B, F, ⟨rfl, rfl⟩, r⟩⟩
theorem df_mk {h : Heap} {f : Addr} {oc kV doc pm cdv ct : Value} {od an : Option Addr} {osl : Array (Option Value)} (X : K.In h) (G : h.Ns mainGlobals mg) (hb : ∀ {fd : FuncData}, Fun K x x st f fd → Binds K fd ps [])
    (a : PySem.W.nsIn K mainGlobals x = some (some (.ref f))) (l : K.lookup f = some ⟨oc, od, .func (PySem.W.fnOf x x (defArgs st) (defBody st) (defScope st) .none kV doc pm an cdv ct), osl⟩) (c : PySem.W.codeIn K cdv x = true) (k : PySem.W.keepIn K (.ref f) = true) : Df K mg x st ps := by
  have F := fun_mk (st := st) l c k
  exact ⟨f, _, PySem.W.mg_of X G a, F, hb F⟩
end
theorem ok_sc {K : Frag} {H : Hp} {a : Addr} {ns : List Int} (hS : SqL K H a (ns.map V.int)) : Ok K (fun _ => none) H H [some (.ref a)] [.sc ns] := by
  refine ⟨fun _ _ e => e, fun _ _ e => (by cases e), fun _ e => absurd rfl e, rfl, fun i s e => ?_, fun i j s t b e1 e2 m1 m2 r1 r2 => ?_⟩
  · cases i with
    | zero =>
      cases e
      exact ⟨_, rfl, a, rfl, hS⟩
    | succ i => cases e
  · cases i with
    | zero =>
      cases e1
      cases m1
    | succ i => cases e1
/-- the statement about the script -/
def lawS (n : Nat) : Spec := fun Δ o => ∃ ns : List Int, ns.length ≤ n ∧ Δ = [.sc ns] ∧ o = .rt Δ (.d (.bool true))
theorem walk_tr {l : PySem.W.OpenLaw} {n k : Nat} {q : Program} {loose : List Str} {XP : (Str → Option Value) → Heap → Prop} {YP : World → Heap → Prop} {d : DefRec} {K : Params → PySem.W.Frag} {x : Str}
    (hn : l.most = some n) (hn2 : n ≤ sizeLine) (hdf : d.params.defaults = []) (hr : Room k callerA)
    (hY : ∀ (w : World) (h : Heap), YP w h → (K w.params).In h)
    (F : ∀ (w : World) (mg : Str → Option Value) (fa : Addr) (h : Heap), (K w.params).In h → h.Ns mainGlobals mg → mg d.name = some (.ref fa) →
      ∃ fd : FuncData, (∀ (s : Shared) (u : Value), BindsTo s fd ⟨[u], []⟩ [(x, u)]) ∧
        ∀ base : Heap, (K w.params).In base → base.Ns mainGlobals mg → FnOk l.prog w (K w.params) mg base (L2.CX l.prog w) k fa fd [x] (spOf (K w.params) (lawS n))) :
    PySem.W.WalkO q loose XP YP l.row.toRowW d [] (fun f vs => PySem.call f vs) :=
  L2.walk_of (CX := fun w => L2.CX l.prog w) (sp := fun w => spOf (K w.params) (lawS n)) hn hn2 hdf hr hY F
    (fun w H a ns hl _ hS => ⟨[.sc ns], .rt [.sc ns] (.d (.bool true)), fun _ => none, H, ⟨ns, hl, rfl, rfl⟩, ok_sc hS, fun v F' H' ok ex hv => Dq.bl_ hv⟩)
    fun w H s e s' ⟨_, _, _, _, _, _, _, _, _, _, _, _, h⟩ => h
end Tr
namespace Tr
open PySem L2
/-! ### tuples of lists made here; what is told and then changed -/
section
variable {X : Cx} {W : WX} {Δ Δ1 Δ2 : En} {a b c e : Expr} {es : List Expr} {r : R} {rs : List R} {pos p p2 : Pos} {x : PyData} {xs ys zs : List PyData} {i j : Nat} {t1 t2 : Tm} {P : Out → Prop} {rest body : List Stmt} {o : Out}
theorem da_last (ha : DEx X Δ e r Δ1) (hs : starEach [e] X.env = (false, eval e X.env) :: starEach [] X.env := by rfl) : DAx X Δ [e] [r] Δ1 :=
  ⟨ha.rk, pa_imp (pa_cons ha.pe pa_nil hs) fun σ H Q ⟨B, F, ok, q⟩ => ⟨B, F, ok, fun v F1 H1 ok1 ex1 hv => q _ F1 H1 ok1 ex1 (.cons hv .nil)⟩⟩
theorem own_out {K : Frag} {B F H : Hp} {σ : St} {v : V} (ok : Ok K B F H σ Δ) (hi : Δ[i]? = some (.own xs)) (hv : σ[i]? = some (some v)) : TmOk B F H σ (Δ.set i .no) v (.l xs) := by
  obtain ⟨a, vs, h1, h2, h3, h4, h5⟩ := ok.rm hi (.inl rfl)
  rw [hv] at h1
  cases h1
  refine ⟨a, vs, rfl, h2, h3, h4, h5, fun k s ek hm q => ?_⟩
  by_cases hk : k = i
  · subst hk
    have hl : k < Δ.length := (List.getElem?_eq_some_iff.mp hi).1
    rw [List.getElem?_set_self hl] at ek
    cases ek
    cases hm
  · rw [List.getElem?_set_ne (Ne.symm hk)] at ek
    exact hk (ok.nd k i s _ a ek hi hm rfl q hv)
theorem nm_forget {σ : St} {q : Addr} (h : NotMut σ Δ q) : NotMut σ (Δ.set i .no) q := fun k s ek hm z => by
  by_cases hk : k = i
  · subst hk
    by_cases hl : k < Δ.length
    · rw [List.getElem?_set_self hl] at ek
      cases ek
      cases hm
    · rw [List.getElem?_eq_none (by simp; omega)] at ek
      cases ek
  · rw [List.getElem?_set_ne (Ne.symm hk)] at ek
    exact h k s ek hm z
theorem tm_new {B F H : Hp} {σ : St} {v : V} {t : Tm} {q : Addr} {ob : HO} (h : TmOk B F H σ Δ v t) (hq : H q = none) : TmOk B F (upd H q ob) σ Δ v t := by
  cases t with
  | d x => exact h
  | l xs =>
    obtain ⟨a, vs, e, h1, h2, h3, h4, h5⟩ := h
    exact ⟨a, vs, e, h1, h2, by rw [upd_ne (ne_of_none h3 hq)]; exact h3, h4, h5⟩
theorem nt_new {K : Frag} {B F H : Hp} {σ : St} {v1 v2 : V} {q : Addr} (ok : Ok K B F H σ Δ) (hq : H q = none) (h1 : TmOk B F H σ Δ v1 t1) (h2 : TmOk B F H σ Δ v2 t2) (hd : t1.isL = true → t2.isL = true → v1 ≠ v2) : Res B F (upd H q (.tup [v1, v2])) σ Δ (.ref q) (.nt t1 t2) :=
  ⟨q, v1, v2, rfl, (ok.fresh hq).1, (ok.fresh hq).2, upd_same, tm_new h1 hq, tm_new h2 hq, hd, ok.notNew hq⟩
/-- (x, e): x a list of this def's own, e a list made here -/
theorem de_nt_on {kk} (h : DAx X Δ [a, b] [.sl i, .nl zs] Δ1) (hi : Δ1[i]? = some (.own ys)) : DEx X Δ (.Tuple [a, b] kk pos) (.nt (.l ys) (.l zs)) (Δ1.set i .no) := ⟨h.rk.trans (rk_set hi rfl), pe_imp (pe_tup h.pa) fun σ H Q ⟨B, F, ok, q⟩ => ⟨B, F, ok, fun vs F1 H1 ok1 ex1 hv => by
  obtain ⟨v1, ws, rfl, g1, g2⟩ := pr_cons_inv hv
  obtain ⟨v2, ws, rfl, g3, g4⟩ := pr_cons_inv g2
  cases g4
  refine ⟨by show 2 ≤ sizeLine; decide, fun p hp => ?_⟩
  have g1 : σ[i]? = some (some v1) := g1
  have k1 := own_out ok1 hi g1
  obtain ⟨b2, vs2, rfl, m1, m2, m3, m4, m5⟩ := g3
  exact q _ _ _ (ok1.forget.new hp) ex1 (nt_new ok1.forget hp k1 ⟨b2, vs2, rfl, m1, m2, m3, m4, nm_forget m5⟩ fun _ _ e => by
    subst e
    exact m5 i _ hi rfl g1)⟩⟩
/-- both of this def's own -/
theorem de_nt_oo {kk} (h : DAx X Δ [a, b] [.sl i, .sl j] Δ1) (hi : Δ1[i]? = some (.own ys)) (hj : Δ1[j]? = some (.own zs)) (hij : i ≠ j) : DEx X Δ (.Tuple [a, b] kk pos) (.nt (.l ys) (.l zs)) ((Δ1.set i .no).set j .no) := ⟨h.rk.trans ((rk_set hi rfl).trans (rk_set (by rw [List.getElem?_set_ne hij]; exact hj) rfl)), pe_imp (pe_tup h.pa) fun σ H Q ⟨B, F, ok, q⟩ => ⟨B, F, ok, fun vs F1 H1 ok1 ex1 hv => by
  obtain ⟨v1, ws, rfl, g1, g2⟩ := pr_cons_inv hv
  obtain ⟨v2, ws, rfl, g3, g4⟩ := pr_cons_inv g2
  cases g4
  refine ⟨by show 2 ≤ sizeLine; decide, fun p hp => ?_⟩
  have g1 : σ[i]? = some (some v1) := g1
  have g3 : σ[j]? = some (some v2) := g3
  have hj' : (Δ1.set i .no)[j]? = some (.own zs) := by rw [List.getElem?_set_ne hij]; exact hj
  have k1 := own_out ok1 hi g1
  have k2 := own_out ok1.forget hj' g3
  have k1' : TmOk B F1 H1 σ ((Δ1.set i .no).set j .no) v1 (.l ys) := k1.map fun q hb nm => ⟨hb, nm_forget nm⟩
  exact q _ _ _ (ok1.forget.forget.new hp) ex1 (nt_new ok1.forget.forget hp k1' k2 fun _ _ e => by
    subst e
    obtain ⟨q1, _, h1, _⟩ := ok1.rm hi (.inl rfl)
    rw [g1] at h1
    cases h1
    exact hij (ok1.nd i j _ _ q1 hi hj rfl rfl g1 g3))⟩⟩
/-- a datum and a list of this def's own -/
theorem de_nt_do {kk} (h : DAx X Δ [a, b] [.d x, .sl j] Δ1) (hj : Δ1[j]? = some (.own zs)) : DEx X Δ (.Tuple [a, b] kk pos) (.nt (.d x) (.l zs)) (Δ1.set j .no) := ⟨h.rk.trans (rk_set hj rfl), pe_imp (pe_tup h.pa) fun σ H Q ⟨B, F, ok, q⟩ => ⟨B, F, ok, fun vs F1 H1 ok1 ex1 hv => by
  obtain ⟨v1, ws, rfl, g1, g2⟩ := pr_cons_inv hv
  obtain ⟨v2, ws, rfl, g3, g4⟩ := pr_cons_inv g2
  cases g4
  refine ⟨by show 2 ≤ sizeLine; decide, fun p hp => ?_⟩
  have g3 : σ[j]? = some (some v2) := g3
  exact q _ _ _ (ok1.forget.new hp) ex1 (nt_new ok1.forget hp (t1 := .d x) g1 (own_out ok1 hj g3) fun z => by cases z)⟩⟩
/-- (e1, e2) frozen -/
theorem tm_ice {K : Frag} {B F H : Hp} {σ : St} {v : V} (ok : Ok K B F H σ Δ) (h : TmOk B F H σ Δ v t1) : ∃ F', Ok K B F' H σ Δ ∧ Ex F F' ∧ Dq F' v t1.dt ∧ ∀ q, F' q ≠ none → F q ≠ none ∨ (v = .ref q ∧ t1.isL = true) := by
  cases t1 with
  | d x => exact ⟨F, ok, .refl _, h, fun q z => .inl z⟩
  | l xs =>
    obtain ⟨a, vs, rfl, h1, h2, h3, h4, h5⟩ := h
    refine ⟨upd F a (.lst vs), ok.ice h1 h2 h3 h5, .new h1, .list upd_same (h4.mono (.new h1)), fun q z => ?_⟩
    by_cases hq : q = a
    · exact .inr ⟨by rw [hq], rfl⟩
    · rw [upd_ne hq] at z; exact .inl z
theorem de_nte (h : DEx X Δ e (.nt t1 t2) Δ1) : DEx X Δ e (.d (.tuple [t1.dt, t2.dt])) Δ1 := ⟨h.rk, pe_imp h.pe fun σ H Q ⟨B, F, ok, q⟩ => ⟨B, F, ok, fun v F1 H1 ok1 ex1 ⟨a, v1, v2, ev, f1, f2, f3, f4, f5, f6, f7⟩ => by
  subst ev
  obtain ⟨F2, ok2, ex2, d2, n2⟩ := tm_ice ok1 f4
  have f5' : TmOk B F2 H1 σ Δ1 v2 t2 := by
    cases t2 with
    | d x => exact Dq.mono ex2 f5
    | l xs =>
      obtain ⟨b, vs, rfl, h1, h2, h3, h4, h5⟩ := f5
      refine ⟨b, vs, rfl, ?_, h2, h3, h4.mono ex2, h5⟩
      cases q2 : F2 b with
      | none => rfl
      | some o =>
        rcases n2 b (by rw [q2]; intro z; cases z) with z | ⟨z, zl⟩
        · exact absurd h1 z
        · exact absurd z (f6 zl rfl)
  obtain ⟨F3, ok3, ex3, d3, n3⟩ := tm_ice ok2 f5'
  have ha : ∀ {F4 : Hp} {v : V} {t : Tm} {Fx : Hp}, (TmOk B Fx H1 σ Δ1 v t) → Fx a = none → (∀ q, F4 q ≠ none → Fx q ≠ none ∨ (v = .ref q ∧ t.isL = true)) → F4 a = none := fun {F4 v t Fx} ht hn hq => by
    cases q2 : F4 a with
    | none => rfl
    | some o =>
      rcases hq a (by rw [q2]; intro z; cases z) with z | ⟨z, zl⟩
      · exact absurd hn z
      · cases t with
        | d x => cases zl
        | l xs =>
          obtain ⟨b, vs, e2, _, _, h3, _⟩ := ht
          rw [z] at e2
          cases e2
          rw [f3] at h3
          cases h3
  have fa2 := ha f4 f1 n2
  have fa3 := ha f5' fa2 n3
  exact q _ _ _ (ok3.ice fa3 f2 f3 f7) (((ex1.trans ex2).trans ex3).trans (.new fa3)) (.tuple upd_same (.cons ((d2.mono ex3).mono (.new fa3)) (.cons (d3.mono (.new fa3)) .nil)))⟩⟩
/-- a list of this def's own is changed no more -/
theorem ds_ice (i : Nat) (hi : Δ[i]? = some (.own xs)) (h : DS X W (Δ.set i (.d (.list xs))) rest o) : DS X W Δ rest o := pss_imp h fun D σ H ⟨B, F, ok, q⟩ => by
  obtain ⟨a, vs, h1, h2, h3, ok2, h5⟩ := ok.iceSlot hi
  exact ⟨B, _, ok2, q.step (.new h3) (.refl (rk_set hi rfl))⟩
theorem go_ice {ι : Type} {XS : ι → Cx} {WS : ι → WX} (i : Nat) (hi : Δ[i]? = some (.own xs)) (h : Go XS WS (Δ.set i (.d (.list xs))) rest P) : Go XS WS Δ rest P := let ⟨o, a, b⟩ := h; ⟨o, a, fun q => ds_ice i hi (b q)⟩
end
/-! ### what is told, held apart -/
/-- a part of it: a datum of F's, or a list that is held apart -/
def TmB (B F : Hp) (v : V) : Tm → Prop
  | .d x => Dq F v x
  | .l xs => ∃ b vs, v = .ref b ∧ B b = some (.lst vs) ∧ DqA F vs xs
structure Tk (B0 B F : Hp) (a : Addr) (v1 v2 : V) (t1 t2 : Tm) : Prop where
  ex : Ex B0 B
  tu : B a = some (.tup [v1, v2])
  p1 : TmB B F v1 t1
  p2 : TmB B F v2 t2
  ne : t1.isL = true → t2.isL = true → v1 ≠ v2
  n1 : ∀ b, t1.isL = true → v1 = .ref b → B0 b = none
  n2 : ∀ b, t2.isL = true → v2 = .ref b → B0 b = none
def tZ (K : Frag) (W : WX) (a : Addr) (v1 v2 : V) (t1 t2 : Tm) (Δ : En) (o : Out) : TS := fun D σ H => ∃ B0 B F, Tk B0 B F a v1 v2 t1 t2 ∧ Ok K B F H σ Δ ∧ Post K W B0 F σ Δ D o
def DZ (X : Cx) (W : WX) (a : Addr) (v1 v2 : V) (t1 t2 : Tm) (Δ : En) (sts : List Stmt) (o : Out) : Prop := PSs X sts (tZ X.K W a v1 v2 t1 t2 Δ o)
theorem TmB.mono {B F F' : Hp} {v : V} {t : Tm} (h : TmB B F v t) (ex : Ex F F') : TmB B F' v t := by
  cases t with
  | d x => exact Dq.mono ex h
  | l xs =>
    obtain ⟨b, vs, e, h1, h2⟩ := h
    exact ⟨b, vs, e, h1, h2.mono ex⟩
theorem Tk.mono {B0 B F F' : Hp} {a : Addr} {v1 v2 : V} {t1 t2 : Tm} (h : Tk B0 B F a v1 v2 t1 t2) (ex : Ex F F') : Tk B0 B F' a v1 v2 t1 t2 := ⟨h.ex, h.tu, h.p1.mono ex, h.p2.mono ex, h.ne, h.n1, h.n2⟩
section
variable {X : Cx} {W : WX} {Δ Δ1 Δ2 : En} {a : Addr} {v1 v2 : V} {t1 t2 : Tm} {e c : Expr} {i : Nat} {n : Str} {pos p apos cpos spos p2 : Pos} {rest body : List Stmt} {o : Out} {s : Sl} {x : PyData}
/-- all that may change is held apart -/
theorem tm_apart {K : Frag} {B F H : Hp} {σ : St} {v : V} {t : Tm} (ok : Ok K B F H σ Δ) (h : TmOk B F H σ Δ v t) : ∃ B', Ok K B' F H σ Δ ∧ Ex B B' ∧ TmB B' F v t ∧ (∀ b, t.isL = true → v = .ref b → B b = none) ∧ ∀ q, B' q ≠ none → B q ≠ none ∨ (v = .ref q ∧ t.isL = true) := by
  cases t with
  | d x => exact ⟨B, ok, .refl _, h, (fun b z => nomatch z), fun q z => .inl z⟩
  | l xs =>
    obtain ⟨b, vs, rfl, h1, h2, h3, h4, h5⟩ := h
    refine ⟨upd B b (.lst vs), ok.addB h1 h3 h5, .new h2, ⟨b, vs, rfl, upd_same, h4⟩, fun b' _ e => (by cases e; exact h2), fun q z => ?_⟩
    by_cases hq : q = b
    · exact .inr ⟨by rw [hq], rfl⟩
    · rw [upd_ne hq] at z; exact .inl z
theorem tmB_ex {B B' F : Hp} {v : V} {t : Tm} (h : TmB B F v t) (ex : Ex B B') : TmB B' F v t := by
  cases t with
  | d x => exact h
  | l xs =>
    obtain ⟨b, vs, e, h1, h2⟩ := h
    exact ⟨b, vs, e, ex _ _ h1, h2⟩
/-- x = f(..), a tuple made there: it is held apart -/
theorem ds_told (i : Nat) (hN : X.N.Nodup) (h : DEx X Δ e (.nt t1 t2) Δ1) (hr : ∀ a v1 v2, DZ X W a v1 v2 t1 t2 (Δ1.set i (.v (.ref a))) rest o) (hΔ : Δ1[i]? = some s := by rfl) (hs : s.isRef = false := by rfl) (hi : X.N[i]? = some n := by rfl) (hx : Loc X.env.scope n := by first | exact Or.inl rfl | exact Or.inr rfl)
    (hsw : swapsWith e (some (.Name n p)) pos.line X.env = pure false := by rfl) (hf : X.fn n = true ∨ X.env.scope.names.lookup n = some .local := by first | exact .inl rfl | exact .inr rfl | assumption) : DS X W Δ (.Assign [.Name n p] e pos :: rest) o := by
  have all : PSs X rest (fun D σ H => ∃ a v1 v2, tZ X.K W a v1 v2 t1 t2 (Δ1.set i (.v (.ref a))) o D σ H) := ⟨fun pins s σ H D I ⟨a, v1, v2, w⟩ => (hr a v1 v2).run pins s σ H D I w⟩
  refine pss_imp (pss_cons (ps_set hN hi hx h.pe hsw hf) all) fun D σ H ⟨B, F, ok, q⟩ => ⟨B, F, ok, fun v F1 H1 ok1 ex1 ⟨a, w1, w2, ev, f1, f2, f3, f4, f5, f6, f7⟩ => ?_⟩
  subst ev
  obtain ⟨B2, ok2, ex2, d2, m2, n2⟩ := tm_apart ok1 f4
  have f5' : TmOk B2 F1 H1 σ Δ1 w2 t2 := by
    cases t2 with
    | d x => exact f5
    | l xs =>
      obtain ⟨b, vs, rfl, h1, h2, h3, h4, h5⟩ := f5
      refine ⟨b, vs, rfl, h1, ?_, h3, h4, h5⟩
      cases q2 : B2 b with
      | none => rfl
      | some o =>
        rcases n2 b (by rw [q2]; intro z; cases z) with z | ⟨z, zl⟩
        · exact absurd h2 z
        · exact absurd z (f6 zl rfl)
  obtain ⟨B3, ok3, ex3, d3, m3, n3⟩ := tm_apart ok2 f5'
  have ok4 := ok3.addB f1 f3 f7
  have fa : B3 a = none := by
    cases q2 : B3 a with
    | none => rfl
    | some o =>
      have h1 := ok3.bh a o q2
      rw [f3] at h1
      cases h1
      rcases n3 a (by rw [q2]; intro z; cases z) with z | ⟨z, zl⟩
      · rcases n2 a z with z | ⟨z, zl⟩
        · exact absurd f2 z
        · cases t1 with
          | d x => cases zl
          | l xs =>
            obtain ⟨b, vs, e2, _, _, h3, _⟩ := f4
            rw [z] at e2; cases e2
            rw [f3] at h3; cases h3
      · cases t2 with
        | d x => cases zl
        | l xs =>
          obtain ⟨b, vs, e2, _, _, h3, _⟩ := f5
          rw [z] at e2; cases e2
          rw [f3] at h3; cases h3
  have ex4 : Ex B3 (upd B3 a (.tup [w1, w2])) := .new fa
  refine ⟨a, w1, w2, B, _, F1, ⟨(ex2.trans ex3).trans ex4, upd_same, tmB_ex d2 (ex3.trans ex4), tmB_ex d3 ex4, f6, m2, fun b hl e => ?_⟩, ok4.put (s := .v (.ref a)) rfl (fun z => nomatch z), q.step ex1 ((Kp.refl h.rk).trans (kp_set hΔ hs))⟩
  have := m3 b hl e
  cases q2 : B b with
  | none => rfl
  | some o => rw [ex2 b o q2] at this; cases this
theorem sl_nomut {K : Frag} {B B' F F' H H' : Hp} {u : Option V} (h : SlOk K B F H u s) (hm : s.mut = false) (ex : Ex F F') : SlOk K B' F' H' u s := by
  cases s with
  | no => trivial
  | d x =>
    obtain ⟨v, rfl, r⟩ := (show ∃ v, u = some v ∧ Dq F v x from h)
    exact ⟨v, rfl, r.mono ex⟩
  | own xs => cases hm
  | ref xs => cases hm
  | sc ns =>
    obtain ⟨a, rfl, r⟩ := (show ∃ a, u = some (.ref a) ∧ SqL K F a (ns.map V.int) from h)
    refine ⟨a, rfl, ?_⟩
    rcases r with (r | ⟨u, r⟩) | r
    · exact .inl (.inl (ex _ _ r))
    · exact .inl (.inr ⟨u, ex _ _ r⟩)
    · exact .inr r
  | v w => exact h
/-- a test of it, that fails -/
theorem dz_if {k : Bool} (i : Nat) (hc : DTx X (Δ.set i (.d (.tuple [t1.dt, t2.dt]))) c k (Δ.set i (.d (.tuple [t1.dt, t2.dt])))) (hk : k = false) (hi : Δ[i]? = some (.v (.ref a))) (hm : Δ.all (fun s => !s.mut) = true) (hr : DZ X W a v1 v2 t1 t2 Δ rest o) : DZ X W a v1 v2 t1 t2 Δ (.If c body [] pos :: rest) o := by
  subst hk
  refine pss_imp (pss_cons (ps_if hc.pt pss_never pss_nil) hr) fun D σ H ⟨B0, B, F, tk, ok, q⟩ => ?_
  -- the part that is frozen for the test
  obtain ⟨T, hT⟩ : ∃ T : Addr → Prop, ∀ q, T q ↔ (q = a ∨ (t1.isL = true ∧ v1 = .ref q) ∨ (t2.isL = true ∧ v2 = .ref q)) := ⟨_, fun q => Iff.rfl⟩
  have bT : ∀ q, T q → B q ≠ none := fun q h => by
    rcases (hT q).mp h with rfl | ⟨h1, h2⟩ | ⟨h1, h2⟩
    · rw [tk.tu]; intro z; cases z
    · cases t1 with
      | d x => cases h1
      | l xs =>
        obtain ⟨b, vs, e, g1, g2⟩ := tk.p1
        rw [h2] at e; cases e
        rw [g1]; intro z; cases z
    · cases t2 with
      | d x => cases h1
      | l xs =>
        obtain ⟨b, vs, e, g1, g2⟩ := tk.p2
        rw [h2] at e; cases e
        rw [g1]; intro z; cases z
  have fT : ∀ q, T q → F q = none := fun q h => ok.bf q (bT q h)
  obtain ⟨B1, hB1, hB2⟩ : ∃ B1 : Hp, (∀ q, T q → B1 q = none) ∧ ∀ q, ¬ T q → B1 q = B q := by
    classical
    exact ⟨fun q => if T q then none else B q, fun q h => if_pos h, fun q h => if_neg h⟩
  obtain ⟨F1, hF1, hF2⟩ : ∃ F1 : Hp, (∀ q, T q → F1 q = B q) ∧ ∀ q, ¬ T q → F1 q = F q := by
    classical
    exact ⟨fun q => if T q then B q else F q, fun q h => if_pos h, fun q h => if_neg h⟩
  have nomut : ∀ (k : Nat) (s : Sl), Δ[k]? = some s → s.mut = false := fun k s e => by
    have := List.all_eq_true.mp hm s (List.mem_of_getElem? e)
    cases h : s.mut with
    | false => rfl
    | true => rw [h] at this; cases this
  have exF : Ex F F1 := fun q o e => by
    by_cases h : T q
    · rw [fT q h] at e; cases e
    · rw [hF2 q h]; exact e
  have part : ∀ {v : V} {t : Tm}, TmB B F v t → (∀ q, t.isL = true → v = .ref q → T q) → Dq F1 v t.dt := fun {v t} h hq => by
    cases t with
    | d x => exact Dq.mono exF h
    | l xs =>
      obtain ⟨b, vs, rfl, h1, h2⟩ := h
      exact .list (by rw [hF1 b (hq b rfl rfl)]; exact h1) (h2.mono exF)
  obtain ⟨o1, ho1, ho2⟩ := ok.sl i _ hi
  have ho2 : o1 = some (.ref a) := ho2
  subst ho2
  have ok1 : Ok X.K B1 F1 H σ (Δ.set i (.d (.tuple [t1.dt, t2.dt]))) := by
    refine ⟨fun q o e => ?_, fun q o e => ?_, fun q hb => ?_, by simp [ok.len], fun j s ej => ?_, fun j k s t b e1 e2 m1 m2 r1 r2 => ?_⟩
    · by_cases h : T q
      · rw [hF1 q h] at e; exact ok.bh q o e
      · rw [hF2 q h] at e; exact ok.fh q o e
    · by_cases h : T q
      · rw [hB1 q h] at e; cases e
      · rw [hB2 q h] at e; exact ok.bh q o e
    · by_cases h : T q
      · exact absurd (hB1 q h) hb
      · rw [hB2 q h] at hb
        rw [hF2 q h]; exact ok.bf q hb
    · by_cases hj : j = i
      · subst hj
        have hl : j < Δ.length := (List.getElem?_eq_some_iff.mp hi).1
        rw [List.getElem?_set_self hl] at ej
        cases ej
        exact ⟨_, ho1, _, rfl, .tuple (by rw [hF1 a ((hT a).mpr (.inl rfl))]; exact tk.tu) (.cons (part tk.p1 fun q h1 h2 => (hT q).mpr (.inr (.inl ⟨h1, h2⟩))) (.cons (part tk.p2 fun q h1 h2 => (hT q).mpr (.inr (.inr ⟨h1, h2⟩))) .nil))⟩
      · rw [List.getElem?_set_ne (Ne.symm hj)] at ej
        obtain ⟨u, g1, g2⟩ := ok.sl j s ej
        exact ⟨u, g1, sl_nomut g2 (nomut j s ej) exF⟩
    · by_cases hj : j = i
      · subst hj
        have hl : j < Δ.length := (List.getElem?_eq_some_iff.mp hi).1
        rw [List.getElem?_set_self hl] at e1
        cases e1
        cases m1
      · rw [List.getElem?_set_ne (Ne.symm hj)] at e1
        rw [nomut j s e1] at m1; cases m1
  refine ⟨B1, F1, ok1, fun F' H' ok' ex => iteF ⟨B0, B, F, tk, ?_, q⟩⟩
  refine ⟨fun q o e => ok'.fh q o (ex q o (exF q o e)), fun q o e => ?_, ok.bf, ok.len, fun j s ej => ?_, ok.nd⟩
  · by_cases h : T q
    · exact ok'.fh q o (ex q o (by rw [hF1 q h]; exact e))
    · exact ok'.bh q o (by rw [hB2 q h]; exact e)
  · obtain ⟨u, g1, g2⟩ := ok.sl j s ej
    exact ⟨u, g1, g2.keep (.refl _) fun m => by rw [nomut j s ej] at m; cases m⟩
/-- told no more -/
theorem dz_out (i : Nat) (hi : Δ[i]? = some (.v (.ref a))) (hr : DS X W (Δ.set i .no) rest o) : DZ X W a v1 v2 t1 t2 Δ rest o := pss_imp hr fun D σ H ⟨B0, B, F, tk, ok, q⟩ => ⟨B0, F, (ok.weakB tk.ex).forget, q.step (.refl _) (.refl (rk_set hi rfl))⟩
/-- a change of a list that is held apart -/
theorem ok_chg {K : Frag} {B F H : Hp} {σ : St} {b : Addr} {vs us : List V} (ok : Ok K B F H σ Δ) (hb : B b = some (.lst vs)) : Ok K (upd B b (.lst us)) F (upd H b (.lst us)) σ Δ := by
  have fb : F b = none := ok.bf b (by rw [hb]; intro z; cases z)
  have nm := ok.notB (p := b) (by rw [hb]; intro z; cases z)
  refine ⟨fun q o e => ?_, fun q o e => ?_, fun q hq => ?_, ok.len, fun j s ej => ?_, ok.nd⟩
  · have : q ≠ b := fun z => by subst z; rw [fb] at e; cases e
    rw [upd_ne this]; exact ok.fh q o e
  · by_cases h : q = b
    · subst h; rw [upd_same] at e ⊢; exact e
    · rw [upd_ne h] at e ⊢; exact ok.bh q o e
  · by_cases h : q = b
    · subst h; exact fb
    · rw [upd_ne h] at hq; exact ok.bf q hq
  · obtain ⟨u, g1, g2⟩ := ok.sl j s ej
    refine ⟨u, g1, ?_⟩
    have key : ∀ {xs : List PyData}, s.mut = true → MutL B F H u xs → MutL (upd B b (.lst us)) F (upd H b (.lst us)) u xs := fun {xs} hm ⟨q, ws, e, h1, h2, h3, h4⟩ => by
      have hq : q ≠ b := fun z => by subst z; rw [hb] at h2; cases h2
      exact ⟨q, ws, e, h1, by rw [upd_ne hq]; exact h2, by rw [upd_ne hq]; exact h3, h4⟩
    cases s with
    | no => trivial
    | d x => exact g2
    | own xs => exact key rfl g2
    | ref xs => exact key rfl g2
    | sc ns => exact g2
    | v w => exact g2
theorem tmB_chg {B F : Hp} {b : Addr} {us vs : List V} {v : V} {t : Tm} (h : TmB B F v t) (hn : t.isL = true → v ≠ .ref b) : TmB (upd B b (.lst us)) F v t := by
  cases t with
  | d x => exact h
  | l xs =>
    obtain ⟨q, ws, e, h1, h2⟩ := h
    exact ⟨q, ws, e, by rw [upd_ne (fun z => hn rfl (by rw [e, z]))]; exact h1, h2⟩
theorem tk_chg1 {B0 B F : Hp} {b : Addr} {vs us : List V} {xs ys : List PyData} (tk : Tk B0 B F a (.ref b) v2 (.l xs) t2) (hb : B b = some (.lst vs)) (hu : DqA F us ys) : Tk B0 (upd B b (.lst us)) F a (.ref b) v2 (.l ys) t2 := by
  have n := tk.n1 b rfl rfl
  have ha : a ≠ b := fun z => by subst z; rw [tk.tu] at hb; cases hb
  refine ⟨fun q o e => ?_, by rw [upd_ne ha]; exact tk.tu, ⟨b, us, rfl, upd_same, hu⟩, tmB_chg (vs := vs) tk.p2 fun h z => tk.ne rfl h z.symm, tk.ne, tk.n1, tk.n2⟩
  have : q ≠ b := fun z => by subst z; rw [n] at e; cases e
  rw [upd_ne this]; exact tk.ex q o e
theorem tk_chg2 {B0 B F : Hp} {b : Addr} {vs us : List V} {xs ys : List PyData} (tk : Tk B0 B F a v1 (.ref b) t1 (.l xs)) (hb : B b = some (.lst vs)) (hu : DqA F us ys) : Tk B0 (upd B b (.lst us)) F a v1 (.ref b) t1 (.l ys) := by
  have n := tk.n2 b rfl rfl
  have ha : a ≠ b := fun z => by subst z; rw [tk.tu] at hb; cases hb
  refine ⟨fun q o e => ?_, by rw [upd_ne ha]; exact tk.tu, tmB_chg (vs := vs) tk.p1 fun h z => tk.ne h rfl z, ⟨b, us, rfl, upd_same, hu⟩, tk.ne, tk.n1, tk.n2⟩
  have : q ≠ b := fun z => by subst z; rw [n] at e; cases e
  rw [upd_ne this]; exact tk.ex q o e
/-- x[0].clear() -/
theorem dz_clear1 {xs : List PyData} {kk : Nat} {p3 : Pos} (i : Nat) (hi : Δ[i]? = some (.v (.ref a))) (hr : DZ X W a v1 v2 (.l []) t2 Δ rest o) (hN : X.N[i]? = some n := by rfl) (hv : Vis X.env.scope n := by first | exact Or.inl rfl | exact Or.inr (Or.inl rfl) | exact Or.inr (Or.inr rfl)) (hd : (n == ("__debug__" : Str)) = false := by decide) (hcd : (n == ("__classdict__" : Str)) = false := by decide)
    (hs : PlainIx (.Constant (.int 0) kk p3) := by exact fun _ _ => rfl) (hbase : attributeBase (.Subscript (.Name n p) (.Constant (.int 0) kk p3) p2) "clear" X.env (eval (.Subscript (.Name n p) (.Constant (.int 0) kk p3) p2) X.env) = eval (.Subscript (.Name n p) (.Constant (.int 0) kk p3) p2) X.env := by rfl) (hline : (apos.endLine == cpos.line) = true := by rfl)
    (hsw : swapsWith (.Call (.Attribute (.Subscript (.Name n p) (.Constant (.int 0) kk p3) p2) "clear" apos) [] [] cpos) none spos.line X.env = pure false := by rfl) :
    DZ X W a v1 v2 (.l xs) t2 Δ (.Expr (.Call (.Attribute (.Subscript (.Name n p) (.Constant (.int 0) kk p3) p2) "clear" apos) [] [] cpos) spos :: rest) o := by
  refine pss_imp (pss_cons (ps_expr (pe_bm0 PySem.F.plainAttrs_list PySem.F.slot_list_clear PySem.F.type_list_clear mt_clear (pe_ix ix_tup (pe_var hN hv hd hcd) pe_int hs) hbase hline) hsw) hr) fun D σ H ⟨B0, B, F, tk, ok, q⟩ => ?_
  obtain ⟨o1, ho1, ho2⟩ := ok.sl i _ hi
  have ho2 : o1 = some (.ref a) := ho2
  subst ho2
  obtain ⟨b, vs, rfl, g1, g2⟩ := tk.p1
  have hH := ok.bh b _ g1
  refine ⟨.ref a, ho1, a, [V.ref b, v2], 0, .ref b, rfl, rfl, SqT.of (ok.bh a _ tk.tu), rfl, Or.inl ⟨rfl, _, Or.inl (Or.inl hH)⟩, b, vs, rfl, rfl, hH, ?_⟩
  exact ⟨B0, _, F, tk_chg1 tk g1 .nil, ok_chg ok g1, q⟩
/-- x[0].append(e) -/
theorem dz_app1 {xs : List PyData} {kk : Nat} {p3 : Pos} (i : Nat) (hi : Δ[i]? = some (.v (.ref a))) (h : DEx X Δ e (.d x) Δ) (hr : DZ X W a v1 v2 (.l (xs ++ [x])) t2 Δ rest o) (hl : xs.length < 1000000) (hm : Δ.all (fun s => !s.mut) = true := by rfl) (hN : X.N[i]? = some n := by rfl) (hv : Vis X.env.scope n := by first | exact Or.inl rfl | exact Or.inr (Or.inl rfl) | exact Or.inr (Or.inr rfl)) (hd : (n == ("__debug__" : Str)) = false := by decide) (hcd : (n == ("__classdict__" : Str)) = false := by decide)
    (hs : PlainIx (.Constant (.int 0) kk p3) := by exact fun _ _ => rfl) (hbase : attributeBase (.Subscript (.Name n p) (.Constant (.int 0) kk p3) p2) "append" X.env (eval (.Subscript (.Name n p) (.Constant (.int 0) kk p3) p2) X.env) = eval (.Subscript (.Name n p) (.Constant (.int 0) kk p3) p2) X.env := by rfl)
    (hfew : ((backTo cpos (starEach [e] X.env)).all (fun x => !x.1) && (backToKw cpos (keywordEach [] X.env)).all (fun x => x.1.isSome)
      && decide ([e].length + ([] : List Keyword).length + (if ([] : List Keyword).isEmpty then 0 else 1) < 30)) = true := by rfl)
    (hline : (apos.endLine == cpos.line) = true := by rfl) (hse : starEach [e] X.env = (false, eval e X.env) :: starEach [] X.env := by rfl) (hplain : (backTo cpos (starEach [] X.env)).any (·.1) = false := by rfl)
    (hsw : swapsWith (.Call (.Attribute (.Subscript (.Name n p) (.Constant (.int 0) kk p3) p2) "append" apos) [e] [] cpos) none spos.line X.env = pure false := by rfl) :
    DZ X W a v1 v2 (.l xs) t2 Δ (.Expr (.Call (.Attribute (.Subscript (.Name n p) (.Constant (.int 0) kk p3) p2) "append" apos) [e] [] cpos) spos :: rest) o := by
  refine pss_imp (pss_cons (ps_expr (pe_bm PySem.F.plainAttrs_list PySem.F.slot_list_append PySem.F.type_list_append mt_append (pe_ix ix_tup (pe_var hN hv hd hcd) pe_int hs) (pa_cons h.pe pa_nil hse) hbase hfew hline hse hplain) hsw) hr) fun D σ H ⟨B0, B, F, tk, ok, q⟩ => ?_
  obtain ⟨o1, ho1, ho2⟩ := ok.sl i _ hi
  have ho2 : o1 = some (.ref a) := ho2
  subst ho2
  obtain ⟨b, vs, rfl, g1, g2⟩ := tk.p1
  have hH := ok.bh b _ g1
  refine ⟨.ref a, ho1, a, [V.ref b, v2], 0, .ref b, rfl, rfl, SqT.of (ok.bh a _ tk.tu), rfl, Or.inl ⟨rfl, _, Or.inl (Or.inl hH)⟩, B, F, ok, fun y F1 H1 ok1 ex1 hy => ?_⟩
  have hH1 := ok1.bh b _ g1
  refine ⟨b, vs, y, rfl, rfl, hH1, by rw [g2.length, sizeLine_eq]; omega, ?_⟩
  exact ⟨B0, _, F1, tk_chg1 (tk.mono ex1) g1 (pr_app (DqA.mono ex1 g2) (.cons hy .nil)), ok_chg ok1 g1, q.step ex1 (.refl .rfl)⟩
/-- x[1].clear() -/
theorem dz_clear2 {xs : List PyData} {kk : Nat} {p3 : Pos} (i : Nat) (hi : Δ[i]? = some (.v (.ref a))) (hr : DZ X W a v1 v2 t1 (.l []) Δ rest o) (hN : X.N[i]? = some n := by rfl) (hv : Vis X.env.scope n := by first | exact Or.inl rfl | exact Or.inr (Or.inl rfl) | exact Or.inr (Or.inr rfl)) (hd : (n == ("__debug__" : Str)) = false := by decide) (hcd : (n == ("__classdict__" : Str)) = false := by decide)
    (hs : PlainIx (.Constant (.int 1) kk p3) := by exact fun _ _ => rfl) (hbase : attributeBase (.Subscript (.Name n p) (.Constant (.int 1) kk p3) p2) "clear" X.env (eval (.Subscript (.Name n p) (.Constant (.int 1) kk p3) p2) X.env) = eval (.Subscript (.Name n p) (.Constant (.int 1) kk p3) p2) X.env := by rfl) (hline : (apos.endLine == cpos.line) = true := by rfl)
    (hsw : swapsWith (.Call (.Attribute (.Subscript (.Name n p) (.Constant (.int 1) kk p3) p2) "clear" apos) [] [] cpos) none spos.line X.env = pure false := by rfl) :
    DZ X W a v1 v2 t1 (.l xs) Δ (.Expr (.Call (.Attribute (.Subscript (.Name n p) (.Constant (.int 1) kk p3) p2) "clear" apos) [] [] cpos) spos :: rest) o := by
  refine pss_imp (pss_cons (ps_expr (pe_bm0 PySem.F.plainAttrs_list PySem.F.slot_list_clear PySem.F.type_list_clear mt_clear (pe_ix ix_tup (pe_var hN hv hd hcd) pe_int hs) hbase hline) hsw) hr) fun D σ H ⟨B0, B, F, tk, ok, q⟩ => ?_
  obtain ⟨o1, ho1, ho2⟩ := ok.sl i _ hi
  have ho2 : o1 = some (.ref a) := ho2
  subst ho2
  obtain ⟨b, vs, rfl, g1, g2⟩ := tk.p2
  have hH := ok.bh b _ g1
  refine ⟨.ref a, ho1, a, [v1, V.ref b], 1, .ref b, rfl, rfl, SqT.of (ok.bh a _ tk.tu), rfl, Or.inl ⟨rfl, _, Or.inl (Or.inl hH)⟩, b, vs, rfl, rfl, hH, ?_⟩
  exact ⟨B0, _, F, tk_chg2 tk g1 .nil, ok_chg ok g1, q⟩
/-- x[1].append(e) -/
theorem dz_app2 {xs : List PyData} {kk : Nat} {p3 : Pos} (i : Nat) (hi : Δ[i]? = some (.v (.ref a))) (h : DEx X Δ e (.d x) Δ) (hr : DZ X W a v1 v2 t1 (.l (xs ++ [x])) Δ rest o) (hl : xs.length < 1000000) (hm : Δ.all (fun s => !s.mut) = true := by rfl) (hN : X.N[i]? = some n := by rfl) (hv : Vis X.env.scope n := by first | exact Or.inl rfl | exact Or.inr (Or.inl rfl) | exact Or.inr (Or.inr rfl)) (hd : (n == ("__debug__" : Str)) = false := by decide) (hcd : (n == ("__classdict__" : Str)) = false := by decide)
    (hs : PlainIx (.Constant (.int 1) kk p3) := by exact fun _ _ => rfl) (hbase : attributeBase (.Subscript (.Name n p) (.Constant (.int 1) kk p3) p2) "append" X.env (eval (.Subscript (.Name n p) (.Constant (.int 1) kk p3) p2) X.env) = eval (.Subscript (.Name n p) (.Constant (.int 1) kk p3) p2) X.env := by rfl)
    (hfew : ((backTo cpos (starEach [e] X.env)).all (fun x => !x.1) && (backToKw cpos (keywordEach [] X.env)).all (fun x => x.1.isSome)
      && decide ([e].length + ([] : List Keyword).length + (if ([] : List Keyword).isEmpty then 0 else 1) < 30)) = true := by rfl)
    (hline : (apos.endLine == cpos.line) = true := by rfl) (hse : starEach [e] X.env = (false, eval e X.env) :: starEach [] X.env := by rfl) (hplain : (backTo cpos (starEach [] X.env)).any (·.1) = false := by rfl)
    (hsw : swapsWith (.Call (.Attribute (.Subscript (.Name n p) (.Constant (.int 1) kk p3) p2) "append" apos) [e] [] cpos) none spos.line X.env = pure false := by rfl) :
    DZ X W a v1 v2 t1 (.l xs) Δ (.Expr (.Call (.Attribute (.Subscript (.Name n p) (.Constant (.int 1) kk p3) p2) "append" apos) [e] [] cpos) spos :: rest) o := by
  refine pss_imp (pss_cons (ps_expr (pe_bm PySem.F.plainAttrs_list PySem.F.slot_list_append PySem.F.type_list_append mt_append (pe_ix ix_tup (pe_var hN hv hd hcd) pe_int hs) (pa_cons h.pe pa_nil hse) hbase hfew hline hse hplain) hsw) hr) fun D σ H ⟨B0, B, F, tk, ok, q⟩ => ?_
  obtain ⟨o1, ho1, ho2⟩ := ok.sl i _ hi
  have ho2 : o1 = some (.ref a) := ho2
  subst ho2
  obtain ⟨b, vs, rfl, g1, g2⟩ := tk.p2
  have hH := ok.bh b _ g1
  refine ⟨.ref a, ho1, a, [v1, V.ref b], 1, .ref b, rfl, rfl, SqT.of (ok.bh a _ tk.tu), rfl, Or.inl ⟨rfl, _, Or.inl (Or.inl hH)⟩, B, F, ok, fun y F1 H1 ok1 ex1 hy => ?_⟩
  have hH1 := ok1.bh b _ g1
  refine ⟨b, vs, y, rfl, rfl, hH1, by rw [g2.length, sizeLine_eq]; omega, ?_⟩
  exact ⟨B0, _, F1, tk_chg2 (tk.mono ex1) g1 (pr_app (DqA.mono ex1 g2) (.cons hy .nil)), ok_chg ok1 g1, q.step ex1 (.refl .rfl)⟩
/-! for all contexts the same -/
section
variable {ι : Type} {XS : ι → Cx} {WS : ι → WX} {P : Out → Prop} {st : Stmt} {t1' t2' : Tm}
def GoZ (XS : ι → Cx) (WS : ι → WX) (t1 t2 : Tm) (i : Nat) (Δ : En) (sts : List Stmt) (P : Out → Prop) : Prop := ∃ o, P o ∧ ∀ q a v1 v2, DZ (XS q) (WS q) a v1 v2 t1 t2 (Δ.set i (.v (.ref a))) sts o
theorem go_told (i : Nat) (h : ∀ q rest o, (∀ a v1 v2, DZ (XS q) (WS q) a v1 v2 t1 t2 (Δ1.set i (.v (.ref a))) rest o) → DS (XS q) (WS q) Δ (st :: rest) o) (hr : GoZ XS WS t1 t2 i Δ1 rest P) : Go XS WS Δ (st :: rest) P := let ⟨o, hp, k⟩ := hr; ⟨o, hp, fun q => h q rest o (k q)⟩
theorem gz_if {k : Bool} (i : Nat) {Δd : En} (hc : ∀ q, DTx (XS q) Δd c k Δd) (hk : k = false) (hd : Δ.set i (.d (.tuple [t1.dt, t2.dt])) = Δd := by rfl) (hl0 : decide (i < Δ.length) = true := by rfl) (hm : (Δ.set i .no).all (fun s => !s.mut) = true := by rfl) (hr : GoZ XS WS t1 t2 i Δ rest P) : GoZ XS WS t1 t2 i Δ (.If c body [] pos :: rest) P := by
  obtain ⟨o, hp, h⟩ := hr
  have hl := of_decide_eq_true hl0
  subst hd
  refine ⟨o, hp, fun q a v1 v2 => dz_if i (by rw [List.set_set]; exact hc q) hk (List.getElem?_set_self hl) ?_ (h q a v1 v2)⟩
  rw [List.all_eq_true] at hm ⊢
  intro s hs
  rcases List.mem_or_eq_of_mem_set hs with z | z
  · obtain ⟨j, hj⟩ := List.mem_iff_getElem?.mp hs
    by_cases e : j = i
    · subst e
      rw [List.getElem?_set_self hl] at hj
      cases hj
      rfl
    · rw [List.getElem?_set_ne (Ne.symm e)] at hj
      exact hm s (List.mem_iff_getElem?.mpr ⟨j, by rw [List.getElem?_set_ne (Ne.symm e)]; exact hj⟩)
  · subst z
    rfl
theorem gz_step (i : Nat) (h : ∀ q a v1 v2 rest o, DZ (XS q) (WS q) a v1 v2 t1' t2' (Δ.set i (.v (.ref a))) rest o → DZ (XS q) (WS q) a v1 v2 t1 t2 (Δ.set i (.v (.ref a))) (st :: rest) o) (hr : GoZ XS WS t1' t2' i Δ rest P) : GoZ XS WS t1 t2 i Δ (st :: rest) P := let ⟨o, hp, k⟩ := hr; ⟨o, hp, fun q a v1 v2 => h q a v1 v2 rest o (k q a v1 v2)⟩
theorem gz_out (i : Nat) (hr : Go XS WS (Δ.set i .no) rest P) (hl0 : decide (i < Δ.length) = true := by rfl) : GoZ XS WS t1 t2 i Δ rest P := let ⟨o, hp, k⟩ := hr; ⟨o, hp, fun q a v1 v2 => dz_out i (List.getElem?_set_self (of_decide_eq_true hl0)) (by rw [List.set_set]; exact k q)⟩
end
end
end Tr
namespace Tr
open PySem L2
/-! ### data that may be compared -/
def Sh (n : Nat) (x : PyData) : Prop := x.canLay0 = true ∧ x.depth ≤ n
theorem Sh.shp {n : Nat} {x : PyData} (h : Sh n x) (hn : n ≤ 64) : shp x := by
  show (x.canLay0 && decide (x.depth ≤ 64)) = true
  rw [Bool.and_eq_true]
  exact ⟨h.1, decide_eq_true (Nat.le_trans h.2 hn)⟩
theorem Sh.mono {n m : Nat} {x : PyData} (h : Sh n x) (hn : n ≤ m) : Sh m x := ⟨h.1, Nat.le_trans h.2 hn⟩
theorem Sh.int (i : Int) {n : Nat} : Sh n (.int i) := ⟨by simp [PyData.canLay0], by rw [depth_int]; omega⟩
theorem Sh.str {s : Str} {n : Nat} (h : PyData.strOk s = true) : Sh n (.str s) := ⟨by simp [PyData.canLay0, h], by rw [depth_str]; omega⟩
theorem lays_of : ∀ {xs : List PyData}, (∀ x ∈ xs, x.canLay0 = true) → PyData.canLayAll0 xs = true
  | [], _ => by simp [PyData.canLayAll0]
  | x :: xs, h => by
    have h1 := h x (by simp)
    have h2 := lays_of fun y hy => h y (List.mem_cons_of_mem _ hy)
    simp [PyData.canLayAll0, h1, h2]
theorem Sh.list {n : Nat} {xs : List PyData} (h : ∀ x ∈ xs, Sh n x) : Sh (n + 1) (.list xs) := ⟨by rw [PyData.canLay0]; exact lays_of fun x hx => (h x hx).1, depth_lst fun x hx => (h x hx).2⟩
theorem Sh.tup {n : Nat} {xs : List PyData} (h : ∀ x ∈ xs, Sh n x) : Sh (n + 1) (.tuple xs) := ⟨by rw [PyData.canLay0]; exact lays_of fun x hx => (h x hx).1, depth_tup fun x hx => (h x hx).2⟩
theorem Sh.tup1 {n : Nat} {x : PyData} (h : Sh n x) : Sh (n + 1) (.tuple [x]) := .tup fun z hz => by
  simp only [List.mem_cons, List.not_mem_nil, or_false] at hz
  rw [hz]; exact h
theorem Sh.tup2 {n : Nat} {x y : PyData} (h : Sh n x) (k : Sh n y) : Sh (n + 1) (.tuple [x, y]) := .tup fun z hz => by
  simp only [List.mem_cons, List.not_mem_nil, or_false] at hz
  rcases hz with rfl | rfl
  · exact h
  · exact k
theorem Sh.tup3 {n : Nat} {x y u : PyData} (h : Sh n x) (k : Sh n y) (l : Sh n u) : Sh (n + 1) (.tuple [x, y, u]) := .tup fun z hz => by
  simp only [List.mem_cons, List.not_mem_nil, or_false] at hz
  rcases hz with rfl | rfl | rfl
  · exact h
  · exact k
  · exact l
/-! ### rows -/
abbrev Rw := Str × Option Int
def encR (r : Rw) : PyData := match r.2 with
  | none => .tuple [.str r.1]
  | some n => .tuple [.str r.1, .int n]
def wordL : List Str := ["num", "arg", "add", "sub", "less", "sure", "keep", "drop", "unless", "skip", "call", "jump", "back"]
def numW : List Str := ["num", "arg", "unless", "skip", "call", "jump"]
def wfR (r : Rw) : Prop := r.1 ∈ wordL ∧ r.2.isSome = decide (r.1 ∈ numW)
theorem word_ok : ∀ w ∈ wordL, PyData.strOk w = true := by decide +kernel
theorem encR_cons (r : Rw) : ∃ fs, encR r = .tuple (.str r.1 :: fs) := by
  obtain ⟨w, n⟩ := r
  cases n with
  | none => exact ⟨_, rfl⟩
  | some n => exact ⟨_, rfl⟩
theorem sh_row {r : Rw} (h : wfR r) : Sh 1 (encR r) := by
  obtain ⟨w, n⟩ := r
  have hw := word_ok w h.1
  cases n with
  | none => exact .tup1 (.str hw)
  | some n => exact .tup2 (.str hw) (.int n)
theorem sh_rows {rs : List Rw} (h : ∀ r ∈ rs, wfR r) : Sh 2 (.list (rs.map encR)) := .list fun x hx => by
  obtain ⟨r, hr, rfl⟩ := List.mem_map.mp hx
  exact sh_row (h r hr)
/-! starts -/
abbrev Sp2 := Int × Int
def encS (s : Sp2) : PyData := .tuple [.int s.1, .int s.2]
theorem sh_starts (ss : List Sp2) : Sh 2 (.list (ss.map encS)) := .list fun x hx => by
  obtain ⟨r, hr, rfl⟩ := List.mem_map.mp hx
  exact .tup2 (.int _) (.int _)
/-! turned -/
def isLast (rs : List Rw) (k : Nat) : Bool := match rs[k]? with
  | some r => r.1 == "call" && (match rs[k + 1]? with
    | some s => s.1 == "back"
    | none => false)
  | none => false
def turnL (rs : List Rw) : List Rw := rs.mapIdx fun k r => if isLast rs k then (("jump" : Str), r.2) else r
theorem turnL_len (rs : List Rw) : (turnL rs).length = rs.length := by simp [turnL]
theorem turnL_get {rs : List Rw} {k : Nat} {r : Rw} (h : rs[k]? = some r) : (turnL rs)[k]? = some (if isLast rs k then (("jump" : Str), r.2) else r) := by
  rw [turnL, List.getElem?_mapIdx, h]; rfl
theorem call_some {r : Rw} (h : wfR r) (hc : r.1 = "call") : ∃ n, r = (("call" : Str), some n) := by
  obtain ⟨w, n⟩ := r
  have hc : w = "call" := hc
  subst hc
  cases n with
  | none => exact absurd h.2 (show ¬ (false = decide (("call" : Str) ∈ numW)) by decide)
  | some n => exact ⟨n, rfl⟩
theorem back_none {r : Rw} (h : wfR r) (hc : r.1 = "back") : r = (("back" : Str), none) := by
  obtain ⟨w, n⟩ := r
  have hc : w = "back" := hc
  subst hc
  cases n with
  | some n => exact absurd h.2 (show ¬ (true = decide (("back" : Str) ∈ numW)) by decide)
  | none => rfl
theorem wf_turn {rs : List Rw} (h : ∀ r ∈ rs, wfR r) : ∀ r ∈ turnL rs, wfR r := fun r hr => by
  obtain ⟨k, hk⟩ := List.mem_iff_getElem?.mp hr
  have hl : k < rs.length := by
    have := (List.getElem?_eq_some_iff.mp hk).1
    rw [turnL_len] at this
    exact this
  have e := List.getElem?_eq_getElem hl
  rw [turnL_get e] at hk
  cases hk
  split
  · rename_i hlst
    have h1 : rs[k].1 = "call" := by
      unfold isLast at hlst
      rw [e] at hlst
      have := (Bool.and_eq_true_iff.mp hlst).1
      exact beq_iff_eq.mp this
    obtain ⟨n, hn⟩ := call_some (h _ (List.getElem_mem hl)) h1
    rw [hn]
    exact ⟨show ("jump" : Str) ∈ wordL by decide, show true = decide (("jump" : Str) ∈ numW) by decide⟩
  · exact h _ (List.getElem_mem hl)
theorem take_sum {α : Type} (f : α → Int) {l : List α} {i : Nat} {x : α} (h : l[i]? = some x) : ((l.take (i + 1)).map f).sum = ((l.take i).map f).sum + f x := by
  rw [List.take_add_one, h]
  simp [List.sum_append]
theorem map_get {α β : Type} {f : α → β} {l : List α} {n : Nat} {d : β} (h : (l.map f)[n]? = some d) : ∃ x, l[n]? = some x ∧ d = f x ∧ x ∈ l := by
  rw [List.getElem?_map] at h
  cases e : l[n]? with
  | none => rw [e] at h; cases h
  | some x =>
    rw [e] at h
    cases h
    exact ⟨x, rfl, rfl, List.mem_of_getElem? e⟩
theorem ixN_lt {n j : Nat} (hj : j < n) : ixN n (j : Int) = some j := by
  unfold ixN
  rw [if_pos (by omega), if_pos (by omega)]
  simp
theorem take_step {α : Type} {l : List α} {n : Nat} {x : α} (h : l[n]? = some x) : l.take n ++ [x] = l.take (n + 1) := by
  rw [List.take_add_one, h]
  rfl
end Tr
namespace Tr
open PySem L2
/-! ### a call that takes lists of ours for good -/
def ownSl (Δ : En) : R → Sl
  | .d x => .d x
  | .nl _ => .no
  | .nt _ _ => .no
  | .sl i => (Δ[i]?).getD .no
/-- no slot is given twice -/
def Once (rs : List R) : Prop := ∀ (q q' i : Nat), rs[q]? = some (R.sl i) → rs[q']? = some (R.sl i) → q = q'
def slOf : Option R → Option Nat
  | some (.sl i) => some i
  | _ => none
theorem onceI {rs : List R} (h : ((List.range rs.length).all fun q => (List.range rs.length).all fun q' => match slOf rs[q]?, slOf rs[q']? with
    | some i, some j => i != j || q == q'
    | _, _ => true) = true) : Once rs := fun q q' i e1 e2 => by
  have hq : q < rs.length := (List.getElem?_eq_some_iff.mp e1).1
  have hq' : q' < rs.length := (List.getElem?_eq_some_iff.mp e2).1
  have h1 := List.all_eq_true.mp h q (List.mem_range.mpr hq)
  have h2 := List.all_eq_true.mp h1 q' (List.mem_range.mpr hq')
  rw [e1, e2] at h2
  simpa [slOf] using h2
def Sl.forget (s : Sl) : Sl := if s.mut then .no else s
section
variable {X : Cx} {W : WX} {Δ Δ1 Δ2 Δp : En} {a b c e : Expr} {es : List Expr} {r r2 : R} {rs : List R} {pos p : Pos} {x y : PyData} {xs ys : List PyData} {i j : Nat} {k : Nat} {S : Spec}
theorem ok_callA {K : Frag} {B F H : Hp} {σ : St} {vs : List V} (ok : Ok K B F H σ Δ) (hv : Paired (Res B F H σ Δ) vs rs) (hd : Once rs) : Ok K B F H (vs.map some) (rs.map (ownSl Δ)) := by
  refine ⟨ok.fh, ok.bh, ok.bf, by rw [List.length_map, List.length_map, hv.length], fun q s e => ?_, fun q q' s t ad e1 e2 m1 m2 r1 r2 => ?_⟩
  · rw [List.getElem?_map] at e
    cases hq : rs[q]? with
    | none => rw [hq] at e; cases e
    | some r =>
      rw [hq] at e
      cases e
      obtain ⟨v, hv1, hv2⟩ := pr_get hv hq
      refine ⟨some v, by rw [List.getElem?_map, hv1]; rfl, ?_⟩
      cases r with
      | d x => exact ⟨v, rfl, hv2⟩
      | nl xs => trivial
      | nt i j => trivial
      | sl i =>
        have hs : σ[i]? = some (some v) := hv2
        show SlOk K B F H (some v) ((Δ[i]?).getD .no)
        cases es : Δ[i]? with
        | none => trivial
        | some s =>
          obtain ⟨o, h1, h2⟩ := ok.sl i s es
          rw [hs] at h1
          cases h1
          exact h2
  · have key : ∀ {q : Nat} {s : Sl}, (rs.map (ownSl Δ))[q]? = some s → s.mut = true → (vs.map some)[q]? = some (some (.ref ad)) → ∃ i, rs[q]? = some (.sl i) ∧ Δ[i]? = some s ∧ σ[i]? = some (some (.ref ad)) := fun {q s} e m rr => by
      rw [List.getElem?_map] at e
      cases hq : rs[q]? with
      | none => rw [hq] at e; cases e
      | some r =>
        rw [hq] at e
        cases e
        obtain ⟨v, hv1, hv2⟩ := pr_get hv hq
        rw [List.getElem?_map, hv1] at rr
        cases rr
        cases r with
        | d x => cases m
        | nl xs => cases m
        | nt i j => cases m
        | sl i =>
          refine ⟨i, rfl, ?_, hv2⟩
          cases es : Δ[i]? with
          | none =>
            have m : ((Δ[i]?).getD .no).mut = true := m
            rw [es] at m; cases m
          | some s =>
            show some s = some ((Δ[i]?).getD .no)
            rw [es]; rfl
    obtain ⟨i, a1, a2, a3⟩ := key e1 m1 r1
    obtain ⟨j, b1, b2, b3⟩ := key e2 m2 r2
    have ij := ok.nd i j s t ad a2 b2 m1 m2 a3 b3
    subst ij
    exact hd q q' i a1 b1
theorem de_callA {x' : Str} (h : Fn X.prog X.w X.K X.mg X.base k x' S) (hr : Room k X.A) (ha : DAx X Δ (e :: es) rs Δ1) (hs : S (rs.map (ownSl Δ1)) (.rt Δp (.d y))) (hd : Once rs) (hnr : Δ1.all (fun s => !s.isRef) = true) (hg : Gl X x' := by rfl)
    (hdb : (x' == ("__debug__" : Str)) = false := by decide) (he : starEach (e :: es) X.env = (false, eval e X.env) :: starEach es X.env := by rfl) (hpl : (backTo pos (starEach es X.env)).any (·.1) = false := by rfl) :
    DEx X Δ (.Call (.Name x' p) (e :: es) [] pos) (.d y) (Δ1.map Sl.forget) := by
  obtain ⟨f, fd, ps, h1, h2, h3, h4⟩ := h
  have noref : ∀ (i : Nat) (xs : List PyData), Δ1[i]? ≠ some (.ref xs) := fun i xs z => by
    have := List.all_eq_true.mp hnr _ (List.mem_of_getElem? z)
    cases this
  refine ⟨ha.rk.trans fun i xs z => absurd z (noref i xs), pe_imp (pe_call h4 hr hg h1 h2 h3 .nil passL ha.pa hdb he hpl) fun σ H Q ⟨B, F, ok, q⟩ => ⟨B, F, ok, fun vs F1 H1 ok1 ex1 hv => ?_⟩⟩
  show spOf X.K S (vs ++ []) H1 Q E0
  rw [List.append_nil]
  refine ⟨_, _, B, F1, hs, ok_callA ok1 hv hd, fun v F2 H2 ok2 ex2 hres => ?_⟩
  refine q v F2 H2 ?_ (ex1.trans ex2) hres
  have get : ∀ {j : Nat} {s : Sl}, (Δ1.map Sl.forget)[j]? = some s → ∃ t, Δ1[j]? = some t ∧ s = t.forget := fun {j s} z => by
    rw [List.getElem?_map] at z
    cases es : Δ1[j]? with
    | none => rw [es] at z; cases z
    | some t => rw [es] at z; cases z; exact ⟨t, rfl, rfl⟩
  have nm : ∀ t : Sl, t.forget.mut = false := fun t => by
    unfold Sl.forget
    cases h : t.mut with
    | true => rfl
    | false => simp [h]
  refine ⟨ok2.fh, ok2.bh, ok2.bf, by rw [List.length_map]; exact ok1.len, fun j s z => ?_, fun j j' s t ad e1 e2 m1 _ _ _ => ?_⟩
  · obtain ⟨t, h5, rfl⟩ := get z
    obtain ⟨u, g1, g2⟩ := ok1.sl j t h5
    refine ⟨u, g1, ?_⟩
    unfold Sl.forget
    cases h : t.mut with
    | true => trivial
    | false => exact g2.keep ex2 fun m => by rw [h] at m; cases m
  · obtain ⟨t, h5, rfl⟩ := get e1
    rw [nm] at m1; cases m1
theorem dt_neq (hu : X.A.units + 64 < cLine) (ha : DEx X Δ a r Δ1) (hb : DEx X Δ1 b r2 Δ2) (l1 : lite r = true) (e1 : rdOf Δ2 r = some x) (e2 : rdOf Δ2 r2 = some x) (h1 : shp x) : DTx X Δ (.Compare a [.NotEq] [b] pos) false Δ2 := by
  have z := dt_ne (pos := pos) hu ha hb l1 e1 e2 h1 h1
  rw [shp_refl h1] at z
  exact z
theorem de_eqq (hu : X.A.units + 64 < cLine) (ha : DEx X Δ a r Δ1) (hb : DEx X Δ1 b r2 Δ2) (l1 : lite r = true) (e1 : rdOf Δ2 r = some x) (e2 : rdOf Δ2 r2 = some x) (h1 : shp x) : DEx X Δ (.Compare a [.Eq] [b] pos) (.d (.bool true)) Δ2 := by
  have z := de_eq (pos := pos) hu ha hb l1 e1 e2 h1 h1
  rw [shp_refl h1] at z
  exact z
/-! x in a tuple of texts -/
theorem bn_inT {u : V} {us : List V} (e1 : flatD x = some u) (e2 : rdOf Δ r2 = some (.tuple xs)) (e3 : flats xs = some us) (h1 : flatV u = true) (h2 : us.all flatV = true) : Bn X.K Δ (.d x) r2 (rIn X.K false) (.d (.bool (inV u us))) := fun B F H σ v w Q ok hv hw q => by
  cases Dq.flat hv e1
  obtain ⟨a, vs, rfl, ha, hd⟩ := rd_tup ok hw e2
  cases DqA.flat hd e3
  exact ⟨a, _, rfl, .inr (SqT.of (ok.fh _ _ ha)), h1, h2, q _ _ _ ok (.refl _) (.bl _)⟩
theorem dt_inT {u : V} {us : List V} (ha : DEx X Δ a (.d x) Δ1) (hb : DEx X Δ1 b r2 Δ2) (hm : behindInMarks .In b = false) (e1 : flatD x = some u) (e2 : rdOf Δ2 r2 = some (.tuple xs)) (e3 : flats xs = some us) (h1 : flatV u = true) (h2 : us.all flatV = true) :
    DTx X Δ (.Compare a [.In] [b] pos) (inV u us) Δ2 := dt_cmp op_in_seq ha hb rfl hm (bn_inT e1 e2 e3 h1 h2)
end
/-! ### places from the end -/
theorem ixN_neg {n j : Nat} (hj : j < n) : ixN n (-((j : Int) + 1)) = some (n - 1 - j) := by
  unfold ixN
  rw [if_neg (by omega), if_pos (by omega)]
  congr 1
  omega
theorem at_end1 {α : Type} {xs : List α} {x : α} : atI (xs ++ [x]) (-1) = some x := by
  unfold atI
  have e : ixN (xs ++ [x]).length (-1) = some xs.length := by
    have := ixN_neg (n := (xs ++ [x]).length) (j := 0) (by simp)
    simpa using this
  rw [e]
  show (xs ++ [x])[xs.length]? = some x
  simp
theorem at_end2 {α : Type} {xs : List α} {x y : α} : atI (xs ++ [y, x]) (-2) = some y := by
  unfold atI
  have e : ixN (xs ++ [y, x]).length (-2) = some xs.length := by
    have := ixN_neg (n := (xs ++ [y, x]).length) (j := 1) (by simp)
    simpa using this
  rw [e]
  show (xs ++ [y, x])[xs.length]? = some y
  simp
theorem sIx_neg (n d k : Nat) (h : 0 < k) : HT.sIx n d (some (-(k : Int))) = n - k := by
  show (if (-(k : Int)) < 0 then ((-(k : Int)) + (n : Int)).toNat else min (-(k : Int)).toNat n) = n - k
  rw [if_pos (by omega)]
  omega
theorem cut_end1 {xs : List PyData} {x : PyData} : cutD (xs ++ [x]) none (some (-1)) = xs := by
  unfold cutD
  have e : HT.sIx (xs ++ [x]).length (xs ++ [x]).length (some (-1)) = xs.length := by
    have := sIx_neg (xs ++ [x]).length (xs ++ [x]).length 1 (by decide)
    simpa using this
  rw [e, HT.sIx_none]
  simp
theorem cut_end2 {xs : List PyData} {x y : PyData} : cutD (xs ++ [y, x]) none (some (-2)) = xs := by
  unfold cutD
  have e : HT.sIx (xs ++ [y, x]).length (xs ++ [y, x]).length (some (-2)) = xs.length := by
    have := sIx_neg (xs ++ [y, x]).length (xs ++ [y, x]).length 2 (by decide)
    simpa using this
  rw [e, HT.sIx_none]
  simp
theorem cut_nil {n : Option Int} {m : Option Int} : cutD [] m n = [] := by
  unfold cutD
  simp
theorem cut_from {xs : List PyData} {l : Nat} : cutD xs (some (l : Int)) none = xs.drop l := by
  unfold cutD
  rw [HT.sIx_nat, HT.sIx_none]
  by_cases h : l ≤ xs.length
  · rw [Nat.min_eq_left h]
    exact List.take_of_length_le (by simp)
  · rw [Nat.min_eq_right (by omega), List.drop_eq_nil_of_le (Nat.le_refl _), List.drop_eq_nil_of_le (by omega)]
    simp
theorem cut_to {xs : List PyData} {l : Nat} : cutD xs none (some (l : Int)) = xs.take l := by
  unfold cutD
  rw [HT.sIx_nat, HT.sIx_none]
  simp only [List.drop_zero, Nat.sub_zero]
  by_cases h : l ≤ xs.length
  · rw [Nat.min_eq_left h]
  · rw [Nat.min_eq_right (by omega), List.take_of_length_le (Nat.le_refl _), List.take_of_length_le (by omega)]
theorem eqv_nil {xs : List PyData} : PyData.eqv (.list xs) (.list []) = xs.isEmpty := by
  cases xs with
  | nil => simp [PyData.eqv, PyData.eqvAll]
  | cons x xs => simp [PyData.eqv, PyData.eqvAll]
theorem snoc_cases {α : Type} (xs : List α) : xs = [] ∨ ∃ ys y, xs = ys ++ [y] := by
  cases h : xs.reverse with
  | nil => exact .inl (by simpa using h)
  | cons y ys => exact .inr ⟨ys.reverse, y, by rw [← List.reverse_reverse xs, h]; simp⟩
end Tr
namespace Tr
open PySem L2
/-! ### the machine -/
abbrev eI (ns : List Int) : List PyData := ns.map PyData.int
abbrev Fr := Int × List Int
def encF (f : Fr) : PyData := .tuple [.int f.1, .list (eI f.2)]
inductive Oc where
  | st (p : Int) (vs : List Int) (fs : List Fr) | stuck | nought | full | value (v : Int)
def Oc.isEnd : Oc → Bool
  | .st _ _ _ => false
  | _ => true
def encO : Oc → PyData
  | .st p vs fs => .tuple [.int p, .list (eI vs), .list (fs.map encF)]
  | .stuck => .tuple [.str "stuck"]
  | .nought => .tuple [.str "nought"]
  | .full => .tuple [.str "full"]
  | .value v => .tuple [.str "value", .int v]
def putT (w : Str) (a b : Int) : Int := if w = "add" then a + b else if w = "sub" then a - b else if a < b then 1 else 0
/-- a row's word and number; the frames: gs and the last one, (b, kn) -/
def takeT (w : Str) (n : Int) (p : Int) (vs : List Int) (gs : List Fr) (b : Int) (kn : List Int) : Oc :=
  if vs = [] ∨ (vs.length = 1 ∧ (w = "add" ∨ w = "sub" ∨ w = "less")) then .stuck
  else if w = "sure" then (if vs.getLastD 0 = 0 then .nought else .st (p + 1) vs (gs ++ [(b, kn)]))
  else if w = "keep" then .st (p + 1) vs.dropLast (gs ++ [(b, kn ++ [vs.getLastD 0])])
  else if w = "unless" then .st (p + 1 + (if vs.getLastD 0 = 0 then n else 0)) vs.dropLast (gs ++ [(b, kn)])
  else .st (p + 1) (vs.dropLast.dropLast ++ [putT w (vs.dropLast.getLastD 0) (vs.getLastD 0)]) (gs ++ [(b, kn)])
def stepT (w : Str) (n : Int) (p : Int) (vs : List Int) (gs : List Fr) (b : Int) (kn : List Int) : Oc :=
  if w = "num" then .st (p + 1) (vs ++ [n]) (gs ++ [(b, kn)])
  else if w = "arg" then (if n < kn.length then .st (p + 1) (vs ++ [kn.getD n.toNat 0]) (gs ++ [(b, kn)]) else .stuck)
  else if w = "skip" then .st (p + 1 + n) vs (gs ++ [(b, kn)])
  else if w = "drop" then (if kn = [] then .stuck else .st (p + 1) vs (gs ++ [(b, kn.dropLast)]))
  else takeT w n p vs gs b kn
def enterT (w : Str) (n : Int) (ss : List Sp2) (most : Int) (p : Int) (vs : List Int) (gs : List Fr) (b : Int) (kn : List Int) : Oc :=
  if ss.length ≤ n ∨ (vs.length : Int) < (ss.getD n.toNat (0, 0)).2 then .stuck
  else if w = "jump" then .st (ss.getD n.toNat (0, 0)).1 (vs.take (vs.length - (ss.getD n.toNat (0, 0)).2.toNat)) (gs ++ [(b, vs.drop (vs.length - (ss.getD n.toNat (0, 0)).2.toNat))])
  else if most ≤ ((gs ++ [(b, kn)]).length : Int) then .full
  else .st (ss.getD n.toNat (0, 0)).1 (vs.take (vs.length - (ss.getD n.toNat (0, 0)).2.toNat)) (gs ++ [(b, kn)] ++ [(p + 1, vs.drop (vs.length - (ss.getD n.toNat (0, 0)).2.toNat))])
def backT (vs : List Int) (gs : List Fr) (b : Int) : Oc :=
  if gs = [] then (if vs = [] then .stuck else .value (vs.getLastD 0)) else .st b vs gs
def stepR (w : Str) (n : Int) (ss : List Sp2) (most : Int) (p : Int) (vs : List Int) (gs : List Fr) (b : Int) (kn : List Int) : Oc :=
  if w = "call" ∨ w = "jump" then enterT w n ss most p vs gs b kn
  else if w = "back" then backT vs gs b
  else stepT w n p vs gs b kn
def rowAt (rs : List Rw) (p : Int) : Rw := rs.getD p.toNat ("back", none)
def stepQ (rs : List Rw) (ss : List Sp2) (most : Int) (p : Int) (vs : List Int) (gs : List Fr) (b : Int) (kn : List Int) : Oc :=
  if 0 ≤ p ∧ p < rs.length then stepR (rowAt rs p).1 ((rowAt rs p).2.getD 0) ss most p vs gs b kn else .stuck
/-- a row whose place is not below nought -/
def wfN (r : Rw) : Prop := wfR r ∧ (r.1 = "arg" ∨ r.1 = "call" ∨ r.1 = "jump" → 0 ≤ r.2.getD 0)
theorem num_some {r : Rw} (h : wfR r) (hn : r.1 ∈ numW) : r = (r.1, some (r.2.getD 0)) := by
  obtain ⟨w, n⟩ := r
  cases n with
  | none =>
    have := h.2
    rw [decide_eq_true hn] at this
    cases this
  | some n => rfl
theorem encR_num {r : Rw} (h : wfR r) (hn : r.1 ∈ numW) : encR r = .tuple [.str r.1, .int (r.2.getD 0)] := by
  rw [num_some h hn]; rfl
/-- the words that take a value -/
def takeW : List Str := ["add", "sub", "less", "sure", "keep", "unless"]
theorem sh_eI {ns : List Int} {n : Nat} : Sh (n + 1) (.list (eI ns)) := .list fun x hx => by
  obtain ⟨i, _, rfl⟩ := List.mem_map.mp hx
  exact .int i
theorem sh_frames (fs : List Fr) : Sh 3 (.list (fs.map encF)) := .list fun x hx => by
  obtain ⟨f, _, rfl⟩ := List.mem_map.mp hx
  exact .tup2 (.int _) sh_eI
theorem sh_O : ∀ o : Oc, Sh 4 (encO o)
  | .st p vs fs => .tup3 (.int _) sh_eI (sh_frames fs)
  | .stuck => .tup1 (.str (by decide +kernel))
  | .nought => .tup1 (.str (by decide +kernel))
  | .full => .tup1 (.str (by decide +kernel))
  | .value v => .tup2 (.str (by decide +kernel)) (.int _)
theorem eI_nil {vs : List Int} : (eI vs).isEmpty = true ↔ vs = [] := by cases vs <;> simp [eI]
theorem last_eI {us : List Int} {x : Int} : eI (us ++ [x]) = eI us ++ [.int x] := by simp [eI]
theorem last_fs {gs : List Fr} {f : Fr} : (gs ++ [f]).map encF = gs.map encF ++ [encF f] := by simp
theorem set_last {α : Type} {xs : List α} {x y : α} : (xs ++ [x]).set xs.length y = xs ++ [y] := by
  rw [List.set_append_right _ _ (Nat.le_refl _), Nat.sub_self]
  rfl
theorem getLastD_snoc {α : Type} {xs : List α} {x d : α} : (xs ++ [x]).getLastD d = x := by simp
theorem step_num {n : Int} {ss : List Sp2} {most : Int} {p : Int} {vs : List Int} {gs : List Fr} {b : Int} {kn : List Int} : stepR "num" n ss most p vs gs b kn = .st (p + 1) (vs ++ [n]) (gs ++ [(b, kn)]) := by rw [stepR, if_neg (by decide), if_neg (by decide), stepT, if_pos rfl]
theorem step_arg {n : Int} {ss : List Sp2} {most : Int} {p : Int} {vs : List Int} {gs : List Fr} {b : Int} {kn : List Int} : stepR "arg" n ss most p vs gs b kn = (if n < kn.length then .st (p + 1) (vs ++ [kn.getD n.toNat 0]) (gs ++ [(b, kn)]) else .stuck) := by rw [stepR, if_neg (by decide), if_neg (by decide), stepT, if_neg (by decide), if_pos rfl]
theorem step_skip {n : Int} {ss : List Sp2} {most : Int} {p : Int} {vs : List Int} {gs : List Fr} {b : Int} {kn : List Int} : stepR "skip" n ss most p vs gs b kn = .st (p + 1 + n) vs (gs ++ [(b, kn)]) := by rw [stepR, if_neg (by decide), if_neg (by decide), stepT, if_neg (by decide), if_neg (by decide), if_pos rfl]
theorem step_drop {n : Int} {ss : List Sp2} {most : Int} {p : Int} {vs : List Int} {gs : List Fr} {b : Int} {kn : List Int} : stepR "drop" n ss most p vs gs b kn = (if kn = [] then .stuck else .st (p + 1) vs (gs ++ [(b, kn.dropLast)])) := by rw [stepR, if_neg (by decide), if_neg (by decide), stepT, if_neg (by decide), if_neg (by decide), if_neg (by decide), if_pos rfl]
theorem step_back {n : Int} {ss : List Sp2} {most : Int} {p : Int} {vs : List Int} {gs : List Fr} {b : Int} {kn : List Int} : stepR "back" n ss most p vs gs b kn = backT vs gs b := by rw [stepR, if_neg (by decide), if_pos rfl]
theorem step_sure {n : Int} {ss : List Sp2} {most : Int} {p : Int} {vs : List Int} {gs : List Fr} {b : Int} {kn : List Int} : stepR "sure" n ss most p vs gs b kn = takeT "sure" n p vs gs b kn := by rw [stepR, if_neg (by decide), if_neg (by decide), stepT, if_neg (by decide), if_neg (by decide), if_neg (by decide), if_neg (by decide)]
theorem take_sure0 {n : Int} {p : Int} {gs : List Fr} {b : Int} {kn : List Int} : takeT "sure" n p [] gs b kn = .stuck := by rw [takeT, if_pos (.inl rfl)]
theorem step_keep {n : Int} {ss : List Sp2} {most : Int} {p : Int} {vs : List Int} {gs : List Fr} {b : Int} {kn : List Int} : stepR "keep" n ss most p vs gs b kn = takeT "keep" n p vs gs b kn := by rw [stepR, if_neg (by decide), if_neg (by decide), stepT, if_neg (by decide), if_neg (by decide), if_neg (by decide), if_neg (by decide)]
theorem take_keep0 {n : Int} {p : Int} {gs : List Fr} {b : Int} {kn : List Int} : takeT "keep" n p [] gs b kn = .stuck := by rw [takeT, if_pos (.inl rfl)]
theorem step_unless {n : Int} {ss : List Sp2} {most : Int} {p : Int} {vs : List Int} {gs : List Fr} {b : Int} {kn : List Int} : stepR "unless" n ss most p vs gs b kn = takeT "unless" n p vs gs b kn := by rw [stepR, if_neg (by decide), if_neg (by decide), stepT, if_neg (by decide), if_neg (by decide), if_neg (by decide), if_neg (by decide)]
theorem take_unless0 {n : Int} {p : Int} {gs : List Fr} {b : Int} {kn : List Int} : takeT "unless" n p [] gs b kn = .stuck := by rw [takeT, if_pos (.inl rfl)]
theorem step_add {n : Int} {ss : List Sp2} {most : Int} {p : Int} {vs : List Int} {gs : List Fr} {b : Int} {kn : List Int} : stepR "add" n ss most p vs gs b kn = takeT "add" n p vs gs b kn := by rw [stepR, if_neg (by decide), if_neg (by decide), stepT, if_neg (by decide), if_neg (by decide), if_neg (by decide), if_neg (by decide)]
theorem take_add0 {n : Int} {p : Int} {gs : List Fr} {b : Int} {kn : List Int} : takeT "add" n p [] gs b kn = .stuck := by rw [takeT, if_pos (.inl rfl)]
theorem step_sub {n : Int} {ss : List Sp2} {most : Int} {p : Int} {vs : List Int} {gs : List Fr} {b : Int} {kn : List Int} : stepR "sub" n ss most p vs gs b kn = takeT "sub" n p vs gs b kn := by rw [stepR, if_neg (by decide), if_neg (by decide), stepT, if_neg (by decide), if_neg (by decide), if_neg (by decide), if_neg (by decide)]
theorem take_sub0 {n : Int} {p : Int} {gs : List Fr} {b : Int} {kn : List Int} : takeT "sub" n p [] gs b kn = .stuck := by rw [takeT, if_pos (.inl rfl)]
theorem step_less {n : Int} {ss : List Sp2} {most : Int} {p : Int} {vs : List Int} {gs : List Fr} {b : Int} {kn : List Int} : stepR "less" n ss most p vs gs b kn = takeT "less" n p vs gs b kn := by rw [stepR, if_neg (by decide), if_neg (by decide), stepT, if_neg (by decide), if_neg (by decide), if_neg (by decide), if_neg (by decide)]
theorem take_less0 {n : Int} {p : Int} {gs : List Fr} {b : Int} {kn : List Int} : takeT "less" n p [] gs b kn = .stuck := by rw [takeT, if_pos (.inl rfl)]
theorem take_sure1 {n : Int} {p : Int} {us : List Int} {gs : List Fr} {b : Int} {x : Int} {kn : List Int} : takeT "sure" n p (us ++ [x]) gs b kn = (if x = 0 then .nought else .st (p + 1) (us ++ [x]) (gs ++ [(b, kn)])) := by rw [takeT, if_neg (fun z => by rcases z with z | ⟨_, z⟩; exact absurd z (by simp); revert z; decide), if_pos rfl, getLastD_snoc]
theorem take_keep1 {n : Int} {p : Int} {us : List Int} {gs : List Fr} {b : Int} {x : Int} {kn : List Int} : takeT "keep" n p (us ++ [x]) gs b kn = .st (p + 1) us (gs ++ [(b, kn ++ [x])]) := by rw [takeT, if_neg (fun z => by rcases z with z | ⟨_, z⟩; exact absurd z (by simp); revert z; decide), if_neg (by decide), if_pos rfl, getLastD_snoc, List.dropLast_concat]
theorem take_unless1 {n : Int} {p : Int} {us : List Int} {gs : List Fr} {b : Int} {x : Int} {kn : List Int} : takeT "unless" n p (us ++ [x]) gs b kn = .st (p + 1 + (if x = 0 then n else 0)) us (gs ++ [(b, kn)]) := by rw [takeT, if_neg (fun z => by rcases z with z | ⟨_, z⟩; exact absurd z (by simp); revert z; decide), if_neg (by decide), if_neg (by decide), if_pos rfl, getLastD_snoc, List.dropLast_concat]
theorem take_add1 {n : Int} {p : Int} {gs : List Fr} {b : Int} {x : Int} {kn : List Int} : takeT "add" n p [x] gs b kn = .stuck := by rw [takeT, if_pos (.inr ⟨rfl, by decide⟩)]
theorem take_add2 {n : Int} {p : Int} {us : List Int} {gs : List Fr} {b : Int} {x : Int} {y : Int} {kn : List Int} : takeT "add" n p (us ++ [y] ++ [x]) gs b kn = .st (p + 1) (us ++ [putT "add" y x]) (gs ++ [(b, kn)]) := by rw [takeT, if_neg (fun z => by rcases z with z | ⟨z, _⟩ <;> simp at z), if_neg (by decide), if_neg (by decide), if_neg (by decide), getLastD_snoc, List.dropLast_concat, getLastD_snoc, List.dropLast_concat]
theorem take_sub1 {n : Int} {p : Int} {gs : List Fr} {b : Int} {x : Int} {kn : List Int} : takeT "sub" n p [x] gs b kn = .stuck := by rw [takeT, if_pos (.inr ⟨rfl, by decide⟩)]
theorem take_sub2 {n : Int} {p : Int} {us : List Int} {gs : List Fr} {b : Int} {x : Int} {y : Int} {kn : List Int} : takeT "sub" n p (us ++ [y] ++ [x]) gs b kn = .st (p + 1) (us ++ [putT "sub" y x]) (gs ++ [(b, kn)]) := by rw [takeT, if_neg (fun z => by rcases z with z | ⟨z, _⟩ <;> simp at z), if_neg (by decide), if_neg (by decide), if_neg (by decide), getLastD_snoc, List.dropLast_concat, getLastD_snoc, List.dropLast_concat]
theorem take_less1 {n : Int} {p : Int} {gs : List Fr} {b : Int} {x : Int} {kn : List Int} : takeT "less" n p [x] gs b kn = .stuck := by rw [takeT, if_pos (.inr ⟨rfl, by decide⟩)]
theorem take_less2 {n : Int} {p : Int} {us : List Int} {gs : List Fr} {b : Int} {x : Int} {y : Int} {kn : List Int} : takeT "less" n p (us ++ [y] ++ [x]) gs b kn = .st (p + 1) (us ++ [putT "less" y x]) (gs ++ [(b, kn)]) := by rw [takeT, if_neg (fun z => by rcases z with z | ⟨z, _⟩ <;> simp at z), if_neg (by decide), if_neg (by decide), if_neg (by decide), getLastD_snoc, List.dropLast_concat, getLastD_snoc, List.dropLast_concat]
theorem lc_fr {X : Cx} {scope : Scope} {elt : Expr} {j : Nat} {Δ : En} (gs : List Fr) (b : Int) (kn : List Int) (hj : Δ[j]? = some .no) (hs : ∀ t ∈ gs ++ [(b, kn)], ∀ Y, Blk X scope Y → DEx Y (Δ.set j (.d (encF t))) elt (.d (encF t)) (Δ.set j (.d (encF t)))) : Lc X scope elt [] j (gs.map encF ++ [encF (b, kn)]) 0 Δ (gs.map encF ++ [encF (b, kn)]) Δ := by
  have h := lc_of (gs ++ [(b, kn)]) encF encF hj hs
  rwa [last_fs] at h
theorem ixN_of {n : Nat} {i : Int} (h0 : 0 ≤ i) (h1 : i < n) : ixN n i = some i.toNat := by
  have e : i = ((i.toNat : Nat) : Int) := by omega
  rw [e]
  exact ixN_lt (by omega)
end Tr
namespace Tr
open PySem L2 PySem.Spec PyProof.Rows
/-! ### xs[k::n] -/
/-- the places of a slice -/
def pkIx (n : Nat) (lo hi st : Option Int) : List Nat := sliceRange (sliceBounds lo hi st n).1 (sliceBounds lo hi st n).2.1 (sliceBounds lo hi st n).2.2
def pkL {α : Type} (xs : List α) (lo hi st : Option Int) : List α := (pkIx xs.length lo hi st).filterMap (xs[·]?)
theorem pr_pick {α β : Type} {F : α → β → Prop} {xs : List α} {ys : List β} (r : Paired F xs ys) : ∀ ix : List Nat, Paired F (ix.filterMap (xs[·]?)) (ix.filterMap (ys[·]?))
  | [] => .nil
  | i :: ix => by
    have hl := r.length
    rw [List.filterMap_cons, List.filterMap_cons]
    cases e : ys[i]? with
    | none =>
      have h1 : xs[i]? = none := List.getElem?_eq_none (by have := List.getElem?_eq_none_iff.mp e; omega)
      rw [h1]
      exact pr_pick r ix
    | some y =>
      obtain ⟨x, hx, hf⟩ := pr_get r e
      rw [hx]
      exact .cons hf (pr_pick r ix)
theorem pkL_mem {α : Type} {xs : List α} {lo hi st : Option Int} {x : α} (h : x ∈ pkL xs lo hi st) : x ∈ xs := by
  obtain ⟨i, _, hi⟩ := List.mem_filterMap.mp h
  exact List.mem_of_getElem? hi
theorem pkL_map {α β : Type} (f : α → β) (xs : List α) (lo hi st : Option Int) : pkL (xs.map f) lo hi st = (pkL xs lo hi st).map f := by
  unfold pkL
  rw [List.length_map, List.map_filterMap]
  congr 1
  funext i
  rw [List.getElem?_map]
theorem pkL_len {α : Type} (xs : List α) (lo hi st : Option Int) : (pkL xs lo hi st).length ≤ xs.length := by
  have h := slicePick_size_le (xs.map fun _ => Value.none).toArray lo hi st
  unfold slicePick at h
  rw [List.size_toArray, List.size_toArray, List.length_map] at h
  have e : (pkL xs lo hi st).length = (pkL (xs.map fun _ => Value.none) lo hi st).length := by rw [pkL_map, List.length_map]
  rw [e]
  unfold pkL pkIx
  rw [List.length_map]
  simpa using h
def tSlSt (K : PySem.W.Frag) (te : TE) (tl ts : TO) : TE := fun σ H Q => te σ H fun x H1 => tl σ H1 fun l H2 => ts σ H2 fun st H3 => ∃ a xs, x = .ref a ∧ SqL K H3 a xs ∧ st ≠ some 0 ∧ ∀ p, H3 p = none → Q (.ref p) (upd H3 p (.lst (pkL xs l none st)))
theorem pe_slSt {X : Cx} {e lo st : Expr} {te : TE} {tl ts : TO} {p3 pos : Pos} (he : PE X e te) (hl : PO X (some lo) tl) (hs : PO X (some st) ts) : PE X (.Subscript e (.Slice (some lo) none (some st) p3) pos) (tSlSt X.K te tl ts) := by
  refine ⟨fun pins s σ H Q I h => ?_⟩
  refine Subscript_ (thn (he.run pins s σ H _ I h) fun v s1 ⟨x, H1, I1, r1, q1⟩ => ?_)
  refine wpAny_Slice (thn (hl.run pins s1 σ H1 _ I1 q1) fun vl s2 ⟨l, H2, I2, pl, q2⟩ => ?_)
  refine thn (po_none.run pins s2 σ H2 (fun o H3 => o = none ∧ H3 = H2) I2 ⟨rfl, rfl⟩) fun vu s3 ⟨u, H3, I3, pu, eu, e3⟩ => ?_
  subst eu e3
  refine thn (hs.run pins s3 σ H3 _ I3 q2) fun vs s4 ⟨o, H4, I4, ps, q3⟩ => ?_
  obtain ⟨a, xs, ex, hx, h0, q⟩ := q3
  subst ex
  cases r1
  have I5 : Inv X pins σ H4 { s4 with heap := s4.heap.push { cls := .type "slice", data := .fields #[vl, vu, vs] } } := I4.kept (t' := s4.toks) fun b ob q => Heap.get?_push_of_some _ q
  obtain ⟨its, r, ht, hz⟩ := I5.list hx
  have hlen := r.length
  show wpAny (model X.prog X.w) X.A (subscriptTail e (.Slice (some lo) none (some st) p3) (.ref a) (.ref s4.heap.objs.size)) (EP X pins σ Q) X.xe { s4 with heap := s4.heap.push { cls := .type "slice", data := .fields #[vl, vu, vs] } }
  refine tail_any (ops := [.ref a, .ref s4.heap.objs.size]) ht.isList.typeIs (PySem.slot_list_getitem.lookup) ?_ (by with_unfolding_all rfl)
  refine wpAny_getItem_list_slice ht.isList (Heap.IsSliceOf.new _ vl vu vs) pl pu ps h0 ?_ (by rw [List.size_toArray]; omega)
  have ep : slicePick its.toArray l none o = (pkL its l none o).toArray := by
    unfold slicePick pkL pkIx
    rw [List.size_toArray]
    congr 1
    congr 1
    funext i
    simp
  rw [ep]
  have rp : Vals (pkL xs l none o) (pkL its l none o) := by
    unfold pkL
    rw [hlen]
    exact pr_pick r _
  refine ⟨.ref _, _, I5.laid (t' := s4.toks) (o := .lst (pkL xs l none o)) (fun b ob q => Heap.get?_push_of_some _ q) (Nat.le_refl _) ?_, rfl, q _ (I5.hok.fresh (Nat.le_refl _))⟩
  exact ⟨Nat.le_trans (pkL_len _ _ _ _) hz, _, 0, rp, Heap.get?_push_size _ rfl⟩
section
variable {X : Cx} {Δ Δ1 : En} {a lo st : Expr} {r1 : R} {xs : List PyData} {m n : Int} {p2 pos : Pos}
theorem de_slSt (ha : DEx X Δ a r1 Δ1) (h1 : DEx X Δ1 lo (.d (.int m)) Δ1) (h2 : DEx X Δ1 st (.d (.int n)) Δ1) (l1 : lite r1 = true) (e1 : rdOf Δ1 r1 = some (.list xs)) (hn : n ≠ 0) : DEx X Δ (.Subscript a (.Slice (some lo) none (some st) p2) pos) (.nl (pkL xs (some m) none (some n))) Δ1 := by
  obtain ⟨t1, p1, q1⟩ := (dp_so h1).po
  obtain ⟨t2, p2, q2⟩ := (dp_so h2).po
  refine ⟨ha.rk, pe_imp (pe_slSt ha.pe p1 p2) fun σ H Q ⟨B, F, ok, q⟩ => ⟨B, F, ok, fun v F1 H1 ok1 ex1 hv => ?_⟩⟩
  refine q1 _ _ _ ⟨B, F1, ok1, fun F2 H2 ok2 ex2 => q2 _ _ _ ⟨B, F2, ok2, fun F3 H3 ok3 ex3 => ?_⟩⟩
  obtain ⟨a1, vs, rfl, h1, k1⟩ := rd_list ok3 (hv.keep l1 (ex2.trans ex3)) e1
  refine ⟨a1, vs, rfl, SqL.of h1, fun z => hn (by cases z; rfl), fun p hp => ?_⟩
  have kp : DqA F3 (pkL vs (some m) none (some n)) (pkL xs (some m) none (some n)) := by
    unfold pkL
    rw [k1.length]
    exact pr_pick k1 _
  exact q _ _ _ (ok3.new hp) ((ex1.trans ex2).trans ex3) (res_nl ok3 hp kp)
end
end Tr
namespace Tr
open PySem L2
/-! ### runs -/
abbrev St3 := Int × List Int × List Fr
def stepF (rs : List Rw) (ss : List Sp2) (most : Int) (s : St3) : Oc := match s.2.2.getLast? with
  | some f => stepQ rs ss most s.1 s.2.1 s.2.2.dropLast f.1 f.2
  | none => .stuck
theorem stepF_snoc {rs : List Rw} {ss : List Sp2} {most p : Int} {vs : List Int} {gs : List Fr} {b : Int} {kn : List Int} : stepF rs ss most (p, vs, gs ++ [(b, kn)]) = stepQ rs ss most p vs gs b kn := by
  unfold stepF
  simp
abbrev Mk := Int × Int × Int
def mkOf (s : St3) : Mk := (s.1, (s.2.2.length : Int), (s.2.1.length : Int))
def encM (m : Mk) : PyData := .tuple [.int m.1, .int m.2.1, .int m.2.2]
/-- how it ends (nothing: the steps gave out), and the marks -/
def runM (rs : List Rw) (ss : List Sp2) (most : Int) : Nat → St3 → Option Oc × List Mk
  | 0, _ => (none, [])
  | n + 1, s => match stepF rs ss most s with
    | .st p vs fs => ((runM rs ss most n (p, vs, fs)).1, mkOf s :: (runM rs ss most n (p, vs, fs)).2)
    | oc => (some oc, [mkOf s])
def encE : Option Oc → PyData
  | some oc => encO oc
  | none => .tuple [.str "dry"]
theorem runM_st {rs : List Rw} {ss : List Sp2} {most : Int} {n : Nat} {s : St3} {p : Int} {vs : List Int} {fs : List Fr} (h : stepF rs ss most s = .st p vs fs) : runM rs ss most (n + 1) s = ((runM rs ss most n (p, vs, fs)).1, mkOf s :: (runM rs ss most n (p, vs, fs)).2) := by
  rw [runM, h]
theorem runM_end {rs : List Rw} {ss : List Sp2} {most : Int} {n : Nat} {s : St3} {oc : Oc} (h : stepF rs ss most s = oc) (he : oc.isEnd = true) : runM rs ss most (n + 1) s = (some oc, [mkOf s]) := by
  rw [runM, h]
  cases oc with
  | st p vs fs => cases he
  | stuck => rfl
  | nought => rfl
  | full => rfl
  | value v => rfl
/-- a state whose lists are not long; it has a frame -/
def Fit (L : Nat) (s : St3) : Prop := s.2.1.length ≤ L ∧ s.2.2.length ≤ L ∧ s.2.2 ≠ [] ∧ ∀ f ∈ s.2.2, f.2.length ≤ L
theorem Fit.mono {L M : Nat} {s : St3} (h : Fit L s) (l : L ≤ M) : Fit M s := ⟨by have := h.1; omega, by have := h.2.1; omega, h.2.2.1, fun f hf => by have := h.2.2.2 f hf; omega⟩
theorem Fit.snoc {L : Nat} {s : St3} (h : Fit L s) : ∃ gs b kn, s = (s.1, s.2.1, gs ++ [(b, kn)]) ∧ s.2.1.length ≤ L ∧ gs.length ≤ L ∧ kn.length ≤ L ∧ ∀ f ∈ gs, f.2.length ≤ L := by
  obtain ⟨p, vs, fs⟩ := s
  rcases snoc_cases fs with rfl | ⟨gs, ⟨b, kn⟩, rfl⟩
  · exact absurd rfl h.2.2.1
  · refine ⟨gs, b, kn, rfl, h.1, ?_, h.2.2.2 (b, kn) (by simp), fun f hf => h.2.2.2 f (by simp [hf])⟩
    have : (gs ++ [(b, kn)]).length ≤ L := h.2.1
    simp at this
    omega
theorem fit_of {L : Nat} {p : Int} {vs : List Int} {gs : List Fr} {b : Int} {kn : List Int} (h1 : vs.length ≤ L) (h2 : gs.length + 1 ≤ L) (h3 : kn.length ≤ L) (h4 : ∀ f ∈ gs, f.2.length ≤ L) : Fit L (p, vs, gs ++ [(b, kn)]) :=
  ⟨h1, by simp; omega, by simp, fun f hf => by
    rcases List.mem_append.mp hf with z | z
    · exact h4 f z
    · simp only [List.mem_cons, List.not_mem_nil, or_false] at z
      rw [z]; exact h3⟩
theorem fit_take {w : Str} {n p : Int} {vs : List Int} {gs : List Fr} {b : Int} {kn : List Int} {L : Nat} {s : St3} (h1 : vs.length ≤ L) (h2 : gs.length + 1 ≤ L) (h3 : kn.length ≤ L) (h4 : ∀ f ∈ gs, f.2.length ≤ L) (h : takeT w n p vs gs b kn = .st s.1 s.2.1 s.2.2) : Fit (L + 1) s := by
  obtain ⟨p', vs', fs'⟩ := s
  have h : takeT w n p vs gs b kn = .st p' vs' fs' := h
  have h4' : ∀ f ∈ gs, f.2.length ≤ L + 1 := fun f hf => by have := h4 f hf; omega
  unfold takeT at h
  split at h
  · cases h
  · split at h
    · split at h
      · cases h
      · cases h
        exact fit_of (by omega) (by omega) (by omega) h4'
    · split at h
      · cases h
        exact fit_of (by simp; omega) (by omega) (by simp; omega) h4'
      · split at h
        · cases h
          exact fit_of (by simp; omega) (by omega) (by omega) h4'
        · cases h
          exact fit_of (by simp; omega) (by omega) (by omega) h4'
theorem fit_step {rs : List Rw} {ss : List Sp2} {most : Int} {s s' : St3} {L : Nat} (h : Fit L s) (e : stepF rs ss most s = .st s'.1 s'.2.1 s'.2.2) : Fit (L + 1) s' := by
  obtain ⟨gs, b, kn, es, h1, h2', h3, h4⟩ := h.snoc
  have h2 : gs.length + 1 ≤ L := by
    have := h.2.1
    rw [es] at this
    simpa using this
  obtain ⟨p, vs, fs⟩ := s
  rw [es, stepF_snoc] at e
  have h4' : ∀ f ∈ gs, f.2.length ≤ L + 1 := fun f hf => by have := h4 f hf; omega
  have h1 : vs.length ≤ L := h1
  obtain ⟨p', vs', fs'⟩ := s'
  have e : stepQ rs ss most p vs gs b kn = .st p' vs' fs' := e
  unfold stepQ at e
  split at e
  · unfold stepR at e
    split at e
    · unfold enterT at e
      split at e
      · cases e
      · split at e
        · cases e
          exact fit_of (by simp; omega) (by omega) (by simp; omega) h4'
        · split at e
          · cases e
          · cases e
            refine fit_of (gs := gs ++ [(b, kn)]) (by simp; omega) (by simp; omega) (by simp; omega) fun f hf => ?_
            rcases List.mem_append.mp hf with z | z
            · exact h4' f z
            · simp only [List.mem_cons, List.not_mem_nil, or_false] at z
              rw [z]
              show kn.length ≤ L + 1
              omega
    · split at e
      · unfold backT at e
        split at e
        · split at e
          · cases e
          · cases e
        · rename_i hne
          cases e
          exact ⟨Nat.le_succ_of_le h1, by show _ ≤ L + 1; simp only []; omega, hne, h4'⟩
      · unfold stepT at e
        split at e
        · cases e
          exact fit_of (by simp; omega) (by omega) (by omega) h4'
        · split at e
          · split at e
            · cases e
              exact fit_of (by simp; omega) (by omega) (by omega) h4'
            · cases e
          · split at e
            · cases e
              exact fit_of (by omega) (by omega) (by omega) h4'
            · split at e
              · split at e
                · cases e
                · cases e
                  exact fit_of (by omega) (by omega) (by simp; omega) h4'
              · exact fit_take (s := (p', vs', fs')) h1 h2 h3 h4 e
  · cases e
theorem encSt3 {s : St3} : encO (.st s.1 s.2.1 s.2.2) = .tuple [.int s.1, .list (eI s.2.1), .list (s.2.2.map encF)] := rfl
theorem sh_marks (ms : List Mk) : Sh 2 (.list (ms.map encM)) := .list fun x hx => by
  obtain ⟨m, _, rfl⟩ := List.mem_map.mp hx
  exact .tup3 (.int _) (.int _) (.int _)
theorem sh_E : ∀ o : Option Oc, Sh 4 (encE o)
  | some oc => sh_O oc
  | none => .tup1 (.str (by decide +kernel))
end Tr
namespace Tr
open PySem L2
/-! ### a code and the turned code -/
theorem takeT_par (w : Str) (n p : Int) (vs kn : List Int) : (∃ oc : Oc, (oc = .stuck ∨ oc = .nought) ∧ ∀ gs b, takeT w n p vs gs b kn = oc) ∨ ∃ p1 vs1 kn1, ∀ gs b, takeT w n p vs gs b kn = .st p1 vs1 (gs ++ [(b, kn1)]) := by
  unfold takeT
  by_cases h0 : vs = [] ∨ (vs.length = 1 ∧ (w = "add" ∨ w = "sub" ∨ w = "less"))
  · exact .inl ⟨.stuck, .inl rfl, fun gs b => by rw [if_pos h0]⟩
  by_cases h1 : w = "sure"
  · by_cases h2 : vs.getLastD 0 = 0
    · exact .inl ⟨.nought, .inr rfl, fun gs b => by rw [if_neg h0, if_pos h1, if_pos h2]⟩
    · exact .inr ⟨p + 1, vs, kn, fun gs b => by rw [if_neg h0, if_pos h1, if_neg h2]⟩
  by_cases h2 : w = "keep"
  · exact .inr ⟨_, _, _, fun gs b => by rw [if_neg h0, if_neg h1, if_pos h2]⟩
  by_cases h3 : w = "unless"
  · exact .inr ⟨_, _, _, fun gs b => by rw [if_neg h0, if_neg h1, if_neg h2, if_pos h3]⟩
  · exact .inr ⟨_, _, _, fun gs b => by rw [if_neg h0, if_neg h1, if_neg h2, if_neg h3]⟩
theorem stepT_par (w : Str) (n p : Int) (vs kn : List Int) : (∃ oc : Oc, (oc = .stuck ∨ oc = .nought) ∧ ∀ gs b, stepT w n p vs gs b kn = oc) ∨ ∃ p1 vs1 kn1, ∀ gs b, stepT w n p vs gs b kn = .st p1 vs1 (gs ++ [(b, kn1)]) := by
  unfold stepT
  by_cases h1 : w = "num"
  · exact .inr ⟨_, _, _, fun gs b => by rw [if_pos h1]⟩
  by_cases h2 : w = "arg"
  · by_cases h : n < kn.length
    · exact .inr ⟨_, _, _, fun gs b => by rw [if_neg h1, if_pos h2, if_pos h]⟩
    · exact .inl ⟨.stuck, .inl rfl, fun gs b => by rw [if_neg h1, if_pos h2, if_neg h]⟩
  by_cases h3 : w = "skip"
  · exact .inr ⟨_, _, _, fun gs b => by rw [if_neg h1, if_neg h2, if_pos h3]⟩
  by_cases h4 : w = "drop"
  · by_cases h : kn = []
    · exact .inl ⟨.stuck, .inl rfl, fun gs b => by rw [if_neg h1, if_neg h2, if_neg h3, if_pos h4, if_pos h]⟩
    · exact .inr ⟨_, _, _, fun gs b => by rw [if_neg h1, if_neg h2, if_neg h3, if_pos h4, if_neg h]⟩
  · rcases takeT_par w n p vs kn with ⟨oc, h, e⟩ | ⟨p1, vs1, kn1, e⟩
    · exact .inl ⟨oc, h, fun gs b => by rw [if_neg h1, if_neg h2, if_neg h3, if_neg h4, e]⟩
    · exact .inr ⟨p1, vs1, kn1, fun gs b => by rw [if_neg h1, if_neg h2, if_neg h3, if_neg h4, e]⟩
theorem enterT_par (n : Int) (ss : List Sp2) (vs : List Int) : (∀ w most p gs b kn, enterT w n ss most p vs gs b kn = .stuck) ∨ ∃ p1 vs1 kn1, (∀ most p gs b kn, enterT "jump" n ss most p vs gs b kn = .st p1 vs1 (gs ++ [(b, kn1)])) ∧
    ∀ most p gs b kn, enterT "call" n ss most p vs gs b kn = if most ≤ (gs.length : Int) + 1 then .full else .st p1 vs1 (gs ++ [(b, kn)] ++ [(p + 1, kn1)]) := by
  unfold enterT
  by_cases h : ss.length ≤ n ∨ (vs.length : Int) < (ss.getD n.toNat (0, 0)).2
  · exact .inl fun w most p gs b kn => by rw [if_pos h]
  · refine .inr ⟨_, _, _, fun most p gs b kn => by rw [if_neg h, if_pos rfl], fun most p gs b kn => ?_⟩
    rw [if_neg h, if_neg (by decide)]
    have e : ((gs ++ [(b, kn)]).length : Int) = (gs.length : Int) + 1 := by simp
    rw [e]
def wordAt (rs : List Rw) (p : Int) : Str := if 0 ≤ p ∧ p < rs.length then (rowAt rs p).1 else ""
def backAt (rs : List Rw) (p : Int) : Prop := 0 ≤ p ∧ p < rs.length ∧ (rowAt rs p).1 = "back"
theorem backAt_word {rs : List Rw} {p : Int} : backAt rs p ↔ wordAt rs p = "back" := by
  unfold backAt wordAt
  constructor
  · rintro ⟨h1, h2, h3⟩
    rw [if_pos ⟨h1, h2⟩, h3]
  · intro h
    by_cases hp : 0 ≤ p ∧ p < rs.length
    · rw [if_pos hp] at h
      exact ⟨hp.1, hp.2, h⟩
    · rw [if_neg hp] at h
      exact absurd h (by decide)
theorem rowAt_get {rs : List Rw} {p : Int} (h : 0 ≤ p ∧ p < rs.length) : rs[p.toNat]? = some (rowAt rs p) := by
  have hl : p.toNat < rs.length := by omega
  rw [rowAt, List.getD_eq_getElem?_getD, List.getElem?_eq_getElem hl]
  rfl
theorem isLast_iff {rs : List Rw} {p : Int} (h : 0 ≤ p ∧ p < rs.length) : isLast rs p.toNat = true ↔ (rowAt rs p).1 = "call" ∧ backAt rs (p + 1) := by
  unfold isLast
  rw [rowAt_get h]
  have e : p.toNat + 1 = (p + 1).toNat := by omega
  by_cases h1 : p + 1 < rs.length
  · rw [e, rowAt_get (p := p + 1) ⟨by omega, h1⟩]
    simp only [Bool.and_eq_true, beq_iff_eq]
    constructor
    · rintro ⟨a, b⟩
      exact ⟨a, by omega, h1, b⟩
    · rintro ⟨a, _, _, b⟩
      exact ⟨a, b⟩
  · have : rs[p.toNat + 1]? = none := List.getElem?_eq_none (by omega)
    rw [this]
    simp only [Bool.and_false, Bool.false_eq_true, false_iff]
    rintro ⟨_, _, z, _⟩
    omega
theorem rowAt_turn {rs : List Rw} {p : Int} (h : 0 ≤ p ∧ p < rs.length) : rowAt (turnL rs) p = if isLast rs p.toNat then (("jump" : Str), (rowAt rs p).2) else rowAt rs p := by
  have h1 := turnL_get (rowAt_get h)
  have h2 := rowAt_get (rs := turnL rs) (p := p) (by rw [turnL_len]; exact h)
  rw [h1] at h2
  exact (Option.some.inj h2).symm
theorem stepQ_back {rs : List Rw} {ss : List Sp2} {most p : Int} {vs : List Int} {gs : List Fr} {b : Int} {kn : List Int} (h : backAt rs p) : stepQ rs ss most p vs gs b kn = backT vs gs b := by
  unfold stepQ
  rw [if_pos ⟨h.1, h.2.1⟩, h.2.2, step_back]
inductive Rl (rs : List Rw) : List Int → List Fr → Int → List Fr → Int → Prop
  | base {b : Int} : Rl rs [] [] b [] b
  | plain {L : List Int} {gs : List Fr} {b : Int} {gs' : List Fr} {b' : Int} {kn : List Int} {c : Int} (h : Rl rs L gs b gs' b') : Rl rs (L ++ [0]) (gs ++ [(b, kn)]) c (gs' ++ [(b', kn)]) c
  | turn {L : List Int} {gs : List Fr} {b : Int} {gs' : List Fr} {b' : Int} {kn : List Int} {c : Int} (h : Rl rs L gs b gs' b') (hc : backAt rs c) : Rl rs (L ++ [1]) (gs ++ [(b, kn)]) c gs' b'
theorem Rl.len {rs : List Rw} {L : List Int} {gs gs' : List Fr} {b b' : Int} (h : Rl rs L gs b gs' b') : (gs.length : Int) = gs'.length + L.sum ∧ 0 ≤ L.sum := by
  induction h with
  | base => simp
  | plain h ih => simp [List.sum_append]; omega
  | turn h hc ih => simp [List.sum_append]; omega
/-- one step of both -/
inductive Sy (rs : List Rw) (ss : List Sp2) (p : Int) (vs kn : List Int) : Prop
  | fin (oc : Oc) (ho : oc = .stuck ∨ oc = .nought) (h1 : ∀ most gs b, stepQ rs ss most p vs gs b kn = oc) (h2 : ∀ most gs b, stepQ (turnL rs) ss most p vs gs b kn = oc)
  | go (p1 : Int) (vs1 kn1 : List Int) (hc : wordAt rs p ≠ "call") (hb : wordAt rs p ≠ "back") (h1 : ∀ most gs b, stepQ rs ss most p vs gs b kn = .st p1 vs1 (gs ++ [(b, kn1)])) (h2 : ∀ most gs b, stepQ (turnL rs) ss most p vs gs b kn = .st p1 vs1 (gs ++ [(b, kn1)]))
  | call (p1 : Int) (vs1 kn1 : List Int) (hc : wordAt rs p = "call") (hb : ¬ backAt rs (p + 1)) (h1 : ∀ most gs b, stepQ rs ss most p vs gs b kn = if most ≤ (gs.length : Int) + 1 then .full else .st p1 vs1 (gs ++ [(b, kn)] ++ [(p + 1, kn1)])) (h2 : ∀ most gs b, stepQ (turnL rs) ss most p vs gs b kn = if most ≤ (gs.length : Int) + 1 then .full else .st p1 vs1 (gs ++ [(b, kn)] ++ [(p + 1, kn1)]))
  | turn (p1 : Int) (vs1 kn1 : List Int) (hc : wordAt rs p = "call") (hb : backAt rs (p + 1)) (hj : wordAt (turnL rs) p = "jump") (h1 : ∀ most gs b, stepQ rs ss most p vs gs b kn = if most ≤ (gs.length : Int) + 1 then .full else .st p1 vs1 (gs ++ [(b, kn)] ++ [(p + 1, kn1)])) (h2 : ∀ most gs b, stepQ (turnL rs) ss most p vs gs b kn = .st p1 vs1 (gs ++ [(b, kn1)]))
  | back (h1 : backAt rs p) (h2 : backAt (turnL rs) p)
theorem sync (rs : List Rw) (ss : List Sp2) (p : Int) (vs kn : List Int) : Sy rs ss p vs kn := by
  by_cases hp : 0 ≤ p ∧ p < rs.length
  · have hp' : 0 ≤ p ∧ p < (turnL rs).length := by rw [turnL_len]; exact hp
    have ew : wordAt rs p = (rowAt rs p).1 := by rw [wordAt, if_pos hp]
    have ew' : wordAt (turnL rs) p = (rowAt (turnL rs) p).1 := by rw [wordAt, if_pos hp']
    have q1 : ∀ most gs b, stepQ rs ss most p vs gs b kn = stepR (rowAt rs p).1 ((rowAt rs p).2.getD 0) ss most p vs gs b kn := fun most gs b => by rw [stepQ, if_pos hp]
    have q2 : ∀ most gs b, stepQ (turnL rs) ss most p vs gs b kn = stepR (rowAt (turnL rs) p).1 ((rowAt (turnL rs) p).2.getD 0) ss most p vs gs b kn := fun most gs b => by rw [stepQ, if_pos hp']
    have hi := isLast_iff hp
    have hr := rowAt_turn hp
    by_cases hl : isLast rs p.toNat = true
    · rw [if_pos hl] at hr
      obtain ⟨hc, hb⟩ := hi.mp hl
      rw [hr] at q2 ew'
      rw [hc] at q1 ew
      have q1' : ∀ most gs b, stepQ rs ss most p vs gs b kn = enterT "call" ((rowAt rs p).2.getD 0) ss most p vs gs b kn := fun most gs b => by rw [q1, stepR, if_pos (.inl rfl)]
      have q2' : ∀ most gs b, stepQ (turnL rs) ss most p vs gs b kn = enterT "jump" ((rowAt rs p).2.getD 0) ss most p vs gs b kn := fun most gs b => by rw [q2, stepR, if_pos (.inr rfl)]
      rcases enterT_par ((rowAt rs p).2.getD 0) ss vs with h | ⟨p1, vs1, kn1, h1, h2⟩
      · exact .fin .stuck (.inl rfl) (fun most gs b => by rw [q1', h]) (fun most gs b => by rw [q2', h])
      · exact .turn p1 vs1 kn1 ew hb ew' (fun most gs b => by rw [q1', h2]) (fun most gs b => by rw [q2', h1])
    · rw [if_neg hl] at hr
      rw [hr] at q2 ew'
      by_cases hc : (rowAt rs p).1 = "call"
      · have hb : ¬ backAt rs (p + 1) := fun z => hl (hi.mpr ⟨hc, z⟩)
        rw [hc] at q1 q2 ew
        have q1' : ∀ most gs b, stepQ rs ss most p vs gs b kn = enterT "call" ((rowAt rs p).2.getD 0) ss most p vs gs b kn := fun most gs b => by rw [q1, stepR, if_pos (.inl rfl)]
        have q2' : ∀ most gs b, stepQ (turnL rs) ss most p vs gs b kn = enterT "call" ((rowAt rs p).2.getD 0) ss most p vs gs b kn := fun most gs b => by rw [q2, stepR, if_pos (.inl rfl)]
        rcases enterT_par ((rowAt rs p).2.getD 0) ss vs with h | ⟨p1, vs1, kn1, h1, h2⟩
        · exact .fin .stuck (.inl rfl) (fun most gs b => by rw [q1', h]) (fun most gs b => by rw [q2', h])
        · exact .call p1 vs1 kn1 ew hb (fun most gs b => by rw [q1', h2]) (fun most gs b => by rw [q2', h2])
      · by_cases hb : (rowAt rs p).1 = "back"
        · exact .back ⟨hp.1, hp.2, hb⟩ ⟨hp'.1, hp'.2, by rw [hr]; exact hb⟩
        · have nc : wordAt rs p ≠ "call" := by rw [ew]; exact hc
          have nb : wordAt rs p ≠ "back" := by rw [ew]; exact hb
          by_cases hj : (rowAt rs p).1 = "jump"
          · rw [hj] at q1 q2
            have q1' : ∀ most gs b, stepQ rs ss most p vs gs b kn = enterT "jump" ((rowAt rs p).2.getD 0) ss most p vs gs b kn := fun most gs b => by rw [q1, stepR, if_pos (.inr rfl)]
            have q2' : ∀ most gs b, stepQ (turnL rs) ss most p vs gs b kn = enterT "jump" ((rowAt rs p).2.getD 0) ss most p vs gs b kn := fun most gs b => by rw [q2, stepR, if_pos (.inr rfl)]
            rcases enterT_par ((rowAt rs p).2.getD 0) ss vs with h | ⟨p1, vs1, kn1, h1, h2⟩
            · exact .fin .stuck (.inl rfl) (fun most gs b => by rw [q1', h]) (fun most gs b => by rw [q2', h])
            · exact .go p1 vs1 kn1 nc nb (fun most gs b => by rw [q1', h1]) (fun most gs b => by rw [q2', h1])
          · have hcj : ¬ ((rowAt rs p).1 = "call" ∨ (rowAt rs p).1 = "jump") := fun z => z.elim hc hj
            have q1' : ∀ most gs b, stepQ rs ss most p vs gs b kn = stepT (rowAt rs p).1 ((rowAt rs p).2.getD 0) p vs gs b kn := fun most gs b => by rw [q1, stepR, if_neg hcj, if_neg hb]
            have q2' : ∀ most gs b, stepQ (turnL rs) ss most p vs gs b kn = stepT (rowAt rs p).1 ((rowAt rs p).2.getD 0) p vs gs b kn := fun most gs b => by rw [q2, stepR, if_neg hcj, if_neg hb]
            rcases stepT_par (rowAt rs p).1 ((rowAt rs p).2.getD 0) p vs kn with ⟨oc, h, e⟩ | ⟨p1, vs1, kn1, e⟩
            · exact .fin oc h (fun most gs b => by rw [q1', e]) (fun most gs b => by rw [q2', e])
            · exact .go p1 vs1 kn1 nc nb (fun most gs b => by rw [q1', e]) (fun most gs b => by rw [q2', e])
  · have hp' : ¬ (0 ≤ p ∧ p < (turnL rs).length) := by rw [turnL_len]; exact hp
    exact .fin .stuck (.inl rfl) (fun most gs b => by rw [stepQ, if_neg hp]) (fun most gs b => by rw [stepQ, if_neg hp'])
/-- what is left of the marks -/
def lessS (rs : List Rw) (p : Int) (L : List Int) : Bool × List Int :=
  if wordAt rs p = "call" then (false, L ++ [if wordAt rs (p + 1) = "back" then 1 else 0])
  else if wordAt rs p = "back" ∧ L ≠ [] then (decide (L.getLastD 0 = 1), L.dropLast) else (false, L)
def lessM (rs : List Rw) : List Mk → Bool → List Int → List Mk
  | [], _, _ => []
  | m :: ms, beh, L => (if beh then [] else [(m.1, m.2.1 - L.sum, m.2.2)]) ++ lessM rs ms (lessS rs m.1 L).1 (lessS rs m.1 L).2
theorem lessS_else {rs : List Rw} {p : Int} {L : List Int} (h1 : wordAt rs p ≠ "call") (h2 : wordAt rs p ≠ "back") : lessS rs p L = (false, L) := by
  rw [lessS, if_neg h1, if_neg (fun z => h2 z.1)]
theorem lessS_call0 {rs : List Rw} {p : Int} {L : List Int} (h1 : wordAt rs p = "call") (h2 : ¬ backAt rs (p + 1)) : lessS rs p L = (false, L ++ [0]) := by
  rw [lessS, if_pos h1, if_neg (fun z => h2 (backAt_word.mpr z))]
theorem lessS_call1 {rs : List Rw} {p : Int} {L : List Int} (h1 : wordAt rs p = "call") (h2 : backAt rs (p + 1)) : lessS rs p L = (false, L ++ [1]) := by
  rw [lessS, if_pos h1, if_pos (backAt_word.mp h2)]
theorem lessS_back {rs : List Rw} {p x : Int} {L : List Int} (h : backAt rs p) : lessS rs p (L ++ [x]) = (decide (x = 1), L) := by
  have h := backAt_word.mp h
  rw [lessS, h, if_neg (by decide), if_pos ⟨rfl, by simp⟩, getLastD_snoc, List.dropLast_concat]
theorem mk_eq {p : Int} {vs : List Int} {gs gs' : List Fr} {b b' : Int} {kn kn' : List Int} {L : List Int} {rs : List Rw} (h : Rl rs L gs b gs' b') : ((mkOf (p, vs, gs ++ [(b, kn)])).1, (mkOf (p, vs, gs ++ [(b, kn)])).2.1 - L.sum, (mkOf (p, vs, gs ++ [(b, kn)])).2.2) = mkOf (p, vs, gs' ++ [(b', kn')]) := by
  have := h.len
  simp [mkOf]
  omega
theorem simA (rs : List Rw) (ss : List Sp2) (most : Int) : ∀ (n1 n2 : Nat) (L : List Int) (p : Int) (vs : List Int) (gs : List Fr) (b : Int) (gs' : List Fr) (b' : Int) (kn : List Int) (p' : Int) (kn' : List Int) (beh : Bool), Rl rs L gs b gs' b' → n1 ≤ n2 →
    ((beh = false ∧ p' = p ∧ kn' = kn) ∨ (beh = true ∧ backAt rs p ∧ backAt (turnL rs) p' ∧ n1 + 1 ≤ n2)) →
    lessM rs (runM rs ss most n1 (p, vs, gs ++ [(b, kn)])).2 beh L <+: (if beh then (runM (turnL rs) ss most n2 (p', vs, gs' ++ [(b', kn')])).2.tail else (runM (turnL rs) ss most n2 (p', vs, gs' ++ [(b', kn')])).2) ∧
    ∀ oc, (runM rs ss most n1 (p, vs, gs ++ [(b, kn)])).1 = some oc → oc ≠ .full → (runM (turnL rs) ss most n2 (p', vs, gs' ++ [(b', kn')])).1 = some oc ∧
      lessM rs (runM rs ss most n1 (p, vs, gs ++ [(b, kn)])).2 beh L = (if beh then (runM (turnL rs) ss most n2 (p', vs, gs' ++ [(b', kn')])).2.tail else (runM (turnL rs) ss most n2 (p', vs, gs' ++ [(b', kn')])).2) := by
  intro n1
  induction n1 with
  | zero =>
    intro n2 L p vs gs b gs' b' kn p' kn' beh hR hn hm
    refine ⟨?_, fun oc h => by cases h⟩
    show [] <+: _
    exact List.nil_prefix
  | succ m ih =>
    intro n2 L p vs gs b gs' b' kn p' kn' beh hR hn hm
    obtain ⟨k, rfl⟩ : ∃ k, n2 = k + 1 := ⟨n2 - 1, by omega⟩
    have f1 : ∀ {oc}, stepQ rs ss most p vs gs b kn = oc → stepF rs ss most (p, vs, gs ++ [(b, kn)]) = oc := fun h => by rw [stepF_snoc, h]
    have f2 : ∀ {oc}, stepQ (turnL rs) ss most p' vs gs' b' kn' = oc → stepF (turnL rs) ss most (p', vs, gs' ++ [(b', kn')]) = oc := fun h => by rw [stepF_snoc, h]
    -- the head of the turned code's marks
    have head : ∀ n, ∃ T, (runM (turnL rs) ss most (n + 1) (p', vs, gs' ++ [(b', kn')])).2 = mkOf (p', vs, gs' ++ [(b', kn')]) :: T := fun n => by
      cases h : stepF (turnL rs) ss most (p', vs, gs' ++ [(b', kn')]) with
      | st q ws fs => rw [runM_st h]; exact ⟨_, rfl⟩
      | stuck => rw [runM_end h rfl]; exact ⟨_, rfl⟩
      | nought => rw [runM_end h rfl]; exact ⟨_, rfl⟩
      | full => rw [runM_end h rfl]; exact ⟨_, rfl⟩
      | value v => rw [runM_end h rfl]; exact ⟨_, rfl⟩
    rcases hm with ⟨rfl, rfl, rfl⟩ | ⟨rfl, hb, hb', hn'⟩
    · have me := mk_eq (p := p') (vs := vs) (kn := kn') (kn' := kn') hR
      -- an end of both
      have fin' : ∀ oc : Oc, oc.isEnd = true → stepQ rs ss most p' vs gs b kn' = oc → stepQ (turnL rs) ss most p' vs gs' b' kn' = oc → lessM rs (runM rs ss most (m + 1) (p', vs, gs ++ [(b, kn')])).2 false L <+: (runM (turnL rs) ss most (k + 1) (p', vs, gs' ++ [(b', kn')])).2 ∧
          ∀ oc, (runM rs ss most (m + 1) (p', vs, gs ++ [(b, kn')])).1 = some oc → oc ≠ .full → (runM (turnL rs) ss most (k + 1) (p', vs, gs' ++ [(b', kn')])).1 = some oc ∧ lessM rs (runM rs ss most (m + 1) (p', vs, gs ++ [(b, kn')])).2 false L = (runM (turnL rs) ss most (k + 1) (p', vs, gs' ++ [(b', kn')])).2 := fun oc he e1 e2 => by
        rw [runM_end (f1 e1) he, runM_end (f2 e2) he]
        have : lessM rs [mkOf (p', vs, gs ++ [(b, kn')])] false L = [mkOf (p', vs, gs' ++ [(b', kn')])] := by
          rw [lessM, lessM, me]; rfl
        exact ⟨by rw [this]; exact List.prefix_refl _, fun oc' h _ => ⟨h, this⟩⟩
      have full' : stepQ rs ss most p' vs gs b kn' = .full → lessM rs (runM rs ss most (m + 1) (p', vs, gs ++ [(b, kn')])).2 false L <+: (runM (turnL rs) ss most (k + 1) (p', vs, gs' ++ [(b', kn')])).2 ∧
          ∀ oc, (runM rs ss most (m + 1) (p', vs, gs ++ [(b, kn')])).1 = some oc → oc ≠ .full → (runM (turnL rs) ss most (k + 1) (p', vs, gs' ++ [(b', kn')])).1 = some oc ∧ lessM rs (runM rs ss most (m + 1) (p', vs, gs ++ [(b, kn')])).2 false L = (runM (turnL rs) ss most (k + 1) (p', vs, gs' ++ [(b', kn')])).2 := fun e1 => by
        rw [runM_end (f1 e1) rfl]
        have : lessM rs [mkOf (p', vs, gs ++ [(b, kn')])] false L = [mkOf (p', vs, gs' ++ [(b', kn')])] := by
          rw [lessM, lessM, me]; rfl
        obtain ⟨T, hT⟩ := head k
        refine ⟨by rw [this, hT]; exact ⟨T, rfl⟩, fun oc' h hne => ?_⟩
        have h : some Oc.full = some oc' := h
        cases h
        exact absurd rfl hne
      -- both go on
      have step' : ∀ (p1 : Int) (vs1 : List Int) (hs : List Fr) (c : Int) (kn1 : List Int) (hs' : List Fr) (c' : Int) (L1 : List Int), stepQ rs ss most p' vs gs b kn' = .st p1 vs1 (hs ++ [(c, kn1)]) → stepQ (turnL rs) ss most p' vs gs' b' kn' = .st p1 vs1 (hs' ++ [(c', kn1)]) → lessS rs p' L = (false, L1) → Rl rs L1 hs c hs' c' →
          lessM rs (runM rs ss most (m + 1) (p', vs, gs ++ [(b, kn')])).2 false L <+: (runM (turnL rs) ss most (k + 1) (p', vs, gs' ++ [(b', kn')])).2 ∧
          ∀ oc, (runM rs ss most (m + 1) (p', vs, gs ++ [(b, kn')])).1 = some oc → oc ≠ .full → (runM (turnL rs) ss most (k + 1) (p', vs, gs' ++ [(b', kn')])).1 = some oc ∧ lessM rs (runM rs ss most (m + 1) (p', vs, gs ++ [(b, kn')])).2 false L = (runM (turnL rs) ss most (k + 1) (p', vs, gs' ++ [(b', kn')])).2 := fun p1 vs1 hs c kn1 hs' c' L1 e1 e2 eL hR1 => by
        rw [runM_st (f1 e1), runM_st (f2 e2)]
        obtain ⟨g1, g2⟩ := ih k L1 p1 vs1 hs c hs' c' kn1 p1 kn1 false hR1 (by omega) (.inl ⟨rfl, rfl, rfl⟩)
        have e : ∀ M, lessM rs (mkOf (p', vs, gs ++ [(b, kn')]) :: M) false L = mkOf (p', vs, gs' ++ [(b', kn')]) :: lessM rs M false L1 := fun M => by
          rw [lessM, me]
          have : (mkOf (p', vs, gs ++ [(b, kn')])).1 = p' := rfl
          rw [this, eL]; rfl
        refine ⟨?_, fun oc h hne => ?_⟩
        · show lessM rs (_ :: _) false L <+: _ :: _
          rw [e]
          exact (List.prefix_cons_inj _).mpr g1
        · obtain ⟨z1, z2⟩ := g2 oc h hne
          refine ⟨z1, ?_⟩
          show lessM rs (_ :: _) false L = _ :: _
          rw [e]
          exact congrArg _ z2
      cases sync rs ss p' vs kn' with
      | fin oc ho h1 h2 => exact fin' oc (by rcases ho with rfl | rfl <;> rfl) (h1 _ _ _) (h2 _ _ _)
      | go p1 vs1 kn1 hc hb h1 h2 => exact step' p1 vs1 gs b kn1 gs' b' L (h1 _ _ _) (h2 _ _ _) (lessS_else hc hb) hR
      | call p1 vs1 kn1 hc hb h1 h2 =>
        by_cases hf : most ≤ (gs.length : Int) + 1
        · exact full' (by rw [h1, if_pos hf])
        · have := hR.len
          exact step' p1 vs1 (gs ++ [(b, kn')]) (p' + 1) kn1 (gs' ++ [(b', kn')]) (p' + 1) (L ++ [0]) (by rw [h1, if_neg hf]) (by rw [h2, if_neg (by omega)]) (lessS_call0 hc hb) (.plain hR)
      | turn p1 vs1 kn1 hc hb hj h1 h2 =>
        by_cases hf : most ≤ (gs.length : Int) + 1
        · exact full' (by rw [h1, if_pos hf])
        · exact step' p1 vs1 (gs ++ [(b, kn')]) (p' + 1) kn1 gs' b' (L ++ [1]) (by rw [h1, if_neg hf]) (h2 _ _ _) (lessS_call1 hc hb) (.turn hR hb)
      | back h1 h2 =>
        have s1 : ∀ gs b, stepQ rs ss most p' vs gs b kn' = backT vs gs b := fun gs b => stepQ_back h1
        have s2 : ∀ gs b, stepQ (turnL rs) ss most p' vs gs b kn' = backT vs gs b := fun gs b => stepQ_back h2
        cases hR with
        | base =>
          rcases Classical.em (vs = []) with hv | hv
          · exact fin' .stuck rfl (by rw [s1, backT, if_pos rfl, if_pos hv]) (by rw [s2, backT, if_pos rfl, if_pos hv])
          · exact fin' (.value (vs.getLastD 0)) rfl (by rw [s1, backT, if_pos rfl, if_neg hv]) (by rw [s2, backT, if_pos rfl, if_neg hv])
        | @plain L0 g c g' c' kk _ hR0 =>
          exact step' b vs g c kk g' c' L0 (by rw [s1, backT, if_neg (by simp)]) (by rw [s2, backT, if_neg (by simp)]) (by rw [lessS_back h1]; rfl) hR0
        | @turn L0 g c g' c' kk _ hR0 hbc =>
          have e1 : stepQ rs ss most p' vs (g ++ [(c, kk)]) b kn' = .st b vs (g ++ [(c, kk)]) := by rw [s1, backT, if_neg (by simp)]
          rw [runM_st (f1 e1)]
          obtain ⟨g1, g2⟩ := ih (k + 1) L0 b vs g c gs' b' kk p' kn' true hR0 (by omega) (.inr ⟨rfl, hbc, h2, by omega⟩)
          have e : ∀ M, lessM rs (mkOf (p', vs, (g ++ [(c, kk)]) ++ [(b, kn')]) :: M) false (L0 ++ [1]) = mkOf (p', vs, gs' ++ [(b', kn')]) :: lessM rs M true L0 := fun M => by
            rw [lessM, me]
            have : (mkOf (p', vs, (g ++ [(c, kk)]) ++ [(b, kn')])).1 = p' := rfl
            rw [this, lessS_back h1]; rfl
          obtain ⟨T, hT⟩ := head k
          rw [if_pos rfl, hT] at g1 g2
          refine ⟨?_, fun oc h hne => ?_⟩
          · show lessM rs (_ :: _) false _ <+: _
            rw [e, if_neg (by decide), hT]
            exact (List.prefix_cons_inj _).mpr g1
          · obtain ⟨z1, z2⟩ := g2 oc h hne
            refine ⟨z1, ?_⟩
            show lessM rs (_ :: _) false _ = _
            rw [e, if_neg (by decide), hT]
            exact congrArg _ z2
    · have s1 : ∀ gs b, stepQ rs ss most p vs gs b kn = backT vs gs b := fun gs b => stepQ_back hb
      have s2 : ∀ gs b, stepQ (turnL rs) ss most p' vs gs b kn' = backT vs gs b := fun gs b => stepQ_back hb'
      cases hR with
      | base =>
        have fin' : ∀ oc : Oc, oc.isEnd = true → backT vs [] b = oc → lessM rs (runM rs ss most (m + 1) (p, vs, [] ++ [(b, kn)])).2 true [] <+: (runM (turnL rs) ss most (k + 1) (p', vs, [] ++ [(b, kn')])).2.tail ∧
            ∀ oc, (runM rs ss most (m + 1) (p, vs, [] ++ [(b, kn)])).1 = some oc → oc ≠ .full → (runM (turnL rs) ss most (k + 1) (p', vs, [] ++ [(b, kn')])).1 = some oc ∧ lessM rs (runM rs ss most (m + 1) (p, vs, [] ++ [(b, kn)])).2 true [] = (runM (turnL rs) ss most (k + 1) (p', vs, [] ++ [(b, kn')])).2.tail := fun oc he e => by
          rw [runM_end (f1 ((s1 _ _).trans e)) he, runM_end (f2 ((s2 _ _).trans e)) he]
          have : lessM rs [mkOf (p, vs, [] ++ [(b, kn)])] true [] = [] := by rw [lessM, lessM]; rfl
          exact ⟨by rw [this]; exact List.nil_prefix, fun oc' h _ => ⟨h, this⟩⟩
        rcases Classical.em (vs = []) with hv | hv
        · exact fin' .stuck rfl (by rw [backT, if_pos rfl, if_pos hv])
        · exact fin' (.value (vs.getLastD 0)) rfl (by rw [backT, if_pos rfl, if_neg hv])
      | @plain L0 g c g' c' kk _ hR0 =>
        have e1 : stepQ rs ss most p vs (g ++ [(c, kk)]) b kn = .st b vs (g ++ [(c, kk)]) := by rw [s1, backT, if_neg (by simp)]
        have e2 : stepQ (turnL rs) ss most p' vs (g' ++ [(c', kk)]) b kn' = .st b vs (g' ++ [(c', kk)]) := by rw [s2, backT, if_neg (by simp)]
        rw [runM_st (f1 e1), runM_st (f2 e2)]
        obtain ⟨g1, g2⟩ := ih k L0 b vs g c g' c' kk b kk false hR0 (by omega) (.inl ⟨rfl, rfl, rfl⟩)
        have e : ∀ M, lessM rs (mkOf (p, vs, (g ++ [(c, kk)]) ++ [(b, kn)]) :: M) true (L0 ++ [0]) = lessM rs M false L0 := fun M => by
          rw [lessM]
          have : (mkOf (p, vs, (g ++ [(c, kk)]) ++ [(b, kn)])).1 = p := rfl
          rw [this, lessS_back hb]; rfl
        refine ⟨?_, fun oc h hne => ?_⟩
        · show lessM rs (_ :: _) true _ <+: _
          rw [e]
          exact g1
        · obtain ⟨z1, z2⟩ := g2 oc h hne
          refine ⟨z1, ?_⟩
          show lessM rs (_ :: _) true _ = _
          rw [e]
          exact z2
      | @turn L0 g c g' c' kk _ hR0 hbc =>
        have e1 : stepQ rs ss most p vs (g ++ [(c, kk)]) b kn = .st b vs (g ++ [(c, kk)]) := by rw [s1, backT, if_neg (by simp)]
        rw [runM_st (f1 e1)]
        obtain ⟨g1, g2⟩ := ih (k + 1) L0 b vs g c gs' b' kk p' kn' true hR0 (by omega) (.inr ⟨rfl, hbc, hb', by omega⟩)
        have e : ∀ M, lessM rs (mkOf (p, vs, (g ++ [(c, kk)]) ++ [(b, kn)]) :: M) true (L0 ++ [1]) = lessM rs M true L0 := fun M => by
          rw [lessM]
          have : (mkOf (p, vs, (g ++ [(c, kk)]) ++ [(b, kn)])).1 = p := rfl
          rw [this, lessS_back hb]; rfl
        refine ⟨?_, fun oc h hne => ?_⟩
        · show lessM rs (_ :: _) true _ <+: _
          rw [e]
          exact g1
        · obtain ⟨z1, z2⟩ := g2 oc h hne
          refine ⟨z1, ?_⟩
          show lessM rs (_ :: _) true _ = _
          rw [e]
          exact z2
/-- the jump rows that were begun -/
def jumpsM (rs : List Rw) (ms : List Mk) : Nat := ms.countP fun m => decide (wordAt rs m.1 = "jump")
theorem simB (rs : List Rw) (ss : List Sp2) (most : Int) : ∀ (n n1 : Nat) (L : List Int) (most1 p : Int) (vs : List Int) (gs : List Fr) (b : Int) (gs' : List Fr) (b' : Int) (kn : List Int) (p' : Int) (kn' : List Int), Rl rs L gs b gs' b' →
    ((p' = p ∧ kn' = kn) ∨ (backAt rs p ∧ backAt (turnL rs) p')) → (gs'.length : Int) + 1 ≤ most → ∀ oc, (runM (turnL rs) ss most n (p', vs, gs' ++ [(b', kn')])).1 = some oc → oc ≠ .full →
    (n : Int) + L.sum + jumpsM (turnL rs) (runM (turnL rs) ss most n (p', vs, gs' ++ [(b', kn')])).2 ≤ n1 → most + L.sum + jumpsM (turnL rs) (runM (turnL rs) ss most n (p', vs, gs' ++ [(b', kn')])).2 ≤ most1 →
    (runM rs ss most1 n1 (p, vs, gs ++ [(b, kn)])).1 = some oc := by
  intro n
  induction n with
  | zero => intro n1 L most1 p vs gs b gs' b' kn p' kn' hR hm hf oc h; cases h
  | succ n ih =>
    -- both at back rows
    have back : ∀ (L : List Int) (gs : List Fr) (b : Int) (gs' : List Fr) (b' : Int), Rl rs L gs b gs' b' → ∀ (n1 : Nat) (most1 p : Int) (vs : List Int) (kn : List Int) (p' : Int) (kn' : List Int), backAt rs p → backAt (turnL rs) p' → (gs'.length : Int) + 1 ≤ most → ∀ oc, (runM (turnL rs) ss most (n + 1) (p', vs, gs' ++ [(b', kn')])).1 = some oc → oc ≠ .full →
        ((n + 1 : Nat) : Int) + L.sum + jumpsM (turnL rs) (runM (turnL rs) ss most (n + 1) (p', vs, gs' ++ [(b', kn')])).2 ≤ n1 → most + L.sum + jumpsM (turnL rs) (runM (turnL rs) ss most (n + 1) (p', vs, gs' ++ [(b', kn')])).2 ≤ most1 →
        (runM rs ss most1 n1 (p, vs, gs ++ [(b, kn)])).1 = some oc := by
      intro L gs b gs' b' hR
      induction hR with
      | @base b =>
        intro n1 most1 p vs kn p' kn' hb hb' hf oc h hne c1 c2
        rw [List.sum_nil] at c1
        obtain ⟨k, rfl⟩ : ∃ k, n1 = k + 1 := ⟨n1 - 1, by omega⟩
        have f1 : stepF rs ss most1 (p, vs, [] ++ [(b, kn)]) = backT vs [] b := by rw [stepF_snoc, stepQ_back hb]
        have f2 : stepF (turnL rs) ss most (p', vs, [] ++ [(b, kn')]) = backT vs [] b := by rw [stepF_snoc, stepQ_back hb']
        have he : (backT vs [] b).isEnd = true := by rw [backT, if_pos rfl]; split <;> rfl
        rw [runM_end f2 he] at h
        rw [runM_end f1 he]
        exact h
      | @plain L0 g c g' c' kk b hR0 ih0 =>
        intro n1 most1 p vs kn p' kn' hb hb' hf oc h hne c1 c2
        have hl := hR0.len
        have f1 : stepF rs ss most1 (p, vs, (g ++ [(c, kk)]) ++ [(b, kn)]) = .st b vs (g ++ [(c, kk)]) := by rw [stepF_snoc, stepQ_back hb, backT, if_neg (by simp)]
        have f2 : stepF (turnL rs) ss most (p', vs, (g' ++ [(c', kk)]) ++ [(b, kn')]) = .st b vs (g' ++ [(c', kk)]) := by rw [stepF_snoc, stepQ_back hb', backT, if_neg (by simp)]
        rw [runM_st f2] at h c1 c2
        obtain ⟨k, rfl⟩ : ∃ k, n1 = k + 1 := ⟨n1 - 1, by simp [List.sum_append] at c1; omega⟩
        rw [runM_st f1]
        have hj : jumpsM (turnL rs) (mkOf (p', vs, (g' ++ [(c', kk)]) ++ [(b, kn')]) :: (runM (turnL rs) ss most n (b, vs, g' ++ [(c', kk)])).2) = jumpsM (turnL rs) (runM (turnL rs) ss most n (b, vs, g' ++ [(c', kk)])).2 := by
          have hw : wordAt (turnL rs) p' = "back" := backAt_word.mp hb'
          have : (mkOf (p', vs, (g' ++ [(c', kk)]) ++ [(b, kn')])).1 = p' := rfl
          rw [jumpsM, List.countP_cons, this, hw, if_neg (by decide)]
          rfl
        have c1 : ((n + 1 : Nat) : Int) + (L0 ++ [0]).sum + jumpsM (turnL rs) (mkOf (p', vs, (g' ++ [(c', kk)]) ++ [(b, kn')]) :: (runM (turnL rs) ss most n (b, vs, g' ++ [(c', kk)])).2) ≤ ((k + 1 : Nat) : Int) := c1
        have c2 : most + (L0 ++ [0]).sum + jumpsM (turnL rs) (mkOf (p', vs, (g' ++ [(c', kk)]) ++ [(b, kn')]) :: (runM (turnL rs) ss most n (b, vs, g' ++ [(c', kk)])).2) ≤ most1 := c2
        rw [hj, List.sum_append] at c1 c2
        have e0 : ([0] : List Int).sum = 0 := rfl
        rw [e0] at c1 c2
        exact ih k L0 most1 b vs g c g' c' kk b kk hR0 (.inl ⟨rfl, rfl⟩) (by simp at hf; omega) oc h hne (by omega) (by omega)
      | @turn L0 g c g' c' kk b hR0 hbc ih0 =>
        intro n1 most1 p vs kn p' kn' hb hb' hf oc h hne c1 c2
        have hl := hR0.len
        have e0 : (L0 ++ [1]).sum = L0.sum + 1 := by rw [List.sum_append]; rfl
        rw [e0] at c1 c2
        have f1 : stepF rs ss most1 (p, vs, (g ++ [(c, kk)]) ++ [(b, kn)]) = .st b vs (g ++ [(c, kk)]) := by rw [stepF_snoc, stepQ_back hb, backT, if_neg (by simp)]
        obtain ⟨k, rfl⟩ : ∃ k, n1 = k + 1 := ⟨n1 - 1, by omega⟩
        rw [runM_st f1]
        exact ih0 k most1 b vs kk p' kn' hbc hb' hf oc h hne (by omega) (by omega)
    intro n1 L most1 p vs gs b gs' b' kn p' kn' hR hm hf oc h hne c1 c2
    rcases hm with ⟨rfl, rfl⟩ | ⟨hb, hb'⟩
    · have hl := hR.len
      obtain ⟨k, rfl⟩ : ∃ k, n1 = k + 1 := ⟨n1 - 1, by omega⟩
      have f1 : ∀ {oc}, stepQ rs ss most1 p' vs gs b kn' = oc → stepF rs ss most1 (p', vs, gs ++ [(b, kn')]) = oc := fun h => by rw [stepF_snoc, h]
      have f2 : ∀ {oc}, stepQ (turnL rs) ss most p' vs gs' b' kn' = oc → stepF (turnL rs) ss most (p', vs, gs' ++ [(b', kn')]) = oc := fun h => by rw [stepF_snoc, h]
      have jc : ∀ M, (jumpsM (turnL rs) (mkOf (p', vs, gs' ++ [(b', kn')]) :: M) : Int) = jumpsM (turnL rs) M + (if wordAt (turnL rs) p' = "jump" then 1 else 0) := fun M => by
        have : (mkOf (p', vs, gs' ++ [(b', kn')])).1 = p' := rfl
        rw [jumpsM, List.countP_cons, this]
        by_cases hw : wordAt (turnL rs) p' = "jump"
        · rw [if_pos (decide_eq_true hw), if_pos hw]; simp [jumpsM]
        · rw [if_neg (by rw [decide_eq_false hw]; decide), if_neg hw]; simp [jumpsM]
      have j01 : (0 : Int) ≤ (if wordAt (turnL rs) p' = "jump" then 1 else 0) := by split <;> decide
      have step' : ∀ (p1 : Int) (vs1 : List Int) (hs : List Fr) (c : Int) (kn1 : List Int) (hs' : List Fr) (c' : Int) (L1 : List Int), stepQ rs ss most1 p' vs gs b kn' = .st p1 vs1 (hs ++ [(c, kn1)]) → stepQ (turnL rs) ss most p' vs gs' b' kn' = .st p1 vs1 (hs' ++ [(c', kn1)]) → Rl rs L1 hs c hs' c' → L1.sum ≤ L.sum + (if wordAt (turnL rs) p' = "jump" then 1 else 0) → (hs'.length : Int) + 1 ≤ most →
          (runM rs ss most1 (k + 1) (p', vs, gs ++ [(b, kn')])).1 = some oc := fun p1 vs1 hs c kn1 hs' c' L1 e1 e2 hR1 hL hf1 => by
        rw [runM_st (f2 e2)] at h c1 c2
        rw [runM_st (f1 e1)]
        have c1 : ((n + 1 : Nat) : Int) + L.sum + jumpsM (turnL rs) (mkOf (p', vs, gs' ++ [(b', kn')]) :: (runM (turnL rs) ss most n (p1, vs1, hs' ++ [(c', kn1)])).2) ≤ ((k + 1 : Nat) : Int) := c1
        have c2 : most + L.sum + jumpsM (turnL rs) (mkOf (p', vs, gs' ++ [(b', kn')]) :: (runM (turnL rs) ss most n (p1, vs1, hs' ++ [(c', kn1)])).2) ≤ most1 := c2
        rw [jc] at c1 c2
        exact ih k L1 most1 p1 vs1 hs c hs' c' kn1 p1 kn1 hR1 (.inl ⟨rfl, rfl⟩) hf1 oc h hne (by omega) (by omega)
      cases sync rs ss p' vs kn' with
      | fin oc' ho h1 h2 =>
        have he : oc'.isEnd = true := by rcases ho with rfl | rfl <;> rfl
        rw [runM_end (f2 (h2 _ _ _)) he] at h
        rw [runM_end (f1 (h1 _ _ _)) he]
        exact h
      | go p1 vs1 kn1 hc hb h1 h2 => exact step' p1 vs1 gs b kn1 gs' b' L (h1 _ _ _) (h2 _ _ _) hR (by omega) hf
      | call p1 vs1 kn1 hc hb h1 h2 =>
        by_cases hfu : most ≤ (gs'.length : Int) + 1
        · rw [runM_end (f2 (by rw [h2, if_pos hfu])) rfl] at h
          have h : some Oc.full = some oc := h
          cases h
          exact absurd rfl hne
        · have hj0 : (0 : Int) ≤ jumpsM (turnL rs) (runM (turnL rs) ss most (n + 1) (p', vs, gs' ++ [(b', kn')])).2 := by omega
          exact step' p1 vs1 (gs ++ [(b, kn')]) (p' + 1) kn1 (gs' ++ [(b', kn')]) (p' + 1) (L ++ [0]) (by rw [h1, if_neg (by omega)]) (by rw [h2, if_neg hfu]) (.plain hR) (by rw [List.sum_append]; show L.sum + 0 ≤ _; omega) (by simp; omega)
      | turn p1 vs1 kn1 hc hb hj h1 h2 =>
        have e2 := h2 most gs' b'
        have c2' := c2
        rw [runM_st (f2 e2)] at c2'
        have c2' : most + L.sum + jumpsM (turnL rs) (mkOf (p', vs, gs' ++ [(b', kn')]) :: (runM (turnL rs) ss most n (p1, vs1, gs' ++ [(b', kn1)])).2) ≤ most1 := c2'
        rw [jc, if_pos hj] at c2'
        exact step' p1 vs1 (gs ++ [(b, kn')]) (p' + 1) kn1 gs' b' (L ++ [1]) (by rw [h1, if_neg (by omega)]) e2 (.turn hR hb) (by rw [List.sum_append, if_pos hj]; show L.sum + 1 ≤ _; omega) hf
      | back h1 h2 => exact back L gs b gs' b' hR (k + 1) most1 p' vs kn' p' kn' h1 h2 hf oc h hne c1 c2
    · exact back L gs b gs' b' hR n1 most1 p vs kn p' kn' hb hb' hf oc h hne c1 c2
/-- a jump row leaves as many frames as there were -/
theorem jump_keeps (rs : List Rw) (ss : List Sp2) (most : Int) : ∀ (n : Nat) (s : St3) (i : Nat) (m m' : Mk), s.2.2 ≠ [] → (runM rs ss most n s).2[i]? = some m → (runM rs ss most n s).2[i + 1]? = some m' → wordAt rs m.1 = "jump" → m'.2.1 = m.2.1 := by
  have hd : ∀ (n : Nat) (s : St3) (m : Mk), (runM rs ss most n s).2[0]? = some m → m = mkOf s := fun n s m h => by
    cases n with
    | zero => cases h
    | succ n =>
      cases e : stepF rs ss most s with
      | st q ws fs => rw [runM_st e] at h; exact (Option.some.inj h).symm
      | stuck => rw [runM_end e rfl] at h; exact (Option.some.inj h).symm
      | nought => rw [runM_end e rfl] at h; exact (Option.some.inj h).symm
      | full => rw [runM_end e rfl] at h; exact (Option.some.inj h).symm
      | value v => rw [runM_end e rfl] at h; exact (Option.some.inj h).symm
  have no1 : ∀ {s : St3} {oc : Oc} {i : Nat} {m' : Mk}, (some oc, [mkOf s]).2[i + 1]? = some m' → False := fun {s oc i m'} h => by cases h
  intro n
  induction n with
  | zero => intro s i m m' _ h; cases h
  | succ n ih =>
    intro s i m m' hne h1 h2 hw
    cases e : stepF rs ss most s with
    | st q ws fs =>
      rw [runM_st e] at h1 h2
      have fsne : fs ≠ [] ∧ (i = 0 → fs.length = s.2.2.length) := by
        obtain ⟨p, vs, fs0⟩ := s
        rcases snoc_cases fs0 with rfl | ⟨gs, ⟨b, kn⟩, rfl⟩
        · exact absurd rfl hne
        · rw [stepF_snoc] at e
          have ew : i = 0 → wordAt rs p = "jump" := fun hi => by
            subst hi
            have : mkOf (p, vs, gs ++ [(b, kn)]) = m := Option.some.inj h1
            subst this
            exact hw
          unfold stepQ at e
          split at e
          · rename_i hp
            have ew2 : i = 0 → (rowAt rs p).1 = "jump" := fun hi => by
              have := ew hi
              rwa [wordAt, if_pos hp] at this
            unfold stepR at e
            split at e
            · rename_i hc
              rcases enterT_par ((rowAt rs p).2.getD 0) ss vs with h | ⟨p1, vs1, kn1, g1, g2⟩
              · rw [h] at e; cases e
              · rcases hc with hc | hc
                · rw [hc, g2] at e
                  split at e
                  · cases e
                  · cases e
                    refine ⟨by simp, fun hi => ?_⟩
                    have := ew2 hi
                    rw [hc] at this
                    exact absurd this (by decide)
                · rw [hc, g1] at e
                  cases e
                  exact ⟨by simp, fun _ => by simp⟩
            · rename_i hc
              refine ⟨?_, fun hi => absurd (ew2 hi) fun z => hc (.inr z)⟩
              split at e
              · unfold backT at e
                split at e
                · split at e <;> cases e
                · rename_i hg
                  cases e
                  exact hg
              · rcases stepT_par (rowAt rs p).1 ((rowAt rs p).2.getD 0) p vs kn with ⟨oc, h, g⟩ | ⟨p1, vs1, kn1, g⟩
                · rw [g] at e
                  rcases h with rfl | rfl <;> cases e
                · rw [g] at e
                  cases e
                  simp
          · cases e
      cases i with
      | zero =>
        have a1 : mkOf s = m := Option.some.inj h1
        have a2 := hd n _ _ h2
        subst a1 a2
        show (fs.length : Int) = (s.2.2.length : Int)
        rw [fsne.2 rfl]
      | succ i => exact ih _ i m m' fsne.1 h1 h2 hw
    | stuck => rw [runM_end e rfl] at h2; exact (no1 h2).elim
    | nought => rw [runM_end e rfl] at h2; exact (no1 h2).elim
    | full => rw [runM_end e rfl] at h2; exact (no1 h2).elim
    | value v => rw [runM_end e rfl] at h2; exact (no1 h2).elim
end Tr
namespace Tr
open PySem L2
/-! ### small things -/
theorem de_cast {X : Cx} {Δ Δ1 : En} {a : Expr} {x y : PyData} (e : x = y) (h : DEx X Δ a (.d x) Δ1) : DEx X Δ a (.d y) Δ1 := e ▸ h
theorem de_castB {X : Cx} {Δ Δ1 : En} {a : Expr} {k l : Bool} (e : k = l) (h : DEx X Δ a (.d (.bool k)) Δ1) : DEx X Δ a (.d (.bool l)) Δ1 := e ▸ h
theorem dt_cast {X : Cx} {Δ Δ1 : En} {a : Expr} {k l : Bool} (e : k = l) (h : DTx X Δ a k Δ1) : DTx X Δ a l Δ1 := e ▸ h
theorem dt_castW {X : Cx} {Δ Δ1 : En} {a : Expr} {k l : Bool} (e : k = l) (h : DWx X Δ a k Δ1) : DWx X Δ a l Δ1 := e ▸ h
/-- and, whose second part fails -/
theorem dw_andF {X : Cx} {Δ : En} {a b : Expr} {es : List Expr} {k : Bool} {pos : Pos} (h : DTx X Δ a k Δ) (hb : k = true → DWx X Δ (.BoolOp .And (b :: es) pos) false Δ) : DWx X Δ (.BoolOp .And (a :: b :: es) pos) false Δ := by
  have z := dw_and (l := false) h hb
  rw [Bool.and_false] at z
  exact z
theorem eqv_word (v u : Str) : PyData.eqv (.tuple [.str v]) (.tuple [.str u]) = decide (v = u) := by
  simp only [PyData.eqv, PyData.eqvAll, Bool.and_true]
  by_cases h : v = u
  · subst h; simp
  · rw [decide_eq_false h]; exact beq_eq_false_iff_ne.mpr h
/-! a statement while something is held apart -/
theorem dz_then {X : Cx} {W : WX} {Δ Δ1 : En} {st : Stmt} {rest : List Stmt} {o : Out} {a : Addr} {v1 v2 : V} {t1 t2 : Tm} (h : DS1 X W Δ st (.nx Δ1)) (hr : DZ X W a v1 v2 t1 t2 Δ1 rest o) : DZ X W a v1 v2 t1 t2 Δ (st :: rest) o := pss_imp (pss_cons h hr) fun D σ H ⟨B0, B, F, tk, ok, q⟩ => ⟨B, F, ok, fun σ' F' H' ok' ex kp => ⟨B0, B, F', tk.mono ex, ok', q.step ex kp⟩⟩
theorem gz_then {ι : Type} {XS : ι → Cx} {WS : ι → WX} {P : Out → Prop} {Δ Δ1 : En} {st : Stmt} {rest : List Stmt} {t1 t2 : Tm} (i : Nat) (Δa Δb : Addr → En) (ha : ∀ a, Δ.set i (.v (.ref a)) = Δa a) (hb : ∀ a, Δ1.set i (.v (.ref a)) = Δb a) (h : ∀ q a, DS1 (XS q) (WS q) (Δa a) st (.nx (Δb a))) (hr : GoZ XS WS t1 t2 i Δ1 rest P) : GoZ XS WS t1 t2 i Δ (st :: rest) P := let ⟨o, hp, k⟩ := hr; ⟨o, hp, fun q a v1 v2 => by
  have h1 := h q a
  rw [← ha, ← hb] at h1
  exact dz_then h1 (k q a v1 v2)⟩
def endE : Option Oc → Bool
  | none => true
  | some oc => oc.isEnd
theorem end_shape {oc : Oc} (h : oc.isEnd = true) : (∃ v, encO oc = .tuple [.str v]) ∨ ∃ v n, encO oc = .tuple [.str v, .int n] := by
  cases oc with
  | st p vs fs => cases h
  | stuck => exact .inl ⟨_, rfl⟩
  | nought => exact .inl ⟨_, rfl⟩
  | full => exact .inl ⟨_, rfl⟩
  | value v => exact .inr ⟨_, _, rfl⟩
theorem endE_shape {oc : Option Oc} (h : endE oc = true) : (∃ v, encE oc = .tuple [.str v]) ∨ ∃ v n, encE oc = .tuple [.str v, .int n] := by
  cases oc with
  | none => exact .inl ⟨_, rfl⟩
  | some oc => exact end_shape h
theorem runM_endE {rs : List Rw} {ss : List Sp2} {most : Int} : ∀ (n : Nat) (s : St3), endE (runM rs ss most n s).1 = true
  | 0, s => rfl
  | n + 1, s => by
    cases h : stepF rs ss most s with
    | st p vs fs => rw [runM_st h]; exact runM_endE n _
    | stuck => rw [runM_end h rfl]; rfl
    | nought => rw [runM_end h rfl]; rfl
    | full => rw [runM_end h rfl]; rfl
    | value v => rw [runM_end h rfl]; rfl
theorem runM_len {rs : List Rw} {ss : List Sp2} {most : Int} : ∀ (n : Nat) (s : St3), (runM rs ss most n s).2.length ≤ n
  | 0, s => Nat.le_refl _
  | n + 1, s => by
    cases h : stepF rs ss most s with
    | st p vs fs =>
      rw [runM_st h]
      have := runM_len (rs := rs) (ss := ss) (most := most) n (p, vs, fs)
      show _ + 1 ≤ n + 1
      omega
    | stuck => rw [runM_end h rfl]; show 1 ≤ n + 1; omega
    | nought => rw [runM_end h rfl]; show 1 ≤ n + 1; omega
    | full => rw [runM_end h rfl]; show 1 ≤ n + 1; omega
    | value v => rw [runM_end h rfl]; show 1 ≤ n + 1; omega
theorem wfN_turn {rs : List Rw} (h : ∀ r ∈ rs, wfN r) : ∀ r ∈ turnL rs, wfN r := fun r hr => by
  obtain ⟨k, hk⟩ := List.mem_iff_getElem?.mp hr
  have hl : k < rs.length := by
    have := (List.getElem?_eq_some_iff.mp hk).1
    rw [turnL_len] at this
    exact this
  have e := List.getElem?_eq_getElem hl
  have hw := wf_turn (fun r hr => (h r hr).1) r hr
  rw [turnL_get e] at hk
  have hm := h _ (List.getElem_mem hl)
  have hk := Option.some.inj hk
  by_cases hlst : isLast rs k = true
  · rw [if_pos hlst] at hk
    subst hk
    have h1 : rs[k].1 = "call" := by
      unfold isLast at hlst
      rw [e] at hlst
      have := (Bool.and_eq_true_iff.mp hlst).1
      exact beq_iff_eq.mp this
    exact ⟨hw, fun _ => hm.2 (.inr (.inl h1))⟩
  · rw [if_neg hlst] at hk
    subst hk
    exact hm
theorem pre_take {α : Type} {A B : List α} (h : A <+: B) : B.take A.length = A := by
  obtain ⟨T, rfl⟩ := h
  simp
end Tr
namespace Tr
open PySem L2
/-! ### the rows of trees -/
abbrev r0 (w : Str) : Rw := (w, none)
abbrev r1 (w : Str) (n : Int) : Rw := (w, some n)
theorem wfN_r0 {w : Str} (h : w ∈ wordL ∧ ¬ w ∈ numW) : wfN (r0 w) := by
  refine ⟨⟨h.1, ?_⟩, fun z => ?_⟩
  · show false = decide (w ∈ numW)
    rw [decide_eq_false h.2]
  · exfalso
    have z : w = "arg" ∨ w = "call" ∨ w = "jump" := z
    rcases z with rfl | rfl | rfl <;> exact h.2 (by decide)
theorem wfN_r1 {w : Str} {n : Int} (h : w ∈ wordL ∧ w ∈ numW) (hn : w = "arg" ∨ w = "call" ∨ w = "jump" → 0 ≤ n) : wfN (r1 w n) := by
  refine ⟨⟨h.1, ?_⟩, hn⟩
  show true = decide (w ∈ numW)
  rw [decide_eq_true h.2]
theorem wfN_rn {w : Str} {n : Int} (h : w ∈ wordL ∧ w ∈ numW) (hn : ¬ (w = "arg" ∨ w = "call" ∨ w = "jump")) : wfN (r1 w n) := wfN_r1 h fun z => absurd z hn
mutual
def inR : Tree → List Rw
  | .num n => [r1 "num" n]
  | .arg k => [r1 "arg" k]
  | .bin w a b => inR a ++ inR b ++ [r0 w]
  | .sure a => inR a ++ [r0 "sure"]
  | .lett a b => inR a ++ [r0 "keep"] ++ inR b ++ [r0 "drop"]
  | .pick a b c => inR a ++ [r1 "unless" ((inR b).length + 1)] ++ inR b ++ [r1 "skip" (inR c).length] ++ inR c
  | .call f as => inRs as ++ [r1 "call" f]
def inRs : List Tree → List Rw
  | [] => []
  | t :: ts => inR t ++ inRs ts
end
def lastR : Tree → List Rw
  | .lett a b => inR a ++ [r0 "keep"] ++ lastR b
  | .pick a b c => inR a ++ [r1 "unless" (lastR b).length] ++ lastR b ++ lastR c
  | .num n => inR (.num n) ++ [r0 "back"]
  | .arg k => inR (.arg k) ++ [r0 "back"]
  | .bin w a b => inR (.bin w a b) ++ [r0 "back"]
  | .sure a => inR (.sure a) ++ [r0 "back"]
  | .call f as => inR (.call f as) ++ [r0 "back"]
theorem inRs_app : ∀ xs ys : List Tree, inRs (xs ++ ys) = inRs xs ++ inRs ys
  | [], ys => rfl
  | x :: xs, ys => by
    show inR x ++ inRs (xs ++ ys) = (inR x ++ inRs xs) ++ inRs ys
    rw [inRs_app xs ys, List.append_assoc]
theorem inRs_one (t : Tree) : inRs [t] = inR t := by
  show inR t ++ inRs [] = inR t
  exact List.append_nil _
theorem inRs_take {ts : List Tree} {n : Nat} {t : Tree} (h : ts[n]? = some t) : inRs (ts.take (n + 1)) = inRs (ts.take n) ++ inR t := by
  rw [← take_step h, inRs_app, inRs_one]
theorem inRs_take_le (ts : List Tree) (n : Nat) : (inRs (ts.take n)).length ≤ (inRs ts).length := by
  have : inRs ts = inRs (ts.take n) ++ inRs (ts.drop n) := by rw [← inRs_app, List.take_append_drop]
  rw [this, List.length_append]
  omega
mutual
theorem wfN_in : ∀ {cs : List Int} {n : Nat} {kn : Int} {t : Tree}, okT cs n kn t → ∀ r ∈ inR t, wfN r
  | cs, 0, kn, t, h => h.elim
  | cs, n + 1, kn, .num m, _ => fun r hr => by
    simp only [inR, List.mem_cons, List.not_mem_nil, or_false] at hr
    subst hr
    exact wfN_rn (by decide) (by decide)
  | cs, n + 1, kn, .arg k, h => fun r hr => by
    simp only [inR, List.mem_cons, List.not_mem_nil, or_false] at hr
    subst hr
    exact wfN_r1 (by decide) fun _ => h.1
  | cs, n + 1, kn, .bin v a b, h => fun r hr => by
    simp only [inR, List.mem_append, List.mem_cons, List.not_mem_nil, or_false] at hr
    rcases hr with (hr | hr) | hr
    · exact wfN_in h.2.1 r hr
    · exact wfN_in h.2.2 r hr
    · subst hr
      rcases h.1 with rfl | rfl | rfl <;> exact wfN_r0 (by decide)
  | cs, n + 1, kn, .sure a, h => fun r hr => by
    simp only [inR, List.mem_append, List.mem_cons, List.not_mem_nil, or_false] at hr
    rcases hr with hr | hr
    · exact wfN_in (n := n) (kn := kn) (t := a) h r hr
    · subst hr
      exact wfN_r0 (by decide)
  | cs, n + 1, kn, .lett a b, h => fun r hr => by
    simp only [inR, List.mem_append, List.mem_cons, List.not_mem_nil, or_false] at hr
    rcases hr with ((hr | hr) | hr) | hr
    · exact wfN_in h.1 r hr
    · subst hr
      exact wfN_r0 (by decide)
    · exact wfN_in h.2 r hr
    · subst hr
      exact wfN_r0 (by decide)
  | cs, n + 1, kn, .pick a b c, h => fun r hr => by
    simp only [inR, List.mem_append, List.mem_cons, List.not_mem_nil, or_false] at hr
    rcases hr with (((hr | hr) | hr) | hr) | hr
    · exact wfN_in h.1 r hr
    · subst hr
      exact wfN_rn (by decide) (by decide)
    · exact wfN_in h.2.1 r hr
    · subst hr
      exact wfN_rn (by decide) (by decide)
    · exact wfN_in h.2.2 r hr
  | cs, n + 1, kn, .call f as, h => fun r hr => by
    simp only [inR, List.mem_append, List.mem_cons, List.not_mem_nil, or_false] at hr
    rcases hr with hr | hr
    · exact wfN_ins h.2.2.2.2 r hr
    · subst hr
      exact wfN_r1 (by decide) fun _ => h.1
theorem wfN_ins : ∀ {cs : List Int} {n : Nat} {kn : Int} {ts : List Tree}, (∀ a ∈ ts, okT cs n kn a) → ∀ r ∈ inRs ts, wfN r
  | cs, n, kn, [], h => fun r hr => by cases hr
  | cs, n, kn, t :: ts, h => fun r hr => by
    simp only [inRs, List.mem_append] at hr
    rcases hr with hr | hr
    · exact wfN_in (h t (by simp)) r hr
    · exact wfN_ins (fun a ha => h a (List.mem_cons_of_mem _ ha)) r hr
end
theorem wfN_bk : wfN (r0 "back") := wfN_r0 (by decide)
theorem mem_snocR {r x : Rw} {xs : List Rw} (h : r ∈ xs ++ [x]) : r ∈ xs ∨ r = x := by
  rcases List.mem_append.mp h with h | h
  · exact .inl h
  · simp only [List.mem_cons, List.not_mem_nil, or_false] at h
    exact .inr h
theorem wfN_last : ∀ {cs : List Int} {n : Nat} {kn : Int} {t : Tree}, okT cs n kn t → ∀ r ∈ lastR t, wfN r
  | cs, 0, kn, t, h => h.elim
  | cs, n + 1, kn, .num m, h => fun r hr => by
    rcases mem_snocR hr with hr | hr
    · exact wfN_in h r hr
    · subst hr; exact wfN_bk
  | cs, n + 1, kn, .arg k, h => fun r hr => by
    rcases mem_snocR hr with hr | hr
    · exact wfN_in h r hr
    · subst hr; exact wfN_bk
  | cs, n + 1, kn, .bin v a b, h => fun r hr => by
    rcases mem_snocR hr with hr | hr
    · exact wfN_in h r hr
    · subst hr; exact wfN_bk
  | cs, n + 1, kn, .sure a, h => fun r hr => by
    rcases mem_snocR hr with hr | hr
    · exact wfN_in h r hr
    · subst hr; exact wfN_bk
  | cs, n + 1, kn, .call f as, h => fun r hr => by
    rcases mem_snocR hr with hr | hr
    · exact wfN_in h r hr
    · subst hr; exact wfN_bk
  | cs, n + 1, kn, .lett a b, h => fun r hr => by
    simp only [lastR, List.mem_append, List.mem_cons, List.not_mem_nil, or_false] at hr
    rcases hr with (hr | hr) | hr
    · exact wfN_in h.1 r hr
    · subst hr
      exact wfN_r0 (by decide)
    · exact wfN_last h.2 r hr
  | cs, n + 1, kn, .pick a b c, h => fun r hr => by
    simp only [lastR, List.mem_append, List.mem_cons, List.not_mem_nil, or_false] at hr
    rcases hr with ((hr | hr) | hr) | hr
    · exact wfN_in h.1 r hr
    · subst hr
      exact wfN_rn (by decide) (by decide)
    · exact wfN_last h.2.1 r hr
    · exact wfN_last h.2.2 r hr
/-! programs -/
abbrev Fnc := Int × Tree
def encFn (p : Fnc) : PyData := .tuple [.int p.1, enc p.2]
def prowsL : List Fnc → List Rw
  | [] => []
  | p :: ps => lastR p.2 ++ prowsL ps
/-- the starts, the rows ahead being so many -/
def pstartsL : Nat → List Fnc → List Sp2
  | _, [] => []
  | k, p :: ps => ((k : Int), p.1) :: pstartsL (k + (lastR p.2).length) ps
theorem prowsL_app : ∀ xs ys : List Fnc, prowsL (xs ++ ys) = prowsL xs ++ prowsL ys
  | [], ys => rfl
  | x :: xs, ys => by
    show lastR x.2 ++ prowsL (xs ++ ys) = (lastR x.2 ++ prowsL xs) ++ prowsL ys
    rw [prowsL_app xs ys, List.append_assoc]
theorem pstartsL_app : ∀ (k : Nat) (xs ys : List Fnc), pstartsL k (xs ++ ys) = pstartsL k xs ++ pstartsL (k + (prowsL xs).length) ys
  | k, [], ys => rfl
  | k, x :: xs, ys => by
    show ((k : Int), x.1) :: pstartsL (k + (lastR x.2).length) (xs ++ ys) = ((k : Int), x.1) :: (pstartsL (k + (lastR x.2).length) xs ++ pstartsL (k + (lastR x.2 ++ prowsL xs).length) ys)
    rw [pstartsL_app _ xs ys, List.length_append, Nat.add_assoc]
theorem pstartsL_len : ∀ (k : Nat) (xs : List Fnc), (pstartsL k xs).length = xs.length
  | k, [] => rfl
  | k, x :: xs => by
    show (pstartsL _ xs).length + 1 = xs.length + 1
    rw [pstartsL_len]
theorem pstartsL_snd : ∀ (k : Nat) (xs : List Fnc), (pstartsL k xs).map Prod.snd = xs.map Prod.fst
  | k, [] => rfl
  | k, x :: xs => by
    show x.1 :: (pstartsL _ xs).map Prod.snd = x.1 :: xs.map Prod.fst
    rw [pstartsL_snd]
theorem prows_take {ps : List Fnc} {n : Nat} {p : Fnc} (h : ps[n]? = some p) : prowsL (ps.take (n + 1)) = prowsL (ps.take n) ++ lastR p.2 := by
  rw [← take_step h, prowsL_app]
  show _ ++ (lastR p.2 ++ []) = _
  rw [List.append_nil]
theorem pstarts_take {ps : List Fnc} {n : Nat} {p : Fnc} (h : ps[n]? = some p) : pstartsL 0 (ps.take (n + 1)) = pstartsL 0 (ps.take n) ++ [(((prowsL (ps.take n)).length : Int), p.1)] := by
  rw [← take_step h, pstartsL_app, Nat.zero_add]
  rfl
theorem prows_le {ps : List Fnc} {L : Nat} (h : ∀ p ∈ ps, (lastR p.2).length ≤ L) : (prowsL ps).length ≤ L * ps.length := by
  induction ps with
  | nil => exact Nat.zero_le _
  | cons p ps ih =>
    have h1 := h p (by simp)
    have h2 := ih fun q hq => h q (List.mem_cons_of_mem _ hq)
    show (lastR p.2 ++ prowsL ps).length ≤ L * (ps.length + 1)
    rw [List.length_append, Nat.mul_add, Nat.mul_one]
    omega
/-- a program that goes -/
def okProg (N : Nat) (ps : List Fnc) : Prop := ps.length ≤ 45 ∧ ∀ p ∈ ps, 0 ≤ p.1 ∧ p.1 ≤ 1000 ∧ okT (ps.map Prod.fst) N p.1 p.2 ∧ pd p.2 ≤ N ∧ (lastR p.2).length ≤ 20000
theorem okProg.rows {N : Nat} {ps : List Fnc} (h : okProg N ps) : (prowsL ps).length ≤ 900000 := by
  have h1 := prows_le fun p hp => (h.2 p hp).2.2.2.2
  have := h.1
  omega
theorem okProg.wfN {N : Nat} {ps : List Fnc} (h : okProg N ps) : ∀ r ∈ prowsL ps, wfN r := by
  have key : ∀ qs : List Fnc, (∀ p ∈ qs, ∃ cs, okT cs N p.1 p.2) → ∀ r ∈ prowsL qs, Tr.wfN r := by
    intro qs
    induction qs with
    | nil => intro _ r hr; cases hr
    | cons q qs ih =>
      intro hq r hr
      have hr : r ∈ lastR q.2 ++ prowsL qs := hr
      rcases List.mem_append.mp hr with hr | hr
      · obtain ⟨cs, hcs⟩ := hq q (by simp)
        exact wfN_last hcs r hr
      · exact ih (fun p hp => hq p (List.mem_cons_of_mem _ hp)) r hr
  exact key ps fun p hp => ⟨_, (h.2 p hp).2.2.1⟩
end Tr
namespace Tr
open PySem L2
/-! ### a new list given away in a call -/
theorem Res.weakB {K : Frag} {B B' F H : Hp} {σ : St} {Δ : En} {v : V} {r : R} (h : Res B' F H σ Δ v r) (e : Ex B B') : Res B F H σ Δ v r := by
  cases r with
  | d x => exact h
  | sl i => exact h
  | nl xs =>
    obtain ⟨a, vs, ev, h1, h2, h3⟩ := h
    exact ⟨a, vs, ev, h1, e.back h2, h3⟩
  | nt i j => exact nt_map h fun a hb nm => ⟨e.back hb, nm⟩
section
variable {X : Cx} {Δ Δ1 Δ2 Δp : En} {e : Expr} {es : List Expr} {r : R} {rs : List R} {xs : List PyData} {pos p : Pos} {k : Nat} {x : Str} {S : Spec}
theorem da_consN (ha : DEx X Δ e (.nl xs) Δ1) (hr : DAx X Δ1 es rs Δ2) (hs : starEach (e :: es) X.env = (false, eval e X.env) :: starEach es X.env := by rfl) : DAx X Δ (e :: es) (.nl xs :: rs) Δ2 :=
  ⟨ha.rk.trans hr.rk, pa_imp (pa_cons ha.pe hr.pa hs) fun σ H Q ⟨B, F, ok, q⟩ => ⟨B, F, ok, fun v F1 H1 ok1 ex1 ⟨a, vs, ev, h1, h2, h3, h4, h5⟩ => by
    subst ev
    refine ⟨upd B a (.lst vs), F1, ok1.addB h1 h3 h5, fun vs2 F2 H2 ok2 ex2 hvs => ?_⟩
    have hB : (upd B a (.lst vs)) a ≠ none := by rw [upd_same]; intro z; cases z
    exact q _ F2 H2 (ok2.weakB (.new h2)) (ex1.trans ex2) (.cons ⟨a, vs, rfl, ok2.bf a hB, h2, ok2.bh a _ upd_same, h4.mono ex2, ok2.notB hB⟩ (pr_mono (fun _ _ z => Res.weakB (K := X.K) z (.new h2)) hvs))⟩⟩
theorem ok_consRef {K : Frag} {B F H : Hp} {σ : St} {Δ : En} {a : Addr} (ok : Ok K B F H σ Δ) (h : MutL B F H (some (.ref a)) xs) (nm : NotMut σ Δ a) : Ok K B F H (some (.ref a) :: σ) (.ref xs :: Δ) := by
  refine ⟨ok.fh, ok.bh, ok.bf, by simp [ok.len], fun i s e => ?_, fun i j s t b e1 e2 m1 m2 r1 r2 => ?_⟩
  · cases i with
    | zero => cases e; exact ⟨_, rfl, h⟩
    | succ i => exact ok.sl i s e
  · cases i with
    | zero =>
      cases j with
      | zero => rfl
      | succ j =>
        cases r1
        exact absurd r2 (nm j t e2 m2)
    | succ i =>
      cases j with
      | zero =>
        cases r2
        exact absurd r1 (nm i s e1 m1)
      | succ j => exact congrArg _ (ok.nd i j s t b e1 e2 m1 m2 r1 r2)
theorem de_callN (h : Fn X.prog X.w X.K X.mg X.base k x S) (hr : Room k X.A) (ha : DAx X Δ (e :: es) (.nl xs :: rs) Δ1) (hs : S (.ref xs :: rs.map (argSl Δ1)) (.rt Δp r)) (hm : rs.all (fun r => !(argSl Δ1 r).mut) = true) (hf : fin r = true) (hg : Gl X x := by rfl)
    (hdb : (x == ("__debug__" : Str)) = false := by decide) (he : starEach (e :: es) X.env = (false, eval e X.env) :: starEach es X.env := by rfl) (hpl : (backTo pos (starEach es X.env)).any (·.1) = false := by rfl) :
    DEx X Δ (.Call (.Name x p) (e :: es) [] pos) r Δ1 := by
  obtain ⟨f, fd, ps, h1, h2, h3, h4⟩ := h
  refine ⟨ha.rk, pe_imp (pe_call h4 hr hg h1 h2 h3 .nil passL ha.pa hdb he hpl) fun σ H Q ⟨B, F, ok, q⟩ => ⟨B, F, ok, fun vs F1 H1 ok1 ex1 hv => ?_⟩⟩
  show spOf X.K S (vs ++ []) H1 Q E0
  rw [List.append_nil]
  cases hv with
  | @cons v _ vs _ hn hv =>
  obtain ⟨a, us, ev, n1, n2, n3, n4, n5⟩ := hn
  subst ev
  have okc := ok_call (n := none) ok1 hv (oneN hm)
  have ka : keepB σ Δ1 B H1 none a = none := by
    unfold keepB
    split
    · rename_i z
      obtain ⟨j, s, e1, m, hj, _⟩ := z
      exact absurd hj (n5 j s e1 m)
    · exact n2
  have okn : Ok X.K (keepB σ Δ1 B H1 none) F1 H1 ((V.ref a :: vs).map some) (.ref xs :: rs.map (argSl Δ1)) := ok_consRef okc ⟨a, us, rfl, n1, ka, n3, n4⟩ fun i s ei mi _ => by
    rw [List.getElem?_map] at ei
    cases hi : rs[i]? with
    | none => rw [hi] at ei; cases ei
    | some r' =>
      rw [hi] at ei
      cases ei
      have := List.all_eq_true.mp hm r' (List.mem_of_getElem? hi)
      rw [mi] at this
      cases this
  refine ⟨_, _, _, F1, hs, okn, fun v F2 H2 ok2 ex2 hres => ?_⟩
  have ok3 := ok_back ok1 ok2 ex2
  refine q v F2 H2 ok3 (ex1.trans ex2) ?_
  cases r with
  | d x => exact hres
  | nl xs =>
    obtain ⟨a, ws, ev, r1, r2, r3, r4, r5⟩ := hres
    exact ⟨a, ws, ev, r1, (keepB_ex ok1).back r2, r3, r4, notMut_back (H' := H2) (F' := F2) (Δp := Δp) ok1 r2⟩
  | nt i j => exact nt_map hres fun a r2 _ => ⟨(keepB_ex ok1).back r2, notMut_back (H' := H2) (F' := F2) (Δp := Δp) ok1 r2⟩
  | sl i => cases hf
end
/-! ### xs.count(e) of truth values, of texts -/
section
variable {X : Cx}
theorem count_strs {k : Str} : ∀ {us : List Value} {ss : List Str}, PyProof.Rows.StrsAre us ss → us.countP (PyProof.Rows.isStrOf k) = ss.count k
  | _, _, .nil => rfl
  | _, _, .cons n t h => by
    have ih := count_strs (k := k) h
    rw [List.countP_cons, List.count_cons, ih] <;> rfl
theorem mt_scount : MtR X "list.count" (fun x xs H Q => ∃ (p : Addr) (ss : List Str) (k : Str), x = .ref p ∧ xs = [.str k] ∧ SqL X.K H p (ss.map V.str) ∧ Q (.int (ss.count k : Nat)) H) := by
  intro pins s σ H x xs v us Q I rx rxs h
  obtain ⟨p, ss, k, rfl, rfl, hs, q⟩ := h
  cases rx
  obtain ⟨u, rfl, ru⟩ := rxs.one
  obtain ⟨t, rfl⟩ := ru
  obtain ⟨its, rv, ⟨⟨cls, dd, data, sl⟩, n, ho, hc, hdn, hd⟩, hlen⟩ := I.list hs
  simp only at hc hd
  subst hc hd
  have hi := Vals.strs rv
  refine PySem.call_meets PySem.F.slot_list_count ⟨_, ho, rfl⟩ PySem.F.entry_list_count (PySem.F.args_list_count_2 _ _)
    (PySem.SeqAt.list_countAt p its.toArray n dd sl (.str k t) (PyProof.Rows.isStrOf k)) ⟨ho, fun y hy => (PyProof.Rows.eq_isStrOf k t hi y (by simpa using hy)).at _ _, ?_⟩
  have ec : its.toArray.toList.countP (PyProof.Rows.isStrOf k) = ss.count k := count_strs hi
  refine ⟨.int (ss.count k : Nat), H, I.tok _, ⟨s.toks, ?_⟩, q⟩
  show Value.int ((its.toArray.toList.countP (PyProof.Rows.isStrOf k) : Nat) : Int) s.toks = Value.int ((ss.count k : Nat) : Int) s.toks
  rw [ec]
theorem bools_at {k : Bool} {A : Around} {s : Shared} : ∀ {us : List Value} {bs : List Bool}, Vals (bs.map V.bl) us → ∀ y ∈ us, PySem.SeqAt.EqAt A s y (.bool k) (PyProof.Rows.isBoolOf k y)
  | _, [], .nil => fun y hy => by cases hy
  | _, b :: bs, .cons r t => fun y hy => by
    rcases List.mem_cons.mp hy with e | hy
    · rw [e]
      have r : _ = Value.bool b := r
      rw [r]
      exact PySem.SeqAt.EqAt.bool_bool b k
    · exact bools_at t y hy
theorem count_bools {k : Bool} : ∀ {us : List Value} {bs : List Bool}, Vals (bs.map V.bl) us → us.countP (PyProof.Rows.isBoolOf k) = bs.count k
  | _, [], .nil => rfl
  | _, b :: bs, .cons r t => by
    have ih := count_bools (k := k) t
    have r : _ = Value.bool b := r
    rw [List.countP_cons, List.count_cons, ih, r] <;> rfl
theorem mt_bcount : MtR X "list.count" (fun x xs H Q => ∃ (p : Addr) (bs : List Bool) (k : Bool), x = .ref p ∧ xs = [.bl k] ∧ SqL X.K H p (bs.map V.bl) ∧ Q (.int (bs.count k : Nat)) H) := by
  intro pins s σ H x xs v us Q I rx rxs h
  obtain ⟨p, bs, k, rfl, rfl, hs, q⟩ := h
  cases rx
  obtain ⟨u, rfl, ru⟩ := rxs.one
  have ru : u = Value.bool k := ru
  subst ru
  obtain ⟨its, rv, ⟨⟨cls, dd, data, sl⟩, n, ho, hc, hdn, hd⟩, hlen⟩ := I.list hs
  simp only at hc hd
  subst hc hd
  refine PySem.call_meets PySem.F.slot_list_count ⟨_, ho, rfl⟩ PySem.F.entry_list_count (PySem.F.args_list_count_2 _ _)
    (PySem.SeqAt.list_countAt p its.toArray n dd sl (.bool k) (PyProof.Rows.isBoolOf k)) ⟨ho, fun y hy => bools_at rv y (by simpa using hy), ?_⟩
  have ec : its.toArray.toList.countP (PyProof.Rows.isBoolOf k) = bs.count k := count_bools rv
  refine ⟨.int (bs.count k : Nat), H, I.tok _, ⟨s.toks, ?_⟩, q⟩
  show Value.int ((its.toArray.toList.countP (PyProof.Rows.isBoolOf k) : Nat) : Int) s.toks = Value.int ((bs.count k : Nat) : Int) s.toks
  rw [ec]
end
theorem dqa_bools {F : Hp} : ∀ {bs : List Bool} {vs : List V}, DqA F vs (bs.map PyData.bool) → vs = bs.map V.bl
  | [], _, .nil => rfl
  | b :: bs, _, .cons h t => by rw [Dq.bl_ h, dqa_bools t]; rfl
theorem dqa_strs {F : Hp} : ∀ {ss : List Str} {vs : List V}, DqA F vs (ss.map PyData.str) → vs = ss.map V.str
  | [], _, .nil => rfl
  | b :: bs, _, .cons h t => by rw [Dq.str_ h, dqa_strs t]; rfl
section
variable {X : Cx} {Δ : En} {p apos cpos p2 : Pos}
/-- xs.count(k), xs a datum's slot -/
theorem de_countB (i : Nat) {n : Str} {bs : List Bool} {k : Bool} {kk} (hΔ : Δ[i]? = some (.d (.list (bs.map PyData.bool)))) (hN : X.N[i]? = some n := by rfl)
    (hv : Vis X.env.scope n := by first | exact Or.inl rfl | exact Or.inr (Or.inl rfl) | exact Or.inr (Or.inr rfl)) (hd : (n == ("__debug__" : Str)) = false := by decide) (hcd : (n == ("__classdict__" : Str)) = false := by decide)
    (hbase : attributeBase (.Name n p) "count" X.env (eval (.Name n p) X.env) = eval (.Name n p) X.env := by rfl)
    (hfew : ((backTo cpos (starEach [.Constant (.bool k) kk p2] X.env)).all (fun x => !x.1) && (backToKw cpos (keywordEach [] X.env)).all (fun x => x.1.isSome)
      && decide (([.Constant (.bool k) kk p2] : List Expr).length + ([] : List Keyword).length + (if ([] : List Keyword).isEmpty then 0 else 1) < 30)) = true := by rfl)
    (hline : (apos.endLine == cpos.line) = true := by rfl) (hse : starEach [.Constant (.bool k) kk p2] X.env = (false, eval (.Constant (.bool k) kk p2) X.env) :: starEach [] X.env := by rfl) (hplain : (backTo cpos (starEach [] X.env)).any (·.1) = false := by rfl) :
    DEx X Δ (.Call (.Attribute (.Name n p) "count" apos) [.Constant (.bool k) kk p2] [] cpos) (.d (.int (bs.count k : Nat))) Δ := by
  refine ⟨.rfl, pe_imp (pe_bm PySem.F.plainAttrs_list PySem.F.slot_list_count PySem.F.type_list_count mt_bcount (pe_var hN hv hd hcd) (pa_cons pe_bl pa_nil hse) hbase hfew hline hse hplain) fun σ H Q ⟨B, F, ok, q⟩ => ?_⟩
  obtain ⟨v, h1, h2⟩ := ok.rd hΔ
  obtain ⟨a, vs, rfl, h3, h4⟩ := Dq.inl h2
  cases dqa_bools h4
  have hH := ok.fh _ _ h3
  exact ⟨.ref a, h1, Or.inl ⟨rfl, _, Or.inl (Or.inl hH)⟩, a, bs, k, rfl, rfl, SqL.of hH, q _ F H ok (.refl _) (.int _)⟩
theorem de_countS (i : Nat) {n : Str} {ss : List Str} {k : Str} {kk} (hΔ : Δ[i]? = some (.d (.list (ss.map PyData.str)))) (hN : X.N[i]? = some n := by rfl)
    (hv : Vis X.env.scope n := by first | exact Or.inl rfl | exact Or.inr (Or.inl rfl) | exact Or.inr (Or.inr rfl)) (hd : (n == ("__debug__" : Str)) = false := by decide) (hcd : (n == ("__classdict__" : Str)) = false := by decide)
    (hbase : attributeBase (.Name n p) "count" X.env (eval (.Name n p) X.env) = eval (.Name n p) X.env := by rfl)
    (hfew : ((backTo cpos (starEach [.Constant (.str k) kk p2] X.env)).all (fun x => !x.1) && (backToKw cpos (keywordEach [] X.env)).all (fun x => x.1.isSome)
      && decide (([.Constant (.str k) kk p2] : List Expr).length + ([] : List Keyword).length + (if ([] : List Keyword).isEmpty then 0 else 1) < 30)) = true := by rfl)
    (hline : (apos.endLine == cpos.line) = true := by rfl) (hse : starEach [.Constant (.str k) kk p2] X.env = (false, eval (.Constant (.str k) kk p2) X.env) :: starEach [] X.env := by rfl) (hplain : (backTo cpos (starEach [] X.env)).any (·.1) = false := by rfl) :
    DEx X Δ (.Call (.Attribute (.Name n p) "count" apos) [.Constant (.str k) kk p2] [] cpos) (.d (.int (ss.count k : Nat))) Δ := by
  refine ⟨.rfl, pe_imp (pe_bm PySem.F.plainAttrs_list PySem.F.slot_list_count PySem.F.type_list_count mt_scount (pe_var hN hv hd hcd) (pa_cons pe_str pa_nil hse) hbase hfew hline hse hplain) fun σ H Q ⟨B, F, ok, q⟩ => ?_⟩
  obtain ⟨v, h1, h2⟩ := ok.rd hΔ
  obtain ⟨a, vs, rfl, h3, h4⟩ := Dq.inl h2
  cases dqa_strs h4
  have hH := ok.fh _ _ h3
  exact ⟨.ref a, h1, Or.inl ⟨rfl, _, Or.inl (Or.inl hH)⟩, a, ss, k, rfl, rfl, SqL.of hH, q _ F H ok (.refl _) (.int _)⟩
end
end Tr
namespace Tr
open PySem L2
/-! ### try .. except A: .. except B: .. -/
abbrev Hl := List (Value × (Addr → Value → Option Addr → TS))
section
variable {X : Cx} {W : WX} {Δ Δ1 : En} {body : List Stmt} {h0 : ExceptHandler} {hds : List ExceptHandler} {l : Hl} {pos : Pos} {o : Out} {C : Addr}
/-- the body raises nothing -/
theorem ds1_try_ok (hs : X.stack = X.env :: X.outer) (hf : X.env.frame = some X.env.locals) (tk : Takes X W) (hb : ∀ (Wb : WX) (pn : List (Addr × Obj)) (xe : Value → Shared → Prop), Takes (X.tr pn xe) Wb → PassesOwn (model X.prog X.w) X.A X.env xe → DS (X.tr pn xe) Wb Δ body o)
    (ho : ∀ Δ' C, o ≠ .xc Δ' C) (hh : HdsOk X (h0 :: hds) l) : DS1 X W Δ (.Try body (h0 :: hds) [] [] pos) o :=
  ps_imp (ps_try_many (tb := fun Wb => tS X.K Wb Δ o) hs hf tk hb hh) fun D σ H ⟨B, F, ok, q⟩ => ⟨B, F, ok, post_w q ho⟩
/-- the body raises C: what the clauses make of it -/
theorem ds1_try_xc (hs : X.stack = X.env :: X.outer) (hf : X.env.frame = some X.env.locals) (tk : Takes X W) (hb : ∀ (Wb : WX) (pn : List (Addr × Obj)) (xe : Value → Shared → Prop), Takes (X.tr pn xe) Wb → PassesOwn (model X.prog X.w) X.A X.env xe → DS (X.tr pn xe) Wb Δ body (.xc Δ1 C))
    (hh : HdsOk X (h0 :: hds) l) (hm : ∀ D σ H, tS X.K W Δ1 o D σ H → wMany X.K W D l (.ref C) none σ H) : DS1 X W Δ (.Try body (h0 :: hds) [] [] pos) o :=
  ps_imp (ps_try_many (tb := fun Wb => tS X.K Wb Δ (.xc Δ1 C)) hs hf tk hb hh) fun D σ H ⟨B, F, ok, q⟩ => ⟨B, F, ok, fun σ' F' H' ok' ex kp => hm D σ' H' ⟨B, F', ok', q.step ex kp⟩⟩
end
section
variable {K : Frag} {W : WX} {D : Ends} {cls c : Value} {ts : Addr → Value → Option Addr → TS} {r : Hl} {σ : St} {H : Hp}
theorem many_hit (h : PySem.W.exmOne K cls c = some true) (k : ∀ a, H a = none → ts a cls none D σ H) : wMany K W D ((c, ts) :: r) cls none σ H := ⟨true, h, fun _ => k, (fun z => nomatch z)⟩
theorem many_skip (h : PySem.W.exmOne K cls c = some false) (k : wMany K W D r cls none σ H) : wMany K W D ((c, ts) :: r) cls none σ H := ⟨false, h, (fun z => nomatch z), fun _ => k⟩
end
/-- f(..)[n] where f(..) raises -/
theorem dx_ixT {X : Cx} {W : WX} {Δ Δ1 : En} {a : Expr} {n : Int} {kk : Nat} {p2 pos : Pos} {C : Addr} (h : DXx X W Δ a Δ1 C) (hs : PlainIx (.Constant (.int n) kk p2) := by exact fun _ _ => rfl) : DXx X W Δ (.Subscript a (.Constant (.int n) kk p2) pos) Δ1 C :=
  ⟨h.rk, pe_imp (pe_ix ix_tup h.pe pe_int hs) fun σ H Q w => w⟩
/-! a body's contexts -/
structure TrI {ι : Type} (XS : ι → Cx) where
  q : ι
  Wb : WX
  pn : List (Addr × Obj)
  xe : Value → Shared → Prop
  tk : Takes ((XS q).tr pn xe) Wb
  pw : PassesOwn (model (XS q).prog (XS q).w) (XS q).A (XS q).env xe
section
variable {ι : Type} {XS : ι → Cx} {WS : ι → WX} {Δ : En} {body rest : List Stmt} {h0 : ExceptHandler} {hds : List ExceptHandler} {pos : Pos} {P : Out → Prop}
abbrev XT {ι : Type} (XS : ι → Cx) : TrI XS → Cx := fun i => (XS i.q).tr i.pn i.xe
abbrev WT {ι : Type} (XS : ι → Cx) : TrI XS → WX := fun i => i.Wb
def NoXc (o : Out) : Prop := ∀ Δ' C, o ≠ .xc Δ' C
theorem go_try (hs : ∀ q, (XS q).stack = (XS q).env :: (XS q).outer) (hf : ∀ q, (XS q).env.frame = some (XS q).env.locals) (tk : ∀ q, Takes (XS q) (WS q)) (l : ι → Hl) (hh : ∀ q, HdsOk (XS q) (h0 :: hds) (l q)) {ob o : Out}
    (hb : ∀ i : TrI XS, DS (XT XS i) (WT XS i) Δ body ob) (ho : thenP XS WS rest P o)
    (hc : (NoXc ob ∧ ob = o) ∨ ∃ Δ1 C, ob = .xc Δ1 C ∧ ∀ q D σ H, tS (XS q).K (WS q) Δ1 o D σ H → wMany (XS q).K (WS q) D (l q) (.ref C) none σ H) : Go XS WS Δ (.Try body (h0 :: hds) [] [] pos :: rest) P := by
  refine go_cons ⟨o, ho, fun q => ?_⟩
  rcases hc with ⟨h1, rfl⟩ | ⟨Δ1, C, rfl, hm⟩
  · exact ds1_try_ok (hs q) (hf q) (tk q) (fun Wb pn xe t p => hb ⟨q, Wb, pn, xe, t, p⟩) h1 (hh q)
  · exact ds1_try_xc (hs q) (hf q) (tk q) (fun Wb pn xe t p => hb ⟨q, Wb, pn, xe, t, p⟩) (hh q) (hm q)
end
end Tr
namespace Tr
open PySem L2
/-! ### try .. except A as e -/
section
variable {X : Cx} {W : WX} {Δ Δ1 Δ2 : En} {body suite : List Stmt} {b₀ : Stmt} {x n : Str} {i : Nat} {cV : Value} {np pos pos' : Pos} {C : Addr} {s : Sl} {r : R} {o : Out}
theorem ds1_tryAs_xc {y : PyData} (i : Nat) (hs : X.stack = X.env :: X.outer) (hf : X.env.frame = some X.env.locals) (hN : X.N.Nodup) (hi : X.N[i]? = some n) (hln : X.env.kindOf n = some .local) (hc : Names X x cV) (tk : Takes X W)
    (hb : ∀ (Wb : WX) (pn : List (Addr × Obj)) (xe : Value → Shared → Prop), Takes (X.tr pn xe) Wb → PassesOwn (model X.prog X.w) X.A X.env xe → DS (X.tr pn xe) Wb Δ body (.xc Δ1 C))
    (he : PySem.W.exmOne X.K (.ref C) cV = some true) {Δs : Addr → En} (hΔ : Δ1[i]? = some s) (hsr : s.isRef = false)
    (hsu : ∀ (a : Addr) (oe : Obj) (pn : List (Addr × Obj)), Zc (.ref C) none oe → (∃ vs, oe.data = .fields vs) → DS (X.suite a ((a, oe) :: pn)) W (Δ1.set i (.v (.ref a))) (b₀ :: suite) (.rt (Δs a) (.d y))) (hle : ∀ a, Le (Δs a) Δ2) :
    DS1 X W Δ (.Try body [.ExceptHandler (some (.Name x np)) (some n) (b₀ :: suite) pos'] [] [] pos) (.rt Δ2 (.d y)) :=
  ps_imp (ps_try_as (ts := fun a cls d D σ H => cls = .ref C ∧ d = none ∧ tS X.K W (Δ1.set i (.v (.ref a))) (.rt (Δs a) (.d y)) D σ H) (tb := fun Wb => tS X.K Wb Δ (.xc Δ1 C)) (Wout := W) hs hf hN hi hln hc tk hb (fun a oe cls d pn hz hfv => by
    by_cases h : cls = .ref C ∧ d = none
    · obtain ⟨rfl, rfl⟩ := h
      exact pss_imp (hsu a oe pn hz hfv) fun D σ H w => w.2.2
    · exact pss_imp pss_never fun D σ H w => (h ⟨w.1, w.2.1⟩).elim)) fun D σ H ⟨B, F, ok, q⟩ => ⟨B, F, ok, fun σ' F' H' ok' ex kp => ⟨true, he, fun _ a ha => ⟨rfl, rfl, B, F', ok'.put (s := .v (.ref a)) rfl (fun z => nomatch z), fun v τ G I okk e k hr => q v τ G I ((hle a).ok okk) (ex.trans e) (((kp.trans (kp_set hΔ hsr)).trans k).trans (Kp.refl (hle a).rk)) hr⟩, (fun z => nomatch z)⟩⟩
theorem ds1_tryAs_ok (i : Nat) (hs : X.stack = X.env :: X.outer) (hf : X.env.frame = some X.env.locals) (hN : X.N.Nodup) (hi : X.N[i]? = some n) (hln : X.env.kindOf n = some .local) (hc : Names X x cV) (tk : Takes X W)
    (hb : ∀ (Wb : WX) (pn : List (Addr × Obj)) (xe : Value → Shared → Prop), Takes (X.tr pn xe) Wb → PassesOwn (model X.prog X.w) X.A X.env xe → DS (X.tr pn xe) Wb Δ body o) (ho : NoXc o) :
    DS1 X W Δ (.Try body [.ExceptHandler (some (.Name x np)) (some n) (b₀ :: suite) pos'] [] [] pos) o :=
  ps_imp (ps_try_as (ts := fun a cls d D σ H => False) (tb := fun Wb => tS X.K Wb Δ o) (Wout := W) hs hf hN hi hln hc tk hb (fun a oe cls d pn hz hfv => pss_imp pss_never fun D σ H w => w.elim)) fun D σ H ⟨B, F, ok, q⟩ => ⟨B, F, ok, post_w q ho⟩
/-- isinstance(e, A) in the suite -/
theorem de_isE {a D : Addr} {oe : Obj} {pn : List (Addr × Obj)} {f : Str} {c : V} {cv : Value} {b : Bool} {p p1 p2 : Pos} {y : Str} (i : Nat) (hE : ExcC X.K D) (hz : Zc (.ref D) none oe) (hfv : ∃ vs, oe.data = .fields vs) (G : Blt X.mg) (pf : PE (X.suite a ((a, oe) :: pn)) (.Name f p2) (tC c)) (hcv : ∀ u, RelV c u → u = cv) (hk : PySem.W.kitOne X.K (.ref D) cv = some b)
    (hΔ : Δ[i]? = some (.v (.ref a)) := by rfl) (hN : (X.suite a ((a, oe) :: pn)).N[i]? = some y := by rfl) (hv : Vis (X.suite a ((a, oe) :: pn)).env.scope y := by first | exact Or.inl rfl | exact Or.inr (Or.inl rfl) | exact Or.inr (Or.inr rfl)) (hd : (y == ("__debug__" : Str)) = false := by decide) (hcd : (y == ("__classdict__" : Str)) = false := by decide)
    (hg : Gl (X.suite a ((a, oe) :: pn)) "isinstance" := by rfl)
    (he : starEach [.Name y p1, .Name f p2] (X.suite a ((a, oe) :: pn)).env = (false, eval (.Name y p1) (X.suite a ((a, oe) :: pn)).env) :: starEach [.Name f p2] (X.suite a ((a, oe) :: pn)).env := by rfl) (he2 : starEach [.Name f p2] (X.suite a ((a, oe) :: pn)).env = (false, eval (.Name f p2) (X.suite a ((a, oe) :: pn)).env) :: starEach [] (X.suite a ((a, oe) :: pn)).env := by rfl) (hpl : (backTo pos (starEach [.Name f p2] (X.suite a ((a, oe) :: pn)).env)).any (·.1) = false := by rfl) :
    DEx (X.suite a ((a, oe) :: pn)) Δ (.Call (.Name "isinstance" p) [.Name y p1, .Name f p2] [] pos) (.d (.bool b)) Δ :=
  ⟨.rfl, pe_imp (pe_callB (call_isE hE hz hfv) hg G.isi boot_isi_ (pa_cons (pe_var hN hv hd hcd) (pa_cons pf pa_nil he2) he) (by decide) (by decide) he hpl) fun σ H Q ⟨B, F, ok, q⟩ => by
    obtain ⟨o, h1, h2⟩ := ok.sl i _ hΔ
    have h2 : o = some (.ref a) := h2
    subst h2
    exact ⟨.ref a, h1, c, cv, b, rfl, hcv, hk, q _ _ _ ok (.refl _) (.bl _)⟩⟩
end
section
variable {X : Cx} {C : Addr} {f : Str} {p2 : Pos}
theorem pe_cls {E : Addr} (hm : X.mg f = some (.ref E)) (hg : Gl X f := by rfl) (hd : (f == ("__debug__" : Str)) = false := by decide) : PE X (.Name f p2) (tC (.ref E)) := pe_glob hg hm rfl hd
theorem pe_ty {T : String} (hm : X.mg f = none) (hv : bootBuiltins f = some (.type T)) (hg : Gl X f := by rfl) (hn : f ≠ "__name__" := by decide) (hd : (f == ("__debug__" : Str)) = false := by decide) : PE X (.Name f p2) (tC (.ty T)) := pe_bltn hg hm hv rfl hn hd
end
section
variable {ι : Type} {XS : ι → Cx} {WS : ι → WX} {Δ Δ1 Δ2 : En} {body suite rest : List Stmt} {b₀ : Stmt} {x n : Str} {cV : Value} {np pos pos' : Pos} {P : Out → Prop} {C : Addr} {s : Sl} {r : R}
theorem go_tryAs_ok (i : Nat) (hs : ∀ q, (XS q).stack = (XS q).env :: (XS q).outer) (hf : ∀ q, (XS q).env.frame = some (XS q).env.locals) (hN : ∀ q, (XS q).N.Nodup) (hi : ∀ q, (XS q).N[i]? = some n) (hln : ∀ q, (XS q).env.kindOf n = some .local) (hc : ∀ q, Names (XS q) x cV) (tk : ∀ q, Takes (XS q) (WS q))
    (hb : ∀ i : TrI XS, DS (XT XS i) (WT XS i) Δ body (.nx Δ1)) (hp : Go XS WS Δ1 rest P) : Go XS WS Δ (.Try body [.ExceptHandler (some (.Name x np)) (some n) (b₀ :: suite) pos'] [] [] pos :: rest) P :=
  go_then (fun q => ds1_tryAs_ok i (hs q) (hf q) (hN q) (hi q) (hln q) (hc q) (tk q) (fun Wb pn xe t p => hb ⟨q, Wb, pn, xe, t, p⟩) (fun _ _ e => nomatch e)) hp
theorem go_tryAs_xc {y : PyData} (i : Nat) (hs : ∀ q, (XS q).stack = (XS q).env :: (XS q).outer) (hf : ∀ q, (XS q).env.frame = some (XS q).env.locals) (hN : ∀ q, (XS q).N.Nodup) (hi : ∀ q, (XS q).N[i]? = some n) (hln : ∀ q, (XS q).env.kindOf n = some .local) (hc : ∀ q, Names (XS q) x cV) (tk : ∀ q, Takes (XS q) (WS q))
    (hb : ∀ i : TrI XS, DS (XT XS i) (WT XS i) Δ body (.xc Δ1 C)) (he : ∀ q, PySem.W.exmOne (XS q).K (.ref C) cV = some true) {Δs : Addr → En} (hΔ : Δ1[i]? = some s) (hsr : s.isRef = false)
    (hsu : ∀ q (a : Addr) (oe : Obj) (pn : List (Addr × Obj)), Zc (.ref C) none oe → (∃ vs, oe.data = .fields vs) → DS ((XS q).suite a ((a, oe) :: pn)) (WS q) (Δ1.set i (.v (.ref a))) (b₀ :: suite) (.rt (Δs a) (.d y))) (hle : ∀ a, Le (Δs a) Δ2) (hp : P (.rt Δ2 (.d y))) :
    Go XS WS Δ (.Try body [.ExceptHandler (some (.Name x np)) (some n) (b₀ :: suite) pos'] [] [] pos :: rest) P :=
  go_end (fun q => ds1_tryAs_xc i (hs q) (hf q) (hN q) (hi q) (hln q) (hc q) (tk q) (fun Wb pn xe t p => hb ⟨q, Wb, pn, xe, t, p⟩) (he q) hΔ hsr (hsu q) hle) rfl hp
end
end Tr
namespace Tr
open PySem L2
def top (i : Nat) : Stmt := PySem.Challenge.pw_tailroad_k06_runs_begun.main.body.getD i (.Pass ⟨0, 0, 0, 0⟩)
abbrev st_cell_at : Stmt := top 16
abbrev st_begun : Stmt := top 7
abbrev st_put : Stmt := top 8
abbrev st_valued : Stmt := top 9
abbrev st_taken : Stmt := top 10
abbrev st_entered : Stmt := top 11
abbrev st_stepped : Stmt := top 12
abbrev st_walked : Stmt := top 13
abbrev st_run : Stmt := top 14
abbrev st_whole : Stmt := top 17
abbrev st_state_alike : Stmt := top 18
abbrev st_refused : Stmt := top 19
abbrev st_by_any : Stmt := top 20
abbrev st_twice : Stmt := top 21
abbrev st_law : Stmt := top 22
section
variable {P : Program} {w : World} {K : Frag} {mg : Str → Option Value} {base : Heap}
/-! cell_at -/
theorem sc_cell_at : FnScope ["_law_script", "_law_k"] ["_law_script", "_law_k"] (defScope st_cell_at) := ⟨rfl, rfl, rfl, by decide +kernel, rfl, by decide +kernel, by decide +kernel⟩
def S_cell_at : Spec := fun Δ o => ∃ ns k, 0 ≤ k ∧ Δ = [.sc ns, .d (.int k)] ∧ o = .rt Δ (.d (.int (cellAt ns k)))
theorem ok_cell_at (G : Blt mg) (D : Df K mg "_law_cell_at" st_cell_at ["_law_script", "_law_k"]) : Fn P w K mg base 1 "_law_cell_at" S_cell_at := by
  refine mk_ok D sc_cell_at (fun Δ o ⟨ns, k, hk, h1, h2⟩ => ⟨by rw [h1]; rfl, fun _ _ e => by rw [h2] at e; cases e⟩) fun f Δ o ⟨ns, k, hk, h1, h2⟩ => ?_
  subst h1 h2
  refine go_if (fun q => dt_lt (de_nm 1) (de_lenSc G (de_sl 0) rfl)) (fun h => ?_) (fun h => ?_)
  · have h := of_decide_eq_true h
    refine go_end (fun q => ds1_ret (de_mod (de_add (de_mul (de_ixSc (de_sl 0) (de_nm 1) rfl (at_get (d := 0) hk h)) de_int (.inr ⟨by decide, by decide⟩)) (de_mul (de_nm 1) de_int (.inr ⟨by decide, by decide⟩))) de_int (by decide))) rfl ⟨?_, rfl, fin0 rfl⟩
    rw [cellAt, if_pos h]
  · have h := of_decide_eq_false h
    refine go_on (go_end (fun q => ds1_ret de_int) rfl ⟨?_, rfl, fin0 rfl⟩)
    rw [cellAt, if_neg h]
/-! whole -/
theorem sc_whole : FnScope ["_law_found"] ["_law_found"] (defScope st_whole) := ⟨rfl, rfl, rfl, by decide +kernel, rfl, by decide +kernel, by decide +kernel⟩
def S_whole : Spec := fun Δ o => ∃ n : Int, Δ = [.d (.int n)] ∧ o = .rt Δ (.d (.bool true))
theorem ok_whole (G : Blt mg) (D : Df K mg "_law_whole" st_whole ["_law_found"]) : Fn P w K mg base 1 "_law_whole" S_whole := by
  refine mk_ok D sc_whole (fun Δ o ⟨n, h1, h2⟩ => ⟨by rw [h1]; rfl, fun _ _ e => by rw [h2] at e; cases e⟩) fun f Δ o ⟨n, h1, h2⟩ => ?_
  subst h1 h2
  exact go_end (fun q => ds1_ret (de_and (k := true) (l := true) (de_isi (x := .int n) G (de_nm 0) G.int boot_int_ (show kitB "int" "int" = some true by decide +kernel)) fun h => (de_one (de_not (k := false) (de_isi (x := .int n) G (de_nm 0) G.bool boot_bool_ (show kitB "int" "bool" = some false by decide +kernel)))))) rfl ⟨rfl, rfl, fin0 rfl⟩
end
end Tr
namespace Tr
open PySem L2
section
variable {P : Program} {w : World} {K : Frag} {mg : Str → Option Value} {base : Heap}
/-! begun, that may refuse -/
theorem sc_begun : FnScope ["code", "which", "given"] ["code", "which", "given"] (defScope st_begun) := ⟨rfl, rfl, rfl, by decide +kernel, rfl, by decide +kernel, by decide +kernel⟩
abbrev encC2 (rs : List Rw) (ss : List Sp2) : PyData := .tuple [.list (rs.map encR), .list (ss.map encS)]
def startOf (ss : List Sp2) (which : Int) : Sp2 := ss.getD which.toNat (0, 0)
def begIn (rs : List Rw) (ss : List Sp2) (which : Int) (given : List Int) : En := [.d (encC2 rs ss), .d (.int which), .d (.list (eI given))]
def begOut (cN cB : Addr) (ss : List Sp2) (which : Int) (given : List Int) (Δ : En) : Out :=
  if ¬ (0 ≤ which ∧ which < ss.length) then .xc Δ cN else if (given.length : Int) ≠ (startOf ss which).2 then .xc Δ cB else .rt Δ (.d (.tuple [.int (startOf ss which).1, .list [], .list [encF (0, given)]]))
def S_begunX (cN cB : Addr) : Spec := fun Δ o => ∃ (rs : List Rw) (ss : List Sp2) (which : Int) (given : List Int), Δ = begIn rs ss which given ∧ o = begOut cN cB ss which given Δ
theorem ok_begunX (G : Blt mg) (D : Df K mg "begun" st_begun ["code", "which", "given"]) {cN cB : Addr} (XN' : Xc K mg "NoFunction" cN) (XB : Xc K mg "BadCount" cB) : Fn P w K mg base 1 "begun" (S_begunX cN cB) := by
  refine mk_okX D sc_begun (fun Δ o ⟨rs, ss, which, given, h1, h2⟩ => by rw [h1]; rfl) fun f Δ o ⟨rs, ss, which, given, h1, h2⟩ => ?_
  subst h1 h2
  refine go_eq (Δ' := begIn rs ss which given) rfl ?_
  refine go_if (fun q => (dt_not (dt_lelt de_int (de_nm 1) (de_lenL (xs := ss.map encS) G (de_ixT (x := .list (ss.map encS)) (xs := [.list (rs.map encR), .list (ss.map encS)]) (de_nm 0) de_int rfl rfl rfl) rfl rfl)))) (fun h => ?_) (fun h => go_on ?_)
  · have h : ¬ (0 ≤ which ∧ which < (ss.length : Int)) := by simp at h; omega
    rw [begOut, if_pos h]
    exact go_end (fun q => ds1_raise rfl (takes_of rfl rfl rfl rfl) XN') rfl ⟨rfl, fin0 rfl⟩
  have h : 0 ≤ which ∧ which < (ss.length : Int) := by simp at h; omega
  rw [begOut, if_neg (fun z => z h)]
  have hx : atI (ss.map encS) which = some (encS (startOf ss which)) := at_map encS (0, 0) h.1 h.2
  generalize startOf ss which = s at hx
  obtain ⟨s1, s2⟩ := s
  refine go_if (fun q => (dt_neI (de_lenL (xs := eI given) G (de_nm 2) rfl rfl) (de_ixT (x := .int s2) (xs := [.int s1, .int s2]) (de_ixL (x := encS (s1, s2)) (de_ixT (x := .list (ss.map encS)) (xs := [.list (rs.map encR), .list (ss.map encS)]) (de_nm 0) de_int rfl rfl rfl) (de_nm 1) rfl rfl hx) de_int rfl rfl rfl))) (fun h2 => ?_) (fun h2 => go_on ?_)
  · have h2 : (given.length : Int) ≠ s2 := by simpa [eI] using h2
    rw [if_pos h2]
    exact go_end (fun q => ds1_raise rfl (takes_of rfl rfl rfl rfl) XB) rfl ⟨rfl, fin0 rfl⟩
  · have h2 : (given.length : Int) = s2 := by simpa [eI] using h2
    rw [if_neg (fun z => z h2)]
    exact go_end (fun q => ds1_ret (de_tup (da_cons (de_ixT (x := .int s1) (xs := [.int s1, .int s2]) (de_ixL (x := encS (s1, s2)) (de_ixT (x := .list (ss.map encS)) (xs := [.list (rs.map encR), .list (ss.map encS)]) (de_nm 0) de_int rfl rfl rfl) (de_nm 1) rfl rfl hx) de_int rfl rfl rfl) (da_cons (de_ice (de_lst (xs := []) da_nil)) (da_cons (de_ice (de_lst (da_cons (de_tup (da_cons de_int (da_cons (de_ice (de_list G (de_nm 2) rfl (.inl rfl))) da_nil))) da_nil))) da_nil))))) rfl ⟨rfl, rfl, fin0 rfl⟩
end
end Tr
namespace Tr
open PySem L2
section
variable {P : Program} {w : World} {K : Frag} {mg : Str → Option Value} {base : Heap}
/-! the machine's defs -/
theorem fin4 {a b : PyData} {c d : List PyData} {D : En} : Fin [.d a, .d b, .own c, .own d] D [.d a, .d b, .no, .no] := ⟨rfl, fun i s e => by
  match i, e with
  | 0, e => cases e; exact .inl ⟨rfl, rfl⟩
  | 1, e => cases e; exact .inl ⟨rfl, rfl⟩
  | 2, e => cases e; exact .inr (.inl rfl)
  | 3, e => cases e; exact .inr (.inl rfl)⟩
theorem ixN_last {xs : List PyData} {x : PyData} : ixN (xs ++ [x]).length (-1) = some xs.length := by
  have := ixN_neg (n := (xs ++ [x]).length) (j := 0) (by simp)
  simpa using this
theorem sc_put : FnScope ["word", "one", "two"] ["word", "one", "two"] (defScope st_put) := ⟨rfl, rfl, rfl, by decide +kernel, rfl, by decide +kernel, by decide +kernel⟩
def S_put : Spec := fun Δ o => ∃ (v : Str) (a b : Int), Δ = [.d (.str v), .d (.int a), .d (.int b)] ∧ o = .rt Δ (.d (.int (putT v a b)))
theorem ok_put (G : Blt mg) (D : Df K mg "put_together" st_put ["word", "one", "two"]) : Fn P w K mg base 1 "put_together" S_put := by
  refine mk_ok D sc_put (fun Δ o ⟨v, a, b, h1, h2⟩ => ⟨by rw [h1]; rfl, fun _ _ e => by rw [h2] at e; cases e⟩) fun f Δ o ⟨v, a, b, h1, h2⟩ => ?_
  subst h1 h2
  refine go_if (fun q => (dt_eqS (de_nm 0) de_str)) (fun h => ?_) (fun h => go_on ?_)
  · refine go_end (fun q => ds1_ret (de_add (de_nm 1) (de_nm 2))) rfl ⟨?_, rfl, fin0 rfl⟩
    rw [putT, if_pos (of_decide_eq_true h)]
  have h := of_decide_eq_false h
  refine go_if (fun q => (dt_eqS (de_nm 0) de_str)) (fun h2 => ?_) (fun h2 => go_on ?_)
  · refine go_end (fun q => ds1_ret (de_sub (de_nm 1) (de_nm 2))) rfl ⟨?_, rfl, fin0 rfl⟩
    rw [putT, if_neg h, if_pos (of_decide_eq_true h2)]
  have h2 := of_decide_eq_false h2
  refine go_end (fun q => ds1_ret (de_intB G (de_lt (de_nm 1) (de_nm 2)))) rfl ⟨?_, rfl, fin0 rfl⟩
  rw [putT, if_neg h, if_neg h2]
  by_cases hl : a < b <;> simp [hl]
theorem few_test (v : Str) (vs : List Int) : (PyData.eqv (.list (eI vs)) (.list []) || (decide (((eI vs).length : Int) = 1) && inV (.str v) [.str "add", .str "sub", .str "less"])) = decide (vs = [] ∨ (vs.length = 1 ∧ (v = "add" ∨ v = "sub" ∨ v = "less"))) := by
  rw [eqv_nil, Bool.eq_iff_iff]
  have e1 : ((("add" : Str) = v ∨ ("sub" : Str) = v ∨ ("less" : Str) = v) ↔ (v = "add" ∨ v = "sub" ∨ v = "less")) := by
    rw [@eq_comm Str "add" v, @eq_comm Str "sub" v, @eq_comm Str "less" v]
  have e2 : ((vs.length : Int) = 1) ↔ vs.length = 1 := by omega
  simp [inV, eqV, e1, e2]
theorem sc_taken : FnScope ["row", "place", "values", "frames", "word", "last", "first"] ["row", "place", "values", "frames"] (defScope st_taken) := ⟨rfl, rfl, rfl, by decide +kernel, rfl, by decide +kernel, by decide +kernel⟩
def S_taken : Spec := fun Δ o => ∃ (r : Rw) (p : Int) (vs : List Int) (gs : List Fr) (b : Int) (kn : List Int), wfR r ∧ r.1 ∈ takeW ∧ vs.length ≤ 900000 ∧ kn.length ≤ 900000 ∧
  Δ = [.d (encR r), .d (.int (p + 1)), .own (eI vs), .own (gs.map encF ++ [encF (b, kn)])] ∧ o = .rt [.d (encR r), .d (.int (p + 1)), .no, .no] (.d (encO (takeT r.1 (r.2.getD 0) p vs gs b kn)))
theorem ok_taken (G : Blt mg) (D : Df K mg "taken" st_taken ["row", "place", "values", "frames"]) (F_put : Fn P w K mg base 1 "put_together" S_put) : Fn P w K mg base 2 "taken" S_taken := by
  refine mk_ok D sc_taken (fun Δ o ⟨r, p, vs, gs, b, kn, _, _, _, _, h1, h2⟩ => ⟨by rw [h1]; rfl, fun _ _ e => by rw [h2] at e; cases e⟩) fun f Δ o ⟨r, p, vs, gs, b, kn, hw, hin, hv, hk, h1, h2⟩ => ?_
  subst h1 h2
  refine go_eq (Δ' := [.d (encR r), .d (.int (p + 1)), .own (eI vs), .own (gs.map encF ++ [encF (b, kn)]), .no, .no, .no]) rfl ?_
  obtain ⟨fs, ef⟩ := encR_cons r
  refine go_then (fun q => ds1_set (x := .str r.1) 4 sc_taken.nd (de_ixT (xs := .str r.1 :: fs) (de_nm 0) de_int rfl (by rw [← ef]; rfl) at0)) ?_
  rw [takeT]
  have hft := few_test r.1 vs
  refine go_if (fun q => (DWx.dt (dw_or (dt_eq q.2.units (de_sl 2) (de_ice (de_lst (xs := []) da_nil)) rfl rfl rfl (shp_ints vs) shp_nil) fun h => (dw_or1 (DWx.dt (dw_and (dt_eqI (de_lenL G (de_sl 2) rfl rfl) de_int) fun h => (dw_and1 (dt_inT (u := .str r.1) (us := [.str "add", .str "sub", .str "less"]) (de_nm 4) (de_tup (da_cons de_str (da_cons de_str (da_cons de_str da_nil)))) rfl rfl rfl rfl rfl rfl)))))))) (fun h => ?_) (fun h => go_on ?_)
  · rw [hft] at h
    refine go_end (fun q => ds1_ret (de_tup (da_cons de_str da_nil))) rfl ⟨?_, rfl, fin4⟩
    rw [if_pos (of_decide_eq_true h)]
    rfl
  rw [hft] at h
  have h := of_decide_eq_false h
  rw [if_neg h]
  rcases snoc_cases vs with rfl | ⟨us, x, rfl⟩
  · exact absurd (Or.inl rfl) h
  rw [last_eI, getLastD_snoc, List.dropLast_concat]
  have hus : us.length ≤ 900000 := by simp at hv; omega
  refine go_if (fun q => (dt_eqS (de_nm 4) de_str)) (fun h2 => ?_) (fun h2 => go_on ?_)
  · rw [if_pos (of_decide_eq_true h2)]
    refine go_if (fun q => (dt_eqI (de_ixL (de_sl 2) (de_neg de_int) rfl rfl at_end1) de_int)) (fun h => ?_) (fun h => go_on ?_)
    · refine go_end (fun q => ds1_ret (de_tup (da_cons de_str da_nil))) rfl ⟨?_, rfl, fin4⟩
      rw [if_pos (of_decide_eq_true h)]
      rfl
    · refine go_end (fun q => ds1_ret (de_tup (da_cons (de_nm 1) (da_cons (de_ic 2) (da_cons (de_ic 3) da_nil))))) rfl ⟨?_, rfl, fin4⟩
      rw [if_neg (of_decide_eq_false h)]
      simp [encO, eI]
  rw [if_neg (of_decide_eq_false h2)]
  refine go_then (fun q => ds1_set 5 sc_taken.nd (de_pop 2 rfl (.inl rfl))) ?_
  refine go_eq (Δ' := [.d (encR r), .d (.int (p + 1)), .own (eI us), .own (gs.map encF ++ [encF (b, kn)]), .d (.str r.1), .d (.int x), .no]) rfl ?_
  have ret : ∀ (p' : Int) (vs' fs' : List PyData) (s6 : Sl), Go (XN P w K mg base ["row", "place", "values", "frames", "word", "last", "first"] "taken" (defScope st_taken) f 1) WN [.d (encR r), .d (.int p'), .own vs', .own fs', .d (.str r.1), .d (.int x), s6] ((defBody st_taken).drop 5) (fun o' => End [.d (encR r), .d (.int (p + 1)), .own (eI us ++ [.int x]), .own (gs.map encF ++ [encF (b, kn)])] o' (.rt [.d (encR r), .d (.int (p + 1)), .no, .no] (.d (.tuple [.int p', .list vs', .list fs'])))) := fun p' vs' fs' s6 =>
    go_end (fun q => ds1_ret (de_tup (da_cons (de_nm 1) (da_cons (de_ic 2) (da_cons (de_ic 3) da_nil))))) rfl ⟨rfl, rfl, fin4⟩
  refine go_if (fun q => (dt_eqS (de_nm 4) de_str)) (fun h3 => ?_) (fun h3 => ?_)
  · rw [if_pos (of_decide_eq_true h3)]
    refine go_then (fun q => ds1_setI (m := (gs.map encF).length) (x := .tuple [.int b, .list (eI kn ++ [.int x])]) 3 (de_tup (xs := [.int b, .list (eI kn ++ [.int x])]) (da_cons (de_ixT (xs := [.int b, .list (eI kn)]) (de_ixL (x := encF (b, kn)) (de_sl (Δ := [.d (encR r), .d (.int (p + 1)), .own (eI us), .own (gs.map encF ++ [encF (b, kn)]), .d (.str r.1), .d (.int x), .no]) 3) (de_neg de_int) rfl rfl at_end1) de_int rfl rfl rfl) (da_cons (de_ice (de_cat (xs := eI kn) (ys := [.int x]) (de_ixT (xs := [.int b, .list (eI kn)]) (de_ixL (x := encF (b, kn)) (de_sl (Δ := [.d (encR r), .d (.int (p + 1)), .own (eI us), .own (gs.map encF ++ [encF (b, kn)]), .d (.str r.1), .d (.int x), .no]) 3) (de_neg de_int) rfl rfl at_end1) de_int rfl rfl rfl) (de_ice (de_lst (da_cons (de_nm 5) da_nil))) rfl rfl rfl (by simp [eI]; omega))) da_nil))) (de_neg de_int) rfl (.inl rfl) ixN_last) (go_on ?_)
    have ek : encF (b, kn ++ [x]) = .tuple [.int b, .list (eI kn ++ [.int x])] := by rw [encF, last_eI]
    have el : (gs.map encF ++ [encF (b, kn)]).set (gs.map encF).length (.tuple [.int b, .list (eI kn ++ [.int x])]) = gs.map encF ++ [encF (b, kn ++ [x])] := by rw [ek]; exact set_last
    refine go_eq (Δ' := [.d (encR r), .d (.int (p + 1)), .own (eI us), .own (gs.map encF ++ [encF (b, kn ++ [x])]), .d (.str r.1), .d (.int x), .no]) ?_ ((ret _ _ _ _).mono fun o' ho => ?_)
    · rw [← el]; rfl
    · have eo : encO (.st (p + 1) us (gs ++ [(b, kn ++ [x])])) = .tuple [.int (p + 1), .list (eI us), .list (gs.map encF ++ [encF (b, kn ++ [x])])] := by rw [encO, last_fs]
      rw [eo]
      exact ho
  · rw [if_neg (of_decide_eq_false h3)]
    refine go_if (fun q => (dt_eqS (de_nm 4) de_str)) (fun h4 => ?_) (fun h4 => ?_)
    · have h4 := of_decide_eq_true h4
      rw [if_pos h4]
      have hr := encR_num hw (by rw [h4]; decide)
      have fin' : ∀ (p' : Int), p' = p + 1 + (if x = 0 then r.2.getD 0 else 0) → Go (XN P w K mg base ["row", "place", "values", "frames", "word", "last", "first"] "taken" (defScope st_taken) f 1) WN [.d (encR r), .d (.int p'), .own (eI us), .own (gs.map encF ++ [encF (b, kn)]), .d (.str r.1), .d (.int x), .no] ((defBody st_taken).drop 5) (fun o' => End [.d (encR r), .d (.int (p + 1)), .own (eI us ++ [.int x]), .own (gs.map encF ++ [encF (b, kn)])] o' (.rt [.d (encR r), .d (.int (p + 1)), .no, .no] (.d (encO (.st (p + 1 + (if x = 0 then r.2.getD 0 else 0)) us (gs ++ [(b, kn)])))))) := fun p' e => (ret _ _ _ _).mono fun o' ho => by
        subst e
        have eo : encO (.st (p + 1 + (if x = 0 then r.2.getD 0 else 0)) us (gs ++ [(b, kn)])) = .tuple [.int (p + 1 + (if x = 0 then r.2.getD 0 else 0)), .list (eI us), .list (gs.map encF ++ [encF (b, kn)])] := by rw [encO, last_fs]
        rw [eo]
        exact ho
      refine go_if (fun q => (dt_eqI (de_nm 5) de_int)) (fun h5 => ?_) (fun h5 => ?_)
      · refine go_then (fun q => ds1_set 1 sc_taken.nd (de_add (de_nm 1) (de_ixT (x := .int (r.2.getD 0)) (xs := [.str r.1, .int (r.2.getD 0)]) (de_nm 0) de_int rfl (by rw [← hr]; rfl) rfl))) (go_on (go_on (go_on ?_)))
        exact fin' _ (by rw [if_pos (of_decide_eq_true h5)])
      · refine go_on (go_on (go_on ?_))
        exact fin' _ (by rw [if_neg (of_decide_eq_false h5), Int.add_zero])
    · have h4 := of_decide_eq_false h4
      rw [if_neg h4]
      have h3 := of_decide_eq_false h3
      have h2 := of_decide_eq_false h2
      have hw3 : r.1 = "add" ∨ r.1 = "sub" ∨ r.1 = "less" := by
        simp only [takeW, List.mem_cons, List.not_mem_nil, or_false] at hin
        rcases hin with z | z | z | z | z | z
        · exact .inl z
        · exact .inr (.inl z)
        · exact .inr (.inr z)
        · exact absurd z h2
        · exact absurd z h3
        · exact absurd z h4
      rcases snoc_cases us with rfl | ⟨ts, y, rfl⟩
      · exact absurd (Or.inr ⟨by simp, hw3⟩) h
      rw [last_eI, getLastD_snoc, List.dropLast_concat]
      refine go_then (fun q => ds1_set 6 sc_taken.nd (de_pop (x := .int y) (xs := eI ts) 2 rfl (.inl rfl))) ?_
      refine go_then (fun q => ds1_app 2 (de_call F_put (q.2.mono (by omega)) (da_cons (de_nm 4) (da_cons (de_nm 6) (da_cons (de_nm 5) da_nil))) ⟨r.1, y, x, rfl, rfl⟩ (oneN rfl) rfl) rfl (.inl rfl) (by simp [eI] at hus ⊢; omega) ⟨_, rfl, rfl⟩) (go_on (go_on ?_))
      refine (ret (p + 1) (eI ts ++ [.int (putT r.1 y x)]) (gs.map encF ++ [encF (b, kn)]) (.d (.int y))).mono fun o' ho => ?_
      have eo : encO (.st (p + 1) (ts ++ [putT r.1 y x]) (gs ++ [(b, kn)])) = .tuple [.int (p + 1), .list (eI ts ++ [.int (putT r.1 y x)]), .list (gs.map encF ++ [encF (b, kn)])] := by rw [encO, last_fs, last_eI]
      rw [eo, last_eI] at *
      exact ho
/-! valued -/
theorem sc_valued : FnScope ["row", "state", "place", "values", "frames", "known", "word"] ["row", "state"] (defScope st_valued) := ⟨rfl, rfl, rfl, by decide +kernel, rfl, by decide +kernel, by decide +kernel⟩
abbrev encSt (p : Int) (vs : List Int) (gs : List Fr) (b : Int) (kn : List Int) : PyData := .tuple [.int p, .list (eI vs), .list (gs.map encF ++ [encF (b, kn)])]
theorem encSt_O (p : Int) (vs : List Int) (gs : List Fr) (b : Int) (kn : List Int) : encO (.st p vs (gs ++ [(b, kn)])) = encSt p vs gs b kn := by rw [encO, last_fs]
theorem encSt_app (p : Int) (vs : List Int) (n : Int) (gs : List Fr) (b : Int) (kn : List Int) : encSt p (vs ++ [n]) gs b kn = .tuple [.int p, .list (eI vs ++ [.int n]), .list (gs.map encF ++ [encF (b, kn)])] := by rw [encSt, last_eI]
def S_valued : Spec := fun Δ o => ∃ (r : Rw) (p : Int) (vs : List Int) (gs : List Fr) (b : Int) (kn : List Int), wfN r ∧ ¬ (r.1 = "call" ∨ r.1 = "jump") ∧ ¬ r.1 = "back" ∧ vs.length ≤ 900000 ∧ kn.length ≤ 900000 ∧ gs.length ≤ 900000 ∧
  Δ = [.d (encR r), .d (encSt p vs gs b kn)] ∧ o = .rt Δ (.d (encO (stepT r.1 (r.2.getD 0) p vs gs b kn)))
theorem rest_take : ∀ v ∈ wordL, ¬ (v = "call" ∨ v = "jump") → ¬ v = "back" → ¬ v = "num" → ¬ v = "arg" → ¬ v = "skip" → ¬ v = "drop" → v ∈ takeW := by decide +kernel
theorem ok_valued (G : Blt mg) (D : Df K mg "valued" st_valued ["row", "state"]) (F_taken : Fn P w K mg base 2 "taken" S_taken) : Fn P w K mg base 3 "valued" S_valued := by
  refine mk_ok D sc_valued (fun Δ o ⟨r, p, vs, gs, b, kn, _, _, _, _, _, _, h1, h2⟩ => ⟨by rw [h1]; rfl, fun _ _ e => by rw [h2] at e; cases e⟩) fun f Δ o ⟨r, p, vs, gs, b, kn, hw, nc, nb, hv, hk, hg, h1, h2⟩ => ?_
  subst h1 h2
  refine go_eq (Δ' := [.d (encR r), .d (encSt p vs gs b kn), .no, .no, .no, .no, .no]) rfl ?_
  obtain ⟨fs, ef⟩ := encR_cons r
  refine go_then (fun q => ds1_set 2 sc_valued.nd (de_add (de_ixT (x := .int p) (xs := [.int p, .list (eI vs), .list (gs.map encF ++ [encF (b, kn)])]) (de_nm 1) de_int rfl rfl rfl) de_int)) ?_
  refine go_then (fun q => ds1_own 3 sc_valued.nd (de_list G (de_ixT (x := .list (eI vs)) (xs := [.int p, .list (eI vs), .list (gs.map encF ++ [encF (b, kn)])]) (de_nm 1) de_int rfl rfl rfl) rfl (.inl rfl))) ?_
  refine go_then (fun q => ds1_own 4 sc_valued.nd (de_list G (de_ixT (x := .list (gs.map encF ++ [encF (b, kn)])) (xs := [.int p, .list (eI vs), .list (gs.map encF ++ [encF (b, kn)])]) (de_nm 1) de_int rfl rfl rfl) rfl (.inl rfl))) ?_
  refine go_then (fun q => ds1_set 5 sc_valued.nd (de_ixT (x := .list (eI kn)) (xs := [.int b, .list (eI kn)]) (de_ixL (x := encF (b, kn)) (de_sl 4) (de_neg de_int) rfl rfl at_end1) de_int rfl rfl rfl)) ?_
  refine go_then (fun q => ds1_set (x := .str r.1) 6 sc_valued.nd (de_ixT (xs := .str r.1 :: fs) (de_nm 0) de_int rfl (by rw [← ef]; rfl) at0)) ?_
  refine go_eq (Δ' := [.d (encR r), .d (encSt p vs gs b kn), .d (.int (p + 1)), .own (eI vs), .own (gs.map encF ++ [encF (b, kn)]), .d (.list (eI kn)), .d (.str r.1)]) rfl ?_
  have ret : ∀ (p' : Int) (vs' fs' : List PyData), Go (XN P w K mg base ["row", "state", "place", "values", "frames", "known", "word"] "valued" (defScope st_valued) f 2) WN [.d (encR r), .d (encSt p vs gs b kn), .d (.int p'), .own vs', .own fs', .d (.list (eI kn)), .d (.str r.1)] ((defBody st_valued).drop 6) (fun o' => End [.d (encR r), .d (encSt p vs gs b kn)] o' (.rt [.d (encR r), .d (encSt p vs gs b kn)] (.d (.tuple [.int p', .list vs', .list fs'])))) := fun p' vs' fs' =>
    go_end (fun q => ds1_ret (de_tup (da_cons (de_nm 2) (da_cons (de_ic 3) (da_cons (de_ic 4) da_nil))))) rfl ⟨rfl, rfl, fin0 rfl⟩
  have stuck : ∀ (rest : List Stmt) (kk : Nat) (p1 p2 p3 : Pos) (Pp : Out → Prop) (Δ : En), (Pp (.rt Δ (.d (encO .stuck)))) → Go (XN P w K mg base ["row", "state", "place", "values", "frames", "known", "word"] "valued" (defScope st_valued) f 2) WN Δ (.Return (some (.Tuple [.Constant (.str "stuck") kk p1] kk p2)) p3 :: rest) Pp := fun rest kk p1 p2 p3 Pp Δ hP => go_end (fun q => ds1_ret (de_tup (da_cons de_str da_nil))) rfl hP
  rw [stepT]
  refine go_if (fun q => (dt_eqS (de_nm 6) de_str)) (fun h => ?_) (fun h => ?_)
  · have h := of_decide_eq_true h
    rw [if_pos h, encSt_O, encSt_app]
    have hr := encR_num hw.1 (by rw [h]; decide)
    refine go_then (fun q => ds1_app 3 (de_ixT (x := .int (r.2.getD 0)) (xs := [.str r.1, .int (r.2.getD 0)]) (de_nm 0) de_int rfl (by rw [← hr]; rfl) rfl) rfl (.inl rfl) (by simp [eI]; omega) ⟨_, rfl, rfl⟩) (go_on ?_)
    exact ret _ _ _
  rw [if_neg (of_decide_eq_false h)]
  refine go_if (fun q => (dt_eqS (de_nm 6) de_str)) (fun h1 => ?_) (fun h1 => ?_)
  · have h1 := of_decide_eq_true h1
    rw [if_pos h1]
    have hr := encR_num hw.1 (by rw [h1]; decide)
    have hn := hw.2 (.inl h1)
    refine go_if (fun q => (dt_not (dt_lelt de_int (de_ixT (x := .int (r.2.getD 0)) (xs := [.str r.1, .int (r.2.getD 0)]) (de_nm 0) de_int rfl (by rw [← hr]; rfl) rfl) (de_lenL G (de_nm 5) rfl rfl)))) (fun h2 => ?_) (fun h2 => go_on ?_)
    · have h2 : ¬ (r.2.getD 0 < (kn.length : Int)) := fun z => by simp [eI, hn, z] at h2
      rw [if_neg h2]
      exact stuck _ _ _ _ _ _ _ ⟨rfl, rfl, fin0 rfl⟩
    · have h2 : r.2.getD 0 < (kn.length : Int) := by simp [eI, hn] at h2; exact h2
      rw [if_pos h2, encSt_O, encSt_app]
      have hx : atI (eI kn) (r.2.getD 0) = some (.int (kn.getD (r.2.getD 0).toNat 0)) := at_map .int 0 hn h2
      refine go_then (fun q => ds1_app 3 (de_ixL (de_nm 5) (de_ixT (x := .int (r.2.getD 0)) (xs := [.str r.1, .int (r.2.getD 0)]) (de_nm 0) de_int rfl (by rw [← hr]; rfl) rfl) rfl rfl hx) rfl (.inl rfl) (by simp [eI]; omega) ⟨_, rfl, rfl⟩) (go_on (go_on ?_))
      exact ret _ _ _
  rw [if_neg (of_decide_eq_false h1)]
  refine go_if (fun q => (dt_eqS (de_nm 6) de_str)) (fun h2 => ?_) (fun h2 => ?_)
  · have h2 := of_decide_eq_true h2
    rw [if_pos h2, encSt_O]
    have hr := encR_num hw.1 (by rw [h2]; decide)
    refine go_then (fun q => ds1_set 2 sc_valued.nd (de_add (de_nm 2) (de_ixT (x := .int (r.2.getD 0)) (xs := [.str r.1, .int (r.2.getD 0)]) (de_nm 0) de_int rfl (by rw [← hr]; rfl) rfl))) (go_on (go_on (go_on ?_)))
    exact ret _ _ _
  rw [if_neg (of_decide_eq_false h2)]
  refine go_if (fun q => (dt_eqS (de_nm 6) de_str)) (fun h3 => ?_) (fun h3 => ?_)
  · rw [if_pos (of_decide_eq_true h3)]
    refine go_if (fun q => (dt_eq q.2.units (de_nm 5) (de_ice (de_lst (xs := []) da_nil)) rfl rfl rfl (shp_ints kn) shp_nil)) (fun h4 => ?_) (fun h4 => go_on ?_)
    · rw [eqv_nil] at h4
      rw [if_pos (eI_nil.mp h4)]
      exact stuck _ _ _ _ _ _ _ ⟨rfl, rfl, fin0 rfl⟩
    · rw [eqv_nil] at h4
      have hne : ¬ kn = [] := fun z => by rw [eI_nil.mpr z] at h4; cases h4
      rw [if_neg hne]
      rcases snoc_cases kn with rfl | ⟨us, x, rfl⟩
      · exact absurd rfl hne
      rw [List.dropLast_concat, encSt_O]
      have ec : cutD (eI (us ++ [x])) none (some (-1)) = eI us := by rw [last_eI]; exact cut_end1
      refine go_then (fun q => ds1_setI (m := (gs.map encF).length) (x := .tuple [.int b, .list (cutD (eI (us ++ [x])) none (some (-1)))]) 4 (de_tup (xs := [.int b, .list (cutD (eI (us ++ [x])) none (some (-1)))]) (da_cons (de_ixT (x := .int b) (xs := [.int b, .list (eI (us ++ [x]))]) (de_ixL (x := encF (b, us ++ [x])) (de_sl 4) (de_neg de_int) rfl rfl at_end1) de_int rfl rfl rfl) (da_cons (de_ice (de_slL (de_nm 5) dp_no (dp_so (de_neg de_int)) rfl rfl)) da_nil))) (de_neg de_int) rfl (.inl rfl) ixN_last) (go_on (go_on (go_on (go_on ?_))))
      rw [ec]
      refine go_eq ?_ (ret (p + 1) (eI vs) (gs.map encF ++ [encF (b, us)]))
      have el : (gs.map encF ++ [encF (b, us ++ [x])]).set (gs.map encF).length (.tuple [.int b, .list (eI us)]) = gs.map encF ++ [encF (b, us)] := set_last
      rw [← el]
      rfl
  rw [if_neg (of_decide_eq_false h3)]
  refine go_end (fun q => ds1_ret (de_callA (x' := "taken") F_taken q.2 (da_cons (de_nm 0) (da_cons (de_nm 2) (da_cons (de_sl 3) (da_cons (de_sl 4) da_nil)))) ⟨r, p, vs, gs, b, kn, hw.1, rest_take _ hw.1.1 nc nb (of_decide_eq_false h) (of_decide_eq_false h1) (of_decide_eq_false h2) (of_decide_eq_false h3), hv, hk, rfl, rfl⟩ (onceI rfl) rfl)) rfl ⟨rfl, rfl, fin0 rfl⟩
end
end Tr
namespace Tr
open PySem L2
section
variable {P : Program} {w : World} {K : Frag} {mg : Str → Option Value} {base : Heap}
/-! entered, stepped -/
theorem cut_from_eI {vs : List Int} {l : Nat} : cutD (eI vs) (some (l : Int)) none = eI (vs.drop l) := by rw [cut_from, eI, eI, List.map_drop]
theorem cut_to_eI {vs : List Int} {l : Nat} : cutD (eI vs) none (some (l : Int)) = eI (vs.take l) := by rw [cut_to, eI, eI, List.map_take]
theorem sc_entered : FnScope ["code", "row", "state", "most", "start", "left", "frames", "given"] ["code", "row", "state", "most"] (defScope st_entered) := ⟨rfl, rfl, rfl, by decide +kernel, rfl, by decide +kernel, by decide +kernel⟩
def S_entered : Spec := fun Δ o => ∃ (rs : List Rw) (ss : List Sp2) (r : Rw) (most p : Int) (vs : List Int) (gs : List Fr) (b : Int) (kn : List Int), wfN r ∧ (r.1 = "call" ∨ r.1 = "jump") ∧ (∀ s ∈ ss, 0 ≤ s.2) ∧ vs.length ≤ 900000 ∧ kn.length ≤ 900000 ∧ gs.length ≤ 900000 ∧
  Δ = [.d (.tuple [.list (rs.map encR), .list (ss.map encS)]), .d (encR r), .d (encSt p vs gs b kn), .d (.int most)] ∧ o = .rt Δ (.d (encO (enterT r.1 (r.2.getD 0) ss most p vs gs b kn)))
theorem ok_entered (G : Blt mg) (D : Df K mg "entered" st_entered ["code", "row", "state", "most"]) : Fn P w K mg base 1 "entered" S_entered := by
  refine mk_ok D sc_entered (fun Δ o ⟨rs, ss, r, most, p, vs, gs, b, kn, _, _, _, _, _, _, h1, h2⟩ => ⟨by rw [h1]; rfl, fun _ _ e => by rw [h2] at e; cases e⟩) fun f Δ o ⟨rs, ss, r, most, p, vs, gs, b, kn, hw, hc, hs0, hv, hk, hg, h1, h2⟩ => ?_
  subst h1 h2
  refine go_eq (Δ' := [.d (.tuple [.list (rs.map encR), .list (ss.map encS)]), .d (encR r), .d (encSt p vs gs b kn), .d (.int most), .no, .no, .no, .no]) rfl ?_
  have hr := encR_num hw.1 (by rcases hc with h | h <;> rw [h] <;> decide)
  have hn := hw.2 (.inr hc)
  obtain ⟨oc, e1⟩ : ∃ oc, oc = enterT r.1 (r.2.getD 0) ss most p vs gs b kn := ⟨_, rfl⟩
  rw [← e1]
  rw [enterT] at e1
  generalize r.2.getD 0 = n at e1 hr hn
  have stuck : ∀ (rest : List Stmt) (kk : Nat) (p1 p2 p3 : Pos) (Pp : Out → Prop) (Δ : En), (Pp (.rt Δ (.d (encO .stuck)))) → Go (XN P w K mg base ["code", "row", "state", "most", "start", "left", "frames", "given"] "entered" (defScope st_entered) f 0) WN Δ (.Return (some (.Tuple [.Constant (.str "stuck") kk p1] kk p2)) p3 :: rest) Pp := fun rest kk p1 p2 p3 Pp Δ hP => go_end (fun q => ds1_ret (de_tup (da_cons de_str da_nil))) rfl hP
  refine go_if (fun q => (dt_not (dt_lelt de_int (de_ixT (x := .int n) (xs := [.str r.1, .int n]) (de_nm 1) de_int rfl (by rw [← hr]; rfl) rfl) (de_lenL (xs := ss.map encS) G (de_ixT (xs := [.list (rs.map encR), .list (ss.map encS)]) (de_nm 0) de_int rfl rfl rfl) rfl rfl)))) (fun h => ?_) (fun h => go_on ?_)
  · have h : (ss.length : Int) ≤ n := by simp [hn] at h; exact h
    rw [if_pos (Or.inl h)] at e1
    rw [e1]
    exact stuck _ _ _ _ _ _ _ ⟨rfl, rfl, fin0 rfl⟩
  have h : n < (ss.length : Int) := by simp [hn] at h; exact h
  have hx : atI (ss.map encS) n = some (encS (ss.getD n.toNat (0, 0))) := at_map encS (0, 0) hn h
  have hs2 : 0 ≤ (ss.getD n.toNat (0, 0)).2 := by
    have hl : n.toNat < ss.length := by omega
    rw [List.getD_eq_getElem?_getD, List.getElem?_eq_getElem hl]
    exact hs0 _ (List.getElem_mem hl)
  generalize ss.getD n.toNat (0, 0) = s at e1 hx hs2
  obtain ⟨s1, s2⟩ := s
  have hs2 : 0 ≤ s2 := hs2
  refine go_then (fun q => ds1_set (x := .tuple [.int s1, .int s2]) 4 sc_entered.nd (de_ixL (de_ixT (x := .list (ss.map encS)) (xs := [.list (rs.map encR), .list (ss.map encS)]) (de_nm 0) de_int rfl rfl rfl) (de_ixT (x := .int n) (xs := [.str r.1, .int n]) (de_nm 1) de_int rfl (by rw [← hr]; rfl) rfl) rfl rfl hx)) ?_
  refine go_then (fun q => ds1_set 5 sc_entered.nd (de_sub (de_lenL (xs := eI vs) G (de_ixT (xs := [.int p, .list (eI vs), .list (gs.map encF ++ [encF (b, kn)])]) (de_nm 2) de_int rfl rfl rfl) rfl rfl) (de_ixT (x := .int s2) (xs := [.int s1, .int s2]) (de_nm 4) de_int rfl rfl rfl))) ?_
  have hvl : (eI vs).length = vs.length := List.length_map _
  refine go_if (fun q => (dt_lt (de_nm 5) de_int)) (fun h3 => ?_) (fun h3 => go_on ?_)
  · have h3 := of_decide_eq_true h3
    rw [if_pos (Or.inr (show (vs.length : Int) < s2 by rw [hvl] at h3; omega))] at e1
    rw [e1]
    exact stuck _ _ _ _ _ _ _ ⟨rfl, rfl, fin0 rfl⟩
  have h3 := of_decide_eq_false h3
  rw [hvl] at h3 ⊢
  rw [if_neg (fun z => by rcases z with z | z; omega; exact h3 (by have z : (vs.length : Int) < s2 := z; omega))] at e1
  have hl : (vs.length : Int) - s2 = ((vs.length - s2.toNat : Nat) : Int) := by omega
  rw [hl]
  have e1 : oc = if r.1 = "jump" then .st s1 (vs.take (vs.length - s2.toNat)) (gs ++ [(b, vs.drop (vs.length - s2.toNat))]) else if most ≤ ((gs ++ [(b, kn)]).length : Int) then .full else .st s1 (vs.take (vs.length - s2.toNat)) (gs ++ [(b, kn)] ++ [(p + 1, vs.drop (vs.length - s2.toNat))]) := e1
  generalize vs.length - s2.toNat = left at e1
  refine go_then (fun q => ds1_own (xs := gs.map encF ++ [encF (b, kn)]) 6 sc_entered.nd (de_list G (de_ixT (x := .list (gs.map encF ++ [encF (b, kn)])) (xs := [.int p, .list (eI vs), .list (gs.map encF ++ [encF (b, kn)])]) (de_nm 2) de_int rfl rfl rfl) rfl (.inl rfl))) ?_
  refine go_then (fun q => ds1_set (x := .list (cutD (eI vs) (some (left : Int)) none)) 7 sc_entered.nd (de_ice (de_slL (de_ixT (x := .list (eI vs)) (xs := [.int p, .list (eI vs), .list (gs.map encF ++ [encF (b, kn)])]) (de_nm 2) de_int rfl rfl rfl) (dp_so (de_nm 5)) dp_no rfl rfl))) ?_
  rw [cut_from_eI]
  refine go_eq (Δ' := [.d (.tuple [.list (rs.map encR), .list (ss.map encS)]), .d (encR r), .d (encSt p vs gs b kn), .d (.int most), .d (.tuple [.int s1, .int s2]), .d (.int (left : Int)), .own (gs.map encF ++ [encF (b, kn)]), .d (.list (eI (vs.drop left)))]) rfl ?_
  have ret : ∀ fs' : List Fr, oc = .st s1 (vs.take left) fs' → Go (XN P w K mg base ["code", "row", "state", "most", "start", "left", "frames", "given"] "entered" (defScope st_entered) f 0) WN [.d (.tuple [.list (rs.map encR), .list (ss.map encS)]), .d (encR r), .d (encSt p vs gs b kn), .d (.int most), .d (.tuple [.int s1, .int s2]), .d (.int (left : Int)), .own (fs'.map encF), .d (.list (eI (vs.drop left)))] ((defBody st_entered).drop 7) (fun o' => End [.d (.tuple [.list (rs.map encR), .list (ss.map encS)]), .d (encR r), .d (encSt p vs gs b kn), .d (.int most)] o' (.rt [.d (.tuple [.list (rs.map encR), .list (ss.map encS)]), .d (encR r), .d (encSt p vs gs b kn), .d (.int most)] (.d (encO oc)))) := fun fs' e => by
    refine go_end (fun q => ds1_ret (de_tup (xs := [.int s1, .list (cutD (eI vs) none (some (left : Int))), .list (fs'.map encF)]) (da_cons (de_ixT (x := .int s1) (xs := [.int s1, .int s2]) (de_nm 4) de_int rfl rfl rfl) (da_cons (de_ice (de_slL (de_ixT (x := .list (eI vs)) (xs := [.int p, .list (eI vs), .list (gs.map encF ++ [encF (b, kn)])]) (de_nm 2) de_int rfl rfl rfl) dp_no (dp_so (de_nm 5)) rfl rfl)) (da_cons (de_ic 6) da_nil))))) rfl ⟨?_, rfl, fin0 rfl⟩
    rw [cut_to_eI, e]
    rfl
  obtain ⟨fs, ef⟩ := encR_cons r
  refine go_if (fun q => (dt_eqS (de_ixT (xs := .str r.1 :: fs) (de_nm 1) de_int rfl (by rw [← ef]; rfl) at0) de_str)) (fun h4 => ?_) (fun h4 => ?_)
  · rw [if_pos (of_decide_eq_true h4)] at e1
    refine go_then (fun q => ds1_setI (m := (gs.map encF).length) (x := .tuple [.int b, .list (eI (vs.drop left))]) 6 (de_tup (da_cons (de_ixT (x := .int b) (xs := [.int b, .list (eI kn)]) (de_ixL (x := encF (b, kn)) (de_sl 6) (de_neg de_int) rfl rfl at_end1) de_int rfl rfl rfl) (da_cons (de_nm 7) da_nil))) (de_neg de_int) rfl (.inl rfl) ixN_last) (go_on ?_)
    refine go_eq ?_ (ret _ e1)
    have el : (gs.map encF ++ [encF (b, kn)]).set (gs.map encF).length (.tuple [.int b, .list (eI (vs.drop left))]) = (gs ++ [(b, vs.drop left)]).map encF := by rw [last_fs]; exact set_last
    rw [← el]
    rfl
  · rw [if_neg (of_decide_eq_false h4)] at e1
    refine go_if (fun q => (dt_ge (de_lenL G (de_sl 6) rfl rfl) (de_nm 3))) (fun h5 => ?_) (fun h5 => ?_)
    · have h5 := of_decide_eq_true h5
      rw [if_pos (by simpa using h5)] at e1
      rw [e1]
      exact go_end (fun q => ds1_ret (de_tup (da_cons de_str da_nil))) rfl ⟨rfl, rfl, fin0 rfl⟩
    · have h5 := of_decide_eq_false h5
      rw [if_neg (by simpa using h5)] at e1
      refine go_then (fun q => ds1_app (x := .tuple [.int (p + 1), .list (eI (vs.drop left))]) 6 (de_tup (da_cons (de_add (de_ixT (x := .int p) (xs := [.int p, .list (eI vs), .list (gs.map encF ++ [encF (b, kn)])]) (de_nm 2) de_int rfl rfl rfl) de_int) (da_cons (de_nm 7) da_nil))) rfl (.inl rfl) (by simp; omega) ⟨_, rfl, rfl⟩) (go_on (go_on ?_))
      refine go_eq ?_ (ret _ e1)
      rw [last_fs, last_fs]
      rfl
theorem sc_stepped : FnScope ["code", "state", "most", "row"] ["code", "state", "most"] (defScope st_stepped) := ⟨rfl, rfl, rfl, by decide +kernel, rfl, by decide +kernel, by decide +kernel⟩
def S_stepped : Spec := fun Δ o => ∃ (rs : List Rw) (ss : List Sp2) (most p : Int) (vs : List Int) (gs : List Fr) (b : Int) (kn : List Int), (∀ r ∈ rs, wfN r) ∧ (∀ s ∈ ss, 0 ≤ s.2) ∧ vs.length ≤ 900000 ∧ kn.length ≤ 900000 ∧ gs.length ≤ 900000 ∧
  Δ = [.d (.tuple [.list (rs.map encR), .list (ss.map encS)]), .d (encSt p vs gs b kn), .d (.int most)] ∧ o = .rt Δ (.d (encO (stepQ rs ss most p vs gs b kn)))
theorem ok_stepped (G : Blt mg) (D : Df K mg "stepped" st_stepped ["code", "state", "most"]) (F_valued : Fn P w K mg base 3 "valued" S_valued) (F_entered : Fn P w K mg base 1 "entered" S_entered) : Fn P w K mg base 4 "stepped" S_stepped := by
  refine mk_ok D sc_stepped (fun Δ o ⟨rs, ss, most, p, vs, gs, b, kn, _, _, _, _, _, h1, h2⟩ => ⟨by rw [h1]; rfl, fun _ _ e => by rw [h2] at e; cases e⟩) fun f Δ o ⟨rs, ss, most, p, vs, gs, b, kn, hrs, hs0, hv, hk, hg, h1, h2⟩ => ?_
  subst h1 h2
  refine go_eq (Δ' := [.d (.tuple [.list (rs.map encR), .list (ss.map encS)]), .d (encSt p vs gs b kn), .d (.int most), .no]) rfl ?_
  rw [stepQ]
  refine go_if (fun q => (dt_not (dt_lelt de_int (de_ixT (x := .int p) (xs := [.int p, .list (eI vs), .list (gs.map encF ++ [encF (b, kn)])]) (de_nm 1) de_int rfl rfl rfl) (de_lenL (xs := rs.map encR) G (de_ixT (xs := [.list (rs.map encR), .list (ss.map encS)]) (de_nm 0) de_int rfl rfl rfl) rfl rfl)))) (fun h => ?_) (fun h => go_on ?_)
  · have h : ¬ (0 ≤ p ∧ p < (rs.length : Int)) := by simp at h; omega
    rw [if_neg h]
    exact go_end (fun q => ds1_ret (de_tup (da_cons de_str da_nil))) rfl ⟨rfl, rfl, fin0 rfl⟩
  have h : 0 ≤ p ∧ p < (rs.length : Int) := by simpa using h
  rw [if_pos h]
  have hx : atI (rs.map encR) p = some (encR (rowAt rs p)) := at_map encR ("back", none) h.1 h.2
  have hw : wfN (rowAt rs p) := by
    have hl : p.toNat < rs.length := by omega
    rw [rowAt, List.getD_eq_getElem?_getD, List.getElem?_eq_getElem hl]
    exact hrs _ (List.getElem_mem hl)
  generalize rowAt rs p = r at hx hw
  obtain ⟨fs, ef⟩ := encR_cons r
  refine go_then (fun q => ds1_set 3 sc_stepped.nd (de_ixL (de_ixT (x := .list (rs.map encR)) (xs := [.list (rs.map encR), .list (ss.map encS)]) (de_nm 0) de_int rfl rfl rfl) (de_ixT (x := .int p) (xs := [.int p, .list (eI vs), .list (gs.map encF ++ [encF (b, kn)])]) (de_nm 1) de_int rfl rfl rfl) rfl rfl hx)) ?_
  rw [stepR]
  refine go_if (fun q => (DWx.dt (dw_or (dt_eqS (de_ixT (xs := .str r.1 :: fs) (de_nm 3) de_int rfl (by rw [← ef]; rfl) at0) de_str) fun h => (dw_or1 (dt_eqS (de_ixT (xs := .str r.1 :: fs) (de_nm 3) de_int rfl (by rw [← ef]; rfl) at0) de_str))))) (fun h1 => ?_) (fun h1 => go_on ?_)
  · have h1 : r.1 = "call" ∨ r.1 = "jump" := by simpa using h1
    rw [if_pos h1]
    exact go_end (fun q => ds1_ret (de_call F_entered (q.2.mono (by omega)) (da_cons (de_nm 0) (da_cons (de_nm 3) (da_cons (de_nm 1) (da_cons (de_nm 2) da_nil)))) ⟨rs, ss, r, most, p, vs, gs, b, kn, hw, h1, hs0, hv, hk, hg, rfl, rfl⟩ (oneN rfl) rfl)) rfl ⟨rfl, rfl, fin0 rfl⟩
  have h1 : ¬ (r.1 = "call" ∨ r.1 = "jump") := by simpa using h1
  rw [if_neg h1]
  refine go_if (fun q => (dt_neS (de_ixT (xs := .str r.1 :: fs) (de_nm 3) de_int rfl (by rw [← ef]; rfl) at0) de_str)) (fun h2 => ?_) (fun h2 => go_on ?_)
  · have h2 : ¬ r.1 = "back" := by simpa using h2
    rw [if_neg h2]
    exact go_end (fun q => ds1_ret (de_call F_valued (q.2.mono (by omega)) (da_cons (de_nm 3) (da_cons (de_nm 1) da_nil)) ⟨r, p, vs, gs, b, kn, hw, h1, h2, hv, hk, hg, rfl, rfl⟩ (oneN rfl) rfl)) rfl ⟨rfl, rfl, fin0 rfl⟩
  have h2 : r.1 = "back" := by simpa using h2
  rw [if_pos h2, backT]
  refine go_if (fun q => (dt_gt (de_lenL (xs := gs.map encF ++ [encF (b, kn)]) G (de_ixT (xs := [.int p, .list (eI vs), .list (gs.map encF ++ [encF (b, kn)])]) (de_nm 1) de_int rfl rfl rfl) rfl rfl) de_int)) (fun h3 => ?_) (fun h3 => go_on ?_)
  · have h3 := of_decide_eq_true h3
    have hne : ¬ gs = [] := fun z => by subst z; simp at h3
    rw [if_neg hne]
    refine go_end (fun q => ds1_ret (de_tup (xs := [.int b, .list (eI vs), .list (cutD (gs.map encF ++ [encF (b, kn)]) none (some (-1)))]) (da_cons (de_ixT (x := .int b) (xs := [.int b, .list (eI kn)]) (de_ixL (x := encF (b, kn)) (de_ixT (x := .list (gs.map encF ++ [encF (b, kn)])) (xs := [.int p, .list (eI vs), .list (gs.map encF ++ [encF (b, kn)])]) (de_nm 1) de_int rfl rfl rfl) (de_neg de_int) rfl rfl at_end1) de_int rfl rfl rfl) (da_cons (de_ice (de_list G (de_ixT (x := .list (eI vs)) (xs := [.int p, .list (eI vs), .list (gs.map encF ++ [encF (b, kn)])]) (de_nm 1) de_int rfl rfl rfl) rfl (.inl rfl))) (da_cons (de_ice (de_list G (de_ice (de_slL (de_ixT (x := .list (gs.map encF ++ [encF (b, kn)])) (xs := [.int p, .list (eI vs), .list (gs.map encF ++ [encF (b, kn)])]) (de_nm 1) de_int rfl rfl rfl) dp_no (dp_so (de_neg de_int)) rfl rfl)) rfl (.inl rfl))) da_nil))))) rfl ⟨?_, rfl, fin0 rfl⟩
    rw [cut_end1]
    rfl
  have h3 := of_decide_eq_false h3
  have hnil : gs = [] := by
    cases gs with
    | nil => rfl
    | cons g gs => exact absurd (by simp; omega) h3
  rw [if_pos hnil]
  refine go_if (fun q => (dt_eq q.2.units (de_ixT (x := .list (eI vs)) (xs := [.int p, .list (eI vs), .list (gs.map encF ++ [encF (b, kn)])]) (de_nm 1) de_int rfl rfl rfl) (de_ice (de_lst (xs := []) da_nil)) rfl rfl rfl (shp_ints vs) shp_nil)) (fun h4 => ?_) (fun h4 => go_on ?_)
  · rw [eqv_nil] at h4
    rw [if_pos (eI_nil.mp h4)]
    exact go_end (fun q => ds1_ret (de_tup (da_cons de_str da_nil))) rfl ⟨rfl, rfl, fin0 rfl⟩
  · rw [eqv_nil] at h4
    have hne : ¬ vs = [] := fun z => by rw [eI_nil.mpr z] at h4; cases h4
    rw [if_neg hne]
    rcases snoc_cases vs with rfl | ⟨us, x, rfl⟩
    · exact absurd rfl hne
    rw [getLastD_snoc]
    exact go_end (fun q => ds1_ret (de_tup (da_cons de_str (da_cons (de_ixL (x := .int x) (xs := eI us ++ [.int x]) (de_ixT (x := .list (eI (us ++ [x]))) (xs := [.int p, .list (eI (us ++ [x])), .list (gs.map encF ++ [encF (b, kn)])]) (de_nm 1) de_int rfl rfl rfl) (de_neg de_int) rfl (by rw [← last_eI]; rfl) at_end1) da_nil)))) rfl ⟨rfl, rfl, fin0 rfl⟩
end
end Tr
namespace Tr
open PySem L2
section
variable {P : Program} {w : World} {K : Frag} {mg : Str → Option Value} {base : Heap}
/-! state_alike, end_alike -/
theorem sc_state_alike : FnScope ["_law_found", "_law_due", "_law_number", "_law_frame"] ["_law_found", "_law_due"] (defScope st_state_alike) := ⟨rfl, rfl, rfl, by decide +kernel, rfl, by decide +kernel, by decide +kernel⟩
def S_state_alike : Spec := fun Δ o => ∃ (p : Int) (vs : List Int) (fs : List Fr), Δ = [.d (encO (.st p vs fs)), .d (encO (.st p vs fs))] ∧ o = .rt Δ (.d (.bool true))
theorem ok_state_alike (G : Blt mg) (D : Df K mg "_law_state_alike" st_state_alike ["_law_found", "_law_due"]) (F_whole : Fn P w K mg base 1 "_law_whole" S_whole) : Fn P w K mg base 2 "_law_state_alike" S_state_alike := by
  refine mk_ok D sc_state_alike (fun Δ o ⟨p, vs, fs, h1, h2⟩ => ⟨by rw [h1]; rfl, fun _ _ e => by rw [h2] at e; cases e⟩) fun f Δ o ⟨p, vs, fs, h1, h2⟩ => ?_
  subst h1 h2
  have hs := (sh_O (.st p vs fs)).shp (by decide)
  have e0 := shp_refl hs
  obtain ⟨E, hE⟩ : ∃ E, E = encO (.st p vs fs) := ⟨_, rfl⟩
  have hE' : E = .tuple [.int p, .list (eI vs), .list (fs.map encF)] := hE
  rw [← hE] at hs e0 ⊢
  refine go_eq (Δ' := [.d E, .d E, .no, .no]) rfl ?_
  have rd : ∀ {Δ : En}, Δ[0]? = some (.d E) → rdOf Δ (.d E) = some (.tuple [.int p, .list (eI vs), .list (fs.map encF)]) := fun _ => by rw [← hE']; rfl
  refine go_if (k := false) (fun q => (DWx.dt (dw_or (k := false) (dt_not (k := true) (dt_val (de_isi (x := E) G (de_nm 0) G.tuple boot_tuple_ (by rw [hE']; exact (show kitB "tuple" "tuple" = some true by decide +kernel))))) fun h => (dw_or (k := false) (dt_neI (de_lenT (xs := [.int p, .list (eI vs), .list (fs.map encF)]) G (de_nm 0) rfl (rd rfl)) de_int) fun h => (dw_or1 (dt_not (k := true) (dt_val (de_call F_whole (q.2.mono (by omega)) (da_cons (de_ixT (x := .int p) (xs := [.int p, .list (eI vs), .list (fs.map encF)]) (de_nm 0) de_int rfl (rd rfl) rfl) da_nil) ⟨p, rfl, rfl⟩ (oneN rfl) rfl)))))))) (fun h => by cases h) (fun h => go_on ?_)
  refine go_if (k := false) (fun q => (DWx.dt (dw_or (k := false) (dt_not (k := true) (dt_val (de_isi (x := .list (eI vs)) G (de_ixT (x := .list (eI vs)) (xs := [.int p, .list (eI vs), .list (fs.map encF)]) (de_nm 0) de_int rfl (rd rfl) rfl) G.list boot_list_ (show kitB "list" "list" = some true by decide +kernel)))) fun h => (dw_or (k := false) (dt_not (k := true) (dt_val (de_isi (x := .list (fs.map encF)) G (de_ixT (x := .list (fs.map encF)) (xs := [.int p, .list (eI vs), .list (fs.map encF)]) (de_nm 0) de_int rfl (rd rfl) rfl) G.list boot_list_ (show kitB "list" "list" = some true by decide +kernel)))) fun h => (dw_or1 (dt_neq q.2.units (de_nm 0) (de_nm 1) rfl rfl rfl hs)))))) (fun h => by cases h) (fun h => go_on ?_)
  refine go_for (fun n D => ∃ s, s.isRef = false ∧ D = [.d E, .d E, s, .no]) (fun q => .never) (fun q => rfl) (fun q => di_list (de_ixT (x := .list (eI vs)) (xs := [.int p, .list (eI vs), .list (fs.map encF)]) (de_nm 0) de_int rfl (rd rfl) rfl)) (Le.refl _) ⟨.no, rfl, rfl⟩ (fun n D d hd ⟨s, hs, e⟩ => ?_) (fun D hD => ?_)
  · subst e
    obtain ⟨i, hi, rfl, _⟩ := map_get hd
    refine ⟨_, fun q => dg_name 2 sc_state_alike.nd rfl hs, ?_⟩
    refine go_if (k := false) (fun q => (dt_not (k := true) (dt_val (de_call F_whole (q.2.mono (by omega)) (da_cons (de_nm 2) da_nil) ⟨i, rfl, rfl⟩ (oneN rfl) rfl)))) (fun h => by cases h) (fun h => go_on (go_nil ?_))
    exact ⟨_, Le.refl _, .d (.int i), rfl, rfl⟩
  obtain ⟨s2, hs2, e⟩ := hD
  subst e
  refine go_for (fun n D => ∃ s t, s.isRef = false ∧ t.isRef = false ∧ D = [.d E, .d E, s, t]) (fun q => .never) (fun q => rfl) (fun q => di_list (de_ixT (x := .list (fs.map encF)) (xs := [.int p, .list (eI vs), .list (fs.map encF)]) (de_nm 0) de_int rfl (rd rfl) rfl)) (Le.refl _) ⟨s2, .no, hs2, rfl, rfl⟩ (fun n D d hd ⟨s, t, hs, ht, e⟩ => ?_) (fun D hD => ?_)
  · subst e
    obtain ⟨⟨b, kn⟩, hi, rfl, _⟩ := map_get hd
    refine ⟨_, fun q => dg_name 3 sc_state_alike.nd rfl ht, ?_⟩
    refine go_if (k := false) (fun q => (DWx.dt (dw_or (k := false) (dt_not (k := true) (dt_val (de_isi (x := encF (b, kn)) G (de_nm 3) G.tuple boot_tuple_ (show kitB "tuple" "tuple" = some true by decide +kernel)))) fun h => (dw_or (k := false) (dt_not (k := true) (dt_val (de_call F_whole (q.2.mono (by omega)) (da_cons (de_ixT (x := .int b) (xs := [.int b, .list (eI kn)]) (de_nm 3) de_int rfl rfl rfl) da_nil) ⟨b, rfl, rfl⟩ (oneN rfl) rfl))) fun h => (dw_or1 (dt_not (k := true) (dt_val (de_isi (x := .list (eI kn)) G (de_ixT (x := .list (eI kn)) (xs := [.int b, .list (eI kn)]) (de_nm 3) de_int rfl rfl rfl) G.list boot_list_ (show kitB "list" "list" = some true by decide +kernel))))))))) (fun h => by cases h) (fun h => go_on ?_)
    refine go_for (fun n D => ∃ s, s.isRef = false ∧ D = [.d E, .d E, s, .d (encF (b, kn))]) (fun q => .never) (fun q => rfl) (fun q => di_list (de_ixT (x := .list (eI kn)) (xs := [.int b, .list (eI kn)]) (de_nm 3) de_int rfl rfl rfl)) (Le.refl _) ⟨s, hs, rfl⟩ (fun n D d hd ⟨s, hs, e⟩ => ?_) (fun D hD => ?_)
    · subst e
      obtain ⟨i, hi, rfl, _⟩ := map_get hd
      refine ⟨_, fun q => dg_name 2 sc_state_alike.nd rfl hs, ?_⟩
      refine go_if (k := false) (fun q => (dt_not (k := true) (dt_val (de_call F_whole (q.2.mono (by omega)) (da_cons (de_nm 2) da_nil) ⟨i, rfl, rfl⟩ (oneN rfl) rfl)))) (fun h => by cases h) (fun h => go_on (go_nil ?_))
      exact ⟨_, Le.refl _, .d (.int i), rfl, rfl⟩
    · obtain ⟨s3, hs3, e⟩ := hD
      subst e
      exact go_nil ⟨_, Le.refl _, s3, .d (encF (b, kn)), hs3, rfl, rfl⟩
  · obtain ⟨s, t, hs, ht, e⟩ := hD
    subst e
    exact go_end (fun q => ds1_ret de_bool) rfl ⟨rfl, rfl, fin0 rfl⟩
def beg0 (ss : List Sp2) (which : Int) (given : List Int) : St3 := ((startOf ss which).1, [], [(0, given)])
def okRun (rs : List Rw) (ss : List Sp2) (which : Int) (given : List Int) (steps : Int) : Prop := (∀ r ∈ rs, wfN r) ∧ (∀ s ∈ ss, 0 ≤ s.2) ∧ 0 ≤ which ∧ which < ss.length ∧ (given.length : Int) = (startOf ss which).2 ∧ given.length ≤ 100000 ∧ steps ≤ 100000
theorem sc_walked : FnScope ["code", "which", "given", "steps", "most", "state", "marks"] ["code", "which", "given", "steps", "most"] (defScope st_walked) := ⟨rfl, rfl, rfl, by decide +kernel, rfl, by decide +kernel, by decide +kernel⟩
def runIn (rs : List Rw) (ss : List Sp2) (which : Int) (given : List Int) (steps most : Int) : En := [.d (encC2 rs ss), .d (.int which), .d (.list (eI given)), .d (.int steps), .d (.int most)]
def S_walkedX (cN cB : Addr) : Spec := fun Δ o => ∃ (rs : List Rw) (ss : List Sp2) (which : Int) (given : List Int) (steps most : Int), Δ = runIn rs ss which given steps most ∧ ((∃ C, begOut cN cB ss which given (begIn rs ss which given) = .xc (begIn rs ss which given) C ∧ o = .xc Δ C) ∨ (okRun rs ss which given steps ∧
    o = .rt Δ (.nt (.d (encE (runM rs ss most steps.toNat (beg0 ss which given)).1)) (.l ((runM rs ss most steps.toNat (beg0 ss which given)).2.map encM)))))
theorem ok_walkedX (G : Blt mg) (D : Df K mg "walked" st_walked ["code", "which", "given", "steps", "most"]) {cN cB : Addr} (F_begun : Fn P w K mg base 1 "begun" (S_begunX cN cB)) (F_stepped : Fn P w K mg base 4 "stepped" S_stepped) : Fn P w K mg base 5 "walked" (S_walkedX cN cB) := by
  refine mk_okX D sc_walked (fun Δ o ⟨rs, ss, which, given, steps, most, h1, _⟩ => by rw [h1]; rfl) fun f Δ o ⟨rs, ss, which, given, steps, most, h1, h2⟩ => ?_
  subst h1
  refine go_eq (Δ' := [.d (encC2 rs ss), .d (.int which), .d (.list (eI given)), .d (.int steps), .d (.int most), .no, .no]) rfl ?_
  rcases h2 with ⟨C, hx, h2⟩ | ⟨⟨hrs, hss, w0, w1, hg, gl, sl⟩, h2⟩
  · subst h2
    exact go_end (fun q => ds1_setX 5 sc_walked.nd (dx_call (takes_of rfl rfl rfl rfl) F_begun (q.2.mono (by omega)) (da_cons (de_nm 0) (da_cons (de_nm 1) (da_cons (de_nm 2) da_nil))) ⟨rs, ss, which, given, rfl, hx.symm⟩ (oneN rfl))) rfl ⟨rfl, fin0 rfl⟩
  subst h2
  have hbo : begOut cN cB ss which given (begIn rs ss which given) = .rt (begIn rs ss which given) (.d (.tuple [.int (startOf ss which).1, .list [], .list [encF (0, given)]])) := by rw [begOut, if_neg (fun z => z ⟨w0, w1⟩), if_neg (fun z => z hg)]
  refine go_then (fun q => ds1_set 5 sc_walked.nd (de_call F_begun (q.2.mono (by omega)) (da_cons (de_nm 0) (da_cons (de_nm 1) (da_cons (de_nm 2) da_nil))) ⟨rs, ss, which, given, rfl, hbo.symm⟩ (oneN rfl) rfl)) ?_
  refine go_then (fun q => ds1_own 6 sc_walked.nd (de_lst (xs := []) da_nil)) ?_
  have fit0 : Fit 100001 (beg0 ss which given) := ⟨by simp [beg0], by simp [beg0], by simp [beg0], fun f hf => by
    simp only [beg0, List.mem_cons, List.not_mem_nil, or_false] at hf
    rw [hf]
    show given.length ≤ 100001
    omega⟩
  have e0 : PyData.tuple [.int (startOf ss which).1, .list [], .list [encF (0, given)]] = encO (.st (beg0 ss which given).1 (beg0 ss which given).2.1 (beg0 ss which given).2.2) := rfl
  rw [e0]
  generalize beg0 ss which given = s0 at fit0
  refine go_while (m := steps.toNat) (fun m D => ∃ (s : St3) (M : List Mk), Fit (100001 + (steps.toNat - m)) s ∧ M.length + m = steps.toNat ∧ (runM rs ss most steps.toNat s0).1 = (runM rs ss most m s).1 ∧ (runM rs ss most steps.toNat s0).2 = M ++ (runM rs ss most m s).2 ∧
    D = [.d (encC2 rs ss), .d (.int which), .d (.list (eI given)), .d (.int steps), .d (.int most), .d (encO (.st s.1 s.2.1 s.2.2)), .own (M.map encM)]) (fun q => passes_of rfl) (Le.refl _) ⟨s0, [], fit0.mono (by omega), by simp, rfl, rfl, rfl⟩ (fun m D ⟨s, M, hfit, hm, e1, e2, e⟩ => ?_)
  subst e
  refine ⟨decide (((M.map encM).length : Int) < steps), [.d (encC2 rs ss), .d (.int which), .d (.list (eI given)), .d (.int steps), .d (.int most), .d (encO (.st s.1 s.2.1 s.2.2)), .own (M.map encM)], fun q => dt_lt (de_lenL (xs := M.map encM) G (de_sl 6) rfl rfl) (de_nm 3), fun hb => ?_, fun hb => ?_⟩
  · have hb : (M.length : Int) < steps := by have := of_decide_eq_true hb; rwa [List.length_map] at this
    obtain ⟨m', rfl⟩ : ∃ m', m = m' + 1 := ⟨m - 1, by omega⟩
    obtain ⟨gs, b, kn, es, l1, l2, l3, l4⟩ := hfit.snoc
    obtain ⟨p, vs, fs⟩ := s
    have es : fs = gs ++ [(b, kn)] := by injection es with _ es; injection es
    subst es
    have l1 : vs.length ≤ 100001 + (steps.toNat - (m' + 1)) := l1
    have eS : encO (.st p vs (gs ++ [(b, kn)])) = .tuple [.int p, .list (eI vs), .list (gs.map encF ++ [encF (b, kn)])] := by rw [encO, last_fs]
    rw [eS]
    refine go_then (fun q => ds1_app (x := .tuple [.int p, .int ((gs.map encF ++ [encF (b, kn)]).length : Int), .int ((eI vs).length : Int)]) 6 (de_tup (da_cons (de_ixT (x := .int p) (xs := [.int p, .list (eI vs), .list (gs.map encF ++ [encF (b, kn)])]) (de_nm 5) de_int rfl rfl rfl) (da_cons (de_lenL G (de_ixT (x := .list (gs.map encF ++ [encF (b, kn)])) (xs := [.int p, .list (eI vs), .list (gs.map encF ++ [encF (b, kn)])]) (de_nm 5) de_int rfl rfl rfl) rfl rfl) (da_cons (de_lenL G (de_ixT (x := .list (eI vs)) (xs := [.int p, .list (eI vs), .list (gs.map encF ++ [encF (b, kn)])]) (de_nm 5) de_int rfl rfl rfl) rfl rfl) da_nil)))) rfl (.inl rfl) (by simp; omega) ⟨_, rfl, rfl⟩) ?_
    have eM : PyData.tuple [.int p, .int ((gs.map encF ++ [encF (b, kn)]).length : Int), .int ((eI vs).length : Int)] = encM (mkOf (p, vs, gs ++ [(b, kn)])) := by simp [encM, mkOf, eI]
    rw [eM]
    obtain ⟨oc, eoc⟩ : ∃ oc, oc = stepQ rs ss most p vs gs b kn := ⟨_, rfl⟩
    have eF : stepF rs ss most (p, vs, gs ++ [(b, kn)]) = oc := by rw [stepF_snoc, eoc]
    refine go_then (fun q => ds1_set (x := encO oc) 5 sc_walked.nd (de_call (r := .d (encO oc)) F_stepped (q.2.mono (by omega)) (da_cons (de_nm 0) (da_cons (de_nm 5) (da_cons (de_nm 4) da_nil))) ⟨rs, ss, most, p, vs, gs, b, kn, hrs, hss, by omega, by omega, by omega, rfl, by rw [eoc]⟩ (oneN rfl) rfl)) ?_
    refine go_eq (Δ' := [.d (encC2 rs ss), .d (.int which), .d (.list (eI given)), .d (.int steps), .d (.int most), .d (encO oc), .own (M.map encM ++ [encM (mkOf (p, vs, gs ++ [(b, kn)]))])]) rfl ?_
    have ret : oc.isEnd = true → Go (XR P w K mg base ["code", "which", "given", "steps", "most", "state", "marks"] "walked" (defScope st_walked) f 4) (fun q => WEx q.1.E) [.d (encC2 rs ss), .d (.int which), .d (.list (eI given)), .d (.int steps), .d (.int most), .d (encO oc), .own (M.map encM ++ [encM (mkOf (p, vs, gs ++ [(b, kn)]))])] (bodyOf (stAt (bodyOf (stAt (defBody st_walked) 2)) 2)) (fun o' => End (runIn rs ss which given steps most) o' (.rt (runIn rs ss which given steps most) (.nt (.d (encE (runM rs ss most steps.toNat s0).1)) (.l ((runM rs ss most steps.toNat s0).2.map encM))))) := fun he => by
      have r := runM_end (n := m') eF he
      refine go_end (fun q => ds1_ret (de_nt_do (da_cons (de_nm 5) (da_cons (de_sl 6) da_nil)) rfl)) rfl ⟨?_, rfl, fin0 rfl⟩
      rw [e1, e2, r, List.map_append]
      rfl
    cases he : oc.isEnd with
    | true =>
      rcases end_shape he with ⟨v, ev⟩ | ⟨v, n, ev⟩
      · refine go_if (k := true) (fun q => (dt_val (de_isi (x := .str v) G (de_ixT (x := .str v) (xs := [.str v]) (de_nm 5) de_int rfl (by rw [ev]; rfl) rfl) G.str boot_str_ (show kitB "str" "str" = some true by decide +kernel)))) (fun h => ?_) (fun h => by cases h)
        exact (ret he).mono fun o' ho => by
          cases o' with
          | rt a c => exact ho
          | nx a =>
            obtain ⟨z, _⟩ := ho
            cases z
          | bk a => exact ho.elim
          | ct a => exact ho.elim
          | xc a c => exact ho.elim
      · refine go_if (k := true) (fun q => (dt_val (de_isi (x := .str v) G (de_ixT (x := .str v) (xs := [.str v, .int n]) (de_nm 5) de_int rfl (by rw [ev]; rfl) rfl) G.str boot_str_ (show kitB "str" "str" = some true by decide +kernel)))) (fun h => ?_) (fun h => by cases h)
        exact (ret he).mono fun o' ho => by
          cases o' with
          | rt a c => exact ho
          | nx a =>
            obtain ⟨z, _⟩ := ho
            cases z
          | bk a => exact ho.elim
          | ct a => exact ho.elim
          | xc a c => exact ho.elim
    | false =>
      cases oc with
      | st p' vs' fs' =>
        refine go_if (k := false) (fun q => (dt_val (de_isi (x := .int p') G (de_ixT (x := .int p') (xs := [.int p', .list (eI vs'), .list (fs'.map encF)]) (de_nm 5) de_int rfl rfl rfl) G.str boot_str_ (show kitB "int" "str" = some false by decide +kernel)))) (fun h => by cases h) (fun h => go_on (go_nil ?_))
        have r := runM_st (n := m') eF
        refine ⟨_, Le.refl _, m', by omega, (p', vs', fs'), M ++ [mkOf (p, vs, gs ++ [(b, kn)])], ?_, by simp; omega, by rw [e1, r], by rw [e2, r]; simp, by rw [List.map_append]; rfl⟩
        exact (fit_step hfit (s' := (p', vs', fs')) eF).mono (by omega)
      | stuck => cases he
      | nought => cases he
      | full => cases he
      | value v => cases he
  · have hb : ¬ (M.length : Int) < steps := by have := of_decide_eq_false hb; rwa [List.length_map] at this
    have hm0 : m = 0 := by omega
    subst hm0
    refine go_end (fun q => ds1_ret (de_nt_do (x := .tuple [.str "dry"]) (da_cons (de_tup (da_cons de_str da_nil)) (da_cons (de_sl 6) da_nil)) rfl)) rfl ⟨?_, rfl, fin0 rfl⟩
    rw [e1, e2]
    simp [runM, encE]
end
end Tr
namespace Tr
open PySem L2
section
variable {P : Program} {w : World} {K : Frag} {mg : Str → Option Value} {base : Heap}
theorem sc_run : FnScope ["code", "which", "given", "steps", "most"] ["code", "which", "given", "steps", "most"] (defScope st_run) := ⟨rfl, rfl, rfl, by decide +kernel, rfl, by decide +kernel, by decide +kernel⟩
def S_runX (cN cB : Addr) : Spec := fun Δ o => ∃ (rs : List Rw) (ss : List Sp2) (which : Int) (given : List Int) (steps most : Int), Δ = runIn rs ss which given steps most ∧ ((∃ C, begOut cN cB ss which given (begIn rs ss which given) = .xc (begIn rs ss which given) C ∧ o = .xc Δ C) ∨ (okRun rs ss which given steps ∧
    o = .rt Δ (.d (encE (runM rs ss most steps.toNat (beg0 ss which given)).1))))
theorem ok_runX (G : Blt mg) (D : Df K mg "run" st_run ["code", "which", "given", "steps", "most"]) {cN cB : Addr} (F_walked : Fn P w K mg base 5 "walked" (S_walkedX cN cB)) : Fn P w K mg base 6 "run" (S_runX cN cB) := by
  refine mk_okX D sc_run (fun Δ o ⟨rs, ss, which, given, steps, most, h1, _⟩ => by rw [h1]; rfl) fun f Δ o ⟨rs, ss, which, given, steps, most, h1, h2⟩ => ?_
  subst h1
  refine go_eq (Δ' := [.d (encC2 rs ss), .d (.int which), .d (.list (eI given)), .d (.int steps), .d (.int most)]) rfl ?_
  rcases h2 with ⟨C, hx, h2⟩ | ⟨hr, h2⟩
  · subst h2
    exact go_end (fun q => ds1_retX (dx_ixT (dx_call (takes_of rfl rfl rfl rfl) F_walked q.2 (da_cons (de_nm 0) (da_cons (de_nm 1) (da_cons (de_nm 2) (da_cons (de_nm 3) (da_cons (de_nm 4) da_nil))))) ⟨rs, ss, which, given, steps, most, rfl, .inl ⟨C, hx, rfl⟩⟩ (oneN rfl)))) rfl ⟨rfl, fin0 rfl⟩
  · subst h2
    exact go_end (fun q => ds1_ret (de_ixT (x := encE (runM rs ss most steps.toNat (beg0 ss which given)).1) (de_nte (de_call F_walked q.2 (da_cons (de_nm 0) (da_cons (de_nm 1) (da_cons (de_nm 2) (da_cons (de_nm 3) (da_cons (de_nm 4) da_nil))))) ⟨rs, ss, which, given, steps, most, rfl, .inr ⟨hr, rfl⟩⟩ (oneN rfl) rfl)) de_int rfl rfl rfl)) rfl ⟨rfl, rfl, fin0 rfl⟩
end
end Tr
namespace Tr
open PySem L2
section
variable {P : Program} {w : World} {K : Frag} {mg : Str → Option Value} {base : Heap}
/-! _law_refused -/
def hdsOf : Stmt → List ExceptHandler
  | .Try _ h _ _ _ => h
  | _ => []
theorem tk0 {X : Cx} : Takes X W0 := fun u s' ⟨_, _, _, _, _, _, _, _, _, _, _, _, _, _, _, _, w⟩ => w.elim
def dueT (ss : List Sp2) (which : Int) (given : List Int) : Str := if ¬ (0 ≤ which ∧ which < ss.length) then "function" else if (given.length : Int) ≠ (startOf ss which).2 then "count" else ""
theorem sc_refused : FnScope ["_law_way", "_law_code", "_law_which", "_law_given"] ["_law_way", "_law_code", "_law_which", "_law_given"] (defScope st_refused) := ⟨rfl, rfl, rfl, by decide +kernel, rfl, by decide +kernel, by decide +kernel⟩
def refIn (way : Int) (rs : List Rw) (ss : List Sp2) (which : Int) (given : List Int) : En := [.d (.int way), .d (encC2 rs ss), .d (.int which), .d (.list (eI given))]
def S_refused : Spec := fun Δ o => ∃ (way : Int) (rs : List Rw) (ss : List Sp2) (which : Int) (given : List Int), (∀ r ∈ rs, wfN r) ∧ (∀ s ∈ ss, 0 ≤ s.2) ∧ given.length ≤ 1000 ∧ Δ = refIn way rs ss which given ∧ o = .rt Δ (.d (.str (dueT ss which given)))
abbrev NRf : List Str := ["_law_way", "_law_code", "_law_which", "_law_given"]
theorem ok_refused (G : Blt mg) (D : Df K mg "_law_refused" st_refused ["_law_way", "_law_code", "_law_which", "_law_given"]) {cN cB : Addr} (XN' : Xc K mg "NoFunction" cN) (XB : Xc K mg "BadCount" cB) (e1 : PySem.W.exmOne K (.ref cN) (.ref cN) = some true) (e2 : PySem.W.exmOne K (.ref cB) (.ref cN) = some false) (e3 : PySem.W.exmOne K (.ref cB) (.ref cB) = some true)
    (F_begun : Fn P w K mg base 1 "begun" (S_begunX cN cB)) (F_walked : Fn P w K mg base 5 "walked" (S_walkedX cN cB)) (F_run : Fn P w K mg base 6 "run" (S_runX cN cB)) : Fn P w K mg base 7 "_law_refused" S_refused := by
  refine mk_ok D sc_refused (fun Δ o ⟨way, rs, ss, which, given, _, _, _, h1, h2⟩ => ⟨by rw [h1]; rfl, fun _ _ e => by rw [h2] at e; cases e⟩) fun f Δ o ⟨way, rs, ss, which, given, hrs, hss, hgl, h1, h2⟩ => ?_
  subst h1 h2
  refine go_eq (Δ' := refIn way rs ss which given) rfl ?_
  have hds : ∀ q, HdsOk ((XN P w K mg base NRf "_law_refused" (defScope st_refused) f 6) q) (hdsOf (stAt (defBody st_refused) 0)) [(.ref cN, fun _ _ _ => tS K W0 (refIn way rs ss which given) (.rt (refIn way rs ss which given) (.d (.str "function")))), (.ref cB, fun _ _ _ => tS K W0 (refIn way rs ss which given) (.rt (refIn way rs ss which given) (.d (.str "count"))))] := fun q =>
    .cons (x := "NoFunction") ⟨rfl, by decide, .inl XN'.g⟩ (fun a oe cls d pn _ _ => ds_stop (ds1_ret de_str) rfl) (.cons (x := "BadCount") ⟨rfl, by decide, .inl XB.g⟩ (fun a oe cls d pn _ _ => ds_stop (ds1_ret de_str) rfl) .nil)
  -- what the body does
  have raise : ∀ C, begOut cN cB ss which given (begIn rs ss which given) = .xc (begIn rs ss which given) C → Go (XT (XN P w K mg base NRf "_law_refused" (defScope st_refused) f 6)) (WT (XN P w K mg base NRf "_law_refused" (defScope st_refused) f 6)) (refIn way rs ss which given) (bodyOf (stAt (defBody st_refused) 0)) (fun ob => ob = .xc (refIn way rs ss which given) C) := fun C hx => by
    refine go_if (fun i => dt_eqI (de_nm 0) de_int) (fun h => ?_) (fun h => ?_)
    · exact go_end (fun i => ds1_exprX (dx_call i.tk F_begun (i.q.2.mono (by omega)) (da_cons (de_nm 1) (da_cons (de_nm 2) (da_cons (de_nm 3) da_nil))) ⟨rs, ss, which, given, rfl, hx.symm⟩ (oneN rfl))) rfl rfl
    · refine go_if (fun i => dt_eqI (de_nm 0) de_int) (fun h => ?_) (fun h => ?_)
      · exact go_end (fun i => ds1_exprX (dx_call i.tk F_run (i.q.2.mono (by omega)) (da_cons (de_nm 1) (da_cons (de_nm 2) (da_cons (de_nm 3) (da_cons de_int (da_cons de_int da_nil))))) ⟨rs, ss, which, given, 3, 3, rfl, .inl ⟨C, hx, rfl⟩⟩ (oneN rfl))) rfl rfl
      · exact go_end (fun i => ds1_exprX (dx_call i.tk F_walked (i.q.2.mono (by omega)) (da_cons (de_nm 1) (da_cons (de_nm 2) (da_cons (de_nm 3) (da_cons de_int (da_cons de_int da_nil))))) ⟨rs, ss, which, given, 3, 3, rfl, .inl ⟨C, hx, rfl⟩⟩ (oneN rfl))) rfl rfl
  have norm : 0 ≤ which → which < ss.length → (given.length : Int) = (startOf ss which).2 → Go (XT (XN P w K mg base NRf "_law_refused" (defScope st_refused) f 6)) (WT (XN P w K mg base NRf "_law_refused" (defScope st_refused) f 6)) (refIn way rs ss which given) (bodyOf (stAt (defBody st_refused) 0)) (fun ob => ob = .nx (refIn way rs ss which given)) := fun w0 w1 hg => by
    have hok : okRun rs ss which given 3 := ⟨hrs, hss, w0, w1, hg, by omega, by omega⟩
    have hbo : begOut cN cB ss which given (begIn rs ss which given) = .rt (begIn rs ss which given) (.d (.tuple [.int (startOf ss which).1, .list [], .list [encF (0, given)]])) := by rw [begOut, if_neg (fun z => z ⟨w0, w1⟩), if_neg (fun z => z hg)]
    refine go_if (fun i => dt_eqI (de_nm 0) de_int) (fun h => ?_) (fun h => ?_)
    · exact go_then (fun i => ds1_expr (de_call F_begun (i.q.2.mono (by omega)) (da_cons (de_nm 1) (da_cons (de_nm 2) (da_cons (de_nm 3) da_nil))) ⟨rs, ss, which, given, rfl, hbo.symm⟩ (oneN rfl) rfl)) (go_on (go_nil rfl))
    · refine go_if (fun i => dt_eqI (de_nm 0) de_int) (fun h => ?_) (fun h => ?_)
      · exact go_then (fun i => ds1_expr (de_call F_run (i.q.2.mono (by omega)) (da_cons (de_nm 1) (da_cons (de_nm 2) (da_cons (de_nm 3) (da_cons de_int (da_cons de_int da_nil))))) ⟨rs, ss, which, given, 3, 3, rfl, .inr ⟨hok, rfl⟩⟩ (oneN rfl) rfl)) (go_on (go_on (go_nil rfl)))
      · exact go_then (fun i => ds1_expr (de_call F_walked (i.q.2.mono (by omega)) (da_cons (de_nm 1) (da_cons (de_nm 2) (da_cons (de_nm 3) (da_cons de_int (da_cons de_int da_nil))))) ⟨rs, ss, which, given, 3, 3, rfl, .inr ⟨hok, rfl⟩⟩ (oneN rfl) rfl)) (go_on (go_on (go_nil rfl)))
  by_cases hv : 0 ≤ which ∧ which < (ss.length : Int)
  · by_cases hg : (given.length : Int) = (startOf ss which).2
    · obtain ⟨ob, rfl, hb⟩ := norm hv.1 hv.2 hg
      refine go_try (o := .nx (refIn way rs ss which given)) (fun q => rfl) (fun q => rfl) (fun q => tk0) _ hds hb ?_ (.inl ⟨fun _ _ e => (by cases e), rfl⟩)
      refine go_end (fun q => ds1_ret de_str) rfl ⟨?_, rfl, fin0 rfl⟩
      rw [dueT, if_neg (fun z => z hv), if_neg (fun z => z hg)]
    · obtain ⟨ob, rfl, hb⟩ := raise cB (by rw [begOut, if_neg (fun z => z hv), if_pos hg])
      refine go_try (o := .rt (refIn way rs ss which given) (.d (.str "count"))) (fun q => rfl) (fun q => rfl) (fun q => tk0) _ hds hb ⟨?_, rfl, fin0 rfl⟩ (.inr ⟨_, _, rfl, fun q D σ H w => many_skip e2 (many_hit e3 fun a ha => w)⟩)
      rw [dueT, if_neg (fun z => z hv), if_pos hg]
  · obtain ⟨ob, rfl, hb⟩ := raise cN (by rw [begOut, if_pos hv])
    refine go_try (o := .rt (refIn way rs ss which given) (.d (.str "function"))) (fun q => rfl) (fun q => rfl) (fun q => tk0) _ hds hb ⟨?_, rfl, fin0 rfl⟩ (.inr ⟨_, _, rfl, fun q D σ H w => many_hit e1 fun a ha => w⟩)
    rw [dueT, if_pos hv]
end
end Tr
namespace Tr
open PySem L2
section
variable {P : Program} {w : World} {K : Frag} {mg : Str → Option Value} {base : Heap}
/-! _law_refused_by_any -/
/-- what the kept fragment says of a refusal's class -/
structure Kinds (K : Frag) (cR cN cB cU cO C : Addr) (b1 b2 b3 b4 : Bool) : Prop where
  exc : ExcC K C
  r : PySem.W.exmOne K (.ref C) (.ref cR) = some true
  k1 : PySem.W.kitOne K (.ref C) (.ref cN) = some b1
  k2 : PySem.W.kitOne K (.ref C) (.ref cB) = some b2
  k3 : PySem.W.kitOne K (.ref C) (.ref cU) = some b3
  k4 : PySem.W.kitOne K (.ref C) (.ref cO) = some b4
  kv : PySem.W.kitOne K (.ref C) (.type "ValueError") = some true
abbrev NAn : List Str := ["_law_code", "_law_which", "_law_given", "e", "_law_kinds"]
theorem sc_any : FnScope NAn ["_law_code", "_law_which", "_law_given"] (defScope st_by_any) := ⟨rfl, rfl, rfl, by decide +kernel, rfl, by decide +kernel, by decide +kernel⟩
def S_any6 : Spec := fun Δ o => ∃ (rs : List Rw) (ss : List Sp2) (which : Int) (given : List Int), Δ = begIn rs ss which given ∧ o = .rt Δ (.d (.bool (decide (dueT ss which given ≠ ""))))
theorem ok_any (G : Blt mg) (D : Df K mg "_law_refused_by_any" st_by_any ["_law_code", "_law_which", "_law_given"]) {cR cN cB cU cO : Addr} (XR' : Xc K mg "RoadError" cR) (XU : Xc K mg "Unknown" cU) (XF : Xc K mg "NoFunction" cN) (XB : Xc K mg "BadCount" cB) (XO : Xc K mg "NoRow" cO) (hVE : mg "ValueError" = none)
    (kN : Kinds K cR cN cB cU cO cN true false false false) (kB : Kinds K cR cN cB cU cO cB false true false false)
    (F : Fn P w K mg base 1 "begun" (S_begunX cN cB)) : Fn P w K mg base 2 "_law_refused_by_any" S_any6 := by
  refine mk_ok D sc_any (fun Δ o ⟨rs, ss, which, given, h1, h2⟩ => ⟨by rw [h1]; rfl, fun _ _ e => by rw [h2] at e; cases e⟩) fun f Δ o ⟨rs, ss, which, given, h1, h2⟩ => ?_
  subst h1 h2
  refine go_eq (Δ' := [.d (encC2 rs ss), .d (.int which), .d (.list (eI given)), .no, .no]) rfl ?_
  have hnames : ∀ q, Names ((XN P w K mg base NAn "_law_refused_by_any" (defScope st_by_any) f 1) q) "RoadError" (.ref cR) := fun q => ⟨rfl, by decide, .inl XR'.g⟩
  -- the clause
  have caught : ∀ (C : Addr) (b1 b2 b3 : Bool), Kinds K cR cN cB cU cO C b1 b2 b3 false → (([b1, b2, b3, false].count true : Nat) : Int) = 1 → begOut cN cB ss which given (begIn rs ss which given) = .xc (begIn rs ss which given) C → dueT ss which given ≠ "" → Go (XN P w K mg base NAn "_law_refused_by_any" (defScope st_by_any) f 1) WN [.d (encC2 rs ss), .d (.int which), .d (.list (eI given)), .no, .no] (defBody st_by_any) (fun o' => End (begIn rs ss which given) o' (.rt (begIn rs ss which given) (.d (.bool (decide (dueT ss which given ≠ "")))))) := fun C b1 b2 b3 hk hcnt hx hne => by
    have body : Go (XT (XN P w K mg base NAn "_law_refused_by_any" (defScope st_by_any) f 1)) (WT (XN P w K mg base NAn "_law_refused_by_any" (defScope st_by_any) f 1)) [.d (encC2 rs ss), .d (.int which), .d (.list (eI given)), .no, .no] (bodyOf (stAt (defBody st_by_any) 0)) (fun ob => ob = .xc [.d (encC2 rs ss), .d (.int which), .d (.list (eI given)), .no, .no] C) :=
      go_end (fun i => ds1_exprX (dx_call i.tk F i.q.2 (da_cons (de_nm 0) (da_cons (de_nm 1) (da_cons (de_nm 2) da_nil))) ⟨rs, ss, which, given, rfl, hx.symm⟩ (oneN rfl))) rfl rfl
    obtain ⟨ob, rfl, hb⟩ := body
    refine go_tryAs_xc (i := 3) (y := .bool true) (Δs := fun a => [.d (encC2 rs ss), .d (.int which), .d (.list (eI given)), .v (.ref a), .d (.list [.bool b1, .bool b2, .bool b3, .bool false])]) (Δ2 := [.d (encC2 rs ss), .d (.int which), .d (.list (eI given)), .no, .d (.list [.bool b1, .bool b2, .bool b3, .bool false])]) (fun q => rfl) (fun q => rfl) (fun q => sc_any.nd) (fun q => rfl) (fun q => rfl) hnames (fun q => tk0) hb (fun q => hk.r) (s := .no) rfl rfl (fun q a oe pn hz hfv => ?_) (fun a => .same (.same (.same (.no rfl (.same .nil))))) ⟨?_, rfl, fin0 rfl⟩
    · refine ds_cons (ds1_set (Δ1 := [.d (encC2 rs ss), .d (.int which), .d (.list (eI given)), .v (.ref a), .no]) (x := .list [.bool b1, .bool b2, .bool b3, .bool false]) 4 sc_any.nd (de_ice (de_lst (xs := [.bool b1, .bool b2, .bool b3, .bool false]) (da_cons (de_isE 3 hk.exc hz hfv G (pe_cls XF.g) (fun u h => h) hk.k1) (da_cons (de_isE 3 hk.exc hz hfv G (pe_cls XB.g) (fun u h => h) hk.k2) (da_cons (de_isE 3 hk.exc hz hfv G (pe_cls XU.g) (fun u h => h) hk.k3) (da_cons (de_isE 3 hk.exc hz hfv G (pe_cls XO.g) (fun u h => h) hk.k4) da_nil))))))) ?_
      refine ds_stop (ds1_ret (X := ((XN P w K mg base NAn "_law_refused_by_any" (defScope st_by_any) f 1) q).suite a ((a, oe) :: pn)) (Δ := [.d (encC2 rs ss), .d (.int which), .d (.list (eI given)), .v (.ref a), .d (.list [.bool b1, .bool b2, .bool b3, .bool false])]) (de_castB (k := true && decide ((([b1, b2, b3, false].count true : Nat) : Int) = 1)) (by rw [hcnt]; rfl) (de_and (X := ((XN P w K mg base NAn "_law_refused_by_any" (defScope st_by_any) f 1) q).suite a ((a, oe) :: pn)) (Δ := [.d (encC2 rs ss), .d (.int which), .d (.list (eI given)), .v (.ref a), .d (.list [.bool b1, .bool b2, .bool b3, .bool false])]) (de_isE 3 hk.exc hz hfv G (pe_ty (T := "ValueError") hVE rfl) (fun u h => h) hk.kv) fun h => (de_one (de_eqI (de_countB (bs := [b1, b2, b3, false]) (k := true) 4 rfl) de_int))))) rfl
    · rw [decide_eq_true hne]
  by_cases hv : 0 ≤ which ∧ which < (ss.length : Int)
  · by_cases hg : (given.length : Int) = (startOf ss which).2
    · have hn : begOut cN cB ss which given (begIn rs ss which given) = .rt (begIn rs ss which given) (.d (.tuple [.int (startOf ss which).1, .list [], .list [encF (0, given)]])) := by rw [begOut, if_neg (fun z => z hv), if_neg (fun z => z hg)]
      have norm : Go (XT (XN P w K mg base NAn "_law_refused_by_any" (defScope st_by_any) f 1)) (WT (XN P w K mg base NAn "_law_refused_by_any" (defScope st_by_any) f 1)) [.d (encC2 rs ss), .d (.int which), .d (.list (eI given)), .no, .no] (bodyOf (stAt (defBody st_by_any) 0)) (fun ob => ob = .nx [.d (encC2 rs ss), .d (.int which), .d (.list (eI given)), .no, .no]) :=
        go_then (fun i => ds1_expr (de_call F i.q.2 (da_cons (de_nm 0) (da_cons (de_nm 1) (da_cons (de_nm 2) da_nil))) ⟨rs, ss, which, given, rfl, hn.symm⟩ (oneN rfl) rfl)) (go_nil rfl)
      obtain ⟨ob, rfl, hb⟩ := norm
      refine go_tryAs_ok (i := 3) (fun q => rfl) (fun q => rfl) (fun q => sc_any.nd) (fun q => rfl) (fun q => rfl) hnames (fun q => tk0) hb ?_
      refine go_end (fun q => ds1_ret de_bool) rfl ⟨?_, rfl, fin0 rfl⟩
      rw [dueT, if_neg (fun z => z hv), if_neg (fun z => z hg)]; rfl
    · exact caught cB false true false kB rfl (by rw [begOut, if_neg (fun z => z hv), if_pos hg]) (by rw [dueT, if_neg (fun z => z hv), if_pos hg]; decide)
  · exact caught cN true false false kN rfl (by rw [begOut, if_pos hv]) (by rw [dueT, if_pos hv]; decide)
end
end Tr
namespace Tr
open PySem L2
/-! begun, what it tells is new -/
structure Beg (B F H : Hp) (v : V) (p : Int) (given : List Int) (a b c d e : Addr) : Prop where
  hv : v = .ref a
  ha : H a = some (.tup [.int p, .ref b, .ref c])
  hb : H b = some (.lst [])
  hc : H c = some (.lst [.ref d])
  hd : H d = some (.tup [.int 0, .ref e])
  he : H e = some (.lst (given.map V.int))
  be : b ≠ e
  fa : F a = none
  fb : F b = none
  fc : F c = none
  fd : F d = none
  fe : F e = none
  ba : B a = none
  bb : B b = none
  bc : B c = none
  bd : B d = none
  be' : B e = none
/-- other objects, nothing that may change in the slots -/
theorem ok_shift {K : Frag} {B F H H' : Hp} {σ : St} {Δ : En} (ok : Ok K B F H σ Δ) (hm : Δ.all (fun s => !s.mut) = true) (hf : Ex F H') (hb : Ex B H') : Ok K B F H' σ Δ :=
  ⟨hf, hb, ok.bf, ok.len, fun i s e => by
    obtain ⟨o, h1, h2⟩ := ok.sl i s e
    have := List.all_eq_true.mp hm s (List.mem_of_getElem? e)
    exact ⟨o, h1, sl_nomut h2 (by cases h : s.mut with | false => rfl | true => rw [h] at this; cases this) (.refl _)⟩, ok.nd⟩
theorem notMut_all {σ : St} {Δ : En} {a : Addr} (hm : Δ.all (fun s => !s.mut) = true) : NotMut σ Δ a := fun i s e m _ => by
  have := List.all_eq_true.mp hm s (List.mem_of_getElem? e)
  rw [m] at this
  cases this
section
variable {P : Program} {w : World} {K : Frag} {mg : Str → Option Value} {base : Heap}
/-- the def of that name keeps the promise sp -/
def FnR' (P : Program) (w : World) (K : Frag) (mg : Str → Option Value) (base : Heap) (k : Nat) (x : Str) (ps : List Str) (sp : Sp) : Prop :=
  ∃ f fd, mg x = some (.ref f) ∧ PySem.W.keepIn K (.ref f) = true ∧ Binds K fd ps [] ∧ FnOk P w K mg base (L2.CX P w) k f fd ps sp
def spBeg (K : Frag) : Sp := fun vs H Q E => ∃ (rs : List Rw) (ss : List Sp2) (which : Int) (given : List Int) (B F : Hp), 0 ≤ which ∧ which < ss.length ∧ (given.length : Int) = (startOf ss which).2 ∧ Ok K B F H (vs.map some) (begIn rs ss which given) ∧
  ∀ v F' H' a b c d e, Ok K B F' H' (vs.map some) (begIn rs ss which given) → Ex F F' → Beg B F' H' v (startOf ss which).1 given a b c d e → Q v H'
theorem begunNew (G : Blt mg) (D : Df K mg "begun" st_begun ["code", "which", "given"]) : FnR' P w K mg base 1 "begun" ["code", "which", "given"] (spBeg K) := by
  obtain ⟨f, fd, hm, Fu, hb⟩ := D
  have hl : ∀ vs H Q E, spBeg K vs H Q E → vs.length = ["code", "which", "given"].length := fun vs H Q E ⟨rs, ss, which, given, B, F, _, _, _, ok, _⟩ => by
    have h1 := ok.len
    rw [List.length_map] at h1
    rw [h1]; rfl
  refine ⟨f, fd, hm, Fu.kp, hb, Fu.okX sc_begun hl fun cdv A outer s H vs Q E hr hsp => ?_⟩
  obtain ⟨rs, ss, which, given, B, F, w0, w1, hg, ok, q⟩ := hsp
  have hvl : vs.length = 3 := by have h1 := ok.len; rw [List.length_map] at h1; exact h1
  have hst : L2.start ["code", "which", "given"] vs = vs.map some := by
    unfold L2.start
    rw [hvl]
    show _ ++ List.replicate (3 - 3) none = _
    simp
  rw [hst]
  have hx : atI (ss.map encS) which = some (encS (startOf ss which)) := at_map encS (0, 0) w0 w1
  generalize startOf ss which = st at hx hg q
  obtain ⟨s1, s2⟩ := st
  have hg : (given.length : Int) = s2 := hg
  let X : Cx := BX P w K mg base ["code", "which", "given"] "begun" (defScope st_begun) f cdv A outer s H E
  have c1 : DTx X (begIn rs ss which given) (exRet (stAt (defBody st_begun) 0)) false (begIn rs ss which given) := dt_cast (by rw [decide_eq_true w0, decide_eq_true (show which < ((ss.map encS).length : Int) by rw [List.length_map]; exact w1)]; rfl) (dt_not (dt_lelt de_int (de_nm 1) (de_lenL (xs := ss.map encS) G (de_ixT (x := .list (ss.map encS)) (xs := [.list (rs.map encR), .list (ss.map encS)]) (de_nm 0) de_int rfl rfl rfl) rfl rfl)))
  have c2 : DTx X (begIn rs ss which given) (exRet (stAt (defBody st_begun) 1)) false (begIn rs ss which given) := dt_cast (by rw [decide_eq_true (show ((eI given).length : Int) = s2 by simpa [eI] using hg)]; rfl) (dt_neI (de_lenL (xs := eI given) G (de_nm 2) rfl rfl) (de_ixT (x := .int s2) (xs := [.int s1, .int s2]) (de_ixL (x := encS (s1, s2)) (de_ixT (x := .list (ss.map encS)) (xs := [.list (rs.map encR), .list (ss.map encS)]) (de_nm 0) de_int rfl rfl rfl) (de_nm 1) rfl rfl hx) de_int rfl rfl rfl))
  have e1 : DEx X (begIn rs ss which given) (kidAt (exRet (stAt (defBody st_begun) 2)) 0) (.d (.int s1)) (begIn rs ss which given) := de_ixT (x := .int s1) (xs := [.int s1, .int s2]) (de_ixL (x := encS (s1, s2)) (de_ixT (x := .list (ss.map encS)) (xs := [.list (rs.map encR), .list (ss.map encS)]) (de_nm 0) de_int rfl rfl rfl) (de_nm 1) rfl rfl hx) de_int rfl rfl rfl
  have e2 : DEx X (begIn rs ss which given) (kidAt (kidAt (kidAt (exRet (stAt (defBody st_begun) 2)) 2) 0) 1) (.nl (eI given)) (begIn rs ss which given) := de_list G (de_nm 2) rfl (.inl rfl)
  refine ⟨_, pss_cons (ps_if c1.pt pss_never pss_nil) (pss_cons (ps_if c2.pt pss_never pss_nil) (pss_cons (ps_ret (pe_tup (pa_cons e1.pe (pa_cons (pe_lst pa_nil) (pa_cons (pe_lst (pa_cons (pe_tup (pa_cons pe_int (pa_cons e2.pe pa_nil))) pa_nil)) pa_nil))))) pss_nil)), ?_⟩
  refine ⟨B, F, ok, fun F1 H1 ok1 ex1 => iteF ⟨B, F1, ok1, fun F2 H2 ok2 ex2 => iteF ⟨B, F2, ok2, fun v0 F3 H3 ok3 ex3 hv0 => ?_⟩⟩⟩
  have hv0 : Dq F3 v0 (.int s1) := hv0
  cases Dq.int_ hv0
  refine ⟨by decide, fun b hb0 => ?_⟩
  have nb := ok3.fresh hb0
  have ok4 := (ok3.new (o := .lst []) hb0).addB nb.1 upd_same (ok3.notNew hb0)
  refine ⟨upd B b (.lst []), F3, ok4, fun v1 F4 H4 ok5 ex5 hv1 => ?_⟩
  obtain ⟨e, us, rfl, n1, n2, n3, n4, n5⟩ := hv1
  have eus := dqa_ints n4
  subst eus
  refine ⟨by show 2 ≤ sizeLine; decide, fun d hd0 => ⟨by show 1 ≤ sizeLine; decide, fun c hc0 => ⟨by show 3 ≤ sizeLine; decide, fun a ha0 => ?_⟩⟩⟩
  have hbe : b ≠ e := fun z => by subst z; rw [upd_same] at n2; cases n2
  have hBe : B e = none := by rw [upd_ne hbe.symm] at n2; exact n2
  have hb4 : H4 b = some (.lst []) := ok5.bh b _ upd_same
  have fb4 : F4 b = none := ok5.bf b (by rw [upd_same]; intro z; cases z)
  have okd := ok5.new (o := .tup [.int 0, .ref e]) hd0
  have okc := okd.new (o := .lst [.ref d]) hc0
  have oka := okc.new (o := .tup [.int s1, .ref b, .ref c]) ha0
  have okz := oka.weakB (B := B) (.new nb.2)
  have nd : d ≠ b ∧ d ≠ e := ⟨fun z => (by subst z; rw [hd0] at hb4; cases hb4), fun z => (by subst z; rw [hd0] at n3; cases n3)⟩
  have cd : c ≠ d := fun z => by subst z; rw [upd_same] at hc0; cases hc0
  have hc4 : H4 c = none := by rw [upd_ne cd] at hc0; exact hc0
  have nc : c ≠ b ∧ c ≠ e := ⟨fun z => (by subst z; rw [hc4] at hb4; cases hb4), fun z => (by subst z; rw [hc4] at n3; cases n3)⟩
  have ac : a ≠ c := fun z => by subst z; rw [upd_same] at ha0; cases ha0
  rw [upd_ne ac] at ha0
  have ad : a ≠ d := fun z => by subst z; rw [upd_same] at ha0; cases ha0
  rw [upd_ne ad] at ha0
  have na : a ≠ b ∧ a ≠ e := ⟨fun z => (by subst z; rw [ha0] at hb4; cases hb4), fun z => (by subst z; rw [ha0] at n3; cases n3)⟩
  refine q _ F4 _ a b c d e okz (((ex1.trans ex2).trans ex3).trans ex5) ⟨rfl, upd_same, ?_, ?_, ?_, ?_, hbe, ok5.fh.back ha0, fb4, ok5.fh.back hc4, ok5.fh.back hd0, n1, ?_, nb.2, ?_, ?_, hBe⟩
  · rw [upd_ne na.1.symm, upd_ne nc.1.symm, upd_ne nd.1.symm]; exact hb4
  · rw [upd_ne ac.symm, upd_same]
  · rw [upd_ne ad.symm, upd_ne cd.symm, upd_same]
  · rw [upd_ne na.2.symm, upd_ne nc.2.symm, upd_ne nd.2.symm]; exact n3
  · have := ok5.bh.back ha0; rw [upd_ne na.1] at this; exact this
  · have := ok5.bh.back hc4; rw [upd_ne nc.1] at this; exact this
  · have := ok5.bh.back hd0; rw [upd_ne nd.1] at this; exact this
end
end Tr
namespace Tr
open PySem L2
theorem ne_val {H : Hp} {x y : Addr} {o1 o2 : HO} (h1 : H x = some o1) (h2 : H y = some o2) (h : o1 ≠ o2) : x ≠ y := fun z => by subst z; rw [h1] at h2; exact h (Option.some.inj h2)
theorem ex_upd {F H : Hp} {p : Addr} {o : HO} (h : Ex F H) (hp : F p = none) : Ex F (upd H p o) := fun a u e => by
  rw [upd_ne (none_of e hp)]; exact h a u e
section
variable {P : Program} {w : World} {K : Frag} {mg : Str → Option Value} {base : Heap}
/-! _law_told_twice -/
abbrev NTw : List Str := ["_law_code", "_law_which", "_law_given", "_law_place", "_law_handed", "_law_found"]
theorem sc_twice : FnScope NTw ["_law_code", "_law_which", "_law_given", "_law_place"] (defScope st_twice) := ⟨rfl, rfl, rfl, by decide +kernel, rfl, by decide +kernel, by decide +kernel⟩
abbrev twIn (rs : List Rw) (ss : List Sp2) (which : Int) (given : List Int) (p : Int) : En := [.d (encC2 rs ss), .d (.int which), .d (.list (eI given)), .d (.int p)]
def S_twice : Spec := fun Δ o => ∃ (rs : List Rw) (ss : List Sp2) (which : Int) (given : List Int), 0 ≤ which ∧ which < ss.length ∧ (given.length : Int) = (startOf ss which).2 ∧ given.length ≤ 1000 ∧ Δ = twIn rs ss which given (startOf ss which).1 ∧ o = .rt Δ (.d (.bool true))
theorem ok_twice (G : Blt mg) (D : Df K mg "_law_told_twice" st_twice ["_law_code", "_law_which", "_law_given", "_law_place"]) {cN cB : Addr} (FB : FnR' P w K mg base 1 "begun" ["code", "which", "given"] (spBeg K)) (F_begun : Fn P w K mg base 1 "begun" (S_begunX cN cB))
    (F_alike : Fn P w K mg base 2 "_law_state_alike" S_state_alike) : Fn P w K mg base 3 "_law_told_twice" S_twice := by
  refine mk_ok D sc_twice (fun Δ o ⟨rs, ss, which, given, _, _, _, _, h1, h2⟩ => ⟨by rw [h1]; rfl, fun _ _ e => by rw [h2] at e; cases e⟩) fun f Δ o ⟨rs, ss, which, given, w0, w1, hg, hgl, h1, h2⟩ => ?_
  subst h1 h2
  have hbo : begOut cN cB ss which given (begIn rs ss which given) = .rt (begIn rs ss which given) (.d (.tuple [.int (startOf ss which).1, .list [], .list [encF (0, given)]])) := by rw [begOut, if_neg (fun z => z ⟨w0, w1⟩), if_neg (fun z => z hg)]
  obtain ⟨fB, fdB, g1, g2, g3, g4⟩ := FB
  obtain ⟨p, hp⟩ : ∃ p, p = (startOf ss which).1 := ⟨_, rfl⟩
  rw [← hp] at hbo ⊢
  refine go_eq (Δ' := [.d (encC2 rs ss), .d (.int which), .d (.list (eI given)), .d (.int p), .no, .no]) rfl ?_
  refine ⟨.rt [.d (encC2 rs ss), .d (.int which), .d (.list (eI given)), .d (.int p), .no, .no] (.d (.bool true)), ⟨rfl, rfl, fin0 rfl⟩, fun qc => ?_⟩
  have l6 : ∀ {Δ : En} (h0 : Δ[0]? = some (.d (encC2 rs ss))) (h1 : Δ[1]? = some (.d (.int which))) (h2 : Δ[2]? = some (.d (.list (eI given)))), True := fun _ _ _ => trivial
  let X : Cx := (XN P w K mg base NTw "_law_told_twice" (defScope st_twice) f 2) qc
  have last : DS X W0 [.d (encC2 rs ss), .d (.int which), .d (.list (eI given)), .d (.int p), .no, .no] [stAt (defBody st_twice) 6] (.rt [.d (encC2 rs ss), .d (.int which), .d (.list (eI given)), .d (.int p), .no, .no] (.d (.bool true))) :=
    ds_stop (ds1_ret (de_call F_alike qc.2 (da_cons (de_call F_begun (qc.2.mono (by omega)) (da_cons (de_nm 0) (da_cons (de_nm 1) (da_cons (de_nm 2) da_nil))) ⟨rs, ss, which, given, rfl, hbo.symm⟩ (oneN rfl) rfl) (da_cons (de_tup (da_cons (de_nm 3) (da_cons (de_ice (de_lst (xs := []) da_nil)) (da_cons (de_ice (de_lst (da_cons (de_tup (da_cons de_int (da_cons (de_nm 2) da_nil))) da_nil))) da_nil)))) da_nil)) ⟨p, [], [(0, given)], rfl, rfl⟩ (oneN rfl) rfl)) rfl
  have s0 : DEx X [.d (encC2 rs ss), .d (.int which), .d (.list (eI given)), .d (.int p), .no, .no] (exRet (stAt (defBody st_twice) 0)) (.nl (eI given)) [.d (encC2 rs ss), .d (.int which), .d (.list (eI given)), .d (.int p), .no, .no] := de_list G (de_nm 2) rfl (.inl rfl)
  have s1 : DAx X [.d (encC2 rs ss), .d (.int which), .d (.list (eI given)), .d (.int p), .d (.list (eI given)), .no] [kidAt (exRet (stAt (defBody st_twice) 1)) 0, kidAt (exRet (stAt (defBody st_twice) 1)) 1, kidAt (exRet (stAt (defBody st_twice) 1)) 2] [.d (encC2 rs ss), .d (.int which), .d (.list (eI given))] [.d (encC2 rs ss), .d (.int which), .d (.list (eI given)), .d (.int p), .d (.list (eI given)), .no] :=
    da_cons (de_nm 0) (da_cons (de_nm 1) (da_cons (de_nm 4) da_nil))
  have s3 : DTx X [.d (encC2 rs ss), .d (.int which), .d (.list (eI given)), .d (.int p), .no, .d (encO (.st p [] [(0, given)]))] (exRet (stAt (defBody st_twice) 3)) false [.d (encC2 rs ss), .d (.int which), .d (.list (eI given)), .d (.int p), .no, .d (encO (.st p [] [(0, given)]))] :=
    dt_not (k := true) (dt_val (de_call F_alike qc.2 (da_cons (de_nm 5) (da_cons (de_tup (da_cons (de_nm 3) (da_cons (de_ice (de_lst (xs := []) da_nil)) (da_cons (de_ice (de_lst (da_cons (de_tup (da_cons de_int (da_cons (de_nm 2) da_nil))) da_nil))) da_nil)))) da_nil)) ⟨p, [], [(0, given)], rfl, rfl⟩ (oneN rfl) rfl))
  refine pss_imp (pss_cons (ps_set (i := 4) sc_twice.nd rfl (.inl rfl) s0.pe) (pss_cons (ps_set (i := 5) sc_twice.nd rfl (.inl rfl) (pe_call g4 (qc.2.mono (by omega)) rfl g1 g2 g3 .nil passL s1.pa))
    (pss_cons (ps_expr (pe_bm PySem.F.plainAttrs_list PySem.F.slot_list_append PySem.F.type_list_append mt_append (pv 4) (pa_cons pe_int pa_nil)))
    (pss_cons (ps_if s3.pt pss_never pss_nil)
    (pss_cons (ps_expr (pe_bm PySem.F.plainAttrs_list PySem.F.slot_list_append PySem.F.type_list_append mt_append (pe_ix ix_tup (pv 5) pe_int (fun _ _ => rfl)) (pa_cons pe_int pa_nil)))
    (pss_cons (ps_expr (pe_bm PySem.F.plainAttrs_list PySem.F.slot_list_append PySem.F.type_list_append mt_append (pe_ix ix_tup (pe_ix ix_list (pe_ix ix_tup (pv 5) pe_int (fun _ _ => rfl)) pe_int (fun _ _ => rfl)) pe_int (fun _ _ => rfl)) (pa_cons pe_int pa_nil))) last)))))) fun D σ H ⟨B, F, ok, q⟩ => ?_
  have hσ : σ.length = 6 := ok.len
  refine ⟨B, F, ok, fun v0 F1 H1 ok1 ex1 hv => ?_⟩
  obtain ⟨h, us, rfl, f1, b1, hh, hd, nm⟩ := hv
  have eus := dqa_ints hd
  subst eus
  have oka : Ok K B (upd F1 h (.lst (given.map V.int))) H1 (σ.set 4 (some (.ref h))) [.d (encC2 rs ss), .d (.int which), .d (.list (eI given)), .d (.int p), .d (.list (eI given)), .no] :=
    (ok1.ice f1 b1 hh nm).put (i := 4) (v := .ref h) (s := .d (.list (eI given))) ⟨.ref h, rfl, .list upd_same (hd.mono (.new f1))⟩ (fun z => nomatch z)
  refine ⟨B, _, oka, fun vs F2 H2 ok2 ex2 hvs => ?_⟩
  show spBeg K (vs ++ []) H2 _ _
  rw [List.append_nil]
  refine ⟨rs, ss, which, given, _, F2, w0, w1, hg, ok_call (n := none) ok2 hvs (oneN rfl), fun v F3 H3 a b c d e ok3 ex3 bg => ?_⟩
  have okb := ok_back ok2 ok3 ex3
  rw [← hp] at bg
  have ev := bg.hv
  subst ev
  have hF3 : F3 h = some (.lst (given.map V.int)) := ex3 _ _ (ex2 _ _ upd_same)
  have h3 : H3 h = some (.lst (given.map V.int)) := okb.fh h _ hF3
  have σ4 : ((σ.set 4 (some (.ref h))).set 5 (some (.ref a)))[4]? = some (some (.ref h)) := by rw [List.getElem?_set_ne (by decide), List.getElem?_set_self (by omega)]
  have σ5 : ((σ.set 4 (some (.ref h))).set 5 (some (.ref a)))[5]? = some (some (.ref a)) := by rw [List.getElem?_set_self (by rw [List.length_set]; omega)]
  refine ⟨.ref h, σ4, Or.inl ⟨rfl, _, Or.inl (Or.inl h3)⟩, h, _, .int 5, rfl, rfl, h3, by rw [List.length_map, sizeLine_eq]; omega, ?_⟩
  have nh : ∀ z, F3 z = none → z ≠ h := fun z hz e => by subst e; rw [hF3] at hz; cases hz
  have exF : Ex F1 F3 := (Ex.new f1).trans (ex2.trans ex3)
  have exH3 : Ex F1 H3 := exF.trans okb.fh
  have exH4 : Ex F1 (upd H3 h (.lst (given.map V.int ++ [.int 5]))) := ex_upd exH3 f1
  have exB4 : Ex B (upd H3 h (.lst (given.map V.int ++ [.int 5]))) := ex_upd okb.bh b1
  have ok0 : Ok K B F1 H1 ((σ.set 4 (some (.ref h))).set 5 (some (.ref a))) [.d (encC2 rs ss), .d (.int which), .d (.list (eI given)), .d (.int p), .no, .no] := (ok1.noSlot (j := 4) rfl _).noSlot (j := 5) rfl _
  have ok4 := ok_shift ok0 rfl exH4 exB4
  generalize hH4 : upd H3 h (.lst (given.map V.int ++ [.int 5])) = H4 at exH4 exB4 ok4
  -- the five new objects
  have va : H4 a = some (.tup [.int p, .ref b, .ref c]) := by rw [← hH4, upd_ne (nh a bg.fa)]; exact bg.ha
  have vb : H4 b = some (.lst []) := by rw [← hH4, upd_ne (nh b bg.fb)]; exact bg.hb
  have vc : H4 c = some (.lst [.ref d]) := by rw [← hH4, upd_ne (nh c bg.fc)]; exact bg.hc
  have vd : H4 d = some (.tup [.int 0, .ref e]) := by rw [← hH4, upd_ne (nh d bg.fd)]; exact bg.hd
  have ve : H4 e = some (.lst (given.map V.int)) := by rw [← hH4, upd_ne (nh e bg.fe)]; exact bg.he
  have nba : b ≠ a := ne_val vb va (fun z => by cases z)
  have nca : c ≠ a := ne_val vc va (fun z => by cases z)
  have nda : d ≠ a := ne_val vd va (fun z => by cases z)
  have nea : e ≠ a := ne_val ve va (fun z => by cases z)
  have ncb : c ≠ b := ne_val vc vb (fun z => by cases z)
  have ndb : d ≠ b := ne_val vd vb (fun z => by cases z)
  have neb : e ≠ b := bg.be.symm
  have ndc : d ≠ c := ne_val vd vc (fun z => by cases z)
  have nec : e ≠ c := ne_val ve vc (fun z => by cases given with | nil => cases z | cons x xs => cases z)
  have ned : e ≠ d := ne_val ve vd (fun z => by cases z)
  have fa := exF.back bg.fa
  have fb := exF.back bg.fb
  have fc := exF.back bg.fc
  have fd := exF.back bg.fd
  have fe := exF.back bg.fe
  have eB : Ex B _ := keepB_ex (n := none) ok2
  have ba := eB.back bg.ba
  have bb := eB.back bg.bb
  have bc := eB.back bg.bc
  have bd := eB.back bg.bd
  have be := eB.back bg.be'
  have k1 := ok4.ice fa ba va (notMut_all rfl)
  have k2 := k1.ice (p := b) (by rw [upd_ne nba]; exact fb) bb vb (notMut_all rfl)
  have k3 := k2.ice (p := c) (by rw [upd_ne ncb, upd_ne nca]; exact fc) bc vc (notMut_all rfl)
  have k4 := k3.ice (p := d) (by rw [upd_ne ndc, upd_ne ndb, upd_ne nda]; exact fd) bd vd (notMut_all rfl)
  have k5 := k4.ice (p := e) (by rw [upd_ne ned, upd_ne nec, upd_ne neb, upd_ne nea]; exact fe) be ve (notMut_all rfl)
  have we : (upd (upd (upd (upd (upd F1 a (.tup [.int p, .ref b, .ref c])) b (.lst [])) c (.lst [.ref d])) d (.tup [.int 0, .ref e])) e (.lst (given.map V.int))) e = some (.lst (given.map V.int)) := upd_same
  have wd : (upd (upd (upd (upd (upd F1 a (.tup [.int p, .ref b, .ref c])) b (.lst [])) c (.lst [.ref d])) d (.tup [.int 0, .ref e])) e (.lst (given.map V.int))) d = some (.tup [.int 0, .ref e]) := by rw [upd_ne ned.symm, upd_same]
  have wc : (upd (upd (upd (upd (upd F1 a (.tup [.int p, .ref b, .ref c])) b (.lst [])) c (.lst [.ref d])) d (.tup [.int 0, .ref e])) e (.lst (given.map V.int))) c = some (.lst [.ref d]) := by rw [upd_ne nec.symm, upd_ne ndc.symm, upd_same]
  have wb : (upd (upd (upd (upd (upd F1 a (.tup [.int p, .ref b, .ref c])) b (.lst [])) c (.lst [.ref d])) d (.tup [.int 0, .ref e])) e (.lst (given.map V.int))) b = some (.lst []) := by rw [upd_ne neb.symm, upd_ne ndb.symm, upd_ne ncb.symm, upd_same]
  have wa : (upd (upd (upd (upd (upd F1 a (.tup [.int p, .ref b, .ref c])) b (.lst [])) c (.lst [.ref d])) d (.tup [.int 0, .ref e])) e (.lst (given.map V.int))) a = some (.tup [.int p, .ref b, .ref c]) := by rw [upd_ne nea.symm, upd_ne nda.symm, upd_ne nca.symm, upd_ne nba.symm, upd_same]
  have xF4 := ex_upd (ex_upd (ex_upd (ex_upd (ex_upd (Ex.refl F1) fa (o := .tup [.int p, .ref b, .ref c])) fb (o := .lst [])) fc (o := .lst [.ref d])) fd (o := .tup [.int 0, .ref e])) fe (o := .lst (given.map V.int))
  generalize (upd (upd (upd (upd (upd F1 a (.tup [.int p, .ref b, .ref c])) b (.lst [])) c (.lst [.ref d])) d (.tup [.int 0, .ref e])) e (.lst (given.map V.int))) = F4 at k5 wa wb wc wd we xF4
  have dq : Dq F4 (.ref a) (encO (.st p [] [(0, given)])) := .tuple wa (.cons (.int p) (.cons (.list wb .nil) (.cons (.list wc (.cons (.tuple wd (.cons (.int 0) (.cons (.list we (ints_dqa given)) .nil))) .nil)) .nil)))
  have okt : Ok K B F4 H4 ((σ.set 4 (some (.ref h))).set 5 (some (.ref a))) [.d (encC2 rs ss), .d (.int which), .d (.list (eI given)), .d (.int p), .no, .d (encO (.st p [] [(0, given)]))] :=
    k5.re (i := 5) (s := .d (encO (.st p [] [(0, given)]))) (fun o ho => ⟨.ref a, by rw [σ5] at ho; exact (Option.some.inj ho).symm, dq⟩) (fun z => nomatch z)
  refine ⟨B, F4, okt, fun F5 H5 ok5 ex5 => iteF ?_⟩
  have h5 : ∀ {z : Addr} {o : HO}, F4 z = some o → H5 z = some o := fun hz => ok5.fh _ _ (ex5 _ _ hz)
  have ok50 := ok_shift ok4 rfl (fun x o hx => h5 (xF4 x o hx)) ok5.bh
  refine ⟨.ref a, σ5, a, [.int p, .ref b, .ref c], 1, .ref b, rfl, rfl, SqT.of (h5 wa), rfl, Or.inl ⟨rfl, _, Or.inl (Or.inl (h5 wb))⟩, b, _, .int 7, rfl, rfl, h5 wb, by decide, ?_⟩
  have ok6 := ok_shift (H' := upd H5 b (.lst ([] ++ [.int 7]))) ok50 rfl (ex_upd ok50.fh fb) (ex_upd ok50.bh bb)
  have ua : upd H5 b (.lst ([] ++ [.int 7])) a = some (.tup [.int p, .ref b, .ref c]) := by rw [upd_ne nba.symm]; exact h5 wa
  have uc : upd H5 b (.lst ([] ++ [.int 7])) c = some (.lst [.ref d]) := by rw [upd_ne ncb]; exact h5 wc
  have ud : upd H5 b (.lst ([] ++ [.int 7])) d = some (.tup [.int 0, .ref e]) := by rw [upd_ne ndb]; exact h5 wd
  have ue : upd H5 b (.lst ([] ++ [.int 7])) e = some (.lst (given.map V.int)) := by rw [upd_ne neb]; exact h5 we
  generalize upd H5 b (.lst ([] ++ [.int 7])) = H6 at ok6 ua uc ud ue
  refine ⟨.ref a, σ5, a, [.int p, .ref b, .ref c], 2, .ref c, rfl, rfl, SqT.of ua, rfl, c, [.ref d], 0, .ref d, rfl, rfl, SqL.of uc, rfl, d, [.int 0, .ref e], 1, .ref e, rfl, rfl, SqT.of ud, rfl, Or.inl ⟨rfl, _, Or.inl (Or.inl ue)⟩, e, _, .int 8, rfl, rfl, ue, by rw [List.length_map, sizeLine_eq]; omega, ?_⟩
  have ok7 := ok_shift (H' := upd H6 e (.lst (given.map V.int ++ [.int 8]))) ok6 rfl (ex_upd ok6.fh fe) (ex_upd ok6.bh be)
  exact ⟨B, F1, ok7, q.step ex1 fun i xs ei => by
    match i, ei with
    | 0, ei => cases ei
    | 1, ei => cases ei
    | 2, ei => cases ei
    | 3, ei => cases ei
    | 4, ei => cases ei
    | 5, ei => cases ei⟩
end
end Tr
namespace Tr
open PySem L2
/-! law -/
theorem shp_bool (b : Bool) : shp (.bool b) := by
  show ((PyData.bool b).canLay0 && decide ((PyData.bool b).depth ≤ 64)) = true
  simp [PyData.canLay0, PyData.depth]
theorem pick2_at {a b i : Int} (h0 : 0 ≤ i) (h1 : i < 2) : ∃ m, (m = a ∨ m = b) ∧ atI [.int a, .int b] i = some (PyData.int m) := by
  have h : i = 0 ∨ i = 1 := by omega
  rcases h with rfl | rfl
  · exact ⟨a, .inl rfl, rfl⟩
  · exact ⟨b, .inr rfl, rfl⟩
theorem pick6_at {i : Int} (h0 : 0 ≤ i) (h1 : i < 6) : ∃ m : Int, 0 ≤ m ∧ m ≤ 3 ∧ atI [.int 1, .int 2, .int 3, .int 0, .int 1, .int 2] i = some (PyData.int m) := by
  have h : i = 0 ∨ i = 1 ∨ i = 2 ∨ i = 3 ∨ i = 4 ∨ i = 5 := by omega
  rcases h with rfl | rfl | rfl | rfl | rfl | rfl
  · exact ⟨1, by decide, by decide, rfl⟩
  · exact ⟨2, by decide, by decide, rfl⟩
  · exact ⟨3, by decide, by decide, rfl⟩
  · exact ⟨0, by decide, by decide, rfl⟩
  · exact ⟨1, by decide, by decide, rfl⟩
  · exact ⟨2, by decide, by decide, rfl⟩
theorem startOf_bd {ss : List Sp2} (h : ∀ s ∈ ss, 0 ≤ s.2 ∧ s.2 ≤ 60) (i : Int) : 0 ≤ (startOf ss i).2 ∧ (startOf ss i).2 ≤ 60 := by
  unfold startOf
  by_cases hl : i.toNat < ss.length
  · rw [List.getD_eq_getElem?_getD, List.getElem?_eq_getElem hl]
    exact h _ (List.getElem_mem hl)
  · rw [List.getD_eq_getElem?_getD, List.getElem?_eq_none (by omega)]
    exact ⟨by decide, by decide⟩
abbrev rs6 : List Rw := [("num", some 5), ("back", none)]
theorem wf6 : ∀ r ∈ rs6, wfN r := fun r hr => by
  simp only [rs6, List.mem_cons, List.not_mem_nil, or_false] at hr
  rcases hr with rfl | rfl
  · exact ⟨⟨by decide, by decide⟩, fun h => by revert h; decide⟩
  · exact ⟨⟨by decide, by decide⟩, fun h => by revert h; decide⟩
abbrev NL : List Str := ["_law_script", "_law_many", "_law_starts", "_law_k", "_law_which", "_law_size", "_law_given", "_law_due", "_law_handed", "_law_way"]
section
variable {P : Program} {w : World} {K : Frag} {mg : Str → Option Value} {base : Heap}
theorem sc_law : FnScope NL ["_law_script"] (defScope st_law) := ⟨rfl, rfl, rfl, by decide +kernel, rfl, by decide +kernel, by decide +kernel⟩
theorem ok_law (G : Blt mg) {f : Addr} {fd : FuncData} (Fu : Fun K "law" "law" st_law f fd) (F_cell_at : Fn P w K mg base 1 "_law_cell_at" S_cell_at) (F_ref : Fn P w K mg base 7 "_law_refused" S_refused) (F_any : Fn P w K mg base 2 "_law_refused_by_any" S_any6) (F_tw : Fn P w K mg base 3 "_law_told_twice" S_twice) : FnOk P w K mg base (L2.CX P w) 8 f fd ["_law_script"] (spOf K (lawS 63)) := by
  refine law_ok Fu sc_law (fun Δ o ⟨ns, _, h1, h2⟩ => ⟨by rw [h1]; rfl, fun _ _ e => by rw [h2] at e; cases e⟩) fun Δ o ⟨ns, hl, h1, h2⟩ => ?_
  subst h1 h2
  refine go_eq (Δ' := [.sc ns, .no, .no, .no, .no, .no, .no, .no, .no, .no]) rfl ?_
  have c0 := cellAt_lo ns 0
  have c1 := cellAt_lo ns 1
  have c2 := cellAt_lo ns 2
  have c3 := cellAt_lo ns 3
  have c4 := cellAt_lo ns 4
  have c5 := cellAt_lo ns 5
  have c6 := cellAt_lo ns 6
  obtain ⟨m0, hm0, hm1, hx0⟩ := pick6_at (i := cellAt ns 0 % 6) (by omega) (by omega)
  refine go_then (fun q => ds1_set (x := .int m0) 1 sc_law.nd (de_ixL (de_ice (de_lst (da_cons de_int (da_cons de_int (da_cons de_int (da_cons de_int (da_cons de_int (da_cons de_int da_nil)))))))) (de_mod (de_call F_cell_at (q.2.mono (by omega)) (da_cons (de_sl 0) (da_cons de_int da_nil)) ⟨ns, 0, by omega, rfl, rfl⟩ (oneN rfl) rfl) de_int (by decide)) rfl rfl hx0)) ?_
  refine go_ifset (x := .int (1 + cellAt ns 0 / 48 % 60)) 1 (fun q => (dt_eqI (de_mod (de_div (de_call F_cell_at (q.2.mono (by omega)) (da_cons (de_sl 0) (da_cons de_int da_nil)) ⟨ns, 0, by omega, rfl, rfl⟩ (oneN rfl) rfl) de_int ⟨by decide, by decide⟩) de_int (by decide)) de_int)) (fun h q => ds1_set 1 sc_law.nd (de_add de_int (de_mod (de_div (de_call F_cell_at (q.2.mono (by omega)) (da_cons (de_sl 0) (da_cons de_int da_nil)) ⟨ns, 0, by omega, rfl, rfl⟩ (oneN rfl) rfl) de_int ⟨by decide, by decide⟩) de_int (by decide)))) rfl ?_
  obtain ⟨many, emany, n0, n1⟩ : ∃ many : Int, (if decide (cellAt ns 0 / 6 % 8 = 1) = true then PyData.int (1 + cellAt ns 0 / 48 % 60) else PyData.int m0) = .int many ∧ 0 ≤ many ∧ many ≤ 60 := by
    by_cases h : cellAt ns 0 / 6 % 8 = 1
    · exact ⟨1 + cellAt ns 0 / 48 % 60, by rw [if_pos (decide_eq_true h)], by omega, by omega⟩
    · exact ⟨m0, by rw [if_neg (by simpa using h)], by omega, by omega⟩
  rw [emany]
  -- behind the starts
  have fin1 : ∀ (ss : List Sp2) (s3 : Sl), (ss.length : Int) = many → (∀ s ∈ ss, 0 ≤ s.2 ∧ s.2 ≤ 60) → s3.isRef = false → Go (XN P w K mg base NL "law" (defScope st_law) f 7) WN [.sc ns, .d (.int many), .d (.list (ss.map encS)), s3, .no, .no, .no, .no, .no, .no] ((defBody st_law).drop 5) (fun o' => End [.sc ns] o' (.rt [.sc ns] (.d (.bool true)))) := fun ss s3 hss hsb h3 => by
    refine go_le (Δ1 := [.sc ns, .d (.int many), .d (.list (ss.map encS)), .no, .no, .no, .no, .no, .no, .no]) (.same (.same (.same (.no h3 (Le.refl _))))) ?_
    refine go_then (fun q => ds1_set (x := .int (cellAt ns 4 % (many + 6) - 3)) 4 sc_law.nd (de_sub (de_mod (de_call F_cell_at (q.2.mono (by omega)) (da_cons (de_sl 0) (da_cons de_int da_nil)) ⟨ns, 4, by omega, rfl, rfl⟩ (oneN rfl) rfl) (de_add (de_nm 1) de_int) (by omega)) de_int)) ?_
    generalize cellAt ns 4 % (many + 6) - 3 = wh0
    obtain ⟨a1, _, hxa⟩ := pick2_at (a := -4) (b := many) (i := wh0 % 2) (by omega) (by omega)
    obtain ⟨a2, ha2, hxb⟩ := pick2_at (a := -1) (b := 1) (i := wh0 % 2) (by omega) (by omega)
    refine go_ifset (x := .int (a1 + a2 * (cellAt ns 3 / 8 % 90))) 4 (fun q => (dt_eqI (de_mod (de_call F_cell_at (q.2.mono (by omega)) (da_cons (de_sl 0) (da_cons de_int da_nil)) ⟨ns, 3, by omega, rfl, rfl⟩ (oneN rfl) rfl) de_int (by decide)) de_int))
      (fun h q => ds1_set 4 sc_law.nd (de_add (de_ixL (x := .int a1) (de_ice (de_lst (da_cons (de_neg de_int) (da_cons (de_nm 1) da_nil)))) (de_mod (de_nm 4) de_int (by decide)) rfl rfl hxa) (de_mul (de_ixL (x := .int a2) (de_ice (de_lst (da_cons (de_neg de_int) (da_cons de_int da_nil)))) (de_mod (de_nm 4) de_int (by decide)) rfl rfl hxb) (de_mod (de_div (de_call F_cell_at (q.2.mono (by omega)) (da_cons (de_sl 0) (da_cons de_int da_nil)) ⟨ns, 3, by omega, rfl, rfl⟩ (oneN rfl) rfl) de_int ⟨by decide, by decide⟩) de_int (by decide)) (.inl ⟨by rcases ha2 with e | e <;> rw [e] <;> decide, by rcases ha2 with e | e <;> rw [e] <;> decide⟩)))) rfl ?_
    obtain ⟨wh, ewh⟩ : ∃ wh : Int, (if decide (cellAt ns 3 % 8 = 2) = true then PyData.int (a1 + a2 * (cellAt ns 3 / 8 % 90)) else PyData.int wh0) = .int wh := by
      split
      · exact ⟨_, rfl⟩
      · exact ⟨_, rfl⟩
    rw [ewh]
    have hbd := startOf_bd hsb wh
    have hat : 0 ≤ wh → wh < many → atI (ss.map encS) wh = some (encS (startOf ss wh)) := fun h0 h1 => at_map encS (0, 0) h0 (by omega)
    have hst : encS (startOf ss wh) = .tuple [.int (startOf ss wh).1, .int (startOf ss wh).2] := rfl
    refine go_then (fun q => ds1_set (x := .int (cellAt ns 5 % 6)) 5 sc_law.nd (de_mod (de_call F_cell_at (q.2.mono (by omega)) (da_cons (de_sl 0) (da_cons de_int da_nil)) ⟨ns, 5, by omega, rfl, rfl⟩ (oneN rfl) rfl) de_int (by decide))) ?_
    refine go_ifset (k := decide (0 ≤ wh) && (decide (wh < many) && decide (cellAt ns 6 % 2 = 1))) (x := .int (startOf ss wh).2) 5 (fun q => (DWx.dt (dw_and (dt_le de_int (de_nm 4)) fun h => (dw_and (dt_lt (de_nm 4) (de_nm 1)) fun h => (dw_and1 (dt_eqI (de_mod (de_call F_cell_at (q.2.mono (by omega)) (da_cons (de_sl 0) (da_cons de_int da_nil)) ⟨ns, 6, by omega, rfl, rfl⟩ (oneN rfl) rfl) de_int (by decide)) de_int))))))
      (fun h q => by
        simp only [Bool.and_eq_true, decide_eq_true_eq] at h
        exact ds1_set 5 sc_law.nd (de_ixT (x := .int (startOf ss wh).2) (xs := [.int (startOf ss wh).1, .int (startOf ss wh).2]) (de_ixL (x := encS (startOf ss wh)) (xs := ss.map encS) (de_nm 2) (de_nm 4) rfl rfl (hat h.1 h.2.1)) de_int rfl rfl rfl)) rfl ?_
    obtain ⟨sz, esz, z0, z1⟩ : ∃ sz : Int, (if (decide (0 ≤ wh) && (decide (wh < many) && decide (cellAt ns 6 % 2 = 1))) = true then PyData.int (startOf ss wh).2 else PyData.int (cellAt ns 5 % 6)) = .int sz ∧ 0 ≤ sz ∧ sz ≤ 60 := by
      split
      · exact ⟨_, rfl, hbd.1, hbd.2⟩
      · exact ⟨_, rfl, by omega, by omega⟩
    rw [esz]
    -- the numbers
    obtain ⟨gv, egv, hgl⟩ : ∃ gv : List Int, (List.range sz.toNat).map (fun (k : Nat) => PyData.int (cellAt ns (7 + (0 + (k : Int)) % 3) ^ (4 : Int).toNat * ((0 + (k : Int)) + 1) - (10 : Int) ^ (23 : Int).toNat)) = eI gv ∧ (gv.length : Int) = sz := ⟨(List.range sz.toNat).map (fun (k : Nat) => cellAt ns (7 + (0 + (k : Int)) % 3) ^ (4 : Int).toNat * ((0 + (k : Int)) + 1) - (10 : Int) ^ (23 : Int).toNat), by rw [eI, List.map_map]; rfl, by simp; omega⟩
    refine go_then (Δ1 := [.sc ns, .d (.int many), .d (.list (ss.map encS)), .no, .d (.int wh), .d (.int sz), .own (eI gv), .no, .no, .no]) (fun q => by
      rw [← egv]
      exact ds1_setLc (X := XN P w K mg base NL "law" (defScope st_law) f 7 q) (own := [("_law_k", 3)]) (j := 3) (i := 6) sc_law.nd rfl (di_rng1 (n := sz) G (da_cons (de_nm 5) da_nil) ⟨by omega, by omega⟩)
        (lc_of (Δ := [.sc ns, .d (.int many), .d (.list (ss.map encS)), .no, .d (.int wh), .d (.int sz), .no, .no, .no, .no]) (List.range sz.toNat) (fun (k : Nat) => .int (0 + (k : Int))) (fun (k : Nat) => PyData.int (cellAt ns (7 + (0 + (k : Int)) % 3) ^ (4 : Int).toNat * ((0 + (k : Int)) + 1) - (10 : Int) ^ (23 : Int).toNat)) rfl fun k hk Y hY => by
          obtain ⟨s, H, C, cl, fp, rfl⟩ := hY
          have hk := List.mem_range.mp hk
          have hc := cellAt_lo ns (7 + (0 + (k : Int)) % 3)
          have hc2 := cellAt_hi ns (7 + (0 + (k : Int)) % 3)
          exact de_sub (de_mul (de_pow (de_call F_cell_at (q.2.mono (by omega)) (da_cons (de_sl 0) (da_cons (de_add de_int (de_mod (de_nm 3) de_int (by decide))) da_nil)) ⟨ns, 7 + (0 + (k : Int)) % 3, by omega, rfl, rfl⟩ (oneN rfl) rfl) de_int ⟨by decide, by decide, by omega⟩) (de_add (de_nm 3) de_int) (.inr ⟨by omega, by omega⟩)) (de_pow de_int de_int ⟨by decide, by decide, by decide⟩)) rfl (by simp; omega) .rfl rfl (blkOk_by (N := NL) (sc := defScope st_law) (by decide +kernel)) (fun _ _ _ _ _ => pg_name (i := 3) sc_law.nd rfl (Or.inl rfl)) rfl rfl rfl rfl rfl) ?_
    refine go_ice 6 rfl ?_
    refine go_then (fun q => ds1_set (x := .str "") 7 sc_law.nd de_str) ?_
    have hgl2 : gv.length ≤ 1000 := by omega
    -- behind what is due
    have fin2 : Go (XN P w K mg base NL "law" (defScope st_law) f 7) WN [.sc ns, .d (.int many), .d (.list (ss.map encS)), .no, .d (.int wh), .d (.int sz), .d (.list (eI gv)), .d (.str (dueT ss wh gv)), .no, .no] ((defBody st_law).drop 12) (fun o' => End [.sc ns] o' (.rt [.sc ns] (.d (.bool true)))) := by
      refine go_then (fun q => ds1_set (x := .list [encC2 rs6 ss, .list (eI gv)]) 8 sc_law.nd (de_ice (de_lst (da_cons (de_tup (da_cons (de_ice (de_lst (da_cons (de_tup (da_cons de_str (da_cons de_int da_nil))) (da_cons (de_tup (da_cons de_str da_nil)) da_nil)))) (da_cons (de_ice (de_list G (de_nm 2) rfl (.inl rfl))) da_nil))) (da_cons (de_ice (de_list G (de_nm 6) rfl (.inl rfl))) da_nil))))) ?_
      refine go_for (fun n D => ∃ s, s.isRef = false ∧ D = [.sc ns, .d (.int many), .d (.list (ss.map encS)), .no, .d (.int wh), .d (.int sz), .d (.list (eI gv)), .d (.str (dueT ss wh gv)), .d (.list [encC2 rs6 ss, .list (eI gv)]), s]) (fun q => .never) (fun q => rfl) (fun q => (di_rng1 (n := 3) G (da_cons de_int da_nil) ⟨by omega, by omega⟩)) (Le.refl _) ⟨.no, rfl, rfl⟩ (fun n D d hd ⟨s, hs, e⟩ => ?_) (fun D hD => ?_)
      · subst e
        obtain ⟨hk, rfl⟩ := rngD_of hd
        refine ⟨_, fun q => dg_name 9 sc_law.nd rfl hs, ?_⟩
        refine go_if (k := false) (fun q => dt_cast (by rw [decide_eq_true rfl]; rfl) (dt_neS (s := dueT ss wh gv) (t := dueT ss wh gv) (de_call F_ref q.2 (da_cons (de_nm 9) (da_cons (de_ixL (x := encC2 rs6 ss) (xs := [encC2 rs6 ss, .list (eI gv)]) (de_nm 8) de_int rfl rfl rfl) (da_cons (de_nm 4) (da_cons (de_ixL (x := .list (eI gv)) (xs := [encC2 rs6 ss, .list (eI gv)]) (de_nm 8) de_int rfl rfl rfl) da_nil)))) ⟨0 + (n : Int), rs6, ss, wh, gv, wf6, fun s hs => (hsb s hs).1, hgl2, rfl, rfl⟩ (oneN rfl) rfl) (de_nm 7))) (fun h => by cases h) (fun h => go_on (go_nil ?_))
        exact ⟨_, Le.refl _, .d (.int (0 + (n : Int))), rfl, rfl⟩
      · obtain ⟨s, hs, e⟩ := hD
        subst e
        have hshp : shp (.list [encC2 rs6 ss, .list (eI gv)]) := (Sh.list (n := 3) fun x hx => by
          simp only [List.mem_cons, List.not_mem_nil, or_false] at hx
          rcases hx with rfl | rfl
          · exact .tup2 (sh_rows fun r hr => (wf6 r hr).1) (sh_starts ss)
          · exact sh_eI).shp (by decide)
        refine go_if (k := false) (fun q => dt_neq q.2.units (de_nm 8) (de_ice (de_lst (xs := [encC2 rs6 ss, .list (eI gv)]) (da_cons (de_tup (da_cons (de_ice (de_lst (da_cons (de_tup (da_cons de_str (da_cons de_int da_nil))) (da_cons (de_tup (da_cons de_str da_nil)) da_nil)))) (da_cons (de_nm 2) da_nil))) (da_cons (de_nm 6) da_nil)))) rfl rfl rfl hshp) (fun h => by cases h) (fun h => go_on ?_)
        have hbb : PyData.eqv (.bool (decide (dueT ss wh gv ≠ ""))) (.bool (decide (dueT ss wh gv = ""))) = false := by
          by_cases h : dueT ss wh gv = ""
          · rw [decide_eq_false (fun z => z h), decide_eq_true h]; rfl
          · rw [decide_eq_true h, decide_eq_false h]; rfl
        refine go_if (k := false) (fun q => dt_cast hbb (dt_eq (x := .bool (decide (dueT ss wh gv ≠ ""))) (y := .bool (decide (dueT ss wh gv = ""))) q.2.units (de_call F_any (q.2.mono (by omega)) (da_cons (de_ixL (x := encC2 rs6 ss) (xs := [encC2 rs6 ss, .list (eI gv)]) (de_nm 8) de_int rfl rfl rfl) (da_cons (de_nm 4) (da_cons (de_ixL (x := .list (eI gv)) (xs := [encC2 rs6 ss, .list (eI gv)]) (de_nm 8) de_int rfl rfl rfl) da_nil))) ⟨rs6, ss, wh, gv, rfl, rfl⟩ (oneN rfl) rfl) (de_eqS (s := dueT ss wh gv) (t := "") (de_nm 7) de_str) rfl rfl rfl (shp_bool _) (shp_bool _))) (fun h => by cases h) (fun h => go_on ?_)
        by_cases hdue : dueT ss wh gv = ""
        · have hw : 0 ≤ wh ∧ wh < (ss.length : Int) := by
            by_cases h : 0 ≤ wh ∧ wh < (ss.length : Int)
            · exact h
            · rw [dueT, if_pos h] at hdue
              exact absurd hdue (by decide)
          have hg : (gv.length : Int) = (startOf ss wh).2 := by
            by_cases h : (gv.length : Int) = (startOf ss wh).2
            · exact h
            · rw [dueT, if_neg (fun z => z hw), if_pos h] at hdue
              exact absurd hdue (by decide)
          exact go_end (fun q => ds1_ret (de_castB (k := false || true) rfl (de_or (de_castB (k := !decide (dueT ss wh gv = "")) (by rw [decide_eq_true hdue]; rfl) (de_neS (s := dueT ss wh gv) (t := "") (de_nm 7) de_str)) fun h => (de_one (de_call F_tw (q.2.mono (by omega)) (da_cons (de_ixL (x := encC2 rs6 ss) (xs := [encC2 rs6 ss, .list (eI gv)]) (de_nm 8) de_int rfl rfl rfl) (da_cons (de_nm 4) (da_cons (de_nm 6) (da_cons (de_ixT (x := .int (startOf ss wh).1) (xs := [.int (startOf ss wh).1, .int (startOf ss wh).2]) (de_ixL (x := encS (startOf ss wh)) (xs := ss.map encS) (de_nm 2) (de_nm 4) rfl rfl (hat hw.1 (by omega))) de_int rfl rfl rfl) da_nil)))) ⟨rs6, ss, wh, gv, hw.1, hw.2, hg, hgl2, rfl, rfl⟩ (oneN rfl) rfl))))) rfl ⟨rfl, rfl, fin0 rfl⟩
        · exact go_end (fun q => ds1_ret (de_castB (k := true || true) rfl (de_or (de_castB (k := !decide (dueT ss wh gv = "")) (by rw [decide_eq_false hdue]; rfl) (de_neS (s := dueT ss wh gv) (t := "") (de_nm 7) de_str)) fun h => by cases h))) rfl ⟨rfl, rfl, fin0 rfl⟩
    refine go_if (fun q => (DWx.dt (dw_or (dt_lt (de_nm 4) de_int) fun h => (dw_or1 (dt_ge (de_nm 4) (de_nm 1)))))) (fun h => ?_) (fun h => ?_)
    · have h : ¬ (0 ≤ wh ∧ wh < (ss.length : Int)) := by simp only [Bool.or_eq_true, decide_eq_true_eq] at h; omega
      refine go_then (fun q => ds1_set (x := .str "function") 7 sc_law.nd de_str) (go_on ?_)
      have e : dueT ss wh gv = "function" := by rw [dueT, if_pos h]
      rw [e] at fin2
      exact fin2
    · have h : 0 ≤ wh ∧ wh < (ss.length : Int) := by simp only [Bool.or_eq_false_iff, decide_eq_false_iff_not] at h; omega
      refine go_if (fun q => (dt_neI (de_nm 5) (de_ixT (x := .int (startOf ss wh).2) (xs := [.int (startOf ss wh).1, .int (startOf ss wh).2]) (de_ixL (x := encS (startOf ss wh)) (xs := ss.map encS) (de_nm 2) (de_nm 4) rfl rfl (hat h.1 (by omega))) de_int rfl rfl rfl))) (fun h2 => ?_) (fun h2 => ?_)
      · have h2 : (gv.length : Int) ≠ (startOf ss wh).2 := by simp at h2; omega
        refine go_then (fun q => ds1_set (x := .str "count") 7 sc_law.nd de_str) (go_on (go_on ?_))
        have e : dueT ss wh gv = "count" := by rw [dueT, if_neg (fun z => z h), if_pos h2]
        rw [e] at fin2
        exact fin2
      · have h2 : (gv.length : Int) = (startOf ss wh).2 := by simp at h2; omega
        refine go_on (go_on ?_)
        have e : dueT ss wh gv = "" := by rw [dueT, if_neg (fun z => z h), if_neg (fun z => z h2)]
        rw [e] at fin2
        exact fin2
  -- the starts
  refine go_then (fun q => ds1_own (xs := []) 2 sc_law.nd (de_lst da_nil)) ?_
  obtain ⟨st, hst⟩ : ∃ st : Nat → Sp2, ∀ k, st k = (cellAt ns 1 / ((0 + (k : Int)) + 1) % 9, (cellAt ns 2 / ((0 + (k : Int)) + 1) + (0 + (k : Int))) % 4) := ⟨_, fun _ => rfl⟩
  refine go_for (fun n D => ∃ s, s.isRef = false ∧ D = [.sc ns, .d (.int many), .own (((List.range n).map st).map encS), s, .no, .no, .no, .no, .no, .no]) (fun q => .never) (fun q => rfl) (fun q => (di_rng1 (n := many) G (da_cons (de_nm 1) da_nil) ⟨by omega, by omega⟩)) (Le.refl _) ⟨.no, rfl, rfl⟩ (fun n D d hd ⟨s, hs, e⟩ => ?_) (fun D hD => ?_)
  · subst e
    obtain ⟨hk, rfl⟩ := rngD_of hd
    refine ⟨_, fun q => dg_name 3 sc_law.nd rfl hs, ?_⟩
    refine go_then (fun q => ds1_app (x := encS (cellAt ns 1 / ((0 + (n : Int)) + 1) % 9, (cellAt ns 2 / ((0 + (n : Int)) + 1) + (0 + (n : Int))) % 4)) (xs := ((List.range n).map st).map encS) 2 (de_tup (da_cons (de_mod (de_div (de_call F_cell_at (q.2.mono (by omega)) (da_cons (de_sl 0) (da_cons de_int da_nil)) ⟨ns, 1, by omega, rfl, rfl⟩ (oneN rfl) rfl) (de_add (de_nm 3) de_int) ⟨by omega, by omega⟩) de_int (by decide)) (da_cons (de_mod (de_add (de_div (de_call F_cell_at (q.2.mono (by omega)) (da_cons (de_sl 0) (da_cons de_int da_nil)) ⟨ns, 2, by omega, rfl, rfl⟩ (oneN rfl) rfl) (de_add (de_nm 3) de_int) ⟨by omega, by omega⟩) (de_nm 3)) de_int (by decide)) da_nil))) rfl (.inl rfl) (by simp; omega) ⟨_, rfl, rfl⟩) (go_nil ?_)
    refine ⟨_, Le.refl _, .d (.int (0 + (n : Int))), rfl, ?_⟩
    rw [List.range_succ, List.map_append, List.map_append, ← hst]
    rfl
  · obtain ⟨s, hs, e⟩ := hD
    subst e
    rw [rngD_len]
    obtain ⟨ss, ess, hsl, hsb⟩ : ∃ ss : List Sp2, ss = (List.range many.toNat).map st ∧ (ss.length : Int) = many ∧ ∀ s ∈ ss, 0 ≤ s.2 ∧ s.2 ≤ 60 := ⟨_, rfl, by simp; omega, fun s hs => by
      obtain ⟨k, _, rfl⟩ := List.mem_map.mp hs
      rw [hst]
      constructor
      · show 0 ≤ (cellAt ns 2 / ((0 + (k : Int)) + 1) + (0 + (k : Int))) % 4
        omega
      · show (cellAt ns 2 / ((0 + (k : Int)) + 1) + (0 + (k : Int))) % 4 ≤ 60
        omega⟩
    rw [← ess]
    refine go_if (fun q => (DWx.dt (dw_and (dt_eqI (de_mod (de_call F_cell_at (q.2.mono (by omega)) (da_cons (de_sl 0) (da_cons de_int da_nil)) ⟨ns, 3, by omega, rfl, rfl⟩ (oneN rfl) rfl) de_int (by decide)) de_int) fun h => (dw_and1 (dt_gt (de_nm 1) de_int))))) (fun h => ?_) (fun h => go_on (go_ice 2 rfl (fin1 ss s hsl hsb hs)))
    have h : 0 < many := by simp only [Bool.and_eq_true, decide_eq_true_eq] at h; exact h.2
    rcases snoc_cases ss with rfl | ⟨ys, y, rfl⟩
    · simp at hsl; omega
    · have hj : ixN ((ys ++ [y]).map encS).length (-1) = some (ys.map encS).length := by
        have := ixN_neg (n := ((ys ++ [y]).map encS).length) (j := 0) (by simp)
        simpa using this
      have es : ((ys ++ [y]).map encS).set (ys.map encS).length (encS (1, 60)) = (ys ++ [((1 : Int), (60 : Int))]).map encS := by
        rw [List.map_append, List.map_append]
        exact set_last
      refine go_then (fun q => ds1_setI (x := encS (1, 60)) (xs := (ys ++ [y]).map encS) (j := -1) (m := (ys.map encS).length) 2 (de_tup (xs := [.int 1, .int 60]) (da_cons de_int (da_cons de_int da_nil))) (de_neg (i := 1) de_int) rfl (.inl rfl) hj) (go_on ?_)
      rw [es]
      refine go_ice 2 rfl (fin1 (ys ++ [(1, 60)]) s (by simp at hsl ⊢; exact hsl) (fun z hz => ?_) hs)
      rcases List.mem_append.mp hz with hz | hz
      · exact hsb z (List.mem_append.mpr (.inl hz))
      · simp only [List.mem_cons, List.not_mem_nil, or_false] at hz
        subst hz
        exact ⟨by decide, by decide⟩
end
end Tr
namespace Tr
open PySem L2
theorem all_mk {l : PySem.W.OpenLaw} {w : World} {K : PySem.W.Frag} {h : Heap} {mg : Str → Option Value} {fa : Addr} (X : K.In h) (G : h.Ns mainGlobals mg) (hfa : mg "law" = some (.ref fa))
    {f1 : Addr} {od1 an1 : Option Addr} {sl1 : Array (Option Value)} {oc1 kV1 dc1 pm1 cd1 ct1 : Value}
    (a1 : PySem.W.nsIn K mainGlobals "begun" = some (some (.ref f1))) (l1 : K.lookup f1 = some ⟨oc1, od1, .func (PySem.W.fnOf "begun" "begun" (defArgs st_begun) (defBody st_begun) (defScope st_begun) .none kV1 dc1 pm1 an1 cd1 ct1), sl1⟩) (c1 : PySem.W.codeIn K cd1 "begun" = true) (k1 : PySem.W.keepIn K (.ref f1) = true)
    {f2 : Addr} {od2 an2 : Option Addr} {sl2 : Array (Option Value)} {oc2 kV2 dc2 pm2 cd2 ct2 : Value}
    (a2 : PySem.W.nsIn K mainGlobals "put_together" = some (some (.ref f2))) (l2 : K.lookup f2 = some ⟨oc2, od2, .func (PySem.W.fnOf "put_together" "put_together" (defArgs st_put) (defBody st_put) (defScope st_put) .none kV2 dc2 pm2 an2 cd2 ct2), sl2⟩) (c2 : PySem.W.codeIn K cd2 "put_together" = true) (k2 : PySem.W.keepIn K (.ref f2) = true)
    {f3 : Addr} {od3 an3 : Option Addr} {sl3 : Array (Option Value)} {oc3 kV3 dc3 pm3 cd3 ct3 : Value}
    (a3 : PySem.W.nsIn K mainGlobals "valued" = some (some (.ref f3))) (l3 : K.lookup f3 = some ⟨oc3, od3, .func (PySem.W.fnOf "valued" "valued" (defArgs st_valued) (defBody st_valued) (defScope st_valued) .none kV3 dc3 pm3 an3 cd3 ct3), sl3⟩) (c3 : PySem.W.codeIn K cd3 "valued" = true) (k3 : PySem.W.keepIn K (.ref f3) = true)
    {f4 : Addr} {od4 an4 : Option Addr} {sl4 : Array (Option Value)} {oc4 kV4 dc4 pm4 cd4 ct4 : Value}
    (a4 : PySem.W.nsIn K mainGlobals "taken" = some (some (.ref f4))) (l4 : K.lookup f4 = some ⟨oc4, od4, .func (PySem.W.fnOf "taken" "taken" (defArgs st_taken) (defBody st_taken) (defScope st_taken) .none kV4 dc4 pm4 an4 cd4 ct4), sl4⟩) (c4 : PySem.W.codeIn K cd4 "taken" = true) (k4 : PySem.W.keepIn K (.ref f4) = true)
    {f5 : Addr} {od5 an5 : Option Addr} {sl5 : Array (Option Value)} {oc5 kV5 dc5 pm5 cd5 ct5 : Value}
    (a5 : PySem.W.nsIn K mainGlobals "entered" = some (some (.ref f5))) (l5 : K.lookup f5 = some ⟨oc5, od5, .func (PySem.W.fnOf "entered" "entered" (defArgs st_entered) (defBody st_entered) (defScope st_entered) .none kV5 dc5 pm5 an5 cd5 ct5), sl5⟩) (c5 : PySem.W.codeIn K cd5 "entered" = true) (k5 : PySem.W.keepIn K (.ref f5) = true)
    {f6 : Addr} {od6 an6 : Option Addr} {sl6 : Array (Option Value)} {oc6 kV6 dc6 pm6 cd6 ct6 : Value}
    (a6 : PySem.W.nsIn K mainGlobals "stepped" = some (some (.ref f6))) (l6 : K.lookup f6 = some ⟨oc6, od6, .func (PySem.W.fnOf "stepped" "stepped" (defArgs st_stepped) (defBody st_stepped) (defScope st_stepped) .none kV6 dc6 pm6 an6 cd6 ct6), sl6⟩) (c6 : PySem.W.codeIn K cd6 "stepped" = true) (k6 : PySem.W.keepIn K (.ref f6) = true)
    {f7 : Addr} {od7 an7 : Option Addr} {sl7 : Array (Option Value)} {oc7 kV7 dc7 pm7 cd7 ct7 : Value}
    (a7 : PySem.W.nsIn K mainGlobals "walked" = some (some (.ref f7))) (l7 : K.lookup f7 = some ⟨oc7, od7, .func (PySem.W.fnOf "walked" "walked" (defArgs st_walked) (defBody st_walked) (defScope st_walked) .none kV7 dc7 pm7 an7 cd7 ct7), sl7⟩) (c7 : PySem.W.codeIn K cd7 "walked" = true) (k7 : PySem.W.keepIn K (.ref f7) = true)
    {f8 : Addr} {od8 an8 : Option Addr} {sl8 : Array (Option Value)} {oc8 kV8 dc8 pm8 cd8 ct8 : Value}
    (a8 : PySem.W.nsIn K mainGlobals "run" = some (some (.ref f8))) (l8 : K.lookup f8 = some ⟨oc8, od8, .func (PySem.W.fnOf "run" "run" (defArgs st_run) (defBody st_run) (defScope st_run) .none kV8 dc8 pm8 an8 cd8 ct8), sl8⟩) (c8 : PySem.W.codeIn K cd8 "run" = true) (k8 : PySem.W.keepIn K (.ref f8) = true)
    {f9 : Addr} {od9 an9 : Option Addr} {sl9 : Array (Option Value)} {oc9 kV9 dc9 pm9 cd9 ct9 : Value}
    (a9 : PySem.W.nsIn K mainGlobals "_law_cell_at" = some (some (.ref f9))) (l9 : K.lookup f9 = some ⟨oc9, od9, .func (PySem.W.fnOf "_law_cell_at" "_law_cell_at" (defArgs st_cell_at) (defBody st_cell_at) (defScope st_cell_at) .none kV9 dc9 pm9 an9 cd9 ct9), sl9⟩) (c9 : PySem.W.codeIn K cd9 "_law_cell_at" = true) (k9 : PySem.W.keepIn K (.ref f9) = true)
    {f10 : Addr} {od10 an10 : Option Addr} {sl10 : Array (Option Value)} {oc10 kV10 dc10 pm10 cd10 ct10 : Value}
    (a10 : PySem.W.nsIn K mainGlobals "_law_whole" = some (some (.ref f10))) (l10 : K.lookup f10 = some ⟨oc10, od10, .func (PySem.W.fnOf "_law_whole" "_law_whole" (defArgs st_whole) (defBody st_whole) (defScope st_whole) .none kV10 dc10 pm10 an10 cd10 ct10), sl10⟩) (c10 : PySem.W.codeIn K cd10 "_law_whole" = true) (k10 : PySem.W.keepIn K (.ref f10) = true)
    {f11 : Addr} {od11 an11 : Option Addr} {sl11 : Array (Option Value)} {oc11 kV11 dc11 pm11 cd11 ct11 : Value}
    (a11 : PySem.W.nsIn K mainGlobals "_law_state_alike" = some (some (.ref f11))) (l11 : K.lookup f11 = some ⟨oc11, od11, .func (PySem.W.fnOf "_law_state_alike" "_law_state_alike" (defArgs st_state_alike) (defBody st_state_alike) (defScope st_state_alike) .none kV11 dc11 pm11 an11 cd11 ct11), sl11⟩) (c11 : PySem.W.codeIn K cd11 "_law_state_alike" = true) (k11 : PySem.W.keepIn K (.ref f11) = true)
    {f12 : Addr} {od12 an12 : Option Addr} {sl12 : Array (Option Value)} {oc12 kV12 dc12 pm12 cd12 ct12 : Value}
    (a12 : PySem.W.nsIn K mainGlobals "_law_refused" = some (some (.ref f12))) (l12 : K.lookup f12 = some ⟨oc12, od12, .func (PySem.W.fnOf "_law_refused" "_law_refused" (defArgs st_refused) (defBody st_refused) (defScope st_refused) .none kV12 dc12 pm12 an12 cd12 ct12), sl12⟩) (c12 : PySem.W.codeIn K cd12 "_law_refused" = true) (k12 : PySem.W.keepIn K (.ref f12) = true)
    {f13 : Addr} {od13 an13 : Option Addr} {sl13 : Array (Option Value)} {oc13 kV13 dc13 pm13 cd13 ct13 : Value}
    (a13 : PySem.W.nsIn K mainGlobals "_law_refused_by_any" = some (some (.ref f13))) (l13 : K.lookup f13 = some ⟨oc13, od13, .func (PySem.W.fnOf "_law_refused_by_any" "_law_refused_by_any" (defArgs st_by_any) (defBody st_by_any) (defScope st_by_any) .none kV13 dc13 pm13 an13 cd13 ct13), sl13⟩) (c13 : PySem.W.codeIn K cd13 "_law_refused_by_any" = true) (k13 : PySem.W.keepIn K (.ref f13) = true)
    {f14 : Addr} {od14 an14 : Option Addr} {sl14 : Array (Option Value)} {oc14 kV14 dc14 pm14 cd14 ct14 : Value}
    (a14 : PySem.W.nsIn K mainGlobals "_law_told_twice" = some (some (.ref f14))) (l14 : K.lookup f14 = some ⟨oc14, od14, .func (PySem.W.fnOf "_law_told_twice" "_law_told_twice" (defArgs st_twice) (defBody st_twice) (defScope st_twice) .none kV14 dc14 pm14 an14 cd14 ct14), sl14⟩) (c14 : PySem.W.codeIn K cd14 "_law_told_twice" = true) (k14 : PySem.W.keepIn K (.ref f14) = true)
    {f15 : Addr} {od15 an15 : Option Addr} {sl15 : Array (Option Value)} {oc15 kV15 dc15 pm15 cd15 ct15 : Value}
    (a15 : PySem.W.nsIn K mainGlobals "law" = some (some (.ref f15))) (l15 : K.lookup f15 = some ⟨oc15, od15, .func (PySem.W.fnOf "law" "law" (defArgs st_law) (defBody st_law) (defScope st_law) .none kV15 dc15 pm15 an15 cd15 ct15), sl15⟩) (c15 : PySem.W.codeIn K cd15 "law" = true) (k15 : PySem.W.keepIn K (.ref f15) = true)
    {C1 : Addr} (g1 : PySem.W.nsIn K mainGlobals "RoadError" = some (some (.ref C1))) (x1 : PySem.W.excIn K C1 [.type "ValueError", .type "Exception", .type "BaseException", .type "object"] "ValueError.__new__" = true) (xk1 : PySem.W.keepIn K (.ref C1) = true) (xs1 : PySem.W.subIn K (.ref C1) (.type "BaseException") = some true) (xt1 : PySem.W.typeIn K (.ref C1) = some (.type "type"))
    {C2 : Addr} (g2 : PySem.W.nsIn K mainGlobals "NoFunction" = some (some (.ref C2))) (x2 : PySem.W.excIn K C2 [.type "ValueError", .type "Exception", .type "BaseException", .type "object"] "ValueError.__new__" = true) (xk2 : PySem.W.keepIn K (.ref C2) = true) (xs2 : PySem.W.subIn K (.ref C2) (.type "BaseException") = some true) (xt2 : PySem.W.typeIn K (.ref C2) = some (.type "type"))
    {C3 : Addr} (g3 : PySem.W.nsIn K mainGlobals "BadCount" = some (some (.ref C3))) (x3 : PySem.W.excIn K C3 [.type "ValueError", .type "Exception", .type "BaseException", .type "object"] "ValueError.__new__" = true) (xk3 : PySem.W.keepIn K (.ref C3) = true) (xs3 : PySem.W.subIn K (.ref C3) (.type "BaseException") = some true) (xt3 : PySem.W.typeIn K (.ref C3) = some (.type "type"))
    {C4 : Addr} (g4 : PySem.W.nsIn K mainGlobals "Unknown" = some (some (.ref C4))) (x4 : PySem.W.excIn K C4 [.type "ValueError", .type "Exception", .type "BaseException", .type "object"] "ValueError.__new__" = true) (xk4 : PySem.W.keepIn K (.ref C4) = true) (xs4 : PySem.W.subIn K (.ref C4) (.type "BaseException") = some true) (xt4 : PySem.W.typeIn K (.ref C4) = some (.type "type"))
    {C5 : Addr} (g5 : PySem.W.nsIn K mainGlobals "NoRow" = some (some (.ref C5))) (x5 : PySem.W.excIn K C5 [.type "ValueError", .type "Exception", .type "BaseException", .type "object"] "ValueError.__new__" = true) (xk5 : PySem.W.keepIn K (.ref C5) = true) (xs5 : PySem.W.subIn K (.ref C5) (.type "BaseException") = some true) (xt5 : PySem.W.typeIn K (.ref C5) = some (.type "type"))
    (z_len : PySem.W.nsIn K mainGlobals "len" = some none)
    (z_range : PySem.W.nsIn K mainGlobals "range" = some none)
    (z_list : PySem.W.nsIn K mainGlobals "list" = some none)
    (z_int : PySem.W.nsIn K mainGlobals "int" = some none)
    (z_str : PySem.W.nsIn K mainGlobals "str" = some none)
    (z_bool : PySem.W.nsIn K mainGlobals "bool" = some none)
    (z_tuple : PySem.W.nsIn K mainGlobals "tuple" = some none)
    (z_isinstance : PySem.W.nsIn K mainGlobals "isinstance" = some none)
    (z_sum : PySem.W.nsIn K mainGlobals "sum" = some none)
    (z_min : PySem.W.nsIn K mainGlobals "min" = some none)
    (z_max : PySem.W.nsIn K mainGlobals "max" = some none)
    (z_enumerate : PySem.W.nsIn K mainGlobals "enumerate" = some none)
    (z_ValueError : PySem.W.nsIn K mainGlobals "ValueError" = some none)
    (hcn : PySem.W.specialIn K (.builtin "object.__class__") "__get__" = some (some (.builtin "getset_descriptor.__get__")))
    (hct : PySem.W.takesIn K (.builtin "object.__class__") = some true)
    (hg2 : PySem.W.findIn K (.ref C2) "__getattribute__" = some (some (.builtin "BaseException.__getattribute__")))
    (hk2 : PySem.W.findIn K (.ref C2) "__getattr__" = some none)
    (hd2 : PySem.W.hasDictIn K C2 = true)
    (ha2 : PySem.W.findIn K (.ref C2) "__class__" = some (some (.builtin "object.__class__")))
    (hm2 : PySem.W.mroIn K C2 (.type "object") = some true)
    (er2 : PySem.W.exmOne K (.ref C2) (.ref C1) = some true)
    (k22 : PySem.W.kitOne K (.ref C2) (.ref C2) = some true)
    (k23 : PySem.W.kitOne K (.ref C2) (.ref C3) = some false)
    (k24 : PySem.W.kitOne K (.ref C2) (.ref C4) = some false)
    (k25 : PySem.W.kitOne K (.ref C2) (.ref C5) = some false)
    (kv2 : PySem.W.kitOne K (.ref C2) (.type "ValueError") = some true)
    (hg3 : PySem.W.findIn K (.ref C3) "__getattribute__" = some (some (.builtin "BaseException.__getattribute__")))
    (hk3 : PySem.W.findIn K (.ref C3) "__getattr__" = some none)
    (hd3 : PySem.W.hasDictIn K C3 = true)
    (ha3 : PySem.W.findIn K (.ref C3) "__class__" = some (some (.builtin "object.__class__")))
    (hm3 : PySem.W.mroIn K C3 (.type "object") = some true)
    (er3 : PySem.W.exmOne K (.ref C3) (.ref C1) = some true)
    (k32 : PySem.W.kitOne K (.ref C3) (.ref C2) = some false)
    (k33 : PySem.W.kitOne K (.ref C3) (.ref C3) = some true)
    (k34 : PySem.W.kitOne K (.ref C3) (.ref C4) = some false)
    (k35 : PySem.W.kitOne K (.ref C3) (.ref C5) = some false)
    (kv3 : PySem.W.kitOne K (.ref C3) (.type "ValueError") = some true)
    (e22 : PySem.W.exmOne K (.ref C2) (.ref C2) = some true)
    (e32 : PySem.W.exmOne K (.ref C3) (.ref C2) = some false)
    (e33 : PySem.W.exmOne K (.ref C3) (.ref C3) = some true)
    : ∃ fd : FuncData, (∀ (s : Shared) (u : Value), BindsTo s fd ⟨[u], []⟩ [("_law_script", u)]) ∧ ∀ base : Heap, K.In base → base.Ns mainGlobals mg → FnOk l.prog w K mg base (L2.CX l.prog w) 8 fa fd ["_law_script"] (spOf K (lawS 63)) := by
  have e := hfa.symm.trans (PySem.W.mg_of X G a15)
  cases e
  refine ⟨PySem.W.fnOf "law" "law" (defArgs st_law) (defBody st_law) (defScope st_law) .none kV15 dc15 pm15 an15 cd15 ct15, fun s v => .of_eq rfl, fun base _ _ => ?_⟩
  have G0 : Blt mg := ⟨(PySem.W.mg_none_of X G z_len), (PySem.W.mg_none_of X G z_range), (PySem.W.mg_none_of X G z_list), (PySem.W.mg_none_of X G z_int), (PySem.W.mg_none_of X G z_str), (PySem.W.mg_none_of X G z_bool), (PySem.W.mg_none_of X G z_tuple), (PySem.W.mg_none_of X G z_isinstance), (PySem.W.mg_none_of X G z_sum), (PySem.W.mg_none_of X G z_min), (PySem.W.mg_none_of X G z_max), (PySem.W.mg_none_of X G z_enumerate)⟩
  have Z_ValueError := (PySem.W.mg_none_of X G z_ValueError)
  have D_begun : Df K mg "begun" st_begun ["code", "which", "given"] := df_mk X G (fun F => F.binds (ps := ["code", "which", "given"]) fun _ _ _ _ _ _ us hl => match us, hl with | [_, _, _], _ => rfl) a1 l1 c1 k1
  have D_put_together : Df K mg "put_together" st_put ["word", "one", "two"] := df_mk X G (fun F => F.binds (ps := ["word", "one", "two"]) fun _ _ _ _ _ _ us hl => match us, hl with | [_, _, _], _ => rfl) a2 l2 c2 k2
  have D_valued : Df K mg "valued" st_valued ["row", "state"] := df_mk X G (fun F => F.binds (ps := ["row", "state"]) fun _ _ _ _ _ _ us hl => match us, hl with | [_, _], _ => rfl) a3 l3 c3 k3
  have D_taken : Df K mg "taken" st_taken ["row", "place", "values", "frames"] := df_mk X G (fun F => F.binds (ps := ["row", "place", "values", "frames"]) fun _ _ _ _ _ _ us hl => match us, hl with | [_, _, _, _], _ => rfl) a4 l4 c4 k4
  have D_entered : Df K mg "entered" st_entered ["code", "row", "state", "most"] := df_mk X G (fun F => F.binds (ps := ["code", "row", "state", "most"]) fun _ _ _ _ _ _ us hl => match us, hl with | [_, _, _, _], _ => rfl) a5 l5 c5 k5
  have D_stepped : Df K mg "stepped" st_stepped ["code", "state", "most"] := df_mk X G (fun F => F.binds (ps := ["code", "state", "most"]) fun _ _ _ _ _ _ us hl => match us, hl with | [_, _, _], _ => rfl) a6 l6 c6 k6
  have D_walked : Df K mg "walked" st_walked ["code", "which", "given", "steps", "most"] := df_mk X G (fun F => F.binds (ps := ["code", "which", "given", "steps", "most"]) fun _ _ _ _ _ _ us hl => match us, hl with | [_, _, _, _, _], _ => rfl) a7 l7 c7 k7
  have D_run : Df K mg "run" st_run ["code", "which", "given", "steps", "most"] := df_mk X G (fun F => F.binds (ps := ["code", "which", "given", "steps", "most"]) fun _ _ _ _ _ _ us hl => match us, hl with | [_, _, _, _, _], _ => rfl) a8 l8 c8 k8
  have D__law_cell_at : Df K mg "_law_cell_at" st_cell_at ["_law_script", "_law_k"] := df_mk X G (fun F => F.binds (ps := ["_law_script", "_law_k"]) fun _ _ _ _ _ _ us hl => match us, hl with | [_, _], _ => rfl) a9 l9 c9 k9
  have D__law_whole : Df K mg "_law_whole" st_whole ["_law_found"] := df_mk X G (fun F => F.binds (ps := ["_law_found"]) fun _ _ _ _ _ _ us hl => match us, hl with | [_], _ => rfl) a10 l10 c10 k10
  have D__law_state_alike : Df K mg "_law_state_alike" st_state_alike ["_law_found", "_law_due"] := df_mk X G (fun F => F.binds (ps := ["_law_found", "_law_due"]) fun _ _ _ _ _ _ us hl => match us, hl with | [_, _], _ => rfl) a11 l11 c11 k11
  have D__law_refused : Df K mg "_law_refused" st_refused ["_law_way", "_law_code", "_law_which", "_law_given"] := df_mk X G (fun F => F.binds (ps := ["_law_way", "_law_code", "_law_which", "_law_given"]) fun _ _ _ _ _ _ us hl => match us, hl with | [_, _, _, _], _ => rfl) a12 l12 c12 k12
  have D__law_refused_by_any : Df K mg "_law_refused_by_any" st_by_any ["_law_code", "_law_which", "_law_given"] := df_mk X G (fun F => F.binds (ps := ["_law_code", "_law_which", "_law_given"]) fun _ _ _ _ _ _ us hl => match us, hl with | [_, _, _], _ => rfl) a13 l13 c13 k13
  have D__law_told_twice : Df K mg "_law_told_twice" st_twice ["_law_code", "_law_which", "_law_given", "_law_place"] := df_mk X G (fun F => F.binds (ps := ["_law_code", "_law_which", "_law_given", "_law_place"]) fun _ _ _ _ _ _ us hl => match us, hl with | [_, _, _, _], _ => rfl) a14 l14 c14 k14
  have X_RoadError : Xc K mg "RoadError" C1 := ⟨PySem.W.mg_of X G g1, x1, xk1, xs1, xt1⟩
  have X_NoFunction : Xc K mg "NoFunction" C2 := ⟨PySem.W.mg_of X G g2, x2, xk2, xs2, xt2⟩
  have X_BadCount : Xc K mg "BadCount" C3 := ⟨PySem.W.mg_of X G g3, x3, xk3, xs3, xt3⟩
  have X_Unknown : Xc K mg "Unknown" C4 := ⟨PySem.W.mg_of X G g4, x4, xk4, xs4, xt4⟩
  have X_NoRow : Xc K mg "NoRow" C5 := ⟨PySem.W.mg_of X G g5, x5, xk5, xs5, xt5⟩
  have Fu := fun_mk (st := st_law) l15 c15 k15
  have E_2 : ExcC K C2 := ⟨hg2, hk2, xs2, hd2, ha2, hcn, hct, hm2⟩
  have E_3 : ExcC K C3 := ⟨hg3, hk3, xs3, hd3, ha3, hcn, hct, hm3⟩
  have Q_2 : Kinds K C1 C2 C3 C4 C5 C2 true false false false := ⟨E_2, er2, k22, k23, k24, k25, kv2⟩
  have Q_3 : Kinds K C1 C2 C3 C4 C5 C3 false true false false := ⟨E_3, er3, k32, k33, k34, k35, kv3⟩
  have F_ca := ok_cell_at (P := l.prog) (w := w) (base := base) G0 D__law_cell_at
  have F_wh := ok_whole (P := l.prog) (w := w) (base := base) G0 D__law_whole
  have F_be := ok_begunX (P := l.prog) (w := w) (base := base) G0 D_begun X_NoFunction X_BadCount
  have F_bn := begunNew (P := l.prog) (w := w) (base := base) G0 D_begun
  have F_pt := ok_put (P := l.prog) (w := w) (base := base) G0 D_put_together
  have F_tk := ok_taken (P := l.prog) (w := w) (base := base) G0 D_taken F_pt
  have F_va := ok_valued (P := l.prog) (w := w) (base := base) G0 D_valued F_tk
  have F_en := ok_entered (P := l.prog) (w := w) (base := base) G0 D_entered
  have F_st := ok_stepped (P := l.prog) (w := w) (base := base) G0 D_stepped F_va F_en
  have F_sa := ok_state_alike (P := l.prog) (w := w) (base := base) G0 D__law_state_alike F_wh
  have F_wk := ok_walkedX (P := l.prog) (w := w) (base := base) G0 D_walked F_be F_st
  have F_rn := ok_runX (P := l.prog) (w := w) (base := base) G0 D_run F_wk
  have F_rf := ok_refused (P := l.prog) (w := w) (base := base) G0 D__law_refused X_NoFunction X_BadCount e22 e32 e33 F_be F_wk F_rn
  have F_an := ok_any (P := l.prog) (w := w) (base := base) G0 D__law_refused_by_any X_RoadError X_Unknown X_NoFunction X_BadCount X_NoRow Z_ValueError Q_2 Q_3 F_be
  have F_tw := ok_twice (P := l.prog) (w := w) (base := base) G0 D__law_told_twice F_bn F_be F_sa
  exact ok_law G0 Fu F_ca F_rf F_an F_tw
end Tr
open PySem PySem.W PyProof.Rows
set_option maxRecDepth 100000 in
set_option maxHeartbeats 0 in
theorem PySem.Challenge.cw_tailroad_k06_runs_begun_holds : PySem.Challenge.rw_tailroad_k06_runs_begun.Holds := by
  w_on; o_law; k_head; (case hw => w_witness2)
  k_fill
  refine Tr.walk_tr (l := PySem.Challenge.rw_tailroad_k06_runs_begun) (n := 63) (k := 8) (x := "_law_script") rfl (by decide) rfl ⟨rfl, by decide, by decide⟩ (fun w h Y => PySem.W.kIn_of Y) ?F
  case F =>
    intro w mg fa h KX G hmg
    refine' Tr.all_mk KX G hmg ?a1 ?l1 ?c1 ?k1 ?a2 ?l2 ?c2 ?k2 ?a3 ?l3 ?c3 ?k3 ?a4 ?l4 ?c4 ?k4 ?a5 ?l5 ?c5 ?k5 ?a6 ?l6 ?c6 ?k6 ?a7 ?l7 ?c7 ?k7 ?a8 ?l8 ?c8 ?k8 ?a9 ?l9 ?c9 ?k9 ?a10 ?l10 ?c10 ?k10 ?a11 ?l11 ?c11 ?k11 ?a12 ?l12 ?c12 ?k12 ?a13 ?l13 ?c13 ?k13 ?a14 ?l14 ?c14 ?k14 ?a15 ?l15 ?c15 ?k15 ?g1 ?x1 ?xk1 ?xs1 ?xt1 ?g2 ?x2 ?xk2 ?xs2 ?xt2 ?g3 ?x3 ?xk3 ?xs3 ?xt3 ?g4 ?x4 ?xk4 ?xs4 ?xt4 ?g5 ?x5 ?xk5 ?xs5 ?xt5 ?z_len ?z_range ?z_list ?z_int ?z_str ?z_bool ?z_tuple ?z_isinstance ?z_sum ?z_min ?z_max ?z_enumerate ?z_ValueError ?hcn ?hct ?hg2 ?hk2 ?hd2 ?ha2 ?hm2 ?er2 ?k22 ?k23 ?k24 ?k25 ?kv2 ?hg3 ?hk3 ?hd3 ?ha3 ?hm3 ?er3 ?k32 ?k33 ?k34 ?k35 ?kv3 ?e22 ?e32 ?e33
    (case a1 => k_is)
    (case l1 => k_is)
    (case c1 => k_is)
    (case k1 => k_is)
    (case a2 => k_is)
    (case l2 => k_is)
    (case c2 => k_is)
    (case k2 => k_is)
    (case a3 => k_is)
    (case l3 => k_is)
    (case c3 => k_is)
    (case k3 => k_is)
    (case a4 => k_is)
    (case l4 => k_is)
    (case c4 => k_is)
    (case k4 => k_is)
    (case a5 => k_is)
    (case l5 => k_is)
    (case c5 => k_is)
    (case k5 => k_is)
    (case a6 => k_is)
    (case l6 => k_is)
    (case c6 => k_is)
    (case k6 => k_is)
    (case a7 => k_is)
    (case l7 => k_is)
    (case c7 => k_is)
    (case k7 => k_is)
    (case a8 => k_is)
    (case l8 => k_is)
    (case c8 => k_is)
    (case k8 => k_is)
    (case a9 => k_is)
    (case l9 => k_is)
    (case c9 => k_is)
    (case k9 => k_is)
    (case a10 => k_is)
    (case l10 => k_is)
    (case c10 => k_is)
    (case k10 => k_is)
    (case a11 => k_is)
    (case l11 => k_is)
    (case c11 => k_is)
    (case k11 => k_is)
    (case a12 => k_is)
    (case l12 => k_is)
    (case c12 => k_is)
    (case k12 => k_is)
    (case a13 => k_is)
    (case l13 => k_is)
    (case c13 => k_is)
    (case k13 => k_is)
    (case a14 => k_is)
    (case l14 => k_is)
    (case c14 => k_is)
    (case k14 => k_is)
    (case a15 => k_is)
    (case l15 => k_is)
    (case c15 => k_is)
    (case k15 => k_is)
    (case g1 => k_is)
    (case x1 => k_exc)
    (case xk1 => k_is)
    (case xs1 => k_is)
    (case xt1 => k_is)
    (case g2 => k_is)
    (case x2 => k_exc)
    (case xk2 => k_is)
    (case xs2 => k_is)
    (case xt2 => k_is)
    (case g3 => k_is)
    (case x3 => k_exc)
    (case xk3 => k_is)
    (case xs3 => k_is)
    (case xt3 => k_is)
    (case g4 => k_is)
    (case x4 => k_exc)
    (case xk4 => k_is)
    (case xs4 => k_is)
    (case xt4 => k_is)
    (case g5 => k_is)
    (case x5 => k_exc)
    (case xk5 => k_is)
    (case xs5 => k_is)
    (case xt5 => k_is)
    (case z_len => k_is)
    (case z_range => k_is)
    (case z_list => k_is)
    (case z_int => k_is)
    (case z_str => k_is)
    (case z_bool => k_is)
    (case z_tuple => k_is)
    (case z_isinstance => k_is)
    (case z_sum => k_is)
    (case z_min => k_is)
    (case z_max => k_is)
    (case z_enumerate => k_is)
    (case z_ValueError => k_is)
    (case hcn => first | k_is | kit_is | rfl)
    (case hct => first | k_is | kit_is | rfl)
    (case hg2 => first | k_is | kit_is | rfl)
    (case hk2 => first | k_is | kit_is | rfl)
    (case hd2 => first | k_is | kit_is | rfl)
    (case ha2 => first | k_is | kit_is | rfl)
    (case hm2 => first | k_is | kit_is | rfl)
    (case er2 => first | k_is | kit_is | rfl)
    (case k22 => first | k_is | kit_is | rfl)
    (case k23 => first | k_is | kit_is | rfl)
    (case k24 => first | k_is | kit_is | rfl)
    (case k25 => first | k_is | kit_is | rfl)
    (case kv2 => first | k_is | kit_is | rfl)
    (case hg3 => first | k_is | kit_is | rfl)
    (case hk3 => first | k_is | kit_is | rfl)
    (case hd3 => first | k_is | kit_is | rfl)
    (case ha3 => first | k_is | kit_is | rfl)
    (case hm3 => first | k_is | kit_is | rfl)
    (case er3 => first | k_is | kit_is | rfl)
    (case k32 => first | k_is | kit_is | rfl)
    (case k33 => first | k_is | kit_is | rfl)
    (case k34 => first | k_is | kit_is | rfl)
    (case k35 => first | k_is | kit_is | rfl)
    (case kv3 => first | k_is | kit_is | rfl)
    (case e22 => first | k_is | kit_is | rfl)
    (case e32 => first | k_is | kit_is | rfl)
    (case e33 => first | k_is | kit_is | rfl)
