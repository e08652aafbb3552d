import PyProof.Rows.All
import Wide.All
import OpenK.AllK
import Wide.FinOn
import HandS.ForMost
import HandS.Exc
import HandS.ExcOwn
import HandS.WordsExc
import HandS.TryOnly
import HandS.TryMany
import HandS.ExcIs
import HandS.IsInst
import HandS.StrMore
import HandS.Wide
import HandS.EndBits
import PySem.Challenge.RW_tailroad_k02_rows_read
set_option Elab.async false
set_option linter.all false
set_option maxRecDepth 100000
set_option maxHeartbeats 4000000
/-! the layer Tr: slots that hold data; a def's reading without a heap -/
namespace Tr
open PySem L2
abbrev Frag := PySem.W.Frag

/-! ### paired lists -/
section
variable {α β : Type} {F G : α → β → Prop}
theorem pr_get : ∀ {xs : List α} {ys : List β} {i : Nat} {y : β}, Paired F xs ys → ys[i]? = some y → ∃ x, xs[i]? = some x ∧ F x y
  | _, _, _, _, .nil, e => by simp at e
  | _, _, 0, _, .cons r _, e => by simp at e; subst e; exact ⟨_, rfl, r⟩
  | _, _, i + 1, y, .cons _ t, e => by
    obtain ⟨u, h1, h2⟩ := pr_get (i := i) (y := y) t (by simpa using e)
    exact ⟨u, by simpa using h1, h2⟩
theorem pr_getl : ∀ {xs : List α} {ys : List β} {i : Nat} {x : α}, Paired F xs ys → xs[i]? = some x → ∃ y, ys[i]? = some y ∧ F x y
  | _, _, _, _, .nil, e => by simp at e
  | _, _, 0, _, .cons r _, e => by simp at e; subst e; exact ⟨_, rfl, r⟩
  | _, _, i + 1, y, .cons _ t, e => by
    obtain ⟨u, h1, h2⟩ := pr_getl (i := i) (x := y) t (by simpa using e)
    exact ⟨u, by simpa using h1, h2⟩
theorem pr_mono (h : ∀ a b, F a b → G a b) : ∀ {xs : List α} {ys : List β}, Paired F xs ys → Paired G xs ys
  | _, _, .nil => .nil
  | _, _, .cons r t => .cons (h _ _ r) (pr_mono h t)
theorem pr_app : ∀ {xs us : List α} {ys ws : List β}, Paired F xs ys → Paired F us ws → Paired F (xs ++ us) (ys ++ ws)
  | _, _, _, _, .nil, s => s
  | _, _, _, _, .cons r t, s => .cons r (pr_app t s)
theorem pr_take : ∀ {xs : List α} {ys : List β} (n : Nat), Paired F xs ys → Paired F (xs.take n) (ys.take n)
  | _, _, 0, _ => .nil
  | _, _, _ + 1, .nil => .nil
  | _, _, n + 1, .cons r t => .cons r (pr_take n t)
theorem pr_drop : ∀ {xs : List α} {ys : List β} (n : Nat), Paired F xs ys → Paired F (xs.drop n) (ys.drop n)
  | _, _, 0, r => r
  | _, _, _ + 1, .nil => .nil
  | _, _, n + 1, .cons _ t => pr_drop n t
theorem pr_set {x : α} {y : β} (r : F x y) : ∀ {xs : List α} {ys : List β} (i : Nat), Paired F xs ys → Paired F (xs.set i x) (ys.set i y)
  | _, _, _, .nil => .nil
  | _, _, 0, .cons _ t => .cons r t
  | _, _, i + 1, .cons q t => .cons q (pr_set r i t)
theorem pr_dropLast {xs : List α} {ys : List β} (h : Paired F xs ys) : Paired F xs.dropLast ys.dropLast := by
  rw [List.dropLast_eq_take, List.dropLast_eq_take, h.length]
  exact pr_take _ h
theorem pr_erase : ∀ {xs : List α} {ys : List β} (i : Nat), Paired F xs ys → Paired F (xs.eraseIdx i) (ys.eraseIdx i)
  | _, _, _, .nil => .nil
  | _, _, 0, .cons _ t => t
  | _, _, i + 1, .cons q t => .cons q (pr_erase i t)
theorem pr_of : ∀ {xs : List α} {ys : List β}, xs.length = ys.length → (∀ (i : Nat) (x : α) (y : β), xs[i]? = some x → ys[i]? = some y → F x y) → Paired F xs ys
  | [], [], _, _ => .nil
  | [], _ :: _, h, _ => by simp at h
  | _ :: _, [], h, _ => by simp at h
  | x :: xs, y :: ys, h, k => .cons (k 0 x y rfl rfl) (pr_of (by simpa using h) fun i a b ha hb => k (i + 1) a b (by simpa using ha) (by simpa using hb))
theorem pr_rep {xs : List α} {ys : List β} (h : Paired F xs ys) : ∀ k : Nat, Paired F (List.replicate k xs).flatten (List.replicate k ys).flatten
  | 0 => .nil
  | k + 1 => by
    rw [List.replicate_succ, List.replicate_succ, List.flatten_cons, List.flatten_cons]
    exact pr_app h (pr_rep h k)
end

/-! ### data -/
/-- the value v is the datum, by objects of F alone -/
inductive Dq (F : Hp) : V → PyData → Prop
  | non : Dq F .non .none
  | bl (b : Bool) : Dq F (.bl b) (.bool b)
  | int (i : Int) : Dq F (.int i) (.int i)
  | str (x : Str) : Dq F (.str x) (.str x)
  | lst {a : Addr} {vs : List V} {ds : List PyData} (h : F a = some (.lst vs)) (l : vs.length = ds.length) (k : ∀ (i : Nat) (v : V) (d : PyData), vs[i]? = some v → ds[i]? = some d → Dq F v d) : Dq F (.ref a) (.list ds)
  | tup {a : Addr} {vs : List V} {ds : List PyData} (h : F a = some (.tup vs)) (l : vs.length = ds.length) (k : ∀ (i : Nat) (v : V) (d : PyData), vs[i]? = some v → ds[i]? = some d → Dq F v d) : Dq F (.ref a) (.tuple ds)
abbrev DqA (F : Hp) : List V → List PyData → Prop := Paired (Dq F)
def Ex (H H' : Hp) : Prop := ∀ a o, H a = some o → H' a = some o
theorem Ex.refl (H : Hp) : Ex H H := fun _ _ h => h
theorem Ex.trans {H H1 H2 : Hp} (a : Ex H H1) (b : Ex H1 H2) : Ex H H2 := fun x o h => b x o (a x o h)
theorem Ex.new {H : Hp} {p : Addr} {o : HO} (h : H p = none) : Ex H (upd H p o) := fun a u e => by
  rw [upd_ne (ne_of_none e h)]
  exact e
theorem Ex.back {H H' : Hp} {p : Addr} (e : Ex H H') (h : H' p = none) : H p = none := by
  cases q : H p with
  | none => rfl
  | some o =>
    rw [e p o q] at h
    cases h
section
variable {F F' H : Hp} {v : V} {vs : List V} {d : PyData} {ds : List PyData} {K : Frag} {a : Addr}
theorem Dq.mono (e : Ex F F') (h : Dq F v d) : Dq F' v d := by
  induction h with
  | non => exact .non
  | bl b => exact .bl b
  | int i => exact .int i
  | str x => exact .str x
  | lst h l _ ih => exact .lst (e _ _ h) l ih
  | tup h l _ ih => exact .tup (e _ _ h) l ih
theorem DqA.mono (e : Ex F F') (h : DqA F vs ds) : DqA F' vs ds := pr_mono (fun _ _ => Dq.mono e) h
theorem Dq.list (h : F a = some (.lst vs)) (k : DqA F vs ds) : Dq F (.ref a) (.list ds) := .lst h k.length fun i v d hv hd => by
  obtain ⟨x, hx, r⟩ := pr_get k hd
  rw [hv] at hx
  cases hx
  exact r
theorem Dq.tuple (h : F a = some (.tup vs)) (k : DqA F vs ds) : Dq F (.ref a) (.tuple ds) := .tup h k.length fun i v d hv hd => by
  obtain ⟨x, hx, r⟩ := pr_get k hd
  rw [hv] at hx
  cases hx
  exact r
theorem Dq.inl (h : Dq F v (.list ds)) : ∃ a vs, v = .ref a ∧ F a = some (.lst vs) ∧ DqA F vs ds := by
  cases h with
  | lst h l k => exact ⟨_, _, rfl, h, pr_of l k⟩
theorem Dq.int_ {i : Int} (h : Dq F v (.int i)) : v = .int i := by
  cases h with
  | int _ => rfl
theorem Dq.str_ {x : Str} (h : Dq F v (.str x)) : v = .str x := by
  cases h with
  | str _ => rfl
theorem Dq.bl_ {b : Bool} (h : Dq F v (.bool b)) : v = .bl b := by
  cases h with
  | bl _ => rfl
theorem Dq.non_ (h : Dq F v .none) : v = .non := by
  cases h with
  | non => rfl
theorem Dq.int_tup (h : Dq F v (.tuple ds)) : ∃ a vs, v = .ref a ∧ F a = some (.tup vs) ∧ DqA F vs ds := by
  cases h with
  | tup h l k => exact ⟨_, _, rfl, h, pr_of l k⟩
theorem dpAll_of : ∀ {ds : List PyData} {vs : List V}, vs.length = ds.length → (∀ (i : Nat) (v : V) (d : PyData), vs[i]? = some v → ds[i]? = some d → Dp K F v d) → DpAll K F vs ds
  | [], [], _, _ => .nil
  | [], _ :: _, h, _ => by simp at h
  | _ :: _, [], h, _ => by simp at h
  | d :: ds, v :: vs, h, k => .cons (k 0 v d rfl rfl) (dpAll_of (by simpa using h) fun i a b ha hb => k (i + 1) a b (by simpa using ha) (by simpa using hb))
theorem Dq.dp (h : Dq F v d) : Dp K F v d := by
  induction h with
  | non => exact .non
  | bl b => exact .bl b
  | int i => exact .int i
  | str x => exact .str x
  | lst h l _ ih => exact .lst (SqL.of h) (dpAll_of l ih)
  | tup h l _ ih => exact .tup (SqT.of h) (dpAll_of l ih)
end

/-! ### slots -/
/-- what is known of a slot: nothing; a datum; a list of this def's own; a list of the caller's that is changed here; the script; a value as it is -/
inductive Sl where
  | no | d (x : PyData) | own (xs : List PyData) | ref (xs : List PyData) | sc (ns : List Int) | v (u : V)
abbrev En := List Sl
def Sl.mut : Sl → Bool
  | .own _ => true
  | .ref _ => true
  | _ => false
def Sl.isRef : Sl → Bool
  | .ref _ => true
  | _ => false
/-- a list that may change: none of F's, none of B's -/
def MutL (B F H : Hp) (o : Option V) (xs : List PyData) : Prop := ∃ a vs, o = some (.ref a) ∧ F a = none ∧ B a = none ∧ H a = some (.lst vs) ∧ DqA F vs xs
def SlOk (K : Frag) (B F H : Hp) (o : Option V) : Sl → Prop
  | .no => True
  | .d x => ∃ v, o = some v ∧ Dq F v x
  | .own xs => MutL B F H o xs
  | .ref xs => MutL B F H o xs
  | .sc ns => ∃ a, o = some (.ref a) ∧ SqL K F a (ns.map V.int)
  | .v u => o = some u
/-- F: what stands for good; B: what belongs to others; H: all -/
structure Ok (K : Frag) (B F H : Hp) (σ : St) (Δ : En) : Prop where
  fh : Ex F H
  bh : Ex B H
  bf : ∀ a, B a ≠ none → F a = none
  len : σ.length = Δ.length
  sl : ∀ (i : Nat) (s : Sl), Δ[i]? = some s → ∃ o, σ[i]? = some o ∧ SlOk K B F H o s
  nd : ∀ (i j : Nat) (s t : Sl) (a : Addr), Δ[i]? = some s → Δ[j]? = some t → s.mut = true → t.mut = true → σ[i]? = some (some (.ref a)) → σ[j]? = some (some (.ref a)) → i = j
/-- what an expression comes to: a datum; a list made there; a slot's own value; the script -/
inductive Tm where
  | d (x : PyData) | l (xs : List PyData)
inductive R where
  | d (x : PyData) | nl (xs : List PyData) | sl (i : Nat) | nt (i j : Tm)
def NotMut (σ : St) (Δ : En) (a : Addr) : Prop := ∀ (i : Nat) (s : Sl), Δ[i]? = some s → s.mut = true → σ[i]? ≠ some (some (.ref a))
/-- a part of a tuple made here: a datum, a list made here -/
def TmOk (B F H : Hp) (σ : St) (Δ : En) (v : V) : Tm → Prop
  | .d x => Dq F v x
  | .l xs => ∃ a vs, v = .ref a ∧ F a = none ∧ B a = none ∧ H a = some (.lst vs) ∧ DqA F vs xs ∧ NotMut σ Δ a
def Tm.isL : Tm → Bool
  | .d _ => false
  | .l _ => true
def Tm.dt : Tm → PyData
  | .d x => x
  | .l xs => .list xs
def Res (B F H : Hp) (σ : St) (Δ : En) (v : V) : R → Prop
  | .d x => Dq F v x
  | .nl xs => ∃ a vs, v = .ref a ∧ F a = none ∧ B a = none ∧ H a = some (.lst vs) ∧ DqA F vs xs ∧ NotMut σ Δ a
  | .sl i => σ[i]? = some (some v)
  | .nt i j => ∃ a v1 v2, v = .ref a ∧ F a = none ∧ B a = none ∧ H a = some (.tup [v1, v2]) ∧ TmOk B F H σ Δ v1 i ∧ TmOk B F H σ Δ v2 j ∧ (i.isL = true → j.isL = true → v1 ≠ v2) ∧ NotMut σ Δ a
def tE (K : Frag) (Δ : En) (r : R) (Δ' : En) : TE := fun σ H Q => ∃ B F, Ok K B F H σ Δ ∧ ∀ v F' H', Ok K B F' H' σ Δ' → Ex F F' → Res B F' H' σ Δ' v r → Q v H'
def tT (K : Frag) (Δ : En) (b : Bool) (Δ' : En) : TT := fun σ H Q => ∃ B F, Ok K B F H σ Δ ∧ ∀ F' H', Ok K B F' H' σ Δ' → Ex F F' → Q b H'
def DE (X : Cx) (Δ : En) (e : Expr) (r : R) (Δ' : En) : Prop := PE X e (tE X.K Δ r Δ')
def DT (X : Cx) (Δ : En) (e : Expr) (b : Bool) (Δ' : En) : Prop := PT X e (tT X.K Δ b Δ')
/-- how a block ends -/
inductive Out where
  | nx (Δ : En) | rt (Δ : En) (r : R) | bk (Δ : En) | ct (Δ : En) | xc (Δ : En) (C : Addr)
/-- the caller's lists stay in their slots -/
def Kp (Δ Δ' : En) (σ σ' : St) : Prop := ∀ (i : Nat) (xs : List PyData), Δ[i]? = some (.ref xs) → σ'[i]? = σ[i]? ∧ ∃ ys, Δ'[i]? = some (.ref ys)
def Post (K : Frag) (W : WX) (B F : Hp) (σ : St) (Δ : En) (D : Ends) : Out → Prop
  | .nx Δ' => ∀ σ' F' H', Ok K B F' H' σ' Δ' → Ex F F' → Kp Δ Δ' σ σ' → D.nx σ' H'
  | .rt Δ' r => ∀ v σ' F' H', Ok K B F' H' σ' Δ' → Ex F F' → Kp Δ Δ' σ σ' → Res B F' H' σ' Δ' v r → D.rt v H'
  | .bk Δ' => ∀ σ' F' H', Ok K B F' H' σ' Δ' → Ex F F' → Kp Δ Δ' σ σ' → D.bk σ' H'
  | .ct Δ' => ∀ σ' F' H', Ok K B F' H' σ' Δ' → Ex F F' → Kp Δ Δ' σ σ' → D.ct σ' H'
  | .xc Δ' C => ∀ σ' F' H', Ok K B F' H' σ' Δ' → Ex F F' → Kp Δ Δ' σ σ' → W (.ref C) none σ' H'
def tS (K : Frag) (W : WX) (Δ : En) (o : Out) : TS := fun D σ H => ∃ B F, Ok K B F H σ Δ ∧ Post K W B F σ Δ D o
def DS1 (X : Cx) (W : WX) (Δ : En) (st : Stmt) (o : Out) : Prop := PS X st (tS X.K W Δ o)
def DS (X : Cx) (W : WX) (Δ : En) (sts : List Stmt) (o : Out) : Prop := PSs X sts (tS X.K W Δ o)
/-- for all contexts of a family, the same end -/
def Go1 {ι : Type} (X : ι → Cx) (W : ι → WX) (Δ : En) (st : Stmt) (P : Out → Prop) : Prop := ∃ o, P o ∧ ∀ q, DS1 (X q) (W q) Δ st o
def Go {ι : Type} (X : ι → Cx) (W : ι → WX) (Δ : En) (sts : List Stmt) (P : Out → Prop) : Prop := ∃ o, P o ∧ ∀ q, DS (X q) (W q) Δ sts o
end Tr
namespace Tr
open PySem L2
section
variable {K : Frag} {B B' F F' H H' : Hp} {σ : St} {Δ Δ' : En} {i : Nat} {a p : Addr} {o : HO} {v : V} {x : PyData} {xs ys : List PyData} {vs : List V}
theorem Ok.rd (h : Ok K B F H σ Δ) (e : Δ[i]? = some (.d x)) : ∃ v, σ[i]? = some (some v) ∧ Dq F v x := by
  obtain ⟨o, h1, v, rfl, h2⟩ := h.sl i _ e
  exact ⟨v, h1, h2⟩
theorem Ok.rm (h : Ok K B F H σ Δ) {s : Sl} (e : Δ[i]? = some s) (hs : s = .own xs ∨ s = .ref xs) : ∃ a vs, σ[i]? = some (some (.ref a)) ∧ F a = none ∧ B a = none ∧ H a = some (.lst vs) ∧ DqA F vs xs := by
  obtain ⟨o, h1, h2⟩ := h.sl i _ e
  rcases hs with rfl | rfl
  · obtain ⟨a, vs, rfl, r⟩ := (show MutL B F H o xs from h2)
    exact ⟨a, vs, h1, r⟩
  · obtain ⟨a, vs, rfl, r⟩ := (show MutL B F H o xs from h2)
    exact ⟨a, vs, h1, r⟩
theorem MutL.keep {o : Option V} (h : MutL B F H o xs) (ef : Ex F F') (hf : ∀ a vs, o = some (.ref a) → F a = none → H a = some (.lst vs) → F' a = none ∧ H' a = some (.lst vs)) : MutL B F' H' o xs := by
  obtain ⟨a, vs, rfl, h1, h2, h3, h4⟩ := h
  obtain ⟨q1, q2⟩ := hf a vs rfl h1 h3
  exact ⟨a, vs, rfl, q1, h2, q2, h4.mono ef⟩
theorem SlOk.keep {o : Option V} {s : Sl} (h : SlOk K B F H o s) (ef : Ex F F') (hf : s.mut = true → ∀ a vs, o = some (.ref a) → F a = none → H a = some (.lst vs) → F' a = none ∧ H' a = some (.lst vs)) : SlOk K B F' H' o s := by
  cases s with
  | no => trivial
  | d x =>
    obtain ⟨v, rfl, r⟩ := (show ∃ v, o = some v ∧ Dq F v x from h)
    exact ⟨v, rfl, r.mono ef⟩
  | own xs => exact (show MutL B F H o xs from h).keep ef (hf rfl)
  | ref xs => exact (show MutL B F H o xs from h).keep ef (hf rfl)
  | sc ns =>
    obtain ⟨a, rfl, r⟩ := (show ∃ a, o = some (.ref a) ∧ SqL K F a (ns.map V.int) from h)
    refine ⟨a, rfl, ?_⟩
    rcases r with (r | ⟨u, r⟩) | r
    · exact .inl (.inl (ef _ _ r))
    · exact .inl (.inr ⟨u, ef _ _ r⟩)
    · exact .inr r
  | v u => exact h
/-- a new object, not frozen -/
theorem Ok.new (h : Ok K B F H σ Δ) (hp : H p = none) : Ok K B F (upd H p o) σ Δ :=
  ⟨h.fh.trans (.new hp), h.bh.trans (.new hp), h.bf, h.len, fun i s e => by
    obtain ⟨u, h1, h2⟩ := h.sl i s e
    exact ⟨u, h1, h2.keep (.refl _) fun _ a vs _ hf hl => ⟨hf, by rw [upd_ne (ne_of_none hl hp)]; exact hl⟩⟩, h.nd⟩
theorem none_of {H : Hp} {a b : Addr} {u : HO} (h : H a = some u) (h' : H b = none) : a ≠ b := ne_of_none h h'
/-- what is laid is frozen -/
theorem Ok.ice (h : Ok K B F H σ Δ) (hf : F p = none) (hb : B p = none) (hp : H p = some o) (nm : NotMut σ Δ p) : Ok K B (upd F p o) H σ Δ := by
  refine ⟨fun a u e => ?_, h.bh, fun a hb' => ?_, h.len, fun i s e => ?_, h.nd⟩
  · by_cases ha : a = p
    · subst ha; rw [upd_same] at e; cases e; exact hp
    · rw [upd_ne ha] at e; exact h.fh a u e
  · have ha : a ≠ p := fun z => by subst z; exact hb' hb
    rw [upd_ne ha]; exact h.bf a hb'
  · obtain ⟨u, h1, h2⟩ := h.sl i s e
    refine ⟨u, h1, h2.keep (.new hf) fun hm a vs ho h3 h4 => ⟨?_, h4⟩⟩
    have ha : a ≠ p := fun z => by subst z; exact nm i s e hm (by rw [h1, ho])
    rw [upd_ne ha]; exact h3
theorem Ok.notNew (h : Ok K B F H σ Δ) (hp : H p = none) : NotMut σ Δ p := fun i s e hm q => by
  obtain ⟨u, h1, h2⟩ := h.sl i s e
  have : u = some (.ref p) := Option.some.inj (h1.symm.trans q)
  subst this
  cases s with
  | own xs =>
    obtain ⟨a, vs, e1, _, _, h3, _⟩ := (show MutL B F H _ xs from h2)
    cases e1
    rw [hp] at h3; cases h3
  | ref xs =>
    obtain ⟨a, vs, e1, _, _, h3, _⟩ := (show MutL B F H _ xs from h2)
    cases e1
    rw [hp] at h3; cases h3
  | no => cases hm
  | d x => cases hm
  | sc ns => cases hm
  | v u => cases hm
theorem Ok.fresh (h : Ok K B F H σ Δ) (hp : H p = none) : F p = none ∧ B p = none := ⟨h.fh.back hp, h.bh.back hp⟩
/-- laid and frozen -/
theorem Ok.laid (h : Ok K B F H σ Δ) (hp : H p = none) : Ok K B (upd F p o) (upd H p o) σ Δ :=
  (h.new hp).ice (h.fresh hp).1 (h.fresh hp).2 upd_same (h.notNew hp)
theorem Ok.weakB (h : Ok K B' F H σ Δ) (e : Ex B B') : Ok K B F H σ Δ := by
  have bn : ∀ a, B' a = none → B a = none := fun a q => e.back q
  refine ⟨h.fh, e.trans h.bh, fun a hb => h.bf a fun z => hb (bn a z), h.len, fun i s es => ?_, h.nd⟩
  obtain ⟨o, h1, h2⟩ := h.sl i s es
  refine ⟨o, h1, ?_⟩
  cases s with
  | no => trivial
  | d x => exact h2
  | own xs =>
    obtain ⟨a, vs, e1, q1, q2, q3, q4⟩ := (show MutL B' F H o xs from h2)
    exact ⟨a, vs, e1, q1, bn a q2, q3, q4⟩
  | ref xs =>
    obtain ⟨a, vs, e1, q1, q2, q3, q4⟩ := (show MutL B' F H o xs from h2)
    exact ⟨a, vs, e1, q1, bn a q2, q3, q4⟩
  | sc ns => exact h2
  | v u => exact h2
/-- a list in flight -/
theorem Ok.addB (h : Ok K B F H σ Δ) (hf : F p = none) (hp : H p = some o) (nm : NotMut σ Δ p) : Ok K (upd B p o) F H σ Δ := by
  refine ⟨h.fh, fun a u e => ?_, fun a hb => ?_, h.len, fun i s es => ?_, h.nd⟩
  · by_cases ha : a = p
    · subst ha; rw [upd_same] at e; cases e; exact hp
    · rw [upd_ne ha] at e; exact h.bh a u e
  · by_cases ha : a = p
    · subst ha; exact hf
    · rw [upd_ne ha] at hb; exact h.bf a hb
  · obtain ⟨u, h1, h2⟩ := h.sl i s es
    refine ⟨u, h1, ?_⟩
    have ne : ∀ a, s.mut = true → u = some (.ref a) → a ≠ p := fun a hm ho z => by subst z; exact nm i s es hm (by rw [h1, ho])
    cases s with
    | no => trivial
    | d x => exact h2
    | own xs =>
      obtain ⟨a, vs, e1, q1, q2, q3, q4⟩ := (show MutL B F H u xs from h2)
      exact ⟨a, vs, e1, q1, by rw [upd_ne (ne a rfl e1)]; exact q2, q3, q4⟩
    | ref xs =>
      obtain ⟨a, vs, e1, q1, q2, q3, q4⟩ := (show MutL B F H u xs from h2)
      exact ⟨a, vs, e1, q1, by rw [upd_ne (ne a rfl e1)]; exact q2, q3, q4⟩
    | sc ns => exact h2
    | v u => exact h2
theorem Ok.notB (h : Ok K B F H σ Δ) (hb : B p ≠ none) : NotMut σ Δ p := fun i s e hm q => by
  obtain ⟨u, h1, h2⟩ := h.sl i s e
  have : u = some (.ref p) := Option.some.inj (h1.symm.trans q)
  subst this
  cases s with
  | own xs =>
    obtain ⟨a, vs, e1, _, h3, _⟩ := (show MutL B F H _ xs from h2)
    cases e1
    exact hb h3
  | ref xs =>
    obtain ⟨a, vs, e1, _, h3, _⟩ := (show MutL B F H _ xs from h2)
    cases e1
    exact hb h3
  | no => cases hm
  | d x => cases hm
  | sc ns => cases hm
  | v u => cases hm
theorem Ok.notF (h : Ok K B F H σ Δ) (hb : F p ≠ none) : NotMut σ Δ p := fun i s e hm q => by
  obtain ⟨u, h1, h2⟩ := h.sl i s e
  have : u = some (.ref p) := Option.some.inj (h1.symm.trans q)
  subst this
  cases s with
  | own xs =>
    obtain ⟨a, vs, e1, h3, _⟩ := (show MutL B F H _ xs from h2)
    cases e1
    exact hb h3
  | ref xs =>
    obtain ⟨a, vs, e1, h3, _⟩ := (show MutL B F H _ xs from h2)
    cases e1
    exact hb h3
  | no => cases hm
  | d x => cases hm
  | sc ns => cases hm
  | v u => cases hm

/-- a slot is stored -/
theorem Ok.put (h : Ok K B F H σ Δ) {s : Sl} (hs : SlOk K B F H (some v) s) (hn : s.mut = true → ∀ a, v = .ref a → NotMut σ Δ a) : Ok K B F H (σ.set i (some v)) (Δ.set i s) := by
  have hl := h.len
  refine ⟨h.fh, h.bh, h.bf, by simp [hl], fun j t e => ?_, fun j k t u a e1 e2 m1 m2 r1 r2 => ?_⟩
  · by_cases hj : j = i
    · subst hj
      have hi : j < Δ.length := by
        have := (List.getElem?_eq_some_iff.mp e).1
        simpa using this
      rw [List.getElem?_set_self hi] at e
      cases e
      exact ⟨some v, by rw [List.getElem?_set_self (by omega)], hs⟩
    · rw [List.getElem?_set_ne (Ne.symm hj)] at e
      obtain ⟨o, h1, h2⟩ := h.sl j t e
      exact ⟨o, by rw [List.getElem?_set_ne (Ne.symm hj)]; exact h1, h2⟩
  · have lt : ∀ {k : Nat} {t : Sl}, (Δ.set i s)[k]? = some t → k < Δ.length := fun {k t} e => by
      have := (List.getElem?_eq_some_iff.mp e).1
      simpa using this
    by_cases hj : j = i
    · by_cases hk : k = i
      · exact hj.trans hk.symm
      · exfalso
        have := lt e1
        subst hj
        rw [List.getElem?_set_self (by omega)] at e1 r1
        rw [List.getElem?_set_ne (Ne.symm hk)] at e2 r2
        cases e1
        have ev : v = .ref a := by simpa using r1
        exact hn m1 a ev k u e2 m2 r2
    · by_cases hk : k = i
      · exfalso
        have := lt e2
        subst hk
        rw [List.getElem?_set_self (by omega)] at e2 r2
        rw [List.getElem?_set_ne (Ne.symm hj)] at e1 r1
        cases e2
        have ev : v = .ref a := by simpa using r2
        exact hn m2 a ev j t e1 m1 r1
      · rw [List.getElem?_set_ne (Ne.symm hj)] at e1 r1
        rw [List.getElem?_set_ne (Ne.symm hk)] at e2 r2
        exact h.nd j k t u a e1 e2 m1 m2 r1 r2
/-- a slot's words are weakened, the slots stay -/
theorem Ok.re (h : Ok K B F H σ Δ) {s : Sl} (hs : ∀ o, σ[i]? = some o → SlOk K B F H o s) (hm : s.mut = true → ∃ t, Δ[i]? = some t ∧ t.mut = true) : Ok K B F H σ (Δ.set i s) := by
  refine ⟨h.fh, h.bh, h.bf, by simp [h.len], fun j t e => ?_, fun j k t u a e1 e2 m1 m2 r1 r2 => ?_⟩
  · by_cases hj : j = i
    · subst hj
      have hi : j < Δ.length := by
        have := (List.getElem?_eq_some_iff.mp e).1
        simpa using this
      rw [List.getElem?_set_self hi] at e
      cases e
      have hl := h.len
      have : j < σ.length := by omega
      exact ⟨σ[j], by rw [List.getElem?_eq_getElem this], hs _ (by rw [List.getElem?_eq_getElem this])⟩
    · rw [List.getElem?_set_ne (Ne.symm hj)] at e
      exact h.sl j t e
  · have back : ∀ {k : Nat} {t : Sl}, (Δ.set i s)[k]? = some t → t.mut = true → ∃ t', Δ[k]? = some t' ∧ t'.mut = true := fun {k t} e m => by
      by_cases hk : k = i
      · subst hk
        have hi : k < Δ.length := by
          have := (List.getElem?_eq_some_iff.mp e).1
          simpa using this
        rw [List.getElem?_set_self hi] at e
        cases e
        exact hm m
      · rw [List.getElem?_set_ne (Ne.symm hk)] at e
        exact ⟨t, e, m⟩
    obtain ⟨t', e1', m1'⟩ := back e1 m1
    obtain ⟨u', e2', m2'⟩ := back e2 m2
    exact h.nd j k t' u' a e1' e2' m1' m2' r1 r2
theorem Ok.forget (h : Ok K B F H σ Δ) : Ok K B F H σ (Δ.set i .no) := h.re (fun _ _ => trivial) (fun z => nomatch z)
/-- a list of this def's is changed -/
theorem Ok.write (h : Ok K B F H σ Δ) {s s' : Sl} (e : Δ[i]? = some s) (hs : (s = .own xs ∧ s' = .own ys) ∨ (s = .ref xs ∧ s' = .ref ys)) (hv : σ[i]? = some (some (.ref a))) (hl : DqA F vs ys) (hf : F a = none) (hb : B a = none) :
    Ok K B F (upd H a (.lst vs)) σ (Δ.set i s') := by
  have hm : s.mut = true := by rcases hs with ⟨rfl, _⟩ | ⟨rfl, _⟩ <;> rfl
  have hm' : s'.mut = true := by rcases hs with ⟨_, rfl⟩ | ⟨_, rfl⟩ <;> rfl
  have key : Ok K B F (upd H a (.lst vs)) σ (Δ.set i .no) := by
    refine ⟨fun b u q => ?_, fun b u q => ?_, h.bf, by simp [h.len], fun j t ej => ?_, fun j k t u b e1 e2 m1 m2 r1 r2 => ?_⟩
    · rw [upd_ne (none_of q hf)]; exact h.fh b u q
    · rw [upd_ne (none_of q hb)]; exact h.bh b u q
    · by_cases hj : j = i
      · subst hj
        have hi : j < Δ.length := (List.getElem?_eq_some_iff.mp e).1
        rw [List.getElem?_set_self hi] at ej
        cases ej
        exact ⟨_, hv, trivial⟩
      · rw [List.getElem?_set_ne (Ne.symm hj)] at ej
        obtain ⟨o, h1, h2⟩ := h.sl j t ej
        refine ⟨o, h1, h2.keep (.refl _) fun hmt b ws ho h3 h4 => ⟨h3, ?_⟩⟩
        have hb' : b ≠ a := fun z => by subst z; exact hj (h.nd j i t s b ej e hmt hm (by rw [h1, ho]) hv)
        rw [upd_ne hb']; exact h4
    · have ne : ∀ {k : Nat} {t : Sl}, (Δ.set i Sl.no)[k]? = some t → t.mut = true → Δ[k]? = some t := fun {k t} e m => by
        by_cases hk : k = i
        · subst hk
          have hi : k < Δ.length := by
            have := (List.getElem?_eq_some_iff.mp e).1
            simpa using this
          rw [List.getElem?_set_self hi] at e
          cases e
          cases m
        · rw [List.getElem?_set_ne (Ne.symm hk)] at e
          exact e
      exact h.nd j k t u b (ne e1 m1) (ne e2 m2) m1 m2 r1 r2
  -- and the slot itself
  have mu : MutL B F (upd H a (.lst vs)) (some (.ref a)) ys := ⟨a, vs, rfl, hf, hb, upd_same, hl⟩
  refine ⟨key.fh, key.bh, key.bf, by simp [h.len], fun j t ej => ?_, fun j k t u b e1 e2 m1 m2 r1 r2 => ?_⟩
  · by_cases hj : j = i
    · subst hj
      have hi : j < Δ.length := (List.getElem?_eq_some_iff.mp e).1
      rw [List.getElem?_set_self hi] at ej
      cases ej
      refine ⟨_, hv, ?_⟩
      rcases hs with ⟨_, rfl⟩ | ⟨_, rfl⟩
      · exact mu
      · exact mu
    · refine key.sl j t ?_
      rw [List.getElem?_set_ne (Ne.symm hj)] at ej ⊢
      exact ej
  · have back : ∀ {k : Nat} {t : Sl}, (Δ.set i s')[k]? = some t → t.mut = true → ∃ t', Δ[k]? = some t' ∧ t'.mut = true := fun {k t} e' m => by
      by_cases hk : k = i
      · subst hk
        exact ⟨s, e, hm⟩
      · rw [List.getElem?_set_ne (Ne.symm hk)] at e'
        exact ⟨t, e', m⟩
    obtain ⟨t', e1', m1'⟩ := back e1 m1
    obtain ⟨u', e2', m2'⟩ := back e2 m2
    exact h.nd j k t' u' b e1' e2' m1' m2' r1 r2
/-- an own list is frozen where it stands -/
theorem Ok.iceSlot (h : Ok K B F H σ Δ) (e : Δ[i]? = some (.own xs)) : ∃ a vs, σ[i]? = some (some (.ref a)) ∧ H a = some (.lst vs) ∧ F a = none ∧ Ok K B (upd F a (.lst vs)) H σ (Δ.set i (.d (.list xs))) ∧ Dq (upd F a (.lst vs)) (.ref a) (.list xs) := by
  obtain ⟨a, vs, h1, h2, h3, h4, h5⟩ := h.rm e (.inl rfl)
  have k1 : Ok K B F H σ (Δ.set i .no) := h.forget
  have nm : NotMut σ (Δ.set i .no) a := fun j s ej hm q => by
    by_cases hj : j = i
    · subst hj
      have hi : j < Δ.length := (List.getElem?_eq_some_iff.mp e).1
      rw [List.getElem?_set_self hi] at ej
      cases ej
      cases hm
    · rw [List.getElem?_set_ne (Ne.symm hj)] at ej
      exact hj (h.nd j i s _ a ej e hm rfl q h1)
  have k2 := k1.ice h2 h3 h4 nm
  have d : Dq (upd F a (.lst vs)) (.ref a) (.list xs) := .list upd_same (h5.mono (.new h2))
  have k3 := k2.re (i := i) (s := .d (.list xs)) (fun o ho => ⟨.ref a, by rw [h1] at ho; exact (Option.some.inj ho).symm, d⟩) (fun z => nomatch z)
  rw [List.set_set] at k3
  exact ⟨a, vs, h1, h4, h2, k3, d⟩
end
end Tr
namespace Tr
open PySem L2
/-! ### weaker readings -/
section
variable {X : Cx} {e : Expr} {es : List Expr} {st : Stmt} {sts : List Stmt}
theorem pe_imp {t t' : TE} (h : PE X e t) (k : ∀ σ H Q, t' σ H Q → t σ H Q) : PE X e t' := ⟨fun pins s σ H Q I w => h.run pins s σ H Q I (k _ _ _ w)⟩
theorem pt_imp {t t' : TT} (h : PT X e t) (k : ∀ σ H Q, t' σ H Q → t σ H Q) : PT X e t' := ⟨fun pins s σ H Q I w => h.run pins s σ H Q I (k _ _ _ w)⟩
theorem pa_imp {t t' : TA} (h : PA X es t) (k : ∀ σ H Q, t' σ H Q → t σ H Q) : PA X es t' := ⟨fun pos pins s σ H Q I w => h.run pos pins s σ H Q I (k _ _ _ w)⟩
theorem ps_imp {t t' : TS} (h : PS X st t) (k : ∀ D σ H, t' D σ H → t D σ H) : PS X st t' := ⟨fun pins s σ H D I w => h.run pins s σ H D I (k _ _ _ w)⟩
theorem pss_imp {t t' : TS} (h : PSs X sts t) (k : ∀ D σ H, t' D σ H → t D σ H) : PSs X sts t' := ⟨fun pins s σ H D I w => h.run pins s σ H D I (k _ _ _ w)⟩
end
/-- the caller's lists stay where they are -/
def RK (Δ Δ' : En) : Prop := ∀ (i : Nat) (xs : List PyData), Δ[i]? = some (.ref xs) → ∃ ys, Δ'[i]? = some (.ref ys)
theorem RK.rfl {Δ : En} : RK Δ Δ := fun _ xs h => ⟨xs, h⟩
theorem RK.trans {a b c : En} (h : RK a b) (k : RK b c) : RK a c := fun i xs e => by
  obtain ⟨ys, e⟩ := h i xs e
  exact k i ys e
/-- e comes to r; the slots are then Δ' -/
structure DEx (X : Cx) (Δ : En) (e : Expr) (r : R) (Δ' : En) : Prop where
  rk : RK Δ Δ'
  pe : PE X e (tE X.K Δ r Δ')
structure DTx (X : Cx) (Δ : En) (e : Expr) (b : Bool) (Δ' : En) : Prop where
  rk : RK Δ Δ'
  pt : PT X e (tT X.K Δ b Δ')
/-- arguments: data and slots -/
def tA (K : Frag) (Δ : En) (rs : List R) (Δ' : En) : TA := fun σ H Q => ∃ B F, Ok K B F H σ Δ ∧ ∀ vs F' H', Ok K B F' H' σ Δ' → Ex F F' → Paired (Res B F' H' σ Δ') vs rs → Q vs H'
structure DAx (X : Cx) (Δ : En) (es : List Expr) (rs : List R) (Δ' : En) : Prop where
  rk : RK Δ Δ'
  pa : PA X es (tA X.K Δ rs Δ')
def lite : R → Bool
  | .nl _ => false
  | .nt _ _ => false
  | _ => true
def Sl.rd : Sl → Option PyData
  | .d x => some x
  | .own xs => some (.list xs)
  | .ref xs => some (.list xs)
  | _ => none
def rdOf (Δ : En) : R → Option PyData
  | .d x => some x
  | .nl _ => none
  | .nt _ _ => none
  | .sl i => Δ[i]?.bind Sl.rd
theorem rd_sl {Δ : En} {i : Nat} {x : PyData} (e : rdOf Δ (.sl i) = some x) : Δ[i]? = some (.d x) ∨ ∃ xs, x = .list xs ∧ (Δ[i]? = some (.own xs) ∨ Δ[i]? = some (.ref xs)) := by
  have e : Δ[i]?.bind Sl.rd = some x := e
  cases h : Δ[i]? with
  | none => rw [h] at e; cases e
  | some s =>
    rw [h] at e
    have e : s.rd = some x := e
    cases s with
    | d y => cases e; exact .inl rfl
    | own xs => cases e; exact .inr ⟨xs, rfl, .inl rfl⟩
    | ref xs => cases e; exact .inr ⟨xs, rfl, .inr rfl⟩
    | no => cases e
    | sc ns => cases e
    | v u => cases e
section
variable {K : Frag} {B B' F F' H H' : Hp} {σ : St} {Δ Δ' : En} {v : V} {x : PyData} {xs : List PyData} {r : R}
theorem Res.keep (hr : lite r = true) (e : Ex F F') (h : Res B F H σ Δ v r) : Res B' F' H' σ Δ' v r := by
  cases r with
  | d x => exact Dq.mono e h
  | nl xs => cases hr
  | nt i j => cases hr
  | sl i => exact h
theorem rd_list (ok : Ok K B F H σ Δ) (h : Res B F H σ Δ v r) (e : rdOf Δ r = some (.list xs)) : ∃ a vs, v = .ref a ∧ H a = some (.lst vs) ∧ DqA F vs xs := by
  cases r with
  | d x =>
    cases e
    obtain ⟨a, vs, rfl, h1, h2⟩ := Dq.inl h
    exact ⟨a, vs, rfl, ok.fh _ _ h1, h2⟩
  | nl xs => cases e
  | nt i j => cases e
  | sl i =>
    have hv : σ[i]? = some (some v) := h
    rcases rd_sl e with es | ⟨ys, ey, es⟩
    · obtain ⟨w, h1, h2⟩ := ok.rd es
      rw [hv] at h1
      cases h1
      obtain ⟨a, vs, rfl, h3, h4⟩ := Dq.inl h2
      exact ⟨a, vs, rfl, ok.fh _ _ h3, h4⟩
    · cases ey
      have key : ∀ {s : Sl}, Δ[i]? = some s → (s = .own xs ∨ s = .ref xs) → ∃ a vs, v = .ref a ∧ H a = some (.lst vs) ∧ DqA F vs xs := fun {s} es hs => by
        obtain ⟨a, vs, h1, _, _, h2, h3⟩ := ok.rm es hs
        rw [hv] at h1
        cases h1
        exact ⟨a, vs, rfl, h2, h3⟩
      rcases es with es | es
      · exact key es (.inl rfl)
      · exact key es (.inr rfl)
theorem rd_dq (ok : Ok K B F H σ Δ) (h : Res B F H σ Δ v r) (e : rdOf Δ r = some x) : Dq H v x := by
  cases r with
  | d x => cases e; exact Dq.mono ok.fh h
  | nl xs => cases e
  | nt i j => cases e
  | sl i =>
    have hv : σ[i]? = some (some v) := h
    rcases rd_sl e with es | ⟨ys, ey, es⟩
    · obtain ⟨w, h1, h2⟩ := ok.rd es
      rw [hv] at h1
      cases h1
      exact h2.mono ok.fh
    · cases ey
      obtain ⟨a, vs, rfl, h1, h2⟩ := rd_list ok h e
      exact .list h1 (h2.mono ok.fh)
theorem rd_tup (ok : Ok K B F H σ Δ) (h : Res B F H σ Δ v r) (e : rdOf Δ r = some (.tuple xs)) : ∃ a vs, v = .ref a ∧ F a = some (.tup vs) ∧ DqA F vs xs := by
  cases r with
  | d x => cases e; exact Dq.int_tup h
  | nl xs => cases e
  | nt i j => cases e
  | sl i =>
    have hv : σ[i]? = some (some v) := h
    rcases rd_sl e with es | ⟨ys, ey, es⟩
    · obtain ⟨w, h1, h2⟩ := ok.rd es
      rw [hv] at h1
      cases h1
      exact Dq.int_tup h2
    · cases ey
end

section
variable {X : Cx} {Δ Δ1 Δ2 Δ3 : En} {a b c e : Expr} {es : List Expr} {r r1 r2 r3 : R} {rs : List R} {pos p : Pos} {i j : Int} {x y z : PyData} {xs ys : List PyData} {k l : Bool}
/-! ### constants, names -/
theorem de_int {n : Int} {kk} : DEx X Δ (.Constant (.int n) kk pos) (.d (.int n)) Δ := ⟨.rfl, pe_imp pe_int fun σ H Q ⟨B, F, ok, q⟩ => q _ _ _ ok (.refl _) (Dq.int n)⟩
theorem de_bool {n : Bool} {kk} : DEx X Δ (.Constant (.bool n) kk pos) (.d (.bool n)) Δ := ⟨.rfl, pe_imp pe_bl fun σ H Q ⟨B, F, ok, q⟩ => q _ _ _ ok (.refl _) (Dq.bl n)⟩
theorem de_none {kk} : DEx X Δ (.Constant .none kk pos) (.d .none) Δ := ⟨.rfl, pe_imp pe_non fun σ H Q ⟨B, F, ok, q⟩ => q _ _ _ ok (.refl _) Dq.non⟩
theorem de_str {n : Str} {kk} : DEx X Δ (.Constant (.str n) kk pos) (.d (.str n)) Δ := ⟨.rfl, pe_imp pe_str fun σ H Q ⟨B, F, ok, q⟩ => q _ _ _ ok (.refl _) (Dq.str n)⟩
/-- a name that holds a datum -/
theorem de_nm (i : Nat) {x : Str} {y : PyData} (hΔ : Δ[i]? = some (.d y) := by rfl) (hN : X.N[i]? = some x := by rfl) (hv : Vis X.env.scope x := by first | exact Or.inl rfl | exact Or.inr (Or.inl rfl) | exact Or.inr (Or.inr rfl)) (hd : (x == ("__debug__" : Str)) = false := by decide)
    (hcd : (x == ("__classdict__" : Str)) = false := by decide) : DEx X Δ (.Name x pos) (.d y) Δ := ⟨.rfl, pe_imp (pe_var hN hv hd hcd) fun σ H Q ⟨B, F, ok, q⟩ => by
  obtain ⟨v, h1, h2⟩ := ok.rd hΔ
  exact ⟨v, h1, q _ _ _ ok (.refl _) h2⟩⟩
def Sl.full : Sl → Bool
  | .no => false
  | _ => true
theorem Ok.full {K : Frag} {B F H : Hp} {σ : St} {Δ : En} {i : Nat} {s : Sl} (h : Ok K B F H σ Δ) (e : Δ[i]? = some s) (hs : s.full = true) : ∃ v, σ[i]? = some (some v) := by
  obtain ⟨o, h1, h2⟩ := h.sl i s e
  cases s with
  | no => cases hs
  | d x =>
    obtain ⟨v, rfl, _⟩ := (show ∃ v, o = some v ∧ Dq F v x from h2)
    exact ⟨v, h1⟩
  | own xs =>
    obtain ⟨a, vs, rfl, _⟩ := (show MutL B F H o xs from h2)
    exact ⟨_, h1⟩
  | ref xs =>
    obtain ⟨a, vs, rfl, _⟩ := (show MutL B F H o xs from h2)
    exact ⟨_, h1⟩
  | sc ns =>
    obtain ⟨a, rfl, _⟩ := (show ∃ a, o = some (.ref a) ∧ SqL K F a (ns.map V.int) from h2)
    exact ⟨_, h1⟩
  | v u =>
    have : o = some u := h2
    subst this
    exact ⟨_, h1⟩
/-- a name as it stands -/
theorem de_sl (i : Nat) {x : Str} {s : Sl} (hΔ : Δ[i]? = some s := by rfl) (hs : s.full = true := by rfl) (hN : X.N[i]? = some x := by rfl) (hv : Vis X.env.scope x := by first | exact Or.inl rfl | exact Or.inr (Or.inl rfl) | exact Or.inr (Or.inr rfl)) (hd : (x == ("__debug__" : Str)) = false := by decide)
    (hcd : (x == ("__classdict__" : Str)) = false := by decide) : DEx X Δ (.Name x pos) (.sl i) Δ := ⟨.rfl, pe_imp (pe_var hN hv hd hcd) fun σ H Q ⟨B, F, ok, q⟩ => by
  obtain ⟨v, h1⟩ := ok.full hΔ hs
  exact ⟨v, h1, q _ _ _ ok (.refl _) h1⟩⟩
theorem rk_set {i : Nat} {s t : Sl} (h : Δ[i]? = some s) (hs : s.isRef = false) : RK Δ (Δ.set i t) := fun j xs e => by
  by_cases hj : j = i
  · subst hj
    rw [h] at e
    cases e
    cases hs
  · exact ⟨xs, by rw [List.getElem?_set_ne (Ne.symm hj)]; exact e⟩
/-- an own list's name: frozen from here on -/
theorem de_ic (i : Nat) {x : Str} (hΔ : Δ[i]? = some (.own xs) := by rfl) (hN : X.N[i]? = some x := by rfl) (hv : Vis X.env.scope x := by first | exact Or.inl rfl | exact Or.inr (Or.inl rfl) | exact Or.inr (Or.inr rfl)) (hd : (x == ("__debug__" : Str)) = false := by decide)
    (hcd : (x == ("__classdict__" : Str)) = false := by decide) : DEx X Δ (.Name x pos) (.d (.list xs)) (Δ.set i (.d (.list xs))) := ⟨rk_set hΔ rfl, pe_imp (pe_var hN hv hd hcd) fun σ H Q ⟨B, F, ok, q⟩ => by
  obtain ⟨a, vs, h1, h2, h3, ok2, d⟩ := ok.iceSlot hΔ
  exact ⟨_, h1, q _ _ _ ok2 (.new h3) d⟩⟩
/-- an own list's name: moved away -/
theorem de_mv (i : Nat) {x : Str} (hΔ : Δ[i]? = some (.own xs) := by rfl) (hN : X.N[i]? = some x := by rfl) (hv : Vis X.env.scope x := by first | exact Or.inl rfl | exact Or.inr (Or.inl rfl) | exact Or.inr (Or.inr rfl)) (hd : (x == ("__debug__" : Str)) = false := by decide)
    (hcd : (x == ("__classdict__" : Str)) = false := by decide) : DEx X Δ (.Name x pos) (.nl xs) (Δ.set i .no) := ⟨rk_set hΔ rfl, pe_imp (pe_var hN hv hd hcd) fun σ H Q ⟨B, F, ok, q⟩ => by
  obtain ⟨a, vs, h1, h2, h3, h4, h5⟩ := ok.rm hΔ (.inl rfl)
  refine ⟨_, h1, q _ _ _ ok.forget (.refl _) ⟨a, vs, rfl, h2, h3, h4, h5, fun j s ej hm q => ?_⟩⟩
  by_cases hj : j = i
  · subst hj
    have hi : j < Δ.length := (List.getElem?_eq_some_iff.mp hΔ).1
    rw [List.getElem?_set_self hi] at ej
    cases ej
    cases hm
  · rw [List.getElem?_set_ne (Ne.symm hj)] at ej
    exact hj (ok.nd j i s _ a ej hΔ hm rfl q h1)⟩
/-- a list made here is frozen -/
theorem de_ice (h : DEx X Δ e (.nl xs) Δ1) : DEx X Δ e (.d (.list xs)) Δ1 := ⟨h.rk, pe_imp h.pe fun σ H Q ⟨B, F, ok, q⟩ => ⟨B, F, ok, fun v F' H' ok' ex ⟨a, vs, ev, hf, hb, hh, hd, nm⟩ => by
  subst ev
  exact q _ _ _ (ok'.ice hf hb hh nm) (ex.trans (.new hf)) (.list upd_same (hd.mono (.new hf)))⟩⟩

/-! ### two operands -/
/-- what an operation on two values gives -/
def Bn (K : Frag) (Δ : En) (r1 r2 : R) (rr : R2) (r3 : R) : Prop := ∀ (B F H : Hp) (σ : St) (v w : V) (Q : VK), Ok K B F H σ Δ → Res B F H σ Δ v r1 → Res B F H σ Δ w r2 → (∀ u F' H', Ok K B F' H' σ Δ → Ex F F' → Res B F' H' σ Δ u r3 → Q u H') → rr v w H Q
theorem two_ {rr : R2} (ha : DEx X Δ a r1 Δ1) (hb : DEx X Δ1 b r2 Δ2) (l1 : lite r1 = true) (hr : Bn X.K Δ2 r1 r2 rr r3) : ∀ σ H Q, tE X.K Δ r3 Δ2 σ H Q → tOp rr (tE X.K Δ r1 Δ1) (tE X.K Δ1 r2 Δ2) σ H Q := fun σ H Q ⟨B, F, ok, q⟩ =>
  ⟨B, F, ok, fun v F1 H1 ok1 ex1 hv => ⟨B, F1, ok1, fun w F2 H2 ok2 ex2 hw => hr B F2 H2 σ v w Q ok2 (hv.keep l1 ex2) hw fun u F3 H3 ok3 ex3 hu => q u F3 H3 ok3 ((ex1.trans ex2).trans ex3) hu⟩⟩
theorem de_bin {op : Operator} {rr : R2} (ho : OpR X (binaryOp op) rr) (ha : DEx X Δ a r1 Δ1) (hb : DEx X Δ1 b r2 Δ2) (l1 : lite r1 = true) (hr : Bn X.K Δ2 r1 r2 rr r3) : DEx X Δ (.BinOp a op b pos) r3 Δ2 :=
  ⟨ha.rk.trans hb.rk, pe_imp (pe_op ho ha.pe hb.pe) (two_ ha hb l1 hr)⟩
theorem de_cmp {op : CmpOp} {rr : R2} (ho : OpR X (compareOp op) rr) (ha : DEx X Δ a r1 Δ1) (hb : DEx X Δ1 b r2 Δ2) (l1 : lite r1 = true) (hm : behindInMarks op b = false) (hr : Bn X.K Δ2 r1 r2 rr r3) : DEx X Δ (.Compare a [op] [b] pos) r3 Δ2 :=
  ⟨ha.rk.trans hb.rk, pe_imp (pe_cmpR ho ha.pe hb.pe hm) (two_ ha hb l1 hr)⟩
theorem dt_cmp {op : CmpOp} {rr : R2} (ho : OpR X (compareOp op) rr) (ha : DEx X Δ a r1 Δ1) (hb : DEx X Δ1 b r2 Δ2) (l1 : lite r1 = true) (hm : behindInMarks op b = false) (hr : Bn X.K Δ2 r1 r2 rr (.d (.bool k))) : DTx X Δ (.Compare a [op] [b] pos) k Δ2 :=
  ⟨ha.rk.trans hb.rk, pt_imp (pt_cmpR ho ha.pe hb.pe hm) fun σ H Q ⟨B, F, ok, q⟩ => two_ ha hb l1 hr σ H _ ⟨B, F, ok, fun v F' H' ok' ex hv => ⟨k, Dq.bl_ hv, q F' H' ok' ex⟩⟩⟩
theorem bn_I0 {K : Frag} {g : Int → Int → V} (hg : ∀ F : Hp, Dq F (g i j) z) : Bn K Δ (.d (.int i)) (.d (.int j)) (rI0 g) (.d z) := fun B F H σ v w Q ok hv hw q => by
  cases Dq.int_ hv
  cases Dq.int_ hw
  exact ⟨i, j, rfl, rfl, q _ _ _ ok (.refl _) (hg F)⟩
theorem bn_I {K : Frag} {C : Int → Int → Prop} {g : Int → Int → V} (hc : C i j) (hg : ∀ F : Hp, Dq F (g i j) z) : Bn K Δ (.d (.int i)) (.d (.int j)) (rI C g) (.d z) := fun B F H σ v w Q ok hv hw q => by
  cases Dq.int_ hv
  cases Dq.int_ hw
  exact ⟨i, j, rfl, rfl, hc, q _ _ _ ok (.refl _) (hg F)⟩
theorem de_add (ha : DEx X Δ a (.d (.int i)) Δ1) (hb : DEx X Δ1 b (.d (.int j)) Δ2) : DEx X Δ (.BinOp a .Add b pos) (.d (.int (i + j))) Δ2 := de_bin op_add ha hb rfl (bn_I0 fun _ => .int _)
theorem de_sub (ha : DEx X Δ a (.d (.int i)) Δ1) (hb : DEx X Δ1 b (.d (.int j)) Δ2) : DEx X Δ (.BinOp a .Sub b pos) (.d (.int (i - j))) Δ2 := de_bin op_sub ha hb rfl (bn_I0 fun _ => .int _)
theorem de_mul (ha : DEx X Δ a (.d (.int i)) Δ1) (hb : DEx X Δ1 b (.d (.int j)) Δ2) (hc : CMul i j) : DEx X Δ (.BinOp a .Mult b pos) (.d (.int (i * j))) Δ2 := de_bin op_mul ha hb rfl (bn_I hc fun _ => .int _)
theorem de_div (ha : DEx X Δ a (.d (.int i)) Δ1) (hb : DEx X Δ1 b (.d (.int j)) Δ2) (hc : CDiv i j) : DEx X Δ (.BinOp a .FloorDiv b pos) (.d (.int (i / j))) Δ2 := de_bin op_fdiv ha hb rfl (bn_I hc fun _ => .int _)
theorem de_mod (ha : DEx X Δ a (.d (.int i)) Δ1) (hb : DEx X Δ1 b (.d (.int j)) Δ2) (hc : 0 < j) : DEx X Δ (.BinOp a .Mod b pos) (.d (.int (i % j))) Δ2 := de_bin op_mod ha hb rfl (bn_I hc fun _ => .int _)
theorem de_pow (ha : DEx X Δ a (.d (.int i)) Δ1) (hb : DEx X Δ1 b (.d (.int j)) Δ2) (hc : CPow i j) : DEx X Δ (.BinOp a .Pow b pos) (.d (.int (i ^ j.toNat))) Δ2 := de_bin op_pow ha hb rfl (bn_I hc fun _ => .int _)
theorem de_addS {s t : Str} (ha : DEx X Δ a (.d (.str s)) Δ1) (hb : DEx X Δ1 b (.d (.str t)) Δ2) (hc : s.length + t.length ≤ sizeLine) : DEx X Δ (.BinOp a .Add b pos) (.d (.str (s ++ t))) Δ2 :=
  de_bin op_add_str ha hb rfl fun B F H σ v w Q ok hv hw q => by
    cases Dq.str_ hv
    cases Dq.str_ hw
    exact ⟨s, t, rfl, rfl, hc, q _ _ _ ok (.refl _) (.str _)⟩
theorem res_nl {K : Frag} {B F H : Hp} {σ : St} {Δ : En} {p : Addr} {vs : List V} {xs : List PyData} (ok : Ok K B F H σ Δ) (hp : H p = none) (h : DqA F vs xs) : Res B F (upd H p (.lst vs)) σ Δ (.ref p) (.nl xs) :=
  ⟨p, vs, rfl, (ok.fresh hp).1, (ok.fresh hp).2, upd_same, h, ok.notNew hp⟩
theorem de_cat (ha : DEx X Δ a r1 Δ1) (hb : DEx X Δ1 b r2 Δ2) (l1 : lite r1 = true) (e1 : rdOf Δ2 r1 = some (.list xs)) (e2 : rdOf Δ2 r2 = some (.list ys)) (hl : xs.length + ys.length ≤ 1000000) : DEx X Δ (.BinOp a .Add b pos) (.nl (xs ++ ys)) Δ2 :=
  de_bin op_cat ha hb l1 fun B F H σ v w Q ok hv hw q => by
    obtain ⟨a1, vs, rfl, h1, k1⟩ := rd_list ok hv e1
    obtain ⟨a2, ws, rfl, h2, k2⟩ := rd_list ok hw e2
    refine ⟨a1, a2, vs, ws, rfl, rfl, h1, h2, by rw [k1.length, k2.length, sizeLine_eq]; omega, fun p hp => ?_⟩
    exact q _ _ _ (ok.new hp) (.refl _) (res_nl ok hp (pr_app k1 k2))
theorem de_rep (ha : DEx X Δ a r1 Δ1) (hb : DEx X Δ1 b (.d (.int j)) Δ2) (l1 : lite r1 = true) (e1 : rdOf Δ2 r1 = some (.list xs)) (hj : 0 ≤ j ∧ j ≤ 1000000) (hl : xs.length * j.toNat ≤ 1000000) : DEx X Δ (.BinOp a .Mult b pos) (.nl (List.replicate j.toNat xs).flatten) Δ2 :=
  de_bin op_rep ha hb l1 fun B F H σ v w Q ok hv hw q => by
    obtain ⟨a1, vs, rfl, h1, k1⟩ := rd_list ok hv e1
    cases Dq.int_ hw
    refine ⟨a1, j, vs, rfl, rfl, h1, by omega, by omega, by rw [k1.length, sizeLine_eq]; omega, fun p hp => ?_⟩
    exact q _ _ _ (ok.new hp) (.refl _) (res_nl ok hp (pr_rep k1 _))
theorem de_neg (ha : DEx X Δ a (.d (.int i)) Δ1) : DEx X Δ (.UnaryOp .USub a pos) (.d (.int (-i))) Δ1 := ⟨ha.rk, pe_imp (pe_un un_neg ha.pe) fun σ H Q ⟨B, F, ok, q⟩ => ⟨B, F, ok, fun v F1 H1 ok1 ex1 hv => by
  cases Dq.int_ hv
  exact ⟨i, rfl, q _ _ _ ok1 ex1 (.int _)⟩⟩⟩
/-! comparisons -/
abbrev shp (d : PyData) : Prop := SeqAt.shaped d = true
theorem bn_eq (e1 : rdOf Δ r1 = some x) (e2 : rdOf Δ r2 = some y) (h1 : shp x) (h2 : shp y) : Bn X.K Δ r1 r2 (rEqD X.K) (.d (.bool (PyData.eqv x y))) := fun B F H σ v w Q ok hv hw q =>
  ⟨x, y, (rd_dq ok hv e1).dp, (rd_dq ok hw e2).dp, h1, h2, q _ _ _ ok (.refl _) (.bl _)⟩
theorem bn_ne (e1 : rdOf Δ r1 = some x) (e2 : rdOf Δ r2 = some y) (h1 : shp x) (h2 : shp y) : Bn X.K Δ r1 r2 (rNeD X.K) (.d (.bool (!PyData.eqv x y))) := fun B F H σ v w Q ok hv hw q =>
  ⟨x, y, (rd_dq ok hv e1).dp, (rd_dq ok hw e2).dp, h1, h2, q _ _ _ ok (.refl _) (.bl _)⟩
theorem de_eq (hu : X.A.units + 64 < cLine) (ha : DEx X Δ a r1 Δ1) (hb : DEx X Δ1 b r2 Δ2) (l1 : lite r1 = true) (e1 : rdOf Δ2 r1 = some x) (e2 : rdOf Δ2 r2 = some y) (h1 : shp x) (h2 : shp y) : DEx X Δ (.Compare a [.Eq] [b] pos) (.d (.bool (PyData.eqv x y))) Δ2 :=
  de_cmp (op_eqD hu) ha hb l1 (nomark _) (bn_eq e1 e2 h1 h2)
theorem dt_eq (hu : X.A.units + 64 < cLine) (ha : DEx X Δ a r1 Δ1) (hb : DEx X Δ1 b r2 Δ2) (l1 : lite r1 = true) (e1 : rdOf Δ2 r1 = some x) (e2 : rdOf Δ2 r2 = some y) (h1 : shp x) (h2 : shp y) : DTx X Δ (.Compare a [.Eq] [b] pos) (PyData.eqv x y) Δ2 :=
  dt_cmp (op_eqD hu) ha hb l1 (nomark _) (bn_eq e1 e2 h1 h2)
theorem de_ne (hu : X.A.units + 64 < cLine) (ha : DEx X Δ a r1 Δ1) (hb : DEx X Δ1 b r2 Δ2) (l1 : lite r1 = true) (e1 : rdOf Δ2 r1 = some x) (e2 : rdOf Δ2 r2 = some y) (h1 : shp x) (h2 : shp y) : DEx X Δ (.Compare a [.NotEq] [b] pos) (.d (.bool (!PyData.eqv x y))) Δ2 :=
  de_cmp (op_neD hu) ha hb l1 (nomark _) (bn_ne e1 e2 h1 h2)
theorem dt_ne (hu : X.A.units + 64 < cLine) (ha : DEx X Δ a r1 Δ1) (hb : DEx X Δ1 b r2 Δ2) (l1 : lite r1 = true) (e1 : rdOf Δ2 r1 = some x) (e2 : rdOf Δ2 r2 = some y) (h1 : shp x) (h2 : shp y) : DTx X Δ (.Compare a [.NotEq] [b] pos) (!PyData.eqv x y) Δ2 :=
  dt_cmp (op_neD hu) ha hb l1 (nomark _) (bn_ne e1 e2 h1 h2)
/-- scalars: by the plain rule -/
def flatD : PyData → Option V
  | .none => some .non
  | .bool b => some (.bl b)
  | .int i => some (.int i)
  | .str s => some (.str s)
  | _ => none
theorem Dq.flat {F : Hp} {v u : V} (h : Dq F v x) (e : flatD x = some u) : v = u := by
  cases h <;> cases e <;> rfl
theorem flat_dq {F : Hp} {u : V} (e : flatD x = some u) : Dq F u x := by
  cases x <;> cases e <;> constructor
theorem bn_eqF {u v : V} (e1 : flatD x = some u) (e2 : flatD y = some v) (h : scal u v = true) : Bn X.K Δ (.d x) (.d y) rEq (.d (.bool (decide (u = v)))) := fun B F H σ v' w' Q ok hv hw q => by
  cases Dq.flat hv e1
  cases Dq.flat hw e2
  exact ⟨h, q _ _ _ ok (.refl _) (.bl _)⟩
theorem bn_neF {u v : V} (e1 : flatD x = some u) (e2 : flatD y = some v) (h : scal u v = true) : Bn X.K Δ (.d x) (.d y) rNe (.d (.bool (!decide (u = v)))) := fun B F H σ v' w' Q ok hv hw q => by
  cases Dq.flat hv e1
  cases Dq.flat hw e2
  exact ⟨h, q _ _ _ ok (.refl _) (.bl _)⟩
theorem de_eqI (ha : DEx X Δ a (.d (.int i)) Δ1) (hb : DEx X Δ1 b (.d (.int j)) Δ2) : DEx X Δ (.Compare a [.Eq] [b] pos) (.d (.bool (decide (i = j)))) Δ2 := by
  have := de_cmp (pos := pos) op_eq ha hb rfl (nomark _) (bn_eqF (X := X) rfl rfl rfl)
  simpa only [V.int.injEq] using this
theorem dt_eqI (ha : DEx X Δ a (.d (.int i)) Δ1) (hb : DEx X Δ1 b (.d (.int j)) Δ2) : DTx X Δ (.Compare a [.Eq] [b] pos) (decide (i = j)) Δ2 := by
  have := dt_cmp (pos := pos) op_eq ha hb rfl (nomark _) (bn_eqF (X := X) rfl rfl rfl)
  simpa only [V.int.injEq] using this
theorem dt_neI (ha : DEx X Δ a (.d (.int i)) Δ1) (hb : DEx X Δ1 b (.d (.int j)) Δ2) : DTx X Δ (.Compare a [.NotEq] [b] pos) (!decide (i = j)) Δ2 := by
  have := dt_cmp (pos := pos) op_ne ha hb rfl (nomark _) (bn_neF (X := X) rfl rfl rfl)
  simpa only [V.int.injEq] using this
theorem de_neI (ha : DEx X Δ a (.d (.int i)) Δ1) (hb : DEx X Δ1 b (.d (.int j)) Δ2) : DEx X Δ (.Compare a [.NotEq] [b] pos) (.d (.bool (!decide (i = j)))) Δ2 := by
  have := de_cmp (pos := pos) op_ne ha hb rfl (nomark _) (bn_neF (X := X) rfl rfl rfl)
  simpa only [V.int.injEq] using this
theorem dt_eqS {s t : Str} (ha : DEx X Δ a (.d (.str s)) Δ1) (hb : DEx X Δ1 b (.d (.str t)) Δ2) : DTx X Δ (.Compare a [.Eq] [b] pos) (decide (s = t)) Δ2 := by
  have := dt_cmp (pos := pos) op_eq ha hb rfl (nomark _) (bn_eqF (X := X) rfl rfl rfl)
  simpa only [V.str.injEq] using this
theorem de_eqS {s t : Str} (ha : DEx X Δ a (.d (.str s)) Δ1) (hb : DEx X Δ1 b (.d (.str t)) Δ2) : DEx X Δ (.Compare a [.Eq] [b] pos) (.d (.bool (decide (s = t)))) Δ2 := by
  have := de_cmp (pos := pos) op_eq ha hb rfl (nomark _) (bn_eqF (X := X) rfl rfl rfl)
  simpa only [V.str.injEq] using this
theorem dt_neS {s t : Str} (ha : DEx X Δ a (.d (.str s)) Δ1) (hb : DEx X Δ1 b (.d (.str t)) Δ2) : DTx X Δ (.Compare a [.NotEq] [b] pos) (!decide (s = t)) Δ2 := by
  have := dt_cmp (pos := pos) op_ne ha hb rfl (nomark _) (bn_neF (X := X) rfl rfl rfl)
  simpa only [V.str.injEq] using this
theorem de_neS {s t : Str} (ha : DEx X Δ a (.d (.str s)) Δ1) (hb : DEx X Δ1 b (.d (.str t)) Δ2) : DEx X Δ (.Compare a [.NotEq] [b] pos) (.d (.bool (!decide (s = t)))) Δ2 := by
  have := de_cmp (pos := pos) op_ne ha hb rfl (nomark _) (bn_neF (X := X) rfl rfl rfl)
  simpa only [V.str.injEq] using this
theorem de_lt (ha : DEx X Δ a (.d (.int i)) Δ1) (hb : DEx X Δ1 b (.d (.int j)) Δ2) : DEx X Δ (.Compare a [.Lt] [b] pos) (.d (.bool (decide (i < j)))) Δ2 := de_cmp op_lt ha hb rfl (nomark _) (bn_I0 fun _ => .bl _)
theorem dt_lt (ha : DEx X Δ a (.d (.int i)) Δ1) (hb : DEx X Δ1 b (.d (.int j)) Δ2) : DTx X Δ (.Compare a [.Lt] [b] pos) (decide (i < j)) Δ2 := dt_cmp op_lt ha hb rfl (nomark _) (bn_I0 fun _ => .bl _)
theorem de_le (ha : DEx X Δ a (.d (.int i)) Δ1) (hb : DEx X Δ1 b (.d (.int j)) Δ2) : DEx X Δ (.Compare a [.LtE] [b] pos) (.d (.bool (decide (i ≤ j)))) Δ2 := de_cmp op_le ha hb rfl (nomark _) (bn_I0 fun _ => .bl _)
theorem dt_le (ha : DEx X Δ a (.d (.int i)) Δ1) (hb : DEx X Δ1 b (.d (.int j)) Δ2) : DTx X Δ (.Compare a [.LtE] [b] pos) (decide (i ≤ j)) Δ2 := dt_cmp op_le ha hb rfl (nomark _) (bn_I0 fun _ => .bl _)
theorem de_gt (ha : DEx X Δ a (.d (.int i)) Δ1) (hb : DEx X Δ1 b (.d (.int j)) Δ2) : DEx X Δ (.Compare a [.Gt] [b] pos) (.d (.bool (decide (j < i)))) Δ2 := de_cmp op_gt ha hb rfl (nomark _) (bn_I0 fun _ => .bl _)
theorem dt_gt (ha : DEx X Δ a (.d (.int i)) Δ1) (hb : DEx X Δ1 b (.d (.int j)) Δ2) : DTx X Δ (.Compare a [.Gt] [b] pos) (decide (j < i)) Δ2 := dt_cmp op_gt ha hb rfl (nomark _) (bn_I0 fun _ => .bl _)
theorem de_ge (ha : DEx X Δ a (.d (.int i)) Δ1) (hb : DEx X Δ1 b (.d (.int j)) Δ2) : DEx X Δ (.Compare a [.GtE] [b] pos) (.d (.bool (decide (j ≤ i)))) Δ2 := de_cmp op_ge ha hb rfl (nomark _) (bn_I0 fun _ => .bl _)
theorem dt_ge (ha : DEx X Δ a (.d (.int i)) Δ1) (hb : DEx X Δ1 b (.d (.int j)) Δ2) : DTx X Δ (.Compare a [.GtE] [b] pos) (decide (j ≤ i)) Δ2 := dt_cmp op_ge ha hb rfl (nomark _) (bn_I0 fun _ => .bl _)
/-- x in a list of texts and numbers -/
def flats : List PyData → Option (List V)
  | [] => some []
  | x :: xs => match flatD x, flats xs with
    | some u, some us => some (u :: us)
    | _, _ => none
theorem DqA.flat {F : Hp} : ∀ {xs : List PyData} {vs us : List V}, DqA F vs xs → flats xs = some us → vs = us
  | [], _, _, .nil, e => by cases e; rfl
  | x :: xs, _, _, .cons h t, e => by
    unfold flats at e
    split at e
    · rename_i u us e1 e2
      cases e
      rw [Dq.flat h e1, DqA.flat t e2]
    · cases e
theorem bn_in {u : V} {us : List V} (e1 : flatD x = some u) (e2 : rdOf Δ r2 = some (.list xs)) (e3 : flats xs = some us) (h1 : flatV u = true) (h2 : us.all flatV = true) : Bn X.K Δ (.d x) r2 (rIn X.K false) (.d (.bool (inV u us))) := fun B F H σ v w Q ok hv hw q => by
  cases Dq.flat hv e1
  obtain ⟨a, vs, rfl, ha, hd⟩ := rd_list ok hw e2
  cases DqA.flat hd e3
  exact ⟨a, _, rfl, .inl (SqL.of ha), h1, h2, q _ _ _ ok (.refl _) (.bl _)⟩
theorem bn_ni {u : V} {us : List V} (e1 : flatD x = some u) (e2 : rdOf Δ r2 = some (.list xs)) (e3 : flats xs = some us) (h1 : flatV u = true) (h2 : us.all flatV = true) : Bn X.K Δ (.d x) r2 (rIn X.K true) (.d (.bool (!inV u us))) := fun B F H σ v w Q ok hv hw q => by
  cases Dq.flat hv e1
  obtain ⟨a, vs, rfl, ha, hd⟩ := rd_list ok hw e2
  cases DqA.flat hd e3
  exact ⟨a, _, rfl, .inl (SqL.of ha), h1, h2, q _ _ _ ok (.refl _) (.bl _)⟩
theorem dt_in {u : V} {us : List V} (ha : DEx X Δ a (.d x) Δ1) (hb : DEx X Δ1 b r2 Δ2) (hm : behindInMarks .In b = false) (e1 : flatD x = some u) (e2 : rdOf Δ2 r2 = some (.list xs)) (e3 : flats xs = some us) (h1 : flatV u = true) (h2 : us.all flatV = true) :
    DTx X Δ (.Compare a [.In] [b] pos) (inV u us) Δ2 := dt_cmp op_in_seq ha hb rfl hm (bn_in e1 e2 e3 h1 h2)
theorem de_in {u : V} {us : List V} (ha : DEx X Δ a (.d x) Δ1) (hb : DEx X Δ1 b r2 Δ2) (hm : behindInMarks .In b = false) (e1 : flatD x = some u) (e2 : rdOf Δ2 r2 = some (.list xs)) (e3 : flats xs = some us) (h1 : flatV u = true) (h2 : us.all flatV = true) :
    DEx X Δ (.Compare a [.In] [b] pos) (.d (.bool (inV u us))) Δ2 := de_cmp op_in_seq ha hb rfl hm (bn_in e1 e2 e3 h1 h2)
theorem dt_ni {u : V} {us : List V} (ha : DEx X Δ a (.d x) Δ1) (hb : DEx X Δ1 b r2 Δ2) (hm : behindInMarks .NotIn b = false) (e1 : flatD x = some u) (e2 : rdOf Δ2 r2 = some (.list xs)) (e3 : flats xs = some us) (h1 : flatV u = true) (h2 : us.all flatV = true) :
    DTx X Δ (.Compare a [.NotIn] [b] pos) (!inV u us) Δ2 := dt_cmp op_notIn_seq ha hb rfl hm (bn_ni e1 e2 e3 h1 h2)
/-! tests -/
theorem dt_val (h : DEx X Δ e (.d (.bool k)) Δ1) (he : ∀ whole, isTrue e X.env whole = (do let v ← whole; standAt e.pos; holding [v] (truthy v)) := by intro _; rfl) : DTx X Δ e k Δ1 :=
  ⟨h.rk, pt_imp (pt_val h.pe he) fun σ H Q ⟨B, F, ok, q⟩ => ⟨B, F, ok, fun v F' H' ok' ex hv => ⟨k, Dq.bl_ hv, q F' H' ok' ex⟩⟩⟩
theorem dt_not (h : DTx X Δ e k Δ1) : DTx X Δ (.UnaryOp .Not e pos) (!k) Δ1 := ⟨h.rk, pt_imp (pt_not h.pt) fun σ H Q ⟨B, F, ok, q⟩ => ⟨B, F, ok, fun F' H' ok' ex => q F' H' ok' ex⟩⟩
/-- and, or of several, as a test: DW -/
structure DWx (X : Cx) (Δ : En) (e : Expr) (b : Bool) (Δ' : En) : Prop where
  rk : RK Δ Δ'
  pw : PW X e (tT X.K Δ b Δ')
theorem DWx.dt (h : DWx X Δ e k Δ1) : DTx X Δ e k Δ1 := ⟨h.rk, h.pw.pt⟩
theorem dw_and1 (h : DTx X Δ a k Δ1) : DWx X Δ (.BoolOp .And [a] pos) k Δ1 := ⟨h.rk, pw_and1 h.pt⟩
theorem dw_or1 (h : DTx X Δ a k Δ1) : DWx X Δ (.BoolOp .Or [a] pos) k Δ1 := ⟨h.rk, pw_or1 h.pt⟩
theorem pw_imp {e : Expr} {t t' : TT} (h : PW X e t) (k : ∀ σ H Q, t' σ H Q → t σ H Q) : PW X e t' := ⟨fun wh pins s σ H Q I w => h.run wh pins s σ H Q I (k _ _ _ w)⟩
theorem tT_false {K : Frag} {σ : St} {H : Hp} {Q : Bool → Hp → Prop} : (fun (_ : St) (_ : Hp) (_ : Bool → Hp → Prop) => False) σ H Q → False := id
theorem pw_never {es : List Expr} {op : BoolOp} : PW X (.BoolOp op es pos) (fun _ _ _ => False) := ⟨fun _ _ _ _ _ _ _ h => h.elim⟩
/-- both may be asked; where they leave the slots as they are -/
theorem dw_and (h : DTx X Δ a k Δ) (hb : k = true → DWx X Δ (.BoolOp .And (b :: es) pos) l Δ) : DWx X Δ (.BoolOp .And (a :: b :: es) pos) (k && l) Δ := by
  cases k with
  | true =>
    have hb := hb rfl
    refine ⟨.rfl, pw_imp (pw_and h.pt hb.pw) fun σ H Q ⟨B, F, ok, q⟩ => ⟨B, F, ok, fun F1 H1 ok1 ex1 => ?_⟩⟩
    refine iteT ?_
    exact ⟨B, F1, ok1, fun F2 H2 ok2 ex2 => q F2 H2 ok2 (ex1.trans ex2)⟩
  | false =>
    refine ⟨.rfl, pw_imp (pw_and h.pt pw_never) fun σ H Q ⟨B, F, ok, q⟩ => ⟨B, F, ok, fun F1 H1 ok1 ex1 => ?_⟩⟩
    refine iteF ?_
    exact q F1 H1 ok1 ex1
theorem dw_or (h : DTx X Δ a k Δ) (hb : k = false → DWx X Δ (.BoolOp .Or (b :: es) pos) l Δ) : DWx X Δ (.BoolOp .Or (a :: b :: es) pos) (k || l) Δ := by
  cases k with
  | false =>
    have hb := hb rfl
    refine ⟨.rfl, pw_imp (pw_or h.pt hb.pw) fun σ H Q ⟨B, F, ok, q⟩ => ⟨B, F, ok, fun F1 H1 ok1 ex1 => ?_⟩⟩
    refine iteF ?_
    exact ⟨B, F1, ok1, fun F2 H2 ok2 ex2 => q F2 H2 ok2 (ex1.trans ex2)⟩
  | true =>
    refine ⟨.rfl, pw_imp (pw_or h.pt pw_never) fun σ H Q ⟨B, F, ok, q⟩ => ⟨B, F, ok, fun F1 H1 ok1 ex1 => ?_⟩⟩
    refine iteT ?_
    exact q F1 H1 ok1 ex1
/-! .. as values -/
theorem de_not (h : DEx X Δ a (.d (.bool k)) Δ1) : DEx X Δ (.UnaryOp .Not a pos) (.d (.bool (!k))) Δ1 := ⟨h.rk, pe_imp (pe_not h.pe) fun σ H Q ⟨B, F, ok, q⟩ => ⟨B, F, ok, fun v F' H' ok' ex hv => ⟨k, Dq.bl_ hv, q _ F' H' ok' ex (.bl _)⟩⟩⟩
theorem pe_never {e : Expr} : PE X e (fun _ _ _ => False) := ⟨fun _ _ _ _ _ _ h => h.elim⟩
theorem de_one {op : BoolOp} (h : DEx X Δ a r Δ1) : DEx X Δ (.BoolOp op [a] pos) r Δ1 := ⟨h.rk, pe_one h.pe⟩
theorem de_and (h : DEx X Δ a (.d (.bool k)) Δ) (hb : k = true → DEx X Δ (.BoolOp .And (b :: es) pos) (.d (.bool l)) Δ) : DEx X Δ (.BoolOp .And (a :: b :: es) pos) (.d (.bool (k && l))) Δ := by
  cases k with
  | true =>
    have hb := hb rfl
    refine ⟨.rfl, pe_imp (pe_and h.pe hb.pe) fun σ H Q ⟨B, F, ok, q⟩ => ⟨B, F, ok, fun v F1 H1 ok1 ex1 hv => ⟨true, Dq.bl_ hv, ?_⟩⟩⟩
    refine iteT ?_
    exact ⟨B, F1, ok1, fun v F2 H2 ok2 ex2 h2 => q v F2 H2 ok2 (ex1.trans ex2) h2⟩
  | false =>
    refine ⟨.rfl, pe_imp (pe_and h.pe pe_never) fun σ H Q ⟨B, F, ok, q⟩ => ⟨B, F, ok, fun v F1 H1 ok1 ex1 hv => ⟨false, Dq.bl_ hv, ?_⟩⟩⟩
    refine iteF ?_
    exact q _ F1 H1 ok1 ex1 (.bl false)
theorem de_or (h : DEx X Δ a (.d (.bool k)) Δ) (hb : k = false → DEx X Δ (.BoolOp .Or (b :: es) pos) (.d (.bool l)) Δ) : DEx X Δ (.BoolOp .Or (a :: b :: es) pos) (.d (.bool (k || l))) Δ := by
  cases k with
  | false =>
    have hb := hb rfl
    refine ⟨.rfl, pe_imp (pe_or h.pe hb.pe) fun σ H Q ⟨B, F, ok, q⟩ => ⟨B, F, ok, fun v F1 H1 ok1 ex1 hv => ⟨false, Dq.bl_ hv, ?_⟩⟩⟩
    refine iteF ?_
    exact ⟨B, F1, ok1, fun v F2 H2 ok2 ex2 h2 => q v F2 H2 ok2 (ex1.trans ex2) h2⟩
  | true =>
    refine ⟨.rfl, pe_imp (pe_or h.pe pe_never) fun σ H Q ⟨B, F, ok, q⟩ => ⟨B, F, ok, fun v F1 H1 ok1 ex1 hv => ⟨true, Dq.bl_ hv, ?_⟩⟩⟩
    refine iteT ?_
    exact q _ F1 H1 ok1 ex1 (.bl true)
/-! 0 <= x < n -/
theorem dt_chain {op op' : CmpOp} {rr rr' : R2} (ho : OpR X (compareOp op) rr) (ho' : OpR X (compareOp op') rr') (ha : DEx X Δ a (.d x) Δ) (hb : DEx X Δ b (.d y) Δ) (hc : k = true → DEx X Δ c (.d z) Δ)
    (h1 : Bn X.K Δ (.d x) (.d y) rr (.d (.bool k))) (h2 : k = true → Bn X.K Δ (.d y) (.d z) rr' (.d (.bool l))) (hm : lastMarks [op, op'] [b, c] = false) :
    DTx X Δ (.Compare a [op, op'] [b, c] pos) (k && l) Δ := by
  cases k with
  | true =>
    have hc := hc rfl
    have h2 := h2 rfl
    refine ⟨.rfl, pt_imp (pt_chain ho ho' ha.pe hb.pe hc.pe hm) fun σ H Q ⟨B, F, ok, q⟩ => ⟨B, F, ok, fun v F1 H1 ok1 ex1 hv => ⟨B, F1, ok1, fun w F2 H2 ok2 ex2 hw => ?_⟩⟩⟩
    refine h1 B F2 H2 σ v w _ ok2 (Dq.mono ex2 hv) hw fun u F3 H3 ok3 ex3 hu => ⟨true, Dq.bl_ hu, ?_⟩
    refine iteT ?_
    refine ⟨B, F3, ok3, fun t F4 H4 ok4 ex4 ht => ?_⟩
    exact h2 B F4 H4 σ w t _ ok4 (Dq.mono (ex3.trans ex4) hw) ht fun u F5 H5 ok5 ex5 hu => ⟨l, Dq.bl_ hu, q F5 H5 ok5 ((((ex1.trans ex2).trans ex3).trans ex4).trans ex5)⟩
  | false =>
    refine ⟨.rfl, pt_imp (pt_chain ho ho' ha.pe hb.pe pe_never hm) fun σ H Q ⟨B, F, ok, q⟩ => ⟨B, F, ok, fun v F1 H1 ok1 ex1 hv => ⟨B, F1, ok1, fun w F2 H2 ok2 ex2 hw => ?_⟩⟩⟩
    refine h1 B F2 H2 σ v w _ ok2 (Dq.mono ex2 hv) hw fun u F3 H3 ok3 ex3 hu => ⟨false, Dq.bl_ hu, ?_⟩
    refine iteF ⟨false, rfl, ?_⟩
    exact q F3 H3 ok3 ((ex1.trans ex2).trans ex3)
/-- a <= b < c -/
theorem dt_lelt {n : Int} (ha : DEx X Δ a (.d (.int i)) Δ) (hb : DEx X Δ b (.d (.int j)) Δ) (hc : DEx X Δ c (.d (.int n)) Δ) (hm : lastMarks [.LtE, .Lt] [b, c] = false := by with_unfolding_all rfl) : DTx X Δ (.Compare a [.LtE, .Lt] [b, c] pos) (decide (i ≤ j) && decide (j < n)) Δ :=
  dt_chain op_le op_lt ha hb (fun _ => hc) (bn_I0 fun _ => .bl _) (fun _ => bn_I0 fun _ => .bl _) hm
end
end Tr
namespace Tr
open PySem L2
section
variable {X : Cx} {Δ Δ1 Δ2 Δ3 : En} {a b c e : Expr} {es : List Expr} {r r1 r2 r3 : R} {rs : List R} {pos p p2 : Pos} {i j : Int} {x y z : PyData} {xs ys : List PyData} {k l : Bool}
/-! ### arguments, displays -/
theorem da_nil : DAx X Δ [] [] Δ := ⟨.rfl, pa_imp pa_nil fun σ H Q ⟨B, F, ok, q⟩ => q [] _ _ ok (.refl _) .nil⟩
theorem da_cons (ha : DEx X Δ e r Δ1) (hr : DAx X Δ1 es rs Δ2) (hl : lite r = true := by rfl) (hs : starEach (e :: es) X.env = (false, eval e X.env) :: starEach es X.env := by rfl) : DAx X Δ (e :: es) (r :: rs) Δ2 :=
  ⟨ha.rk.trans hr.rk, pa_imp (pa_cons ha.pe hr.pa hs) fun σ H Q ⟨B, F, ok, q⟩ => ⟨B, F, ok, fun v F1 H1 ok1 ex1 hv => ⟨B, F1, ok1, fun vs F2 H2 ok2 ex2 hvs => q _ F2 H2 ok2 (ex1.trans ex2) (.cons (hv.keep hl ex2) hvs)⟩⟩⟩
/-- all of them data -/
def dats : List R → Option (List PyData)
  | [] => some []
  | .d x :: rs => match dats rs with
    | some ys => some (x :: ys)
    | none => none
  | _ :: _ => none
theorem dats_dq {B F H : Hp} {σ : St} {Δ : En} : ∀ {rs : List R} {vs : List V} {xs : List PyData}, Paired (Res B F H σ Δ) vs rs → dats rs = some xs → DqA F vs xs
  | [], _, _, .nil, e => by cases e; exact .nil
  | .d x :: rs, _, _, .cons h t, e => by
    unfold dats at e
    cases q : dats rs with
    | none => rw [q] at e; cases e
    | some ys =>
      rw [q] at e
      cases e
      exact .cons h (dats_dq t q)
  | .nl x :: rs, _, _, .cons h t, e => by cases e
  | .sl x :: rs, _, _, .cons h t, e => by cases e
  | .nt x y :: rs, _, _, .cons h t, e => by cases e
theorem de_tup {kk} (h : DAx X Δ es rs Δ1) (e : dats rs = some xs := by rfl) (hl : xs.length ≤ 1000 := by first | decide | (simp; done) | omega) : DEx X Δ (.Tuple es kk pos) (.d (.tuple xs)) Δ1 := ⟨h.rk, pe_imp (pe_tup h.pa) fun σ H Q ⟨B, F, ok, q⟩ => ⟨B, F, ok, fun vs F1 H1 ok1 ex1 hv => by
  have hd := dats_dq hv e
  refine ⟨by rw [hd.length, sizeLine_eq]; omega, fun p hp => ?_⟩
  exact q _ _ _ (ok1.laid hp) (ex1.trans (.new (ok1.fresh hp).1)) (.tuple upd_same (hd.mono (.new (ok1.fresh hp).1)))⟩⟩
theorem de_lst (h : DAx X Δ es rs Δ1) (e : dats rs = some xs := by rfl) (hl : xs.length ≤ 1000 := by first | decide | (simp; done) | omega) : DEx X Δ (.List es pos) (.nl xs) Δ1 := ⟨h.rk, pe_imp (pe_lst h.pa) fun σ H Q ⟨B, F, ok, q⟩ => ⟨B, F, ok, fun vs F1 H1 ok1 ex1 hv => by
  have hd := dats_dq hv e
  refine ⟨by rw [hd.length, sizeLine_eq]; omega, fun p hp => ?_⟩
  exact q _ _ _ (ok1.new hp) ex1 (res_nl ok1 hp hd)⟩⟩
/-! ### subscripts -/
theorem plainIx_ (b : Expr) (h : PlainIx b) : PlainIx b := h
theorem de_ixL (ha : DEx X Δ a r1 Δ1) (hb : DEx X Δ1 b (.d (.int i)) Δ2) (l1 : lite r1 = true) (e1 : rdOf Δ2 r1 = some (.list xs)) (hx : atI xs i = some x) (hs : PlainIx b := by exact fun _ _ => rfl) : DEx X Δ (.Subscript a b pos) (.d x) Δ2 :=
  ⟨ha.rk.trans hb.rk, pe_imp (pe_ix ix_list ha.pe hb.pe hs) (two_ ha hb l1 fun B F H σ v w Q ok hv hw q => by
    obtain ⟨a1, vs, rfl, h1, k1⟩ := rd_list ok hv e1
    cases Dq.int_ hw
    obtain ⟨j, hj, hx', hlt, hlo, hhi⟩ := atI_get hx
    obtain ⟨u, hu, hd⟩ := pr_get k1 hx'
    refine ⟨a1, vs, i, u, rfl, rfl, SqL.of h1, ?_, q _ _ _ ok (.refl _) hd⟩
    unfold atI at hx ⊢
    rw [k1.length]
    cases hq : ixN xs.length i with
    | none => rw [hq] at hx; cases hx
    | some j' =>
      have z := ixN_seq hq
      rw [hj] at z
      cases z.1
      exact hu)⟩
theorem de_ixT (ha : DEx X Δ a r1 Δ1) (hb : DEx X Δ1 b (.d (.int i)) Δ2) (l1 : lite r1 = true) (e1 : rdOf Δ2 r1 = some (.tuple xs)) (hx : atI xs i = some x) (hs : PlainIx b := by exact fun _ _ => rfl) : DEx X Δ (.Subscript a b pos) (.d x) Δ2 :=
  ⟨ha.rk.trans hb.rk, pe_imp (pe_ix ix_tup ha.pe hb.pe hs) (two_ ha hb l1 fun B F H σ v w Q ok hv hw q => by
    obtain ⟨a1, vs, rfl, h1, k1⟩ := rd_tup ok hv e1
    cases Dq.int_ hw
    obtain ⟨j, hj, hx', hlt, hlo, hhi⟩ := atI_get hx
    obtain ⟨u, hu, hd⟩ := pr_get k1 hx'
    refine ⟨a1, vs, i, u, rfl, rfl, SqT.of (ok.fh _ _ h1), ?_, q _ _ _ ok (.refl _) hd⟩
    unfold atI at hx ⊢
    rw [k1.length]
    cases hq : ixN xs.length i with
    | none => rw [hq] at hx; cases hx
    | some j' =>
      have z := ixN_seq hq
      rw [hj] at z
      cases z.1
      exact hu)⟩
theorem de_ixS {s : Str} {n : Nat} (ha : DEx X Δ a (.d (.str s)) Δ1) (hb : DEx X Δ1 b (.d (.int i)) Δ2) (hl : s.length ≤ 1000000) (hx : atI s.cps.toList i = some n) (hs : PlainIx b := by exact fun _ _ => rfl) : DEx X Δ (.Subscript a b pos) (.d (.str ⟨#[n]⟩)) Δ2 :=
  ⟨ha.rk.trans hb.rk, pe_imp (pe_ix ix_str ha.pe hb.pe hs) (two_ ha hb rfl fun B F H σ v w Q ok hv hw q => by
    cases Dq.str_ hv
    cases Dq.int_ hw
    exact ⟨s, i, n, rfl, rfl, by rw [sizeLine_eq]; omega, hx, q _ _ _ ok (.refl _) (.str _)⟩)⟩
/-- the script's item -/
theorem de_ixSc {n : Nat} {ns : List Int} {m : Int} (ha : DEx X Δ a (.sl n) Δ) (hb : DEx X Δ b (.d (.int i)) Δ) (e1 : Δ[n]? = some (.sc ns)) (hx : atI ns i = some m) (hs : PlainIx b := by exact fun _ _ => rfl) : DEx X Δ (.Subscript a b pos) (.d (.int m)) Δ :=
  ⟨.rfl, pe_imp (pe_ix ix_list ha.pe hb.pe hs) (two_ ha hb rfl fun B F H σ v w Q ok hv hw q => by
    have hv : σ[n]? = some (some v) := hv
    obtain ⟨o, h1, h2⟩ := ok.sl n _ e1
    rw [hv] at h1
    cases h1
    obtain ⟨a1, ea, hq⟩ := (show ∃ a, some v = some (.ref a) ∧ SqL X.K F a (ns.map V.int) from h2)
    cases ea
    cases Dq.int_ hw
    have hq' : SqL X.K H a1 (ns.map V.int) := by
      rcases hq with (z | ⟨u, z⟩) | z
      · exact .inl (.inl (ok.fh _ _ z))
      · exact .inl (.inr ⟨u, ok.fh _ _ z⟩)
      · exact .inr z
    refine ⟨a1, _, i, .int m, rfl, rfl, hq', ?_, q _ _ _ ok (.refl _) (.int _)⟩
    unfold atI at hx ⊢
    rw [List.length_map]
    cases hq : ixN ns.length i with
    | none => rw [hq] at hx; cases hx
    | some j' =>
      rw [hq] at hx
      have hx : ns[j']? = some m := hx
      show (ns.map V.int)[j']? = _
      rw [List.getElem?_map, hx]
      rfl)⟩
/-- a part of a slice -/
structure DPx (X : Cx) (Δ : En) (e : Option Expr) (o : Option Int) : Prop where
  po : ∃ t : TO, PO X e t ∧ ∀ σ H Q, (∃ B F, Ok X.K B F H σ Δ ∧ ∀ F' H', Ok X.K B F' H' σ Δ → Ex F F' → Q o H') → t σ H Q
theorem dp_no : DPx X Δ none none := ⟨_, po_none, fun σ H Q ⟨B, F, ok, q⟩ => q F H ok (.refl _)⟩
theorem dp_so (h : DEx X Δ e (.d (.int i)) Δ) : DPx X Δ (some e) (some i) := ⟨_, po_some h.pe, fun σ H Q ⟨B, F, ok, q⟩ => ⟨B, F, ok, fun v F' H' ok' ex hv => ⟨i, Dq.int_ hv, q F' H' ok' ex⟩⟩⟩
def cutD (xs : List PyData) (lo hi : Option Int) : List PyData := (xs.drop (HT.sIx xs.length 0 lo)).take (HT.sIx xs.length xs.length hi - HT.sIx xs.length 0 lo)
theorem pr_cut {α : Type} {G : V → α → Prop} {vs : List V} {ds : List α} (h : Paired G vs ds) (lo hi : Option Int) : Paired G (cutV vs lo hi) ((ds.drop (HT.sIx ds.length 0 lo)).take (HT.sIx ds.length ds.length hi - HT.sIx ds.length 0 lo)) := by
  unfold cutV
  rw [h.length]
  exact pr_take _ (pr_drop _ h)
theorem de_slL {lo hi : Option Expr} {m n : Option Int} (ha : DEx X Δ a r1 Δ1) (h1 : DPx X Δ1 lo m) (h2 : DPx X Δ1 hi n) (l1 : lite r1 = true) (e1 : rdOf Δ1 r1 = some (.list xs)) : DEx X Δ (.Subscript a (.Slice lo hi none p2) pos) (.nl (cutD xs m n)) Δ1 := by
  obtain ⟨t1, p1, q1⟩ := h1.po
  obtain ⟨t2, p2, q2⟩ := h2.po
  refine ⟨ha.rk, pe_imp (pe_slice sl_list ha.pe p1 p2) fun σ H Q ⟨B, F, ok, q⟩ => ⟨B, F, ok, fun v F1 H1 ok1 ex1 hv => ?_⟩⟩
  refine q1 _ _ _ ⟨B, F1, ok1, fun F2 H2 ok2 ex2 => q2 _ _ _ ⟨B, F2, ok2, fun F3 H3 ok3 ex3 => ?_⟩⟩
  obtain ⟨a1, vs, rfl, h1, k1⟩ := rd_list ok3 (hv.keep l1 (ex2.trans ex3)) e1
  refine ⟨a1, vs, rfl, SqL.of h1, fun p hp => ?_⟩
  exact q _ _ _ (ok3.new hp) ((ex1.trans ex2).trans ex3) (res_nl ok3 hp (pr_cut k1 m n))
theorem de_slT {lo hi : Option Expr} {m n : Option Int} (ha : DEx X Δ a r1 Δ1) (h1 : DPx X Δ1 lo m) (h2 : DPx X Δ1 hi n) (l1 : lite r1 = true) (e1 : rdOf Δ1 r1 = some (.tuple xs)) (hne : HT.sIx xs.length 0 m ≠ 0 ∨ HT.sIx xs.length xs.length n ≠ xs.length) : DEx X Δ (.Subscript a (.Slice lo hi none p2) pos) (.d (.tuple (cutD xs m n))) Δ1 := by
  obtain ⟨t1, p1, q1⟩ := h1.po
  obtain ⟨t2, p2, q2⟩ := h2.po
  refine ⟨ha.rk, pe_imp (pe_slice sl_tup ha.pe p1 p2) fun σ H Q ⟨B, F, ok, q⟩ => ⟨B, F, ok, fun v F1 H1 ok1 ex1 hv => ?_⟩⟩
  refine q1 _ _ _ ⟨B, F1, ok1, fun F2 H2 ok2 ex2 => q2 _ _ _ ⟨B, F2, ok2, fun F3 H3 ok3 ex3 => ?_⟩⟩
  obtain ⟨a1, vs, rfl, h1, k1⟩ := rd_tup ok3 (hv.keep l1 (ex2.trans ex3)) e1
  refine ⟨a1, vs, rfl, SqT.of (ok3.fh _ _ h1), ?_⟩
  rw [k1.length]
  refine ⟨fun z => hne.elim (fun q => q z.1) (fun q => q z.2), fun p hp => ?_⟩
  exact q _ _ _ (ok3.laid hp) (((ex1.trans ex2).trans ex3).trans (.new (ok3.fresh hp).1)) (.tuple upd_same ((pr_cut k1 m n).mono fun _ _ => Dq.mono (.new (ok3.fresh hp).1)))
theorem de_slS {lo hi : Option Expr} {m n : Option Int} {s : Str} (ha : DEx X Δ a (.d (.str s)) Δ) (h1 : DPx X Δ lo m) (h2 : DPx X Δ hi n) (hl : s.length ≤ 1000000) : DEx X Δ (.Subscript a (.Slice lo hi none p2) pos) (.d (.str (cutS s m n))) Δ := by
  obtain ⟨t1, p1, q1⟩ := h1.po
  obtain ⟨t2, p2, q2⟩ := h2.po
  refine ⟨.rfl, pe_imp (pe_slice sl_str ha.pe p1 p2) fun σ H Q ⟨B, F, ok, q⟩ => ⟨B, F, ok, fun v F1 H1 ok1 ex1 hv => ?_⟩⟩
  refine q1 _ _ _ ⟨B, F1, ok1, fun F2 H2 ok2 ex2 => q2 _ _ _ ⟨B, F2, ok2, fun F3 H3 ok3 ex3 => ?_⟩⟩
  cases Dq.str_ hv
  exact ⟨s, rfl, by rw [sizeLine_eq]; omega, q _ _ _ ok3 ((ex1.trans ex2).trans ex3) (.str _)⟩
/-! ### built-in functions of one argument -/
def Cn (K : Frag) (Δ : En) (r1 : R) (rr : List V → Hp → VK → Prop) (r3 : R) : Prop := ∀ (B F H : Hp) (σ : St) (v : V) (Q : VK), Ok K B F H σ Δ → Res B F H σ Δ v r1 → (∀ u F' H', Ok K B F' H' σ Δ → Ex F F' → Res B F' H' σ Δ u r3 → Q u H') → rr [v] H Q
theorem de_cb {f : Str} {id : String} {rr : List V → Hp → VK → Prop} (hc : CallR X (.builtin id) rr) (hm : X.mg f = none) (hv : bootBuiltins f = some (.builtin id)) (ha : DEx X Δ e r1 Δ1) (l1 : lite r1 = true) (hr : Cn X.K Δ1 r1 rr r3) (hg : Gl X f := by rfl)
    (hn : f ≠ "__name__" := by decide) (hdb : (f == ("__debug__" : Str)) = false := by decide) (hs : starEach [e] X.env = (false, eval e X.env) :: starEach [] X.env := by rfl) : DEx X Δ (.Call (.Name f p) [e] [] pos) r3 Δ1 :=
  ⟨ha.rk, pe_imp (pe_callB hc hg hm hv (pa_cons ha.pe pa_nil hs) hn hdb hs) fun σ H Q ⟨B, F, ok, q⟩ => ⟨B, F, ok, fun v F1 H1 ok1 ex1 hv => hr B F1 H1 σ v Q ok1 hv fun u F2 H2 ok2 ex2 hu => q u F2 H2 ok2 (ex1.trans ex2) hu⟩⟩
theorem de_ct {f : Str} {T : String} {rr : List V → Hp → VK → Prop} (hc : CallR X (.type T) rr) (hm : X.mg f = none) (hv : bootBuiltins f = some (.type T)) (ha : DEx X Δ e r1 Δ1) (l1 : lite r1 = true) (hr : Cn X.K Δ1 r1 rr r3) (hg : Gl X f := by rfl)
    (hn : f ≠ "__name__" := by decide) (hdb : (f == ("__debug__" : Str)) = false := by decide) (hs : starEach [e] X.env = (false, eval e X.env) :: starEach [] X.env := by rfl) : DEx X Δ (.Call (.Name f p) [e] [] pos) r3 Δ1 :=
  ⟨ha.rk, pe_imp (pe_callTy hc hg hm hv (pa_cons ha.pe pa_nil hs) hn hdb hs) fun σ H Q ⟨B, F, ok, q⟩ => ⟨B, F, ok, fun v F1 H1 ok1 ex1 hv => hr B F1 H1 σ v Q ok1 hv fun u F2 H2 ok2 ex2 hu => q u F2 H2 ok2 (ex1.trans ex2) hu⟩⟩
/-- the built-in names are the built-ins -/
structure Blt (mg : Str → Option Value) : Prop where
  len : mg "len" = none
  range : mg "range" = none
  list : mg "list" = none
  int : mg "int" = none
  str : mg "str" = none
  bool : mg "bool" = none
  tuple : mg "tuple" = none
  isi : mg "isinstance" = none
  sum : mg "sum" = none
  min : mg "min" = none
  max : mg "max" = none
  enum : mg "enumerate" = none
theorem de_lenL (G : Blt X.mg) (ha : DEx X Δ e r1 Δ1) (l1 : lite r1 = true) (e1 : rdOf Δ1 r1 = some (.list xs)) (hg : Gl X "len" := by rfl) (hs : starEach [e] X.env = (false, eval e X.env) :: starEach [] X.env := by rfl) : DEx X Δ (.Call (.Name "len" p) [e] [] pos) (.d (.int xs.length)) Δ1 :=
  de_cb call_len_seq G.len PySem.boot_len ha l1 (fun B F H σ v Q ok hv q => by
    obtain ⟨a, vs, rfl, h1, k1⟩ := rd_list ok hv e1
    refine ⟨a, vs, rfl, .inl (SqL.of h1), ?_⟩
    rw [k1.length]
    exact q _ _ _ ok (.refl _) (.int _)) hg (by decide) (by decide) hs
theorem de_lenT (G : Blt X.mg) (ha : DEx X Δ e r1 Δ1) (l1 : lite r1 = true) (e1 : rdOf Δ1 r1 = some (.tuple xs)) (hg : Gl X "len" := by rfl) (hs : starEach [e] X.env = (false, eval e X.env) :: starEach [] X.env := by rfl) : DEx X Δ (.Call (.Name "len" p) [e] [] pos) (.d (.int xs.length)) Δ1 :=
  de_cb call_len_seq G.len PySem.boot_len ha l1 (fun B F H σ v Q ok hv q => by
    obtain ⟨a, vs, rfl, h1, k1⟩ := rd_tup ok hv e1
    refine ⟨a, vs, rfl, .inr (SqT.of (ok.fh _ _ h1)), ?_⟩
    rw [k1.length]
    exact q _ _ _ ok (.refl _) (.int _)) hg (by decide) (by decide) hs
theorem de_lenS {s : Str} (G : Blt X.mg) (ha : DEx X Δ e (.d (.str s)) Δ1) (hl : s.length ≤ 1000000) (hg : Gl X "len" := by rfl) (hs : starEach [e] X.env = (false, eval e X.env) :: starEach [] X.env := by rfl) : DEx X Δ (.Call (.Name "len" p) [e] [] pos) (.d (.int s.length)) Δ1 :=
  de_cb call_len_str G.len PySem.boot_len ha rfl (fun B F H σ v Q ok hv q => by
    cases Dq.str_ hv
    exact ⟨s, rfl, by rw [sizeLine_eq]; omega, q _ _ _ ok (.refl _) (.int _)⟩) hg (by decide) (by decide) hs
theorem de_lenSc {n : Nat} {ns : List Int} (G : Blt X.mg) (ha : DEx X Δ e (.sl n) Δ) (e1 : Δ[n]? = some (.sc ns)) (hg : Gl X "len" := by rfl) (hs : starEach [e] X.env = (false, eval e X.env) :: starEach [] X.env := by rfl) : DEx X Δ (.Call (.Name "len" p) [e] [] pos) (.d (.int ns.length)) Δ :=
  de_cb call_len_seq G.len PySem.boot_len ha rfl (fun B F H σ v Q ok hv q => by
    have hv : σ[n]? = some (some v) := hv
    obtain ⟨o, h1, h2⟩ := ok.sl n _ e1
    rw [hv] at h1
    cases h1
    obtain ⟨a1, ea, hq⟩ := (show ∃ a, some v = some (.ref a) ∧ SqL X.K F a (ns.map V.int) from h2)
    cases ea
    have hq' : SqL X.K H a1 (ns.map V.int) := by
      rcases hq with (z | ⟨u, z⟩) | z
      · exact .inl (.inl (ok.fh _ _ z))
      · exact .inl (.inr ⟨u, ok.fh _ _ z⟩)
      · exact .inr z
    refine ⟨a1, _, rfl, .inl hq', ?_⟩
    rw [List.length_map]
    exact q _ _ _ ok (.refl _) (.int _)) hg (by decide) (by decide) hs
theorem boot_list_ : bootBuiltins "list" = some (.type "list") := by decide +kernel
theorem boot_int_ : bootBuiltins "int" = some (.type "int") := by decide +kernel
theorem boot_str_ : bootBuiltins "str" = some (.type "str") := by decide +kernel
theorem boot_sum_ : bootBuiltins "sum" = some (.builtin "sum") := by decide +kernel
theorem boot_min_ : bootBuiltins "min" = some (.builtin "min") := by decide +kernel
theorem boot_max_ : bootBuiltins "max" = some (.builtin "max") := by decide +kernel
theorem boot_isi_ : bootBuiltins "isinstance" = some (.builtin "isinstance") := by decide +kernel
theorem boot_bool_ : bootBuiltins "bool" = some (.type "bool") := by decide +kernel
theorem boot_tuple_ : bootBuiltins "tuple" = some (.type "tuple") := by decide +kernel
/-- list(x) of a list, of a tuple -/
theorem de_list (G : Blt X.mg) (ha : DEx X Δ e r1 Δ1) (l1 : lite r1 = true) (e1 : rdOf Δ1 r1 = some (.list xs) ∨ rdOf Δ1 r1 = some (.tuple xs)) (hg : Gl X "list" := by rfl) (hs : starEach [e] X.env = (false, eval e X.env) :: starEach [] X.env := by rfl) : DEx X Δ (.Call (.Name "list" p) [e] [] pos) (.nl xs) Δ1 :=
  de_ct call_list_of G.list boot_list_ ha l1 (fun B F H σ v Q ok hv q => by
    rcases e1 with e1 | e1
    · obtain ⟨a, vs, rfl, h1, k1⟩ := rd_list ok hv e1
      exact ⟨a, vs, rfl, .inl (SqL.of h1), fun l hl => q _ _ _ (ok.new hl) (.refl _) (res_nl ok hl k1)⟩
    · obtain ⟨a, vs, rfl, h1, k1⟩ := rd_tup ok hv e1
      exact ⟨a, vs, rfl, .inr (SqT.of (ok.fh _ _ h1)), fun l hl => q _ _ _ (ok.new hl) (.refl _) (res_nl ok hl k1)⟩) hg (by decide) (by decide) hs
theorem de_intB (G : Blt X.mg) (ha : DEx X Δ e (.d (.bool k)) Δ1) (hg : Gl X "int" := by rfl) (hs : starEach [e] X.env = (false, eval e X.env) :: starEach [] X.env := by rfl) : DEx X Δ (.Call (.Name "int" p) [e] [] pos) (.d (.int (if k then 1 else 0))) Δ1 :=
  de_ct call_int1 G.int boot_int_ ha rfl (fun B F H σ v Q ok hv q => by
    cases Dq.bl_ hv
    exact .inr ⟨k, rfl, q _ _ _ ok (.refl _) (.int _)⟩) hg (by decide) (by decide) hs
theorem de_strI (G : Blt X.mg) (ha : DEx X Δ e (.d (.int i)) Δ1) (hb : i.natAbs.log2 < 1920) (hg : Gl X "str" := by rfl) (hs : starEach [e] X.env = (false, eval e X.env) :: starEach [] X.env := by rfl) : DEx X Δ (.Call (.Name "str" p) [e] [] pos) (.d (.str (toString i))) Δ1 :=
  de_ct call_str_int G.str boot_str_ ha rfl (fun B F H σ v Q ok hv q => by
    cases Dq.int_ hv
    exact ⟨i, rfl, hb, q _ _ _ ok (.refl _) (.str _)⟩) hg (by decide) (by decide) hs
theorem dqa_ints {F : Hp} : ∀ {ns : List Int} {vs : List V}, DqA F vs (ns.map PyData.int) → vs = ns.map V.int
  | [], _, .nil => rfl
  | n :: ns, _, .cons h t => by rw [Dq.int_ h, dqa_ints t]; rfl
theorem ints_dqa {F : Hp} : ∀ ns : List Int, DqA F (ns.map V.int) (ns.map PyData.int)
  | [] => .nil
  | n :: ns => .cons (.int n) (ints_dqa ns)
theorem de_sum {ns : List Int} (hcal : X.calm = true) (G : Blt X.mg) (ha : DEx X Δ e r1 Δ1) (l1 : lite r1 = true) (e1 : rdOf Δ1 r1 = some (.list (ns.map PyData.int))) (hg : Gl X "sum" := by rfl) (hs : starEach [e] X.env = (false, eval e X.env) :: starEach [] X.env := by rfl) : DEx X Δ (.Call (.Name "sum" p) [e] [] pos) (.d (.int ns.sum)) Δ1 :=
  de_cb (cr_sum hcal) G.sum boot_sum_ ha l1 (fun B F H σ v Q ok hv q => by
    obtain ⟨a, vs, rfl, h1, k1⟩ := rd_list ok hv e1
    cases dqa_ints k1
    exact ⟨a, ns, rfl, SqL.of h1, q _ _ _ ok (.refl _) (.int _)⟩) hg (by decide) (by decide) hs
/-- min(a, b), max(a, b) of ints -/
theorem de_min2 (hcal : X.calm = true) (G : Blt X.mg) (h : DAx X Δ [a, b] [.d (.int i), .d (.int j)] Δ1) (hg : Gl X "min" := by rfl) (he : starEach [a, b] X.env = (false, eval a X.env) :: starEach [b] X.env := by rfl) (hpl : (backTo pos (starEach [b] X.env)).any (·.1) = false := by rfl) :
    DEx X Δ (.Call (.Name "min" p) [a, b] [] pos) (.d (.int (if j < i then j else i))) Δ1 :=
  ⟨h.rk, pe_imp (pe_callB (call_min2 hcal) hg G.min boot_min_ h.pa (by decide) (by decide) he hpl) fun σ H Q ⟨B, F, ok, q⟩ => ⟨B, F, ok, fun vs F1 H1 ok1 ex1 hv => by
    cases hv with
    | cons h1 t =>
      cases t with
      | cons h2 t =>
        cases t
        cases Dq.int_ h1
        cases Dq.int_ h2
        exact ⟨i, j, rfl, q _ _ _ ok1 ex1 (.int _)⟩⟩⟩
theorem de_max2 (hcal : X.calm = true) (G : Blt X.mg) (h : DAx X Δ [a, b] [.d (.int i), .d (.int j)] Δ1) (hg : Gl X "max" := by rfl) (he : starEach [a, b] X.env = (false, eval a X.env) :: starEach [b] X.env := by rfl) (hpl : (backTo pos (starEach [b] X.env)).any (·.1) = false := by rfl) :
    DEx X Δ (.Call (.Name "max" p) [a, b] [] pos) (.d (.int (if j > i then j else i))) Δ1 :=
  ⟨h.rk, pe_imp (pe_callB (call_max2 hcal) hg G.max boot_max_ h.pa (by decide) (by decide) he hpl) fun σ H Q ⟨B, F, ok, q⟩ => ⟨B, F, ok, fun vs F1 H1 ok1 ex1 hv => by
    cases hv with
    | cons h1 t =>
      cases t with
      | cons h2 t =>
        cases t
        cases Dq.int_ h1
        cases Dq.int_ h2
        exact ⟨i, j, rfl, q _ _ _ ok1 ex1 (.int _)⟩⟩⟩
/-- isinstance(x, T), T a built-in class -/
def tyN : PyData → String
  | .none => "NoneType"
  | .bool _ => "bool"
  | .int _ => "int"
  | .str _ => "str"
  | .list _ => "list"
  | .tuple _ => "tuple"
  | .dict _ => "dict"
theorem Dq.ty {F H : Hp} {v : V} {K : Frag} (h : Dq F v x) (e : Ex F H) : TyX K H v (.type (tyN x)) := by
  cases h with
  | non => exact .base .non
  | bl b => exact .base (.bl b)
  | int i => exact .base (.int i)
  | str s => exact .base (.str s)
  | lst h _ _ => exact .base (.lst (e _ _ h))
  | tup h _ _ => exact .base (.tup (e _ _ h))
theorem de_isi {f : Str} {T : String} (G : Blt X.mg) (ha : DEx X Δ a (.d x) Δ1) (hm : X.mg f = none) (hv : bootBuiltins f = some (.type T)) (hk : kitB (tyN x) T = some k) (hg : Gl X "isinstance" := by rfl) (hg2 : Gl X f := by rfl)
    (he : starEach [a, .Name f p2] X.env = (false, eval a X.env) :: starEach [.Name f p2] X.env := by rfl) (he2 : starEach [.Name f p2] X.env = (false, eval (.Name f p2) X.env) :: starEach [] X.env := by rfl) (hpl : (backTo pos (starEach [.Name f p2] X.env)).any (·.1) = false := by rfl) (hn : f ≠ "__name__" := by decide) (hdb : (f == ("__debug__" : Str)) = false := by decide) :
    DEx X Δ (.Call (.Name "isinstance" p) [a, .Name f p2] [] pos) (.d (.bool k)) Δ1 :=
  ⟨ha.rk, pe_imp (pe_callB call_isi hg G.isi boot_isi_ (pa_cons ha.pe (pa_cons (pe_bltn (v := .ty T) hg2 hm hv rfl hn hdb) pa_nil he2) he) (by decide) (by decide) he hpl) fun σ H Q ⟨B, F, ok, q⟩ => ⟨B, F, ok, fun v F1 H1 ok1 ex1 hv =>
    ⟨v, .ty T, _, _, k, rfl, .ty T, Dq.ty hv ok1.fh, kit_ty hk, q _ _ _ ok1 ex1 (.bl _)⟩⟩⟩
end
end Tr
namespace Tr
open PySem L2
/-! ### what a def does, without a heap: from its parameters to its end -/
abbrev Spec := En → Out → Prop
def SpPost (K : Frag) (B F : Hp) (vs : List V) (Q : VK) (E : XK) : Out → Prop
  | .rt Δ' r => ∀ v F' H', Ok K B F' H' (vs.map some) Δ' → Ex F F' → Res B F' H' (vs.map some) Δ' v r → Q v H'
  | .xc Δ' C => ∀ F' H', Ok K B F' H' (vs.map some) Δ' → Ex F F' → E (.ref C) none H'
  | _ => False
def spOf (K : Frag) (S : Spec) : Sp := fun vs H Q E => ∃ Δ o B F, S Δ o ∧ Ok K B F H (vs.map some) Δ ∧ SpPost K B F vs Q E o
/-- the def of that name keeps S, by at most k calls in one another -/
def Fn (P : Program) (w : World) (K : Frag) (mg : Str → Option Value) (base : Heap) (k : Nat) (x : Str) (S : Spec) : Prop :=
  ∃ f fd ps, mg x = some (.ref f) ∧ PySem.W.keepIn K (.ref f) = true ∧ Binds K fd ps [] ∧ FnOk P w K mg base (L2.CX P w) k f fd ps (spOf K S)
section
variable {P : Program} {w : World} {K : Frag} {mg : Str → Option Value} {base : Heap} {k j : Nat} {x : Str} {S T : Spec}
theorem Fn.mono (h : Fn P w K mg base j x S) (l : j ≤ k) : Fn P w K mg base k x S := by
  obtain ⟨f, fd, ps, a, b, c, d⟩ := h
  exact ⟨f, fd, ps, a, b, c, d.mono l⟩
theorem Fn.imp (h : Fn P w K mg base k x S) (l : ∀ Δ o, T Δ o → S Δ o) : Fn P w K mg base k x T := by
  obtain ⟨f, fd, ps, a, b, c, d⟩ := h
  exact ⟨f, fd, ps, a, b, c, d.imp fun vs H Q E ⟨Δ, o, B, F, s, r⟩ => ⟨Δ, o, B, F, l _ _ s, r⟩⟩
end
def Sl.arg : Sl → Sl
  | .own xs => .ref xs
  | s => s
def argSl (Δ : En) : R → Sl
  | .d x => .d x
  | .nl _ => .no
  | .nt _ _ => .no
  | .sl i => ((Δ[i]?).getD .no).arg
section
variable {K : Frag} {B F H : Hp} {σ : St} {Δ : En} {v : V} {r : R} {rs : List R} {vs : List V}
theorem arg_ok (ok : Ok K B F H σ Δ) (h : Res B F H σ Δ v r) : SlOk K B F H (some v) (argSl Δ r) := by
  cases r with
  | d x => exact ⟨v, rfl, h⟩
  | nl xs => trivial
  | nt i j => trivial
  | sl i =>
    have hv : σ[i]? = some (some v) := h
    show SlOk K B F H (some v) ((Δ[i]?).getD .no).arg
    cases e : Δ[i]? with
    | none => trivial
    | some s =>
      obtain ⟨o, h1, h2⟩ := ok.sl i s e
      rw [hv] at h1
      cases h1
      show SlOk K B F H (some v) s.arg
      cases s with
      | no => trivial
      | d x => exact h2
      | own xs => exact h2
      | ref xs => exact h2
      | sc ns => exact h2
      | v u => exact h2
/-- the callee's slots, where no list of ours is given away: ours are added to what is of others -/
noncomputable def keepB (σ : St) (Δ : En) (B H : Hp) (n : Option Nat) : Hp := fun a => open Classical in if ∃ (j : Nat) (s : Sl), Δ[j]? = some s ∧ s.mut = true ∧ σ[j]? = some (some (.ref a)) ∧ n ≠ some j then H a else B a
theorem keepB_own {n : Option Nat} {a : Addr} {j : Nat} {s : Sl} (e : Δ[j]? = some s) (m : s.mut = true) (hv : σ[j]? = some (some (.ref a))) (hn : n ≠ some j) : keepB σ Δ B H n a = H a := by
  unfold keepB
  exact if_pos ⟨j, s, e, m, hv, hn⟩
theorem keepB_ex {n : Option Nat} (ok : Ok K B F H σ Δ) : Ex B (keepB σ Δ B H n) := fun a o e => by
  unfold keepB
  split
  · exact ok.bh a o e
  · exact e
theorem keepB_h {n : Option Nat} (ok : Ok K B F H σ Δ) : Ex (keepB σ Δ B H n) H := fun a o e => by
  unfold keepB at e
  split at e
  · exact e
  · exact ok.bh a o e
theorem keepB_f {n : Option Nat} (ok : Ok K B F H σ Δ) : ∀ a, keepB σ Δ B H n a ≠ none → F a = none := fun a e => by
  unfold keepB at e
  split at e
  · rename_i h
    obtain ⟨j, s, e1, m, hv, _⟩ := h
    cases s with
    | own xs =>
      obtain ⟨b, vs, h1, h2, _⟩ := ok.rm e1 (.inl rfl)
      rw [hv] at h1
      cases h1
      exact h2
    | ref xs =>
      obtain ⟨b, vs, h1, h2, _⟩ := ok.rm e1 (.inr rfl)
      rw [hv] at h1
      cases h1
      exact h2
    | no => cases m
    | d x => cases m
    | sc ns => cases m
    | v u => cases m
  · exact ok.bf a e
/-- one list of ours, at slot i, is given away (n = some i), as argument q; or none -/
def OneMut (Δ : En) (rs : List R) (n : Option Nat) : Prop := ∀ (q q' : Nat) (r r' : R), rs[q]? = some r → rs[q']? = some r' → (argSl Δ r).mut = true → (argSl Δ r').mut = true → q = q' ∧ ∃ i, r = .sl i ∧ n = some i
theorem ok_call {n : Option Nat} (ok : Ok K B F H σ Δ) (hv : Paired (Res B F H σ Δ) vs rs) (one : OneMut Δ rs n) : Ok K (keepB σ Δ B H n) F H (vs.map some) (rs.map (argSl Δ)) := by
  refine ⟨ok.fh, keepB_h ok, keepB_f ok, by rw [List.length_map, List.length_map, hv.length], fun q s e => ?_, fun q q' s t a e1 e2 m1 m2 r1 r2 => ?_⟩
  · rw [List.getElem?_map] at e
    cases hq : rs[q]? with
    | none => rw [hq] at e; cases e
    | some r =>
      rw [hq] at e
      cases e
      obtain ⟨v, hv1, hv2⟩ := pr_get hv hq
      refine ⟨some v, by rw [List.getElem?_map, hv1]; rfl, ?_⟩
      have h1 := arg_ok ok hv2
      have nB : (argSl Δ r).mut = true → ∀ a, some v = some (.ref a) → B a = none → keepB σ Δ B H n a = none := fun m a ea hb => by
        obtain ⟨_, i, rfl, hn⟩ := one q q r r hq hq m m
        have hvi : σ[i]? = some (some v) := hv2
        have ev : v = .ref a := Option.some.inj ea
        subst ev
        unfold keepB
        split
        · rename_i h
          exfalso
          obtain ⟨j, s', e1, m', hj, hne⟩ := h
          have hs : ∃ s, Δ[i]? = some s ∧ s.mut = true := by
            have m2 : (((Δ[i]?).getD .no).arg).mut = true := m
            cases e2 : Δ[i]? with
            | none => rw [e2] at m2; cases m2
            | some s =>
              rw [e2] at m2
              refine ⟨s, rfl, ?_⟩
              cases s with
              | no => cases m2
              | d x => cases m2
              | own xs => rfl
              | ref xs => rfl
              | sc ns => cases m2
              | v u => cases m2
          obtain ⟨s, e3, m3⟩ := hs
          have := ok.nd j i s' s a e1 e3 m' m3 hj hvi
          subst this
          exact hne hn
        · exact hb
      generalize argSl Δ r = s at h1 nB
      cases s with
      | no => trivial
      | d x => exact h1
      | own xs =>
        obtain ⟨a, ws, ea, q1, q2, q3, q4⟩ := (show MutL B F H (some v) xs from h1)
        exact ⟨a, ws, ea, q1, nB rfl a ea q2, q3, q4⟩
      | ref xs =>
        obtain ⟨a, ws, ea, q1, q2, q3, q4⟩ := (show MutL B F H (some v) xs from h1)
        exact ⟨a, ws, ea, q1, nB rfl a ea q2, q3, q4⟩
      | sc ns => exact h1
      | v u => exact h1
  · rw [List.getElem?_map] at e1 e2
    cases hq : rs[q]? with
    | none => rw [hq] at e1; cases e1
    | some r =>
      cases hq' : rs[q']? with
      | none => rw [hq'] at e2; cases e2
      | some r' =>
        rw [hq] at e1
        rw [hq'] at e2
        cases e1
        cases e2
        exact (one q q' r r' hq hq' m1 m2).1
/-- behind a call that was given nothing to change -/
theorem ok_back {F' H' : Hp} {Δp : En} (ok : Ok K B F H σ Δ) (ok' : Ok K (keepB σ Δ B H none) F' H' (vs.map some) Δp) (ex : Ex F F') : Ok K B F' H' σ Δ := by
  refine ⟨ok'.fh, (keepB_ex ok).trans ok'.bh, fun a hb => ok'.bf a fun z => ?_, ok.len, fun i s e => ?_, ok.nd⟩
  · cases q : B a with
    | none => exact hb q
    | some o => rw [keepB_ex ok a o q] at z; cases z
  · obtain ⟨o, h1, h2⟩ := ok.sl i s e
    refine ⟨o, h1, h2.keep ex fun m a vs ho hf hl => ?_⟩
    subst ho
    have kb : keepB σ Δ B H none a = H a := keepB_own e m h1 (by intro z; cases z)
    refine ⟨ok'.bf a (by rw [kb, hl]; intro z; cases z), ok'.bh a _ (by rw [kb, hl])⟩
theorem notMut_back {H' : Hp} {F' : Hp} {Δp : En} {a : Addr} (ok : Ok K B F H σ Δ) (hb : keepB σ Δ B H none a = none) : NotMut σ Δ a := fun i s e m q => by
  have kb : keepB σ Δ B H none a = H a := keepB_own e m q (by intro z; cases z)
  have hn : ∃ vs, H a = some (.lst vs) := by
    cases s with
    | own xs =>
      obtain ⟨b, vs, h1, _, _, h2, _⟩ := ok.rm e (.inl rfl)
      rw [q] at h1
      cases h1
      exact ⟨vs, h2⟩
    | ref xs =>
      obtain ⟨b, vs, h1, _, _, h2, _⟩ := ok.rm e (.inr rfl)
      rw [q] at h1
      cases h1
      exact ⟨vs, h2⟩
    | no => cases m
    | d x => cases m
    | sc ns => cases m
    | v u => cases m
  obtain ⟨vs, hv⟩ := hn
  rw [kb, hv] at hb
  cases hb
end
/-- what an answer may be -/
theorem TmOk.map {B B' F H : Hp} {σ σ' : St} {Δ Δ' : En} {v : V} {t : Tm} (h : TmOk B F H σ Δ v t) (hb : ∀ a, B a = none → NotMut σ Δ a → B' a = none ∧ NotMut σ' Δ' a) : TmOk B' F H σ' Δ' v t := by
  cases t with
  | d x => exact h
  | l xs =>
    obtain ⟨a, vs, e, h1, h2, h3, h4, h5⟩ := h
    exact ⟨a, vs, e, h1, (hb a h2 h5).1, h3, h4, (hb a h2 h5).2⟩
theorem nt_map {B B' F H : Hp} {σ σ' : St} {Δ Δ' : En} {v : V} {i j : Tm} (h : Res B F H σ Δ v (.nt i j)) (hb : ∀ a, B a = none → NotMut σ Δ a → B' a = none ∧ NotMut σ' Δ' a) : Res B' F H σ' Δ' v (.nt i j) := by
  obtain ⟨a, v1, v2, e, h1, h2, h3, h4, h5, h6, h7⟩ := h
  exact ⟨a, v1, v2, e, h1, (hb a h2 h7).1, h3, h4.map hb, h5.map hb, h6, (hb a h2 h7).2⟩
def R.isNt : R → Bool
  | .nt _ _ => true
  | _ => false
def fin : R → Bool
  | .sl _ => false
  | _ => true
section
variable {X : Cx} {Δ Δ1 Δ2 Δp : En} {e : Expr} {es : List Expr} {r : R} {rs : List R} {pos p : Pos} {k : Nat} {x : Str} {S : Spec}
theorem passL' {X : Cx} : Passes (L2.CX X.prog X.w) X E0 := passL
/-- f(..), nothing of ours is changed -/
theorem de_call (h : Fn X.prog X.w X.K X.mg X.base k x S) (hr : Room k X.A) (ha : DAx X Δ (e :: es) rs Δ1) (hs : S (rs.map (argSl Δ1)) (.rt Δp r)) (hm : OneMut Δ1 rs none) (hf : fin r = true) (hg : Gl X x := by rfl)
    (hdb : (x == ("__debug__" : Str)) = false := by decide) (he : starEach (e :: es) X.env = (false, eval e X.env) :: starEach es X.env := by rfl) (hpl : (backTo pos (starEach es X.env)).any (·.1) = false := by rfl) :
    DEx X Δ (.Call (.Name x p) (e :: es) [] pos) r Δ1 := by
  obtain ⟨f, fd, ps, h1, h2, h3, h4⟩ := h
  refine ⟨ha.rk, pe_imp (pe_call h4 hr hg h1 h2 h3 .nil passL ha.pa hdb he hpl) fun σ H Q ⟨B, F, ok, q⟩ => ⟨B, F, ok, fun vs F1 H1 ok1 ex1 hv => ?_⟩⟩
  show spOf X.K S (vs ++ []) H1 Q E0
  rw [List.append_nil]
  refine ⟨_, _, _, F1, hs, ok_call (n := none) ok1 hv hm, fun v F2 H2 ok2 ex2 hres => ?_⟩
  have ok3 := ok_back ok1 ok2 ex2
  refine q v F2 H2 ok3 (ex1.trans ex2) ?_
  cases r with
  | d x => exact hres
  | nl xs =>
    obtain ⟨a, ws, ev, r1, r2, r3, r4, r5⟩ := hres
    exact ⟨a, ws, ev, r1, (keepB_ex ok1).back r2, r3, r4, notMut_back (H' := H2) (F' := F2) (Δp := Δp) ok1 r2⟩
  | nt i j => exact nt_map hres fun a r2 _ => ⟨(keepB_ex ok1).back r2, notMut_back (H' := H2) (F' := F2) (Δp := Δp) ok1 r2⟩
  | sl i => cases hf
theorem de_call0 (h : Fn X.prog X.w X.K X.mg X.base k x S) (hr : Room k X.A) (hs : S [] (.rt Δp r)) (hf : fin r = true) (hg : Gl X x := by rfl) (hdb : (x == ("__debug__" : Str)) = false := by decide) :
    DEx X Δ (.Call (.Name x p) [] [] pos) r Δ := by
  obtain ⟨f, fd, ps, h1, h2, h3, h4⟩ := h
  refine ⟨.rfl, pe_imp (pe_call0 h4 hr hg h1 h2 h3 .nil passL hdb) fun σ H Q ⟨B, F, ok, q⟩ => ?_⟩
  have hm : OneMut Δ [] none := fun q q' r r' e => by simp at e
  refine ⟨_, _, _, F, hs, ok_call (n := none) (rs := []) (vs := []) ok .nil hm, fun v F2 H2 ok2 ex2 hres => ?_⟩
  have ok3 := ok_back (vs := []) ok ok2 ex2
  refine q v F2 H2 ok3 ex2 ?_
  cases r with
  | d x => exact hres
  | nl xs =>
    obtain ⟨a, ws, ev, r1, r2, r3, r4, r5⟩ := hres
    exact ⟨a, ws, ev, r1, (keepB_ex ok).back r2, r3, r4, notMut_back (H' := H2) (F' := F2) (Δp := Δp) ok r2⟩
  | nt i j => exact nt_map hres fun a r2 _ => ⟨(keepB_ex ok).back r2, notMut_back (H' := H2) (F' := F2) (Δp := Δp) ok r2⟩
  | sl i => cases hf
/-- the slots behind a call that changed the list at slot i -/
def upSl : Sl → List PyData → Sl
  | .own _, ys => .own ys
  | _, ys => .ref ys
theorem rk_up {i : Nat} {s : Sl} {ys : List PyData} (e : Δ[i]? = some s) (m : s.mut = true) : RK Δ (Δ.set i (upSl s ys)) := fun j xs ej => by
  by_cases hj : j = i
  · subst hj
    rw [e] at ej
    cases ej
    have hi : j < Δ.length := (List.getElem?_eq_some_iff.mp e).1
    exact ⟨ys, by rw [List.getElem?_set_self hi]; rfl⟩
  · exact ⟨xs, by rw [List.getElem?_set_ne (Ne.symm hj)]; exact ej⟩
/-- f(.., xs, ..): the list at slot i is given as argument q, and changed to ys -/
theorem de_callM {i q : Nat} {s : Sl} {ys : List PyData} (h : Fn X.prog X.w X.K X.mg X.base k x S) (hr : Room k X.A) (ha : DAx X Δ (e :: es) rs Δ1) (hs : S (rs.map (argSl Δ1)) (.rt Δp r)) (hq : rs[q]? = some (.sl i)) (hi : Δ1[i]? = some s) (hsm : s.mut = true) (hp : Δp[q]? = some (.ref ys))
    (hm : OneMut Δ1 rs (some i)) (hf : (fin r && !r.isNt) = true) (hg : Gl X x := by rfl)
    (hdb : (x == ("__debug__" : Str)) = false := by decide) (he : starEach (e :: es) X.env = (false, eval e X.env) :: starEach es X.env := by rfl) (hpl : (backTo pos (starEach es X.env)).any (·.1) = false := by rfl) :
    DEx X Δ (.Call (.Name x p) (e :: es) [] pos) r (Δ1.set i (upSl s ys)) := by
  obtain ⟨f, fd, ps, h1, h2, h3, h4⟩ := h
  refine ⟨ha.rk.trans (rk_up hi hsm), pe_imp (pe_call h4 hr hg h1 h2 h3 .nil passL ha.pa hdb he hpl) fun σ H Q ⟨B, F, ok, qq⟩ => ⟨B, F, ok, fun vs F1 H1 ok1 ex1 hv => ?_⟩⟩
  show spOf X.K S (vs ++ []) H1 Q E0
  rw [List.append_nil]
  refine ⟨_, _, _, F1, hs, ok_call (n := some i) ok1 hv hm, fun v F2 H2 ok2 ex2 hres => ?_⟩
  -- the argument's address
  obtain ⟨u, hu1, hu2⟩ := pr_get hv hq
  have hui : σ[i]? = some (some u) := hu2
  obtain ⟨a, ws, hp1, hp2, hp3, hp4, hp5⟩ := ok2.rm hp (.inr rfl)
  rw [List.getElem?_map, hu1] at hp1
  have eu : u = .ref a := by simpa using hp1
  subst eu
  have fa1 : F1 a = none ∧ B a = none := by
    cases s with
    | own xs =>
      obtain ⟨b, us, r1, r2, r3, _⟩ := ok1.rm hi (.inl rfl)
      rw [hui] at r1
      cases r1
      exact ⟨r2, r3⟩
    | ref xs =>
      obtain ⟨b, us, r1, r2, r3, _⟩ := ok1.rm hi (.inr rfl)
      rw [hui] at r1
      cases r1
      exact ⟨r2, r3⟩
    | no => cases hsm
    | d x => cases hsm
    | sc ns => cases hsm
    | v u => cases hsm
  have others : ∀ {j : Nat} {t : Sl} {b : Addr} {us : List V}, j ≠ i → Δ1[j]? = some t → t.mut = true → σ[j]? = some (some (.ref b)) → H1 b = some (.lst us) → F2 b = none ∧ H2 b = some (.lst us) := fun {j t b us} hj e m hb hl => by
    have kb : keepB σ Δ1 B H1 (some i) b = H1 b := keepB_own e m hb (by intro z; cases z; exact hj rfl)
    exact ⟨ok2.bf b (by rw [kb, hl]; intro z; cases z), ok2.bh b _ (by rw [kb, hl])⟩
  have ok3 : Ok X.K B F2 H2 σ (Δ1.set i (upSl s ys)) := by
    refine ⟨ok2.fh, (keepB_ex ok1).trans ok2.bh, fun b hb => ok2.bf b fun z => ?_, by simp [ok1.len], fun j t ej => ?_, fun j k' t u b e1 e2 m1 m2 r1 r2 => ?_⟩
    · cases q : B b with
      | none => exact hb q
      | some o => rw [keepB_ex ok1 b o q] at z; cases z
    · by_cases hj : j = i
      · subst hj
        have hl : j < Δ1.length := (List.getElem?_eq_some_iff.mp hi).1
        rw [List.getElem?_set_self hl] at ej
        cases ej
        have mu : MutL B F2 H2 (some (.ref a)) ys := ⟨a, ws, rfl, hp2, fa1.2, hp4, hp5⟩
        refine ⟨_, hui, ?_⟩
        cases s with
        | own xs => exact mu
        | ref xs => exact mu
        | no => cases hsm
        | d x => cases hsm
        | sc ns => cases hsm
        | v u => cases hsm
      · rw [List.getElem?_set_ne (Ne.symm hj)] at ej
        obtain ⟨o, g1, g2⟩ := ok1.sl j t ej
        refine ⟨o, g1, g2.keep ex2 fun m b us ho hf hl => ?_⟩
        subst ho
        exact others hj ej m g1 hl
    · have back : ∀ {k : Nat} {t : Sl}, (Δ1.set i (upSl s ys))[k]? = some t → t.mut = true → ∃ t', Δ1[k]? = some t' ∧ t'.mut = true := fun {k t} e' m => by
        by_cases hk : k = i
        · subst hk
          exact ⟨s, hi, hsm⟩
        · rw [List.getElem?_set_ne (Ne.symm hk)] at e'
          exact ⟨t, e', m⟩
      obtain ⟨t', e1', m1'⟩ := back e1 m1
      obtain ⟨u', e2', m2'⟩ := back e2 m2
      exact ok1.nd j k' t' u' b e1' e2' m1' m2' r1 r2
  refine qq v F2 H2 ok3 (ex1.trans ex2) ?_
  cases r with
  | d x => exact hres
  | nl xs =>
    obtain ⟨b, us, ev, r1, r2, r3, r4, r5⟩ := hres
    refine ⟨b, us, ev, r1, (keepB_ex ok1).back r2, r3, r4, fun j t ej m hb => ?_⟩
    by_cases hj : j = i
    · subst hj
      rw [hui] at hb
      have eb : b = a := by simpa using hb.symm
      subst eb
      exact r5 q _ hp rfl (by rw [List.getElem?_map, hu1]; rfl)
    · rw [List.getElem?_set_ne (Ne.symm hj)] at ej
      obtain ⟨o, g1, g2⟩ := ok1.sl j t ej
      have kb : keepB σ Δ1 B H1 (some i) b = H1 b := keepB_own ej m hb (by intro z; cases z; exact hj rfl)
      rw [hb] at g1
      cases g1
      have hl : ∃ zs, H1 b = some (.lst zs) := by
        cases t with
        | own zs =>
          obtain ⟨c, us', c1, _, _, c2, _⟩ := ok1.rm ej (.inl rfl)
          rw [hb] at c1
          cases c1
          exact ⟨_, c2⟩
        | ref zs =>
          obtain ⟨c, us', c1, _, _, c2, _⟩ := ok1.rm ej (.inr rfl)
          rw [hb] at c1
          cases c1
          exact ⟨_, c2⟩
        | no => cases m
        | d x => cases m
        | sc ns => cases m
        | v u => cases m
      obtain ⟨zs, hz⟩ := hl
      rw [kb, hz] at r2
      cases r2
  | nt i j => cases hf
  | sl i => cases hf
end
end Tr
namespace Tr
open PySem L2
/-! ### statements -/
section
variable {K : Frag} {W : WX} {B F F' H' : Hp} {σ σ' : St} {Δ Δ1 Δ2 : En} {D : Ends} {o : Out}
theorem Kp.refl (h : RK Δ Δ1) : Kp Δ Δ1 σ σ := fun i xs e => ⟨rfl, h i xs e⟩
theorem Kp.trans {σ'' : St} (h : Kp Δ Δ1 σ σ') (k : Kp Δ1 Δ2 σ' σ'') : Kp Δ Δ2 σ σ'' := fun i xs e => by
  obtain ⟨h1, ys, h2⟩ := h i xs e
  obtain ⟨h3, h4⟩ := k i ys h2
  exact ⟨h3.trans h1, h4⟩
theorem Post.step (h : Post K W B F σ Δ D o) (ex : Ex F F') (kp : Kp Δ Δ1 σ σ') : Post K W B F' σ' Δ1 D o := by
  cases o with
  | nx Δ' => exact fun τ G I ok e k => h τ G I ok (ex.trans e) (kp.trans k)
  | rt Δ' r => exact fun v τ G I ok e k hr => h v τ G I ok (ex.trans e) (kp.trans k) hr
  | bk Δ' => exact fun τ G I ok e k => h τ G I ok (ex.trans e) (kp.trans k)
  | ct Δ' => exact fun τ G I ok e k => h τ G I ok (ex.trans e) (kp.trans k)
  | xc Δ' C => exact fun τ G I ok e k => h τ G I ok (ex.trans e) (kp.trans k)
end
def Out.isNx : Out → Bool
  | .nx _ => true
  | _ => false
theorem Post.nxfree {K : Frag} {W : WX} {B F : Hp} {σ : St} {Δ : En} {D : Ends} {o : Out} {N : St → Hp → Prop} (h : Post K W B F σ Δ D o) (ho : o.isNx = false) : Post K W B F σ Δ { D with nx := N } o := by
  cases o with
  | nx Δ' => cases ho
  | rt Δ' r => exact h
  | bk Δ' => exact h
  | ct Δ' => exact h
  | xc Δ' C => exact h
section
variable {X : Cx} {W : WX} {Δ Δ1 Δ2 Δ3 : En} {st : Stmt} {rest sts body suite : List Stmt} {P : Out → Prop} {o : Out} {a b c e tg iter : Expr} {es : List Expr} {r : R} {rs : List R} {pos p p2 apos cpos : Pos} {x y z : PyData} {xs ys : List PyData} {k l : Bool} {i j : Int}
section
variable {ι : Type} {XS : ι → Cx} {WS : ι → WX}
def thenP (XS : ι → Cx) (WS : ι → WX) (rest : List Stmt) (P : Out → Prop) : Out → Prop
  | .nx Δ1 => Go XS WS Δ1 rest P
  | o => P o
end
theorem ds_cons (h1 : DS1 X W Δ st (.nx Δ1)) (h2 : DS X W Δ1 rest o) : DS X W Δ (st :: rest) o := pss_imp (pss_cons h1 h2) fun D σ H ⟨B, F, ok, q⟩ => ⟨B, F, ok, fun σ' F' H' ok' ex kp => ⟨B, F', ok', q.step ex kp⟩⟩
theorem ds_stop (h1 : DS1 X W Δ st o) (ho : o.isNx = false) : DS X W Δ (st :: rest) o := pss_imp (pss_cons h1 pss_never) fun D σ H ⟨B, F, ok, q⟩ => ⟨B, F, ok, q.nxfree ho⟩
theorem ds_nil : DS X W Δ [] (.nx Δ) := pss_imp pss_nil fun D σ H ⟨B, F, ok, q⟩ => q σ F H ok (.refl _) (.refl .rfl)
section
variable {ι : Type} {XS : ι → Cx} {WS : ι → WX}
theorem go_nil (h : P (.nx Δ)) : Go XS WS Δ [] P := ⟨_, h, fun q => ds_nil⟩
theorem go_cons (h : Go1 XS WS Δ st (thenP XS WS rest P)) : Go XS WS Δ (st :: rest) P := by
  obtain ⟨o, hp, h⟩ := h
  cases o with
  | nx Δ1 =>
    obtain ⟨o2, hp2, h2⟩ := hp
    exact ⟨o2, hp2, fun q => ds_cons (h q) (h2 q)⟩
  | rt Δ' r => exact ⟨_, hp, fun q => ds_stop (h q) rfl⟩
  | bk Δ' => exact ⟨_, hp, fun q => ds_stop (h q) rfl⟩
  | ct Δ' => exact ⟨_, hp, fun q => ds_stop (h q) rfl⟩
  | xc Δ' C => exact ⟨_, hp, fun q => ds_stop (h q) rfl⟩
theorem Go1.mono {P' : Out → Prop} (h : Go1 XS WS Δ st P) (k : ∀ o, P o → P' o) : Go1 XS WS Δ st P' := let ⟨o, a, b⟩ := h; ⟨o, k o a, b⟩
theorem Go.mono {P' : Out → Prop} (h : Go XS WS Δ sts P) (k : ∀ o, P o → P' o) : Go XS WS Δ sts P' := let ⟨o, a, b⟩ := h; ⟨o, k o a, b⟩
theorem go_one (h : Go1 XS WS Δ st P) : Go XS WS Δ [st] P := by
  refine go_cons (h.mono fun o hp => ?_)
  cases o with
  | nx Δ1 => exact go_nil hp
  | rt Δ' r => exact hp
  | bk Δ' => exact hp
  | ct Δ' => exact hp
  | xc Δ' C => exact hp
/-- a statement that ends one way -/
theorem go1_of (h : ∀ q, DS1 (XS q) (WS q) Δ st o) (hp : P o) : Go1 XS WS Δ st P := ⟨o, hp, h⟩
/-- such a statement, then the rest -/
theorem go_then (h : ∀ q, DS1 (XS q) (WS q) Δ st (.nx Δ1)) (hp : Go XS WS Δ1 rest P) : Go XS WS Δ (st :: rest) P := go_cons ⟨.nx Δ1, hp, h⟩
theorem go_end (h : ∀ q, DS1 (XS q) (WS q) Δ st o) (ho : o.isNx = false) (hp : P o) : Go XS WS Δ (st :: rest) P := ⟨_, hp, fun q => ds_stop (h q) ho⟩
theorem go_if {c : Expr} {k : Bool} (h : ∀ q, DTx (XS q) Δ c k Δ1) (h1 : k = true → Go XS WS Δ1 body (thenP XS WS rest P)) (h2 : k = false → Go XS WS Δ1 suite (thenP XS WS rest P)) : Go XS WS Δ (.If c body suite pos :: rest) P := by
  refine go_cons ?_
  cases k with
  | true =>
    obtain ⟨o, hp, hs⟩ := h1 rfl
    refine ⟨o, hp, fun q => ps_imp (ps_if (h q).pt (hs q) pss_never) fun D σ H ⟨B, F, ok, qq⟩ => ⟨B, F, ok, fun F' H' ok' ex => ?_⟩⟩
    exact iteT ⟨B, F', ok', qq.step ex (.refl (h q).rk)⟩
  | false =>
    obtain ⟨o, hp, hs⟩ := h2 rfl
    refine ⟨o, hp, fun q => ps_imp (ps_if (h q).pt pss_never (hs q)) fun D σ H ⟨B, F, ok, qq⟩ => ⟨B, F, ok, fun F' H' ok' ex => ?_⟩⟩
    exact iteF ⟨B, F', ok', qq.step ex (.refl (h q).rk)⟩
/-- a branch that goes on behind the if -/
theorem go_on (h : Go XS WS Δ rest P) : Go XS WS Δ [] (thenP XS WS rest P) := go_nil h
end
/-! weaker slots -/
inductive Le : En → En → Prop
  | nil : Le [] []
  | same {s : Sl} {Δ Δ' : En} : Le Δ Δ' → Le (s :: Δ) (s :: Δ')
  | no {s : Sl} {Δ Δ' : En} (h : s.isRef = false) : Le Δ Δ' → Le (s :: Δ) (.no :: Δ')
theorem Le.refl : ∀ Δ : En, Le Δ Δ
  | [] => .nil
  | _ :: Δ => .same (Le.refl Δ)
theorem Le.get {Δ Δ' : En} (h : Le Δ Δ') : Δ.length = Δ'.length ∧ ∀ (i : Nat) (s : Sl), Δ'[i]? = some s → ∃ t, Δ[i]? = some t ∧ (s = t ∨ (s = .no ∧ t.isRef = false)) := by
  induction h with
  | nil => exact ⟨rfl, fun i s e => by simp at e⟩
  | @same s Δ Δ' h ih =>
    refine ⟨by simp [ih.1], fun i t e => ?_⟩
    cases i with
    | zero => exact ⟨t, by simpa using e, .inl rfl⟩
    | succ i => exact ih.2 i t (by simpa using e)
  | @no s Δ Δ' hs h ih =>
    refine ⟨by simp [ih.1], fun i t e => ?_⟩
    cases i with
    | zero =>
      have e : Sl.no = t := by simpa using e
      subst e
      exact ⟨s, rfl, .inr ⟨rfl, hs⟩⟩
    | succ i => exact ih.2 i t (by simpa using e)
theorem Le.rk {Δ Δ' : En} (h : Le Δ Δ') : RK Δ Δ' := by
  induction h with
  | nil => exact .rfl
  | same h ih =>
    intro i xs e
    cases i with
    | zero => exact ⟨xs, e⟩
    | succ i => exact ih i xs (by simpa using e)
  | no hs h ih =>
    intro i xs e
    cases i with
    | zero =>
      have e := Option.some.inj e
      subst e
      cases hs
    | succ i => exact ih i xs (by simpa using e)
theorem Le.ok {K : Frag} {B F H : Hp} {σ : St} {Δ Δ' : En} (h : Le Δ Δ') (ok : Ok K B F H σ Δ) : Ok K B F H σ Δ' := by
  obtain ⟨hl, hg⟩ := h.get
  refine ⟨ok.fh, ok.bh, ok.bf, ok.len.trans hl, fun i s e => ?_, fun i j s t a e1 e2 m1 m2 r1 r2 => ?_⟩
  · obtain ⟨t, h1, h2⟩ := hg i s e
    obtain ⟨u, h3, h4⟩ := ok.sl i t h1
    refine ⟨u, h3, ?_⟩
    rcases h2 with rfl | ⟨rfl, _⟩
    · exact h4
    · trivial
  · obtain ⟨s', h1, h2⟩ := hg i s e1
    obtain ⟨t', h3, h4⟩ := hg j t e2
    have q1 : s'.mut = true := by
      rcases h2 with rfl | ⟨rfl, _⟩
      · exact m1
      · cases m1
    have q2 : t'.mut = true := by
      rcases h4 with rfl | ⟨rfl, _⟩
      · exact m2
      · cases m2
    exact ok.nd i j s' t' a h1 h3 q1 q2 r1 r2
theorem Le.trans {a b c : En} (h : Le a b) : Le b c → Le a c := by
  intro k
  induction h generalizing c with
  | nil => exact k
  | same h ih =>
    cases k with
    | same k => exact .same (ih k)
    | no hs k => exact .no hs (ih k)
  | no hs h ih =>
    cases k with
    | same k => exact .no hs (ih k)
    | no _ k => exact .no hs (ih k)
theorem ds_le (h : Le Δ Δ1) (k : DS X W Δ1 sts o) : DS X W Δ sts o := pss_imp k fun D σ H ⟨B, F, ok, q⟩ => ⟨B, F, h.ok ok, q.step (.refl _) (.refl h.rk)⟩
theorem go_le {ι : Type} {XS : ι → Cx} {WS : ι → WX} (h : Le Δ Δ1) (k : Go XS WS Δ1 sts P) : Go XS WS Δ sts P := let ⟨o, a, b⟩ := k; ⟨o, a, fun q => ds_le h (b q)⟩
theorem de_le' (h : Le Δ Δ1) (k : DEx X Δ1 e r Δ2) : DEx X Δ e r Δ2 := ⟨h.rk.trans k.rk, pe_imp k.pe fun σ H Q ⟨B, F, ok, q⟩ => ⟨B, F, h.ok ok, q⟩⟩
/-! return, if -/
theorem ds1_ret (h : DEx X Δ e r Δ1) : DS1 X W Δ (.Return (some e) pos) (.rt Δ1 r) := ps_imp (ps_ret h.pe) fun D σ H ⟨B, F, ok, q⟩ => ⟨B, F, ok, fun v F' H' ok' ex hv => q v σ F' H' ok' ex (.refl h.rk) hv⟩
theorem ds1_retN : DS1 X W Δ (.Return none pos) (.rt Δ (.d .none)) := ps_imp ps_retN fun D σ H ⟨B, F, ok, q⟩ => q .non σ F H ok (.refl _) (.refl .rfl) Dq.non
theorem ds1_break : DS1 X W Δ (.Break pos) (.bk Δ) := ps_imp ps_break fun D σ H ⟨B, F, ok, q⟩ => q σ F H ok (.refl _) (.refl .rfl)
theorem ds1_cont : DS1 X W Δ (.Continue pos) (.ct Δ) := ps_imp ps_continue fun D σ H ⟨B, F, ok, q⟩ => q σ F H ok (.refl _) (.refl .rfl)
theorem ds1_pass : DS1 X W Δ (.Pass pos) (.nx Δ) := ps_imp ps_pass fun D σ H ⟨B, F, ok, q⟩ => q σ F H ok (.refl _) (.refl .rfl)
/-! targets -/
def tG (K : Frag) (Δ : En) (x : PyData) (Δ' : En) : TG := fun v σ H Q => ∃ B F, Ok K B F H σ Δ ∧ Dq F v x ∧ ∀ σ' F' H', Ok K B F' H' σ' Δ' → Ex F F' → Kp Δ Δ' σ σ' → Q σ' H'
structure DGx (X : Cx) (Δ : En) (tg : Expr) (x : PyData) (Δ' : En) : Prop where
  rk : RK Δ Δ'
  pg : PG X tg (tG X.K Δ x Δ')
theorem pg_imp {e : Expr} {t t' : TG} (h : PG X e t) (k : ∀ v σ H Q, t' v σ H Q → t v σ H Q) : PG X e t' := ⟨fun pins s σ H v u Q I r w => h.run pins s σ H v u Q I r (k _ _ _ _ w)⟩
theorem kp_set {σ : St} {i : Nat} {s t : Sl} {v : Option V} (e : Δ[i]? = some s) (hs : s.isRef = false) : Kp Δ (Δ.set i t) σ (σ.set i v) := fun j xs ej => by
  have hj : j ≠ i := fun z => by
    subst z
    rw [e] at ej
    cases ej
    cases hs
  exact ⟨by rw [List.getElem?_set_ne (Ne.symm hj)], xs, by rw [List.getElem?_set_ne (Ne.symm hj)]; exact ej⟩
theorem dg_name (i : Nat) {n : Str} {s : Sl} (hN : X.N.Nodup) (hΔ : Δ[i]? = some s := by rfl) (hs : s.isRef = false := by rfl) (hi : X.N[i]? = some n := by rfl) (hx : Loc X.env.scope n := by first | exact Or.inl rfl | exact Or.inr rfl) (hf : X.fn n = true ∨ X.env.scope.names.lookup n = some .local := by first | exact .inl rfl | exact .inr rfl | assumption) :
    DGx X Δ (.Name n pos) x (Δ.set i (.d x)) := ⟨rk_set hΔ hs, pg_imp (pg_name hN hi hx hf) fun v σ H Q ⟨B, F, ok, hv, q⟩ => q _ F H (ok.put (s := .d x) ⟨v, rfl, hv⟩ fun z => nomatch z) (.refl _) (kp_set hΔ hs)⟩
def tGs (K : Frag) (Δ : En) (xs : List PyData) (Δ' : En) : TGs := fun vs σ H Q => ∃ B F, Ok K B F H σ Δ ∧ DqA F vs xs ∧ ∀ σ' F' H', Ok K B F' H' σ' Δ' → Ex F F' → Kp Δ Δ' σ σ' → Q σ' H'
structure DGsx (X : Cx) (Δ : En) (tgs : List Expr) (xs : List PyData) (Δ' : En) : Prop where
  rk : RK Δ Δ'
  pg : PGs X tgs (tGs X.K Δ xs Δ')
theorem pgs_imp {es : List Expr} {t t' : TGs} (h : PGs X es t) (k : ∀ v σ H Q, t' v σ H Q → t v σ H Q) : PGs X es t' := ⟨fun pins s σ H v u Q I r w => h.run pins s σ H v u Q I r (k _ _ _ _ w)⟩
theorem dgs_nil : DGsx X Δ [] [] Δ := ⟨.rfl, pgs_imp pgs_nil fun v σ H Q ⟨B, F, ok, hv, q⟩ => by
  cases hv
  exact ⟨rfl, q σ F H ok (.refl _) (.refl .rfl)⟩⟩
theorem dgs_cons (h : DGx X Δ e x Δ1) (k : DGsx X Δ1 es xs Δ2) (hs : (assignEach (e :: es) X.env).map (·.2) = assign e X.env :: (assignEach es X.env).map (·.2) := by rfl) : DGsx X Δ (e :: es) (x :: xs) Δ2 := ⟨h.rk.trans k.rk, pgs_imp (pgs_cons h.pg k.pg hs) fun v σ H Q ⟨B, F, ok, hv, q⟩ => by
  cases hv with
  | cons h1 h2 =>
    exact ⟨_, _, rfl, B, F, ok, h1, fun σ1 F1 H1 ok1 ex1 kp1 => ⟨B, F1, ok1, h2.mono fun _ _ => Dq.mono ex1, fun σ2 F2 H2 ok2 ex2 kp2 => q σ2 F2 H2 ok2 (ex1.trans ex2) (kp1.trans kp2)⟩⟩⟩
theorem dg_tup {kk : Nat} (hc : X.calm = true) (h : DGsx X Δ es xs Δ1) (hn : (assignEach es X.env).length = xs.length := by rfl) (hst : (assignEach es X.env).findIdx? (·.1) = none := by rfl) : DGx X Δ (.Tuple es kk pos) (.tuple xs) Δ1 :=
  ⟨h.rk, pg_imp (pg_tup hc h.pg hn hst) fun v σ H Q ⟨B, F, ok, hv, q⟩ => by
    obtain ⟨a, vs, rfl, h1, h2⟩ := hv.int_tup
    exact ⟨a, vs, rfl, SqT.of (ok.fh _ _ h1), h2.length, B, F, ok, h2, q⟩⟩
/-! assignments -/
theorem ds1_asg {tg : Expr} (h : DEx X Δ e (.d x) Δ1) (g : DGx X Δ1 tg x Δ2) (hs : swapsWithSole [tg] e pos.line X.env = pure false := by rfl) (hw : swappedStores [tg] e X.env = pure none := by rfl) (h1 : (assignEach [tg] X.env).map (·.2) = [assign tg X.env] := by rfl) :
    DS1 X W Δ (.Assign [tg] e pos) (.nx Δ2) := ps_imp (ps_asg h.pe g.pg hs hw h1) fun D σ H ⟨B, F, ok, q⟩ => ⟨B, F, ok, fun v F1 H1 ok1 ex1 hv => ⟨B, F1, ok1, hv, fun σ2 F2 H2 ok2 ex2 kp2 => q σ2 F2 H2 ok2 (ex1.trans ex2) ((Kp.refl h.rk).trans kp2)⟩⟩
/-- x = e, e a datum -/
theorem ds1_set (i : Nat) {n : Str} {s : Sl} (hN : X.N.Nodup) (h : DEx X Δ e (.d x) Δ1) (hΔ : Δ1[i]? = some s := by rfl) (hs : s.isRef = false := by rfl) (hi : X.N[i]? = some n := by rfl) (hx : Loc X.env.scope n := by first | exact Or.inl rfl | exact Or.inr rfl)
    (hsw : swapsWith e (some (.Name n p)) pos.line X.env = pure false := by rfl) (hf : X.fn n = true ∨ X.env.scope.names.lookup n = some .local := by first | exact .inl rfl | exact .inr rfl | assumption) : DS1 X W Δ (.Assign [.Name n p] e pos) (.nx (Δ1.set i (.d x))) :=
  ps_imp (ps_set hN hi hx h.pe hsw hf) fun D σ H ⟨B, F, ok, q⟩ => ⟨B, F, ok, fun v F1 H1 ok1 ex1 hv => q _ F1 H1 (ok1.put (s := .d x) ⟨v, rfl, hv⟩ fun z => nomatch z) ex1 ((Kp.refl h.rk).trans (kp_set hΔ hs))⟩
theorem put_own {K : Frag} {B F H : Hp} {σ : St} {Δ : En} {i : Nat} {v : V} (ok : Ok K B F H σ Δ) (hv : Res B F H σ Δ v (.nl xs)) : Ok K B F H (σ.set i (some v)) (Δ.set i (.own xs)) := by
  obtain ⟨a, vs, rfl, h1, h2, h3, h4, h5⟩ := hv
  exact ok.put (s := .own xs) ⟨a, vs, rfl, h1, h2, h3, h4⟩ fun _ b eb => by cases eb; exact h5
/-- x = e, e a new list, to be changed -/
theorem ds1_own (i : Nat) {n : Str} {s : Sl} (hN : X.N.Nodup) (h : DEx X Δ e (.nl xs) Δ1) (hΔ : Δ1[i]? = some s := by rfl) (hs : s.isRef = false := by rfl) (hi : X.N[i]? = some n := by rfl) (hx : Loc X.env.scope n := by first | exact Or.inl rfl | exact Or.inr rfl)
    (hsw : swapsWith e (some (.Name n p)) pos.line X.env = pure false := by rfl) (hf : X.fn n = true ∨ X.env.scope.names.lookup n = some .local := by first | exact .inl rfl | exact .inr rfl | assumption) : DS1 X W Δ (.Assign [.Name n p] e pos) (.nx (Δ1.set i (.own xs))) :=
  ps_imp (ps_set hN hi hx h.pe hsw hf) fun D σ H ⟨B, F, ok, q⟩ => ⟨B, F, ok, fun v F1 H1 ok1 ex1 hv => q _ F1 H1 (put_own ok1 hv) ex1 ((Kp.refl h.rk).trans (kp_set hΔ hs))⟩
/-- if c: x = e, of a datum's slot: one way -/
theorem go_ifset {ι : Type} {XS : ι → Cx} {WS : ι → WX} (i : Nat) {pos2 : Pos} (hc : ∀ q, DTx (XS q) Δ c k Δ) (h : k = true → ∀ q, DS1 (XS q) (WS q) Δ st (.nx (Δ.set i (.d x)))) (hΔ : Δ[i]? = some (.d y)) (hp : Go XS WS (Δ.set i (.d (if k then x else y))) rest P) : Go XS WS Δ (.If c [st] [] pos2 :: rest) P := by
  refine go_if hc (fun hk => ?_) (fun hk => ?_)
  · subst hk
    exact go_then (h rfl) (go_on hp)
  · subst hk
    have e2 : Δ.set i (.d y) = Δ := by
      obtain ⟨hl, he⟩ := List.getElem?_eq_some_iff.mp hΔ
      rw [← he]
      exact List.set_getElem_self hl
    have hp : Go XS WS (Δ.set i (.d y)) rest P := hp
    rw [e2] at hp
    exact go_on hp
/-! lists that change -/
theorem rm_up {K : Frag} {B F H : Hp} {σ : St} {i : Nat} {s : Sl} (ok : Ok K B F H σ Δ) (e : Δ[i]? = some s) (hs : s = .own xs ∨ s = .ref xs) : ∃ a vs, σ[i]? = some (some (.ref a)) ∧ F a = none ∧ B a = none ∧ H a = some (.lst vs) ∧ DqA F vs xs ∧
    ∀ us ys, DqA F us ys → Ok K B F (upd H a (.lst us)) σ (Δ.set i (upSl s ys)) := by
  obtain ⟨a, vs, h1, h2, h3, h4, h5⟩ := ok.rm e hs
  refine ⟨a, vs, h1, h2, h3, h4, h5, fun us ys hu => ?_⟩
  rcases hs with rfl | rfl
  · exact ok.write e (.inl ⟨rfl, rfl⟩) h1 hu h2 h3
  · exact ok.write e (.inr ⟨rfl, rfl⟩) h1 hu h2 h3
theorem own_mut {s : Sl} (hs : s = .own xs ∨ s = .ref xs) : s.mut = true ∧ s.full = true := by rcases hs with rfl | rfl <;> exact ⟨rfl, rfl⟩
theorem mut_at {K : Frag} {B F H : Hp} {σ : St} {i : Nat} {s : Sl} (ok : Ok K B F H σ Δ) (e : Δ[i]? = some s) (hs : s.mut = true) : ∃ a vs, σ[i]? = some (some (.ref a)) ∧ H a = some (.lst vs) := by
  cases s with
  | own xs =>
    obtain ⟨b, vs, h1, _, _, h2, _⟩ := ok.rm e (.inl rfl)
    exact ⟨b, vs, h1, h2⟩
  | ref xs =>
    obtain ⟨b, vs, h1, _, _, h2, _⟩ := ok.rm e (.inr rfl)
    exact ⟨b, vs, h1, h2⟩
  | no => cases hs
  | d x => cases hs
  | sc ns => cases hs
  | v u => cases hs
/-- xs.append(e) -/
theorem ds1_app (i : Nat) {n : Str} {s : Sl} (h : DEx X Δ e (.d x) Δ1) (hΔ : Δ1[i]? = some s) (hs : s = .own xs ∨ s = .ref xs) (hl : xs.length < 1000000) (hΔ0 : ∃ t, Δ[i]? = some t ∧ t.mut = true) (hN : X.N[i]? = some n := by rfl)
    (hv : Vis X.env.scope n := by first | exact Or.inl rfl | exact Or.inr (Or.inl rfl) | exact Or.inr (Or.inr rfl)) (hd : (n == ("__debug__" : Str)) = false := by decide) (hcd : (n == ("__classdict__" : Str)) = false := by decide)
    (hbase : attributeBase (.Name n p) "append" X.env (eval (.Name n p) X.env) = eval (.Name n p) X.env := by rfl)
    (hfew : ((backTo cpos (starEach [e] X.env)).all (fun x => !x.1) && (backToKw cpos (keywordEach [] X.env)).all (fun x => x.1.isSome)
      && decide ([e].length + ([] : List Keyword).length + (if ([] : List Keyword).isEmpty then 0 else 1) < 30)) = true := by rfl)
    (hline : (apos.endLine == cpos.line) = true := by rfl) (hse : starEach [e] X.env = (false, eval e X.env) :: starEach [] X.env := by rfl) (hplain : (backTo cpos (starEach [] X.env)).any (·.1) = false := by rfl)
    (hsw : swapsWith (.Call (.Attribute (.Name n p) "append" apos) [e] [] cpos) none pos.line X.env = pure false := by rfl) :
    DS1 X W Δ (.Expr (.Call (.Attribute (.Name n p) "append" apos) [e] [] cpos) pos) (.nx (Δ1.set i (upSl s (xs ++ [x])))) := by
  obtain ⟨t, ht, hf⟩ := hΔ0
  refine ps_imp (ps_expr (pe_bm PySem.F.plainAttrs_list PySem.F.slot_list_append PySem.F.type_list_append mt_append (pe_var hN hv hd hcd) (pa_cons h.pe pa_nil hse) hbase hfew hline hse hplain) hsw) fun D σ H ⟨B, F, ok, q⟩ => ?_
  obtain ⟨a, us, hv', hL⟩ := mut_at ok ht hf
  refine ⟨.ref a, hv', Or.inl ⟨rfl, us, Or.inl (Or.inl hL)⟩, B, F, ok, fun y F1 H1 ok1 ex1 hy => ?_⟩
  obtain ⟨b, vs, h1, h2, h3, h4, h5, h6⟩ := rm_up ok1 hΔ hs
  rw [hv'] at h1
  cases h1
  refine ⟨a, vs, y, rfl, rfl, h4, by rw [h5.length, sizeLine_eq]; omega, ?_⟩
  exact q σ F1 _ (h6 _ _ (pr_app h5 (.cons hy .nil))) ex1 (.refl (h.rk.trans (rk_up hΔ (own_mut hs).1)))
end
end Tr
namespace Tr
open PySem L2
section
variable {X : Cx} {W : WX} {Δ Δ1 Δ2 Δ3 : En} {st : Stmt} {rest sts body suite : List Stmt} {P : Out → Prop} {o : Out} {a b c e tg iter : Expr} {es : List Expr} {r : R} {rs : List R} {pos p p2 apos cpos : Pos} {x y z : PyData} {xs ys : List PyData} {k l : Bool} {i j : Int}
/-! ### pop, clear, items stored -/
theorem pr_cons_inv {α β : Type} {G : α → β → Prop} {vs : List α} {y : β} {ys : List β} (h : Paired G vs (y :: ys)) : ∃ v ws, vs = v :: ws ∧ G v y ∧ Paired G ws ys := by
  cases h with
  | cons h1 h2 => exact ⟨_, _, rfl, h1, h2⟩
theorem pr_snoc_inv {α β : Type} {G : α → β → Prop} : ∀ {ys : List β} {vs : List α} {y : β}, Paired G vs (ys ++ [y]) → ∃ v ws, vs = ws ++ [v] ∧ G v y ∧ Paired G ws ys
  | [], vs, y, h => by
    obtain ⟨v, ws, rfl, h1, h2⟩ := pr_cons_inv h
    cases h2
    exact ⟨v, [], rfl, h1, .nil⟩
  | z :: ys, vs, y, h => by
    obtain ⟨v, ws, rfl, h1, h2⟩ := pr_cons_inv h
    obtain ⟨u, us, rfl, h3, h4⟩ := pr_snoc_inv h2
    exact ⟨u, v :: us, rfl, h3, .cons h1 h4⟩
/-- xs.pop(0) -/
theorem de_pop0 (i : Nat) {n : Str} {s : Sl} {kk} (hΔ : Δ[i]? = some s) (hs : s = .own (x :: xs) ∨ s = .ref (x :: xs)) (hN : X.N[i]? = some n := by rfl)
    (hv : Vis X.env.scope n := by first | exact Or.inl rfl | exact Or.inr (Or.inl rfl) | exact Or.inr (Or.inr rfl)) (hd : (n == ("__debug__" : Str)) = false := by decide) (hcd : (n == ("__classdict__" : Str)) = false := by decide)
    (hbase : attributeBase (.Name n p) "pop" X.env (eval (.Name n p) X.env) = eval (.Name n p) X.env := by rfl)
    (hfew : ((backTo cpos (starEach [.Constant (.int 0) kk p2] X.env)).all (fun x => !x.1) && (backToKw cpos (keywordEach [] X.env)).all (fun x => x.1.isSome)
      && decide (([.Constant (.int 0) kk p2] : List Expr).length + ([] : List Keyword).length + (if ([] : List Keyword).isEmpty then 0 else 1) < 30)) = true := by rfl)
    (hline : (apos.endLine == cpos.line) = true := by rfl) (hse : starEach [.Constant (.int 0) kk p2] X.env = (false, eval (.Constant (.int 0) kk p2) X.env) :: starEach [] X.env := by rfl) (hplain : (backTo cpos (starEach [] X.env)).any (·.1) = false := by rfl) :
    DEx X Δ (.Call (.Attribute (.Name n p) "pop" apos) [.Constant (.int 0) kk p2] [] cpos) (.d x) (Δ.set i (upSl s xs)) := by
  refine ⟨rk_up hΔ (own_mut hs).1, pe_imp (pe_bm PySem.F.plainAttrs_list PySem.F.slot_list_pop PySem.F.type_list_pop mt_popAt (pe_var hN hv hd hcd) (pa_cons pe_int pa_nil hse) hbase hfew hline hse hplain) fun σ H Q ⟨B, F, ok, q⟩ => ?_⟩
  obtain ⟨a, vs, h1, h2, h3, h4, h5, h6⟩ := rm_up ok hΔ hs
  obtain ⟨v, ws, rfl, h7, h8⟩ := pr_cons_inv h5
  refine ⟨.ref a, h1, Or.inl ⟨rfl, _, Or.inl (Or.inl h4)⟩, a, v :: ws, 0, 0, v, rfl, rfl, h4, by decide, by decide, ?_, rfl, ?_⟩
  · show seqIndex? 0 (ws.length + 1) = some 0
    unfold seqIndex?
    simp
  · exact q v F _ (h6 ws xs h8) (.refl _) h7
/-- xs.pop() -/
theorem de_pop (i : Nat) {n : Str} {s : Sl} (hΔ : Δ[i]? = some s) (hs : s = .own (xs ++ [x]) ∨ s = .ref (xs ++ [x])) (hN : X.N[i]? = some n := by rfl)
    (hv : Vis X.env.scope n := by first | exact Or.inl rfl | exact Or.inr (Or.inl rfl) | exact Or.inr (Or.inr rfl)) (hd : (n == ("__debug__" : Str)) = false := by decide) (hcd : (n == ("__classdict__" : Str)) = false := by decide)
    (hbase : attributeBase (.Name n p) "pop" X.env (eval (.Name n p) X.env) = eval (.Name n p) X.env := by rfl) (hline : (apos.endLine == cpos.line) = true := by rfl) :
    DEx X Δ (.Call (.Attribute (.Name n p) "pop" apos) [] [] cpos) (.d x) (Δ.set i (upSl s xs)) := by
  refine ⟨rk_up hΔ (own_mut hs).1, pe_imp (pe_bm0 PySem.F.plainAttrs_list PySem.F.slot_list_pop PySem.F.type_list_pop mt_pop (pe_var hN hv hd hcd) hbase hline) fun σ H Q ⟨B, F, ok, q⟩ => ?_⟩
  obtain ⟨a, vs, h1, h2, h3, h4, h5, h6⟩ := rm_up ok hΔ hs
  obtain ⟨v, ws, rfl, h7, h8⟩ := pr_snoc_inv h5
  refine ⟨.ref a, h1, Or.inl ⟨rfl, _, Or.inl (Or.inl h4)⟩, a, ws ++ [v], v, rfl, rfl, h4, by simp, ?_⟩
  rw [List.dropLast_concat]
  exact q v F _ (h6 ws xs h8) (.refl _) h7
/-- xs.clear() -/
theorem ds1_clear (i : Nat) {n : Str} {s : Sl} (hΔ : Δ[i]? = some s) (hs : s = .own xs ∨ s = .ref xs) (hN : X.N[i]? = some n := by rfl)
    (hv : Vis X.env.scope n := by first | exact Or.inl rfl | exact Or.inr (Or.inl rfl) | exact Or.inr (Or.inr rfl)) (hd : (n == ("__debug__" : Str)) = false := by decide) (hcd : (n == ("__classdict__" : Str)) = false := by decide)
    (hbase : attributeBase (.Name n p) "clear" X.env (eval (.Name n p) X.env) = eval (.Name n p) X.env := by rfl) (hline : (apos.endLine == cpos.line) = true := by rfl)
    (hsw : swapsWith (.Call (.Attribute (.Name n p) "clear" apos) [] [] cpos) none pos.line X.env = pure false := by rfl) : DS1 X W Δ (.Expr (.Call (.Attribute (.Name n p) "clear" apos) [] [] cpos) pos) (.nx (Δ.set i (upSl s []))) := by
  refine ps_imp (ps_expr (pe_bm0 PySem.F.plainAttrs_list PySem.F.slot_list_clear PySem.F.type_list_clear mt_clear (pe_var hN hv hd hcd) hbase hline) hsw) fun D σ H ⟨B, F, ok, q⟩ => ?_
  obtain ⟨a, vs, h1, h2, h3, h4, h5, h6⟩ := rm_up ok hΔ hs
  refine ⟨.ref a, h1, Or.inl ⟨rfl, _, Or.inl (Or.inl h4)⟩, a, vs, rfl, rfl, h4, ?_⟩
  exact q σ F _ (h6 [] [] .nil) (.refl _) (.refl (rk_up hΔ (own_mut hs).1))
/-- xs[j] = e -/
theorem ds1_setI (i : Nat) {n : Str} {s : Sl} {m : Nat} (h : DEx X Δ e (.d x) Δ1) (h2 : DEx X Δ1 b (.d (.int j)) Δ1) (hΔ : Δ1[i]? = some s) (hs : s = .own xs ∨ s = .ref xs) (hj : ixN xs.length j = some m) (hN : X.N[i]? = some n := by rfl)
    (hv : Vis X.env.scope n := by first | exact Or.inl rfl | exact Or.inr (Or.inl rfl) | exact Or.inr (Or.inr rfl)) (hd : (n == ("__debug__" : Str)) = false := by decide) (hcd : (n == ("__classdict__" : Str)) = false := by decide)
    (ha : ∀ v, assign (.Subscript (.Name n p) b p2) X.env v = (do
      let ov ← holding [v] (eval (.Name n p) X.env)
      let iv ← holding [v, ov] (eval b X.env)
      standAt p2
      holding [v, ov, iv] (setItem ov iv v)
      release [v, ov, iv] []) := by intro _; rfl)
    (hsw : swapsWithSole [.Subscript (.Name n p) b p2] e pos.line X.env = pure false := by rfl) (hw : swappedStores [.Subscript (.Name n p) b p2] e X.env = pure none := by rfl) (h1 : (assignEach [.Subscript (.Name n p) b p2] X.env).map (·.2) = [assign (.Subscript (.Name n p) b p2) X.env] := by rfl) :
    DS1 X W Δ (.Assign [.Subscript (.Name n p) b p2] e pos) (.nx (Δ1.set i (upSl s (xs.set m x)))) := by
  refine ps_imp (ps_asg h.pe (pg_sub (pe_var hN hv hd hcd) h2.pe set_list ha) hsw hw h1) fun D σ H ⟨B, F, ok, q⟩ => ⟨B, F, ok, fun v F1 H1 ok1 ex1 hv1 => ?_⟩
  obtain ⟨a, us, hv', _⟩ := mut_at ok1 hΔ (own_mut hs).1
  refine ⟨.ref a, hv', B, F1, ok1, fun w F2 H2 ok2 ex2 hw2 => ?_⟩
  cases Dq.int_ hw2
  obtain ⟨b', vs, q1, q2, q3, q4, q5, q6⟩ := rm_up ok2 hΔ hs
  rw [hv'] at q1
  cases q1
  refine ⟨a, vs, j, m, rfl, rfl, q4, by rw [q5.length]; exact hj, ?_⟩
  exact q σ F2 _ (q6 _ _ (pr_set (Dq.mono ex2 hv1) m q5)) (ex1.trans ex2) (.refl (h.rk.trans (rk_up hΔ (own_mut hs).1)))
/-! ### what a for walks -/
structure Wk (K : Frag) (F0 : Hp) (J : It) (xs : List PyData) : Prop where
  go : ∀ i H, i < xs.length → Ex F0 H → J.go i H
  yl : ∀ (i : Nat) (H : Hp) (v : V) (H' B F : Hp) (σ : St) (Δ : En), i < xs.length → J.yld i H v H' → Ok K B F H σ Δ → Ex F0 F → ∃ F', Ok K B F' H' σ Δ ∧ Ex F F' ∧ ∃ d, xs[i]? = some d ∧ Dq F' v d
  stop : ∀ H, Ex F0 H → J.stop xs.length H
def tI (K : Frag) (Δ : En) (xs : List PyData) (Δ' : En) : TI := fun σ H R => ∃ B F, Ok K B F H σ Δ ∧ ∀ J F' H', Ok K B F' H' σ Δ' → Ex F F' → Wk K F' J xs → R J H'
structure DIx (X : Cx) (Δ : En) (tg e : Expr) (xs : List PyData) (Δ' : En) : Prop where
  rk : RK Δ Δ'
  pi : PI X tg e (tI X.K Δ xs Δ')
theorem pi_imp {tg e : Expr} {t t' : TI} (h : PI X tg e t) (k : ∀ σ H R, t' σ H R → t σ H R) : PI X tg e t' := ⟨fun pins s σ H R I w => h.run pins s σ H R I (k _ _ _ w)⟩
theorem sq_ex {K : Frag} {F H : Hp} {a : Addr} {vs : List V} (h : F a = some (.lst vs)) (e : Ex F H) : SqL K H a vs := SqL.of (e _ _ h)
theorem wk_list {K : Frag} {F : Hp} {a : Addr} {vs : List V} (h : F a = some (.lst vs)) (hd : DqA F vs xs) : Wk K F (Itl K a) xs where
  go := fun i H hi ex => ⟨vs, vs[i]'(by rw [hd.length]; exact hi), sq_ex h ex, by rw [List.getElem?_eq_getElem]⟩
  yl := fun i H v H' B F1 σ Δ hi hy ok ex => by
    obtain ⟨rfl, hv⟩ := hy
    obtain ⟨d, h1, h2⟩ := pr_getl hd (hv vs (sq_ex h (ex.trans ok.fh)))
    exact ⟨F1, ok, .refl _, d, h1, h2.mono ex⟩
  stop := fun H ex => ⟨vs, sq_ex h ex, by rw [hd.length]; exact Nat.le_refl _⟩
theorem di_list (h : DEx X Δ e (.d (.list xs)) Δ1) : DIx X Δ tg e xs Δ1 := ⟨h.rk, pi_imp (pi_list h.pe) fun σ H R ⟨B, F, ok, q⟩ => ⟨B, F, ok, fun v F1 H1 ok1 ex1 hv => by
  obtain ⟨a, vs, rfl, h1, h2⟩ := Dq.inl hv
  exact ⟨a, rfl, ⟨vs, sq_ex h1 ok1.fh⟩, q _ F1 H1 ok1 ex1 (wk_list h1 h2)⟩⟩⟩
theorem st_ex {K : Frag} {F H : Hp} {a : Addr} {vs : List V} (h : F a = some (.tup vs)) (e : Ex F H) : SqT K H a vs := SqT.of (e _ _ h)
theorem wk_tup {K : Frag} {F : Hp} {a : Addr} {vs : List V} (h : F a = some (.tup vs)) (hd : DqA F vs xs) : Wk K F (Itt K a) xs where
  go := fun i H hi ex => ⟨vs, vs[i]'(by rw [hd.length]; exact hi), st_ex h ex, by rw [List.getElem?_eq_getElem]⟩
  yl := fun i H v H' B F1 σ Δ hi hy ok ex => by
    obtain ⟨rfl, hv⟩ := hy
    obtain ⟨d, h1, h2⟩ := pr_getl hd (hv vs (st_ex h (ex.trans ok.fh)))
    exact ⟨F1, ok, .refl _, d, h1, h2.mono ex⟩
  stop := fun H ex => ⟨vs, st_ex h ex, by rw [hd.length]; exact Nat.le_refl _⟩
theorem di_tup (h : DEx X Δ e (.d (.tuple xs)) Δ1) : DIx X Δ tg e xs Δ1 := ⟨h.rk, pi_imp (pi_tup h.pe) fun σ H R ⟨B, F, ok, q⟩ => ⟨B, F, ok, fun v F1 H1 ok1 ex1 hv => by
  obtain ⟨a, vs, rfl, h1, h2⟩ := Dq.int_tup hv
  exact ⟨a, rfl, ⟨vs, st_ex h1 ok1.fh⟩, q _ F1 H1 ok1 ex1 (wk_tup h1 h2)⟩⟩⟩
def rngD (lo : Int) (n : Nat) : List PyData := (List.range n).map fun (k : Nat) => PyData.int (lo + (k : Int))
theorem rngD_len (lo : Int) (n : Nat) : (rngD lo n).length = n := by unfold rngD; simp
theorem rngD_get (lo : Int) (n k : Nat) (h : k < n) : (rngD lo n)[k]? = some (.int (lo + (k : Int))) := by unfold rngD; simp [h]
theorem rngD_of {lo : Int} {n k : Nat} {d : PyData} (h : (rngD lo n)[k]? = some d) : k < n ∧ d = .int (lo + (k : Int)) := by
  have hk : k < n := by
    have := (List.getElem?_eq_some_iff.mp h).1
    rw [rngD_len] at this
    exact this
  rw [rngD_get lo n k hk] at h
  exact ⟨hk, (Option.some.inj h).symm⟩
theorem wk_rng {K : Frag} {F : Hp} {lo : Int} {n : Nat} : Wk K F (Itr lo n) (rngD lo n) where
  go := fun i H hi ex => by rw [rngD_len] at hi; exact hi
  yl := fun i H v H' B F1 σ Δ hi hy ok ex => by
    obtain ⟨rfl, rfl⟩ := hy
    rw [rngD_len] at hi
    exact ⟨F1, ok, .refl _, _, rngD_get lo n i hi, .int _⟩
  stop := fun H ex => by rw [rngD_len]; exact Nat.le_refl _
theorem di_rng1 {n : Int} (G : Blt X.mg) (h : DAx X Δ [e] [.d (.int n)] Δ1) (hn : n ≤ 1000000000 ∧ -1000000000 ≤ n) (hg : Gl X "range" := by rfl) (hs : starEach [e] X.env = [(false, eval e X.env)] := by rfl) : DIx X Δ tg (.Call (.Name "range" p) [e] [] pos) (rngD 0 n.toNat) Δ1 :=
  ⟨h.rk, pi_imp (pi_range1 hg G.range h.pa hs) fun σ H R ⟨B, F, ok, q⟩ => ⟨B, F, ok, fun vs F1 H1 ok1 ex1 hv => by
    cases hv with
    | cons h1 t =>
      cases t
      cases Dq.int_ h1
      exact ⟨n, rfl, by omega, by omega, q _ F1 H1 ok1 ex1 wk_rng⟩⟩⟩
theorem di_rng2 {m n : Int} (G : Blt X.mg) (h : DAx X Δ [a, b] [.d (.int m), .d (.int n)] Δ1) (hn : (n ≤ 1000000000 ∧ -1000000000 ≤ n) ∧ (m ≤ 1000000000 ∧ -1000000000 ≤ m)) (hg : Gl X "range" := by rfl) (hs : starEach [a, b] X.env = [(false, eval a X.env), (false, eval b X.env)] := by rfl) (hs2 : starEach [b] X.env = [(false, eval b X.env)] := by rfl) :
    DIx X Δ tg (.Call (.Name "range" p) [a, b] [] pos) (rngD m (n - m).toNat) Δ1 :=
  ⟨h.rk, pi_imp (pi_range2 hg G.range h.pa hs hs2) fun σ H R ⟨B, F, ok, q⟩ => ⟨B, F, ok, fun vs F1 H1 ok1 ex1 hv => by
    cases hv with
    | cons h1 t =>
      cases t with
      | cons h2 t =>
        cases t
        cases Dq.int_ h1
        cases Dq.int_ h2
        exact ⟨m, n, rfl, by omega, q _ F1 H1 ok1 ex1 wk_rng⟩⟩⟩
def enumD (xs : List PyData) : List PyData := (List.range xs.length).map fun (i : Nat) => PyData.tuple [.int (i : Int), xs.getD i .none]
theorem enumD_len (xs : List PyData) : (enumD xs).length = xs.length := by unfold enumD; simp
theorem enumD_get {i : Nat} {d : PyData} (h : xs[i]? = some d) : (enumD xs)[i]? = some (.tuple [.int (i : Int), d]) := by
  have hi := (List.getElem?_eq_some_iff.mp h).1
  unfold enumD
  rw [List.getElem?_map, List.getElem?_range hi]
  show some (PyData.tuple [.int (i : Int), xs.getD i .none]) = _
  rw [List.getD_eq_getElem?_getD, h]
  rfl
theorem enumD_of {i : Nat} {d : PyData} (h : (enumD xs)[i]? = some d) : ∃ z, xs[i]? = some z ∧ d = .tuple [.int (i : Int), z] := by
  have hi : i < xs.length := by
    have := (List.getElem?_eq_some_iff.mp h).1
    rw [enumD_len] at this
    exact this
  have e := List.getElem?_eq_getElem hi
  rw [enumD_get e] at h
  exact ⟨_, e, (Option.some.inj h).symm⟩
theorem wk_enum {K : Frag} {F : Hp} {a : Addr} {vs : List V} (h : F a = some (.lst vs)) (hd : DqA F vs xs) : Wk K F (Ite K a) (enumD xs) where
  go := fun i H hi ex => by
    rw [enumD_len] at hi
    exact ⟨vs, vs[i]'(by rw [hd.length]; exact hi), sq_ex h ex, by rw [List.getElem?_eq_getElem]⟩
  yl := fun i H v H' B F1 σ Δ hi hy ok ex => by
    obtain ⟨T, u, rfl, hT, rfl, hv⟩ := hy
    obtain ⟨d, h1, h2⟩ := pr_getl hd (hv vs (sq_ex h (ex.trans ok.fh)))
    have ex2 : Ex F1 (upd F1 T (.tup [.int (i : Int), u])) := .new (ok.fresh hT).1
    exact ⟨_, ok.laid hT, ex2, _, enumD_get h1, .tuple upd_same (.cons (.int _) (.cons (h2.mono (ex.trans ex2)) .nil))⟩
  stop := fun H ex => ⟨vs, sq_ex h ex, by rw [enumD_len, hd.length]; exact Nat.le_refl _⟩
theorem di_enum {elts : List Expr} {kk : Nat} {tpos : Pos} (G : Blt X.mg) (h : DEx X Δ e (.d (.list xs)) Δ1) (hg : Gl X "enumerate" := by rfl) (hs : starEach [e] X.env = (false, eval e X.env) :: starEach [] X.env := by rfl) (hs2 : starEach [e] X.env = [(false, eval e X.env)] := by rfl) : DIx X Δ (.Tuple elts kk tpos) (.Call (.Name "enumerate" p) [e] [] pos) (enumD xs) Δ1 :=
  ⟨h.rk, pi_imp (pi_enum hg G.enum (pa_cons h.pe pa_nil hs) hs2) fun σ H R ⟨B, F, ok, q⟩ => ⟨B, F, ok, fun v F1 H1 ok1 ex1 hv => by
    obtain ⟨a, vs, rfl, h1, h2⟩ := Dq.inl hv
    exact ⟨a, vs, rfl, sq_ex h1 ok1.fh, q _ F1 H1 ok1 ex1 (wk_enum h1 h2)⟩⟩⟩
/-! ### for -/
/-- how a for goes on from item n on -/
inductive Lp (X : Cx) (W : WX) (tg : Expr) (body : List Stmt) (xs : List PyData) : Nat → En → Out → Prop
  | done {n : Nat} {Δ : En} : n = xs.length → Lp X W tg body xs n Δ (.nx Δ)
  | step {n : Nat} {Δ Δt Δ1 Δ2 : En} {d : PyData} {o : Out} : xs[n]? = some d → DGx X Δ tg d Δt → (DS X W Δt body (.nx Δ1) ∨ DS X W Δt body (.ct Δ1)) → Le Δ1 Δ2 → Lp X W tg body xs (n + 1) Δ2 o → Lp X W tg body xs n Δ o
  | brk {n : Nat} {Δ Δt Δ1 : En} {d : PyData} : xs[n]? = some d → DGx X Δ tg d Δt → DS X W Δt body (.bk Δ1) → Lp X W tg body xs n Δ (.nx Δ1)
  | ret {n : Nat} {Δ Δt Δ1 : En} {d : PyData} {r : R} : xs[n]? = some d → DGx X Δ tg d Δt → DS X W Δt body (.rt Δ1 r) → Lp X W tg body xs n Δ (.rt Δ1 r)
  | exc {n : Nat} {Δ Δt Δ1 : En} {d : PyData} {C : Addr} : xs[n]? = some d → DGx X Δ tg d Δt → DS X W Δt body (.xc Δ1 C) → Lp X W tg body xs n Δ (.xc Δ1 C)
def tAny (X : Cx) (W : WX) (body : List Stmt) : TS := fun D σ H => ∃ Δ o, DS X W Δ body o ∧ tS X.K W Δ o D σ H
theorem pss_any : PSs X body (tAny X W body) := ⟨fun pins s σ H D I ⟨Δ, o, h, q⟩ => h.run pins s σ H D I q⟩
def gAny (X : Cx) (tg : Expr) : TG := fun v σ H Q => ∃ Δ x Δ', DGx X Δ tg x Δ' ∧ tG X.K Δ x Δ' v σ H Q
theorem pg_any : PG X tg (gAny X tg) := ⟨fun pins s σ H v u Q I r ⟨Δ, x, Δ', h, q⟩ => h.pg.run pins s σ H v u Q I r q⟩
theorem ds1_for (hp : PassesOwn (model X.prog X.w) X.A X.env X.xe) (hc : X.calm = true) (hi : DIx X Δ tg iter xs Δ1) (h : Lp X W tg body xs 0 Δ1 o) (hs : ∀ x, foldedSetIterable iter X.env x = pure x := by intro _; rfl) : DS1 X W Δ (.For tg iter body [] pos) o := by
  refine ps_imp (ps_for hp hc hi.pi pg_any (pss_any (W := W)) hs) fun D σ0 H0 ⟨B, F0, ok0, q0⟩ => ⟨B, F0, ok0, fun J F1 H1 ok1 ex1 wk => ?_⟩
  have q1 : Post X.K W B F1 σ0 Δ1 D o := q0.step ex1 (.refl hi.rk)
  refine ⟨fun n m σ H => m = xs.length - n ∧ n ≤ xs.length ∧ ∃ F Δi, Ok X.K B F H σ Δi ∧ Ex F1 F ∧ Post X.K W B F σ Δi D o ∧ Lp X W tg body xs n Δi o, ⟨xs.length, by simp, Nat.zero_le _, F1, Δ1, ok1, .refl _, q1, h⟩, ?_⟩
  rintro n m σ H ⟨rfl, hn, F, Δi, ok, ex, q, lp⟩
  have turn : ∀ {d : PyData} {Δt : En} {o' : Out}, xs[n]? = some d → DGx X Δi tg d Δt → DS X W Δt body o' → ∀ (N : St → Hp → Prop), (∀ F2 σ2, Ex F1 F2 → Post X.K W B F2 σ2 Δt D o → Post X.K W B F2 σ2 Δt { D with nx := N, ct := N, bk := D.nx } o') →
      ∀ v H', J.yld n H v H' → gAny X tg v σ H' fun σ2 H2 => tAny X W body { D with nx := N, ct := N, bk := D.nx } σ2 H2 := fun {d Δt o'} hd hg hb N hN v H' hy => by
    obtain ⟨F', ok', ex', d', hd', hv⟩ := wk.yl n H v H' B F σ Δi (List.getElem?_eq_some_iff.mp hd).1 hy ok ex
    rw [hd] at hd'
    cases hd'
    refine ⟨Δi, d, Δt, hg, B, F', ok', hv, fun σ2 F2 H2 ok2 ex2 kp2 => ?_⟩
    exact ⟨Δt, o', hb, B, F2, ok2, hN F2 σ2 ((ex.trans ex').trans ex2) (q.step (ex'.trans ex2) kp2)⟩
  cases lp with
  | done hx =>
    subst hx
    exact .inl ⟨wk.stop H (ex.trans ok.fh), q σ F H ok (.refl _) (.refl .rfl)⟩
  | @step _ _ Δt Δ1' Δ2' d _ hd hg hb hle lp =>
    have hlt := (List.getElem?_eq_some_iff.mp hd).1
    refine .inr ⟨wk.go n H hlt (ex.trans ok.fh), fun σ' H' => ∃ F Δi, Ok X.K B F H' σ' Δi ∧ Ex F1 F ∧ Post X.K W B F σ' Δi D o ∧ Lp X W tg body xs (n + 1) Δi o, fun σ' H' z => ⟨_, by omega, rfl, hlt, z⟩, ?_⟩
    rcases hb with hb | hb
    · exact turn hd hg hb _ fun F2 σ2 ex2 q2 σ3 F3 H3 ok3 ex3 kp3 => ⟨F3, Δ2', hle.ok ok3, ex2.trans ex3, (q2.step ex3 kp3).step (.refl _) (.refl hle.rk), lp⟩
    · exact turn hd hg hb _ fun F2 σ2 ex2 q2 σ3 F3 H3 ok3 ex3 kp3 => ⟨F3, Δ2', hle.ok ok3, ex2.trans ex3, (q2.step ex3 kp3).step (.refl _) (.refl hle.rk), lp⟩
  | @brk _ _ Δt Δ1' d hd hg hb =>
    have hlt := (List.getElem?_eq_some_iff.mp hd).1
    exact .inr ⟨wk.go n H hlt (ex.trans ok.fh), fun _ _ => False, fun _ _ z => z.elim, turn hd hg hb _ fun F2 σ2 ex2 q2 => q2⟩
  | @ret _ _ Δt Δ1' d r hd hg hb =>
    have hlt := (List.getElem?_eq_some_iff.mp hd).1
    exact .inr ⟨wk.go n H hlt (ex.trans ok.fh), fun _ _ => False, fun _ _ z => z.elim, turn hd hg hb _ fun F2 σ2 ex2 q2 => q2⟩
  | @exc _ _ Δt Δ1' d C hd hg hb =>
    have hlt := (List.getElem?_eq_some_iff.mp hd).1
    exact .inr ⟨wk.go n H hlt (ex.trans ok.fh), fun _ _ => False, fun _ _ z => z.elim, turn hd hg hb _ fun F2 σ2 ex2 q2 => q2⟩
/-- what a turn's end must be: on with I, or out with P -/
def Tn (I : En → Prop) (P : Out → Prop) : Out → Prop
  | .nx Δ => ∃ Δ', Le Δ Δ' ∧ I Δ'
  | .ct Δ => ∃ Δ', Le Δ Δ' ∧ I Δ'
  | .bk Δ => P (.nx Δ)
  | .rt Δ r => P (.rt Δ r)
  | .xc Δ C => P (.xc Δ C)
section
variable {ι : Type} {XS : ι → Cx} {WS : ι → WX}
theorem lp_inv (I : Nat → En → Prop) (hs : ∀ n Δ d, xs[n]? = some d → I n Δ → ∃ Δt, (∀ q, DGx (XS q) Δ tg d Δt) ∧ Go XS WS Δt body (Tn (I (n + 1)) P)) (hd : ∀ Δ, I xs.length Δ → P (.nx Δ)) : ∀ m n Δ, n + m = xs.length → I n Δ → ∃ o, P o ∧ ∀ q, Lp (XS q) (WS q) tg body xs n Δ o := by
  intro m
  induction m with
  | zero =>
    intro n Δ hn hI
    have : n = xs.length := by omega
    subst this
    exact ⟨_, hd Δ hI, fun q => .done rfl⟩
  | succ m ih =>
    intro n Δ hn hI
    have hlt : n < xs.length := by omega
    have he := List.getElem?_eq_getElem hlt
    obtain ⟨Δt, hg, o, ho, hb⟩ := hs n Δ _ he hI
    cases o with
    | nx Δ1 =>
      obtain ⟨Δ2, hle, hI2⟩ := ho
      obtain ⟨o, hp, lp⟩ := ih (n + 1) Δ2 (by omega) hI2
      exact ⟨o, hp, fun q => .step he (hg q) (.inl (hb q)) hle (lp q)⟩
    | ct Δ1 =>
      obtain ⟨Δ2, hle, hI2⟩ := ho
      obtain ⟨o, hp, lp⟩ := ih (n + 1) Δ2 (by omega) hI2
      exact ⟨o, hp, fun q => .step he (hg q) (.inr (hb q)) hle (lp q)⟩
    | bk Δ1 => exact ⟨_, ho, fun q => .brk he (hg q) (hb q)⟩
    | rt Δ1 r => exact ⟨_, ho, fun q => .ret he (hg q) (hb q)⟩
    | xc Δ1 C => exact ⟨_, ho, fun q => .exc he (hg q) (hb q)⟩
/-- THE RULE for a for: I by the turn and the slots -/
theorem go_for (I : Nat → En → Prop) (hp : ∀ q, PassesOwn (model (XS q).prog (XS q).w) (XS q).A (XS q).env (XS q).xe) (hc : ∀ q, (XS q).calm = true) (hi : ∀ q, DIx (XS q) Δ tg iter xs Δ1) (hle : Le Δ1 Δ2) (h0 : I 0 Δ2) (hs : ∀ n Δ d, xs[n]? = some d → I n Δ → ∃ Δt, (∀ q, DGx (XS q) Δ tg d Δt) ∧ Go XS WS Δt body (Tn (I (n + 1)) (thenP XS WS rest P))) (hd : ∀ Δ, I xs.length Δ → Go XS WS Δ rest P)
    (hf : ∀ q x, foldedSetIterable iter (XS q).env x = pure x := by intro _ _; rfl) : Go XS WS Δ (.For tg iter body [] pos :: rest) P := by
  obtain ⟨o, ho, lp⟩ := lp_inv (P := thenP XS WS rest P) I hs hd xs.length 0 Δ2 (by omega) h0
  refine go_cons ⟨o, ho, fun q => ds1_for (hp q) (hc q) (Δ1 := Δ2) ⟨(hi q).rk.trans hle.rk, pi_imp (hi q).pi fun σ H R ⟨B, F, ok, qq⟩ => ⟨B, F, ok, fun J F' H' ok' ex wk => qq J F' H' (hle.ok ok') ex wk⟩⟩ (lp q) (hf q)⟩
end
/-! ### while -/
inductive Lw (X : Cx) (W : WX) (c : Expr) (body : List Stmt) : Nat → En → Out → Prop
  | done {Δ Δ1 : En} : DTx X Δ c false Δ1 → Lw X W c body 0 Δ (.nx Δ1)
  | step {n : Nat} {Δ Δt Δ1 Δ2 : En} {o : Out} : DTx X Δ c true Δt → (DS X W Δt body (.nx Δ1) ∨ DS X W Δt body (.ct Δ1)) → Le Δ1 Δ2 → Lw X W c body n Δ2 o → Lw X W c body (n + 1) Δ o
  | brk {Δ Δt Δ1 : En} : DTx X Δ c true Δt → DS X W Δt body (.bk Δ1) → Lw X W c body 0 Δ (.nx Δ1)
  | ret {Δ Δt Δ1 : En} {r : R} : DTx X Δ c true Δt → DS X W Δt body (.rt Δ1 r) → Lw X W c body 0 Δ (.rt Δ1 r)
  | exc {Δ Δt Δ1 : En} {C : Addr} : DTx X Δ c true Δt → DS X W Δt body (.xc Δ1 C) → Lw X W c body 0 Δ (.xc Δ1 C)
def tAnyT (X : Cx) (c : Expr) : TT := fun σ H Q => ∃ Δ b Δ', DTx X Δ c b Δ' ∧ tT X.K Δ b Δ' σ H Q
theorem pt_any : PT X c (tAnyT X c) := ⟨fun pins s σ H Q I ⟨Δ, b, Δ', h, q⟩ => h.pt.run pins s σ H Q I q⟩
theorem ds1_while {n : Nat} (hp : PassesOwn (model X.prog X.w) X.A X.env X.xe) (h : Lw X W c body n Δ o) : DS1 X W Δ (.While c body [] pos) o := by
  refine ps_imp (ps_while hp pt_any (pss_any (W := W))) fun D σ0 H0 ⟨B, F0, ok0, q0⟩ => ?_
  refine ⟨fun m σ H => ∃ F Δi, Ok X.K B F H σ Δi ∧ Post X.K W B F σ Δi D o ∧ Lw X W c body m Δi o, ⟨n, F0, Δ, ok0, q0, h⟩, ?_⟩
  rintro m σ H ⟨F, Δi, ok, q, lw⟩
  cases lw with
  | done ht => exact ⟨Δi, false, _, ht, B, F, ok, fun F' H' ok' ex => iteF (q σ F' H' ok' ex (.refl ht.rk))⟩
  | @step m _ Δt Δ1 Δ2 _ ht hb hle lw =>
    refine ⟨Δi, true, _, ht, B, F, ok, fun F' H' ok' ex => iteT ⟨fun σ' H' => ∃ F Δi, Ok X.K B F H' σ' Δi ∧ Post X.K W B F σ' Δi D o ∧ Lw X W c body m Δi o, fun σ' H' z => ⟨m, Nat.lt_succ_self _, z⟩, ?_⟩⟩
    have q1 := q.step (Δ1 := Δt) ex (.refl ht.rk)
    rcases hb with hb | hb
    · exact ⟨Δt, _, hb, B, F', ok', fun σ2 F2 H2 ok2 ex2 kp2 => ⟨F2, Δ2, hle.ok ok2, (q1.step ex2 kp2).step (.refl _) (.refl hle.rk), lw⟩⟩
    · exact ⟨Δt, _, hb, B, F', ok', fun σ2 F2 H2 ok2 ex2 kp2 => ⟨F2, Δ2, hle.ok ok2, (q1.step ex2 kp2).step (.refl _) (.refl hle.rk), lw⟩⟩
  | @brk _ Δt Δ1 ht hb =>
    exact ⟨Δi, true, _, ht, B, F, ok, fun F' H' ok' ex => iteT ⟨fun _ _ => False, fun _ _ z => z.elim, Δt, _, hb, B, F', ok', q.step (Δ1 := Δt) ex (.refl ht.rk)⟩⟩
  | @ret _ Δt Δ1 r ht hb =>
    exact ⟨Δi, true, _, ht, B, F, ok, fun F' H' ok' ex => iteT ⟨fun _ _ => False, fun _ _ z => z.elim, Δt, _, hb, B, F', ok', q.step (Δ1 := Δt) ex (.refl ht.rk)⟩⟩
  | @exc _ Δt Δ1 C ht hb =>
    exact ⟨Δi, true, _, ht, B, F, ok, fun F' H' ok' ex => iteT ⟨fun _ _ => False, fun _ _ z => z.elim, Δt, _, hb, B, F', ok', q.step (Δ1 := Δt) ex (.refl ht.rk)⟩⟩
/-- THE RULE for a while: I by a measure and the slots -/
theorem go_while {ι : Type} {XS : ι → Cx} {WS : ι → WX} (I : Nat → En → Prop) {m : Nat} (hp : ∀ q, PassesOwn (model (XS q).prog (XS q).w) (XS q).A (XS q).env (XS q).xe) (hle : Le Δ Δ2) (h0 : I m Δ2)
    (hs : ∀ n Δ, I n Δ → ∃ b Δt, (∀ q, DTx (XS q) Δ c b Δt) ∧ (b = true → Go XS WS Δt body (Tn (fun Δ' => ∃ n', n' < n ∧ I n' Δ') (thenP XS WS rest P))) ∧ (b = false → Go XS WS Δt rest P)) : Go XS WS Δ (.While c body [] pos :: rest) P := by
  have key : ∀ m, ∀ n, n < m → ∀ Δ, I n Δ → ∃ o j, thenP XS WS rest P o ∧ ∀ q, Lw (XS q) (WS q) c body j Δ o := by
    intro m
    induction m with
    | zero => intro n hn; omega
    | succ m ih =>
      intro n hn Δ hI
      obtain ⟨b, Δt, ht, h1, h2⟩ := hs n Δ hI
      cases b with
      | false => exact ⟨.nx Δt, 0, h2 rfl, fun q => .done (ht q)⟩
      | true =>
        obtain ⟨o, ho, hb⟩ := h1 rfl
        cases o with
        | nx Δ1 =>
          obtain ⟨Δ2, hle, n', hn', hI2⟩ := ho
          obtain ⟨o, j, hp, lw⟩ := ih n' (by omega) Δ2 hI2
          exact ⟨o, j + 1, hp, fun q => .step (ht q) (.inl (hb q)) hle (lw q)⟩
        | ct Δ1 =>
          obtain ⟨Δ2, hle, n', hn', hI2⟩ := ho
          obtain ⟨o, j, hp, lw⟩ := ih n' (by omega) Δ2 hI2
          exact ⟨o, j + 1, hp, fun q => .step (ht q) (.inr (hb q)) hle (lw q)⟩
        | bk Δ1 => exact ⟨.nx Δ1, 0, ho, fun q => .brk (ht q) (hb q)⟩
        | rt Δ1 r => exact ⟨.rt Δ1 r, 0, ho, fun q => .ret (ht q) (hb q)⟩
        | xc Δ1 C => exact ⟨.xc Δ1 C, 0, ho, fun q => .exc (ht q) (hb q)⟩
  obtain ⟨o, j, ho, lw⟩ := key (m + 1) m (by omega) Δ2 h0
  exact go_cons ⟨o, ho, fun q => ps_imp (ds1_while (hp q) (lw q)) fun D σ H ⟨B, F, ok, qq⟩ => ⟨B, F, hle.ok ok, qq.step (.refl _) (.refl hle.rk)⟩⟩
end
end Tr
namespace Tr
open PySem L2
section
variable {K : Frag} {B F H : Hp} {σ : St} {Δ Δ' : En} {D : Addr} {u u' : HO} {j : Nat}
theorem Ok.moveB (h : Ok K (upd B D u) F H σ Δ) : Ok K (upd B D u') F (upd H D u') σ Δ := by
  have fD : F D = none := h.bf D (by rw [upd_same]; intro z; cases z)
  refine ⟨fun a o e => ?_, fun a o e => ?_, fun a hb => ?_, h.len, fun i s e => ?_, h.nd⟩
  · rw [upd_ne (none_of e fD)]; exact h.fh a o e
  · by_cases ha : a = D
    · subst ha; rw [upd_same] at e ⊢; exact e
    · rw [upd_ne ha] at e ⊢
      exact h.bh a o (by rw [upd_ne ha]; exact e)
  · by_cases ha : a = D
    · subst ha; exact fD
    · exact h.bf a (by rw [upd_ne ha] at hb ⊢; exact hb)
  · obtain ⟨o, h1, h2⟩ := h.sl i s e
    refine ⟨o, h1, ?_⟩
    have key : ∀ {xs : List PyData}, MutL (upd B D u) F H o xs → MutL (upd B D u') F (upd H D u') o xs := fun {xs} ⟨a, vs, ea, q1, q2, q3, q4⟩ => by
      have ha : a ≠ D := fun z => by subst z; rw [upd_same] at q2; cases q2
      exact ⟨a, vs, ea, q1, by rw [upd_ne ha] at q2 ⊢; exact q2, by rw [upd_ne ha]; exact q3, q4⟩
    cases s with
    | no => trivial
    | d x => exact h2
    | own xs => exact key h2
    | ref xs => exact key h2
    | sc ns => exact h2
    | v w => exact h2
/-- a slot of which nothing is known -/
theorem Ok.noSlot (h : Ok K B F H σ Δ) (hj : Δ[j]? = some .no) (v : Option V) : Ok K B F H (σ.set j v) Δ := by
  refine ⟨h.fh, h.bh, h.bf, by simp [h.len], fun i s e => ?_, fun i k s t a e1 e2 m1 m2 r1 r2 => ?_⟩
  · by_cases hi : i = j
    · subst hi
      rw [hj] at e
      cases e
      have : i < σ.length := by
        have := (List.getElem?_eq_some_iff.mp hj).1
        have := h.len
        omega
      exact ⟨v, List.getElem?_set_self this, trivial⟩
    · rw [List.getElem?_set_ne (Ne.symm hi)]
      exact h.sl i s e
  · have hi : i ≠ j := fun z => by subst z; rw [hj] at e1; cases e1; cases m1
    have hk : k ≠ j := fun z => by subst z; rw [hj] at e2; cases e2; cases m2
    rw [List.getElem?_set_ne (Ne.symm hi)] at r1
    rw [List.getElem?_set_ne (Ne.symm hk)] at r2
    exact h.nd i k s t a e1 e2 m1 m2 r1 r2
theorem set_back {α : Type} {l : List α} {i : Nat} {x y : α} (h : l[i]? = some x) : (l.set i y).set i x = l := by
  rw [List.set_set]
  obtain ⟨hl, he⟩ := List.getElem?_eq_some_iff.mp h
  rw [← he]
  exact List.set_getElem_self hl
end
/-- the contexts of a comprehension's block -/
def Blk (X : Cx) (scope : Scope) (Y : Cx) : Prop := ∃ (s : Shared) (H : Hp) (C : Addr) (cl : List (Str × Addr)) (fp : List Addr), Y = X.blk s H scope (compEnvC scope cl C X.env) fp
section
variable {X : Cx} {W : WX} {Δ Δ1 Δ2 Δ3 Δn : En} {P : Out → Prop} {o : Out} {a b c e elt tg iter : Expr} {es ifs : List Expr} {r : R} {pos spos p p2 : Pos} {x y z : PyData} {xs ys : List PyData} {scope : Scope} {j : Nat} {nm : Str}
/-- one turn: from Δ with the item d in slot j, to Δ'; what is taken -/
inductive Tc (X : Cx) (scope : Scope) (elt : Expr) (ifs : List Expr) (j : Nat) (Δ : En) (d : PyData) : En → Option PyData → Prop
  | take {Δ1 Δ2 Δ3 : En} {y : PyData} (ht : ∀ Y, Blk X scope Y → PTs Y ifs (tT X.K (Δ.set j (.d d)) true Δ1)) (he : ∀ Y, Blk X scope Y → DEx Y Δ1 elt (.d y) Δ2) (hle : Le Δ2 Δ3) (hn : Δ3[j]? = some .no) : Tc X scope elt ifs j Δ d Δ3 (some y)
  | skip {Δ1 Δ3 : En} (ht : ∀ Y, Blk X scope Y → PTs Y ifs (tT X.K (Δ.set j (.d d)) false Δ1)) (hle : Le Δ1 Δ3) (hn : Δ3[j]? = some .no) : Tc X scope elt ifs j Δ d Δ3 none
inductive Lc (X : Cx) (scope : Scope) (elt : Expr) (ifs : List Expr) (j : Nat) (xs : List PyData) : Nat → En → List PyData → En → Prop
  | done {n : Nat} {Δ : En} : n = xs.length → Lc X scope elt ifs j xs n Δ [] Δ
  | turn {n : Nat} {Δ Δ' Δn : En} {d : PyData} {yo : Option PyData} {ys : List PyData} : xs[n]? = some d → Tc X scope elt ifs j Δ d Δ' yo → Lc X scope elt ifs j xs (n + 1) Δ' ys Δn → Lc X scope elt ifs j xs n Δ (yo.toList ++ ys) Δn
def eAny (X : Cx) (scope : Scope) (e : Expr) : TE := fun σ H Q => ∃ Δ r Δ', (∀ Y, Blk X scope Y → DEx Y Δ e r Δ') ∧ tE X.K Δ r Δ' σ H Q
theorem pe_any {Y : Cx} (hY : Blk X scope Y) : PE Y e (eAny X scope e) := ⟨fun pins s σ H Q I ⟨Δ, r, Δ', h, q⟩ => by
  have hk : Y.K = X.K := by
    obtain ⟨s, H, C, cl, fp, rfl⟩ := hY
    rfl
  refine (h Y hY).pe.run pins s σ H Q I ?_
  rw [hk]
  exact q⟩
def fAny (X : Cx) (scope : Scope) (ifs : List Expr) : TT := fun σ H Q => ∃ Δ b Δ', (∀ Y, Blk X scope Y → PTs Y ifs (tT X.K Δ b Δ')) ∧ tT X.K Δ b Δ' σ H Q
theorem pts_any {Y : Cx} (hY : Blk X scope Y) : PTs Y ifs (fAny X scope ifs) := ⟨fun pins s σ H Q I ⟨Δ, b, Δ', h, q⟩ => (h Y hY).run pins s σ H Q I q⟩
theorem pts_imp {t t' : TT} (h : PTs X ifs t) (k : ∀ σ H Q, t' σ H Q → t σ H Q) : PTs X ifs t' := ⟨fun pins s σ H Q I w => h.run pins s σ H Q I (k _ _ _ w)⟩
theorem pts_yes {K : Frag} {Y : Cx} : PTs Y [] (tT K Δ true Δ) := pts_imp pts_nil fun σ H Q ⟨B, F, ok, q⟩ => q F H ok (.refl _)
theorem pts_if {Y : Cx} {k : Bool} (h : DTx Y Δ c k Δ1) : PTs Y [c] (tT Y.K Δ k Δ1) := pts_one h.pt
theorem tLc_of {Q : VK} {σ : St} {H : Hp} (h : Lc X scope elt ifs j xs 0 Δ1 ys Δn) (hj : Δ1[j]? = some .no) (hl : ys.length ≤ 1000000) (q : tE X.K Δ (.nl ys) Δn σ H Q) : tLc (tI X.K Δ xs Δ1) (gName j) (fAny X scope ifs) (eAny X scope elt) [j] σ H Q := by
  obtain ⟨B, F0, ok0, q⟩ := q
  refine ⟨B, F0, ok0, fun J F1 H1 ok1 ex1 wk D hD => ?_⟩
  have w1 : ∀ u : Option V, wipe ((wipe σ [j]).set j u) [j] = wipe σ [j] := fun u => by
    show ((σ.set j none).set j u).set j none = σ.set j none
    rw [List.set_set, List.set_set]
  have bD := (ok1.fresh hD).2
  have ok2 : Ok X.K (upd B D (.lst [])) F1 (upd H1 D (.lst [])) (wipe σ [j]) Δ1 := ((ok1.new hD).addB (ok1.fresh hD).1 upd_same (ok1.notNew hD)).noSlot hj none
  refine ⟨fun i m H => m = xs.length - i ∧ i ≤ xs.length ∧ ∃ F Δi acc dn rs, Ok X.K (upd B D (.lst acc)) F H (wipe σ [j]) Δi ∧ Ex F1 F ∧ DqA F acc dn ∧ Lc X scope elt ifs j xs i Δi rs Δn ∧ dn ++ rs = ys ∧ Δi[j]? = some .no, ⟨xs.length, by simp, Nat.zero_le _, F1, Δ1, [], [], ys, ok2, .refl _, .nil, h, rfl, hj⟩, ?_⟩
  rintro i m H ⟨rfl, hi, F, Δi, acc, dn, rs, ok, ex, hd, lc, hys, hjn⟩
  have hlen : dn.length ≤ ys.length := by rw [← hys, List.length_append]; omega
  cases lc with
  | done hx =>
    subst hx
    rw [List.append_nil] at hys
    subst hys
    refine .inl ⟨wk.stop H (ex.trans ok.fh), ?_⟩
    have okS : Ok X.K (upd B D (.lst acc)) F H σ Δn := by
      have z := ok.noSlot hjn (σ[j]?.getD none)
      have hjl : j < σ.length := by
        have := (List.getElem?_eq_some_iff.mp hj).1
        have := ok1.len
        omega
      have e : (wipe σ [j]).set j (σ[j]?.getD none) = σ := by
        have hjx := List.getElem?_eq_getElem hjl
        rw [hjx]
        exact set_back hjx
      rw [e] at z
      exact z
    have fD : F D = none := okS.bf D (by rw [upd_same]; intro z; cases z)
    have hDD : H D = some (.lst acc) := okS.bh D _ upd_same
    exact q _ F H (okS.weakB (.new bD)) (ex1.trans ex) ⟨D, acc, rfl, fD, bD, hDD, hd, okS.notB (by rw [upd_same]; intro z; cases z)⟩
  | @turn _ _ Δ' _ d yo rs hd' tc lc =>
    have hlt := (List.getElem?_eq_some_iff.mp hd').1
    refine .inr ⟨wk.go i H hlt (ex.trans ok.fh), fun H' => ∃ F Δi acc dn rs, Ok X.K (upd B D (.lst acc)) F H' (wipe σ [j]) Δi ∧ Ex F1 F ∧ DqA F acc dn ∧ Lc X scope elt ifs j xs (i + 1) Δi rs Δn ∧ dn ++ rs = ys ∧ Δi[j]? = some .no, fun H' z => ⟨_, by omega, rfl, hlt, z⟩, fun v H' hy => ?_⟩
    obtain ⟨F', ok', ex', d', e', hv⟩ := wk.yl i H v H' _ F _ Δi hlt hy ok ex
    rw [hd'] at e'
    cases e'
    refine ⟨w1 _, ?_⟩
    have okt : Ok X.K (upd B D (.lst acc)) F' H' ((wipe σ [j]).set j (some v)) (Δi.set j (.d d)) := ok'.put (s := .d d) ⟨v, rfl, hv⟩ fun z => nomatch z
    have backσ : ∀ {F3 H3 : Hp} {Δ3 : En} {B3 : Hp}, Ok X.K B3 F3 H3 ((wipe σ [j]).set j (some v)) Δ3 → Δ3[j]? = some .no → Ok X.K B3 F3 H3 (wipe σ [j]) Δ3 := fun {F3 H3 Δ3 B3} o3 n3 => by
      have z := o3.noSlot n3 none
      have e : ((wipe σ [j]).set j (some v)).set j none = wipe σ [j] := w1 _
      rw [e] at z
      exact z
    cases tc with
    | @take Δa Δb _ y ht he hle hn =>
      refine ⟨_, true, _, ht, _, F', okt, fun F2 H2 ok2 ex2 => iteT ⟨Δa, .d y, Δb, he, _, F2, ok2, fun u F3 H3 ok3 ex3 hu => ?_⟩⟩
      have hDD : H3 D = some (.lst acc) := ok3.bh D _ upd_same
      refine ⟨acc, hDD, by rw [hd.length, sizeLine_eq]; omega, F3, Δ', acc ++ [u], dn ++ [y], rs, ?_, ((ex.trans ex').trans ex2).trans ex3, pr_app (DqA.mono ((ex'.trans ex2).trans ex3) hd) (.cons hu .nil), lc, ?_, hn⟩
      · exact backσ (hle.ok ok3).moveB hn
      · rw [List.append_assoc]; exact hys
    | @skip Δa _ ht hle hn =>
      refine ⟨_, false, _, ht, _, F', okt, fun F2 H2 ok2 ex2 => iteF ⟨F2, Δ', acc, dn, rs, ?_, (ex.trans ex').trans ex2, DqA.mono (ex'.trans ex2) hd, lc, hys, hn⟩⟩
      exact backσ (hle.ok ok2) hn
/-- the slot j is none of the caller's -/
theorem rk_no {s : Sl} (hj : Δ[j]? = some .no) : RK Δ (Δ.set j s) := rk_set hj rfl
theorem de_lc {own : List (Str × Nat)} (hN : X.N.Nodup) (hc : X.calm = true) (hi : DIx X Δ (.Name nm p) iter xs Δ1) (h : Lc X scope elt ifs j xs 0 Δ1 ys Δn) (hj : Δ1[j]? = some .no) (hl : ys.length ≤ 1000000) (rk : RK Δ1 Δn) (hown : own = [(nm, j)]) (ok : BlkOk X.N X.env.scope scope own)
    (hg : ∀ (s : Shared) (H : Hp) (C : Addr) (cl : List (Str × Addr)) (fp : List Addr), PG (X.blk s H scope (compEnvC scope cl C X.env) fp) (.Name nm p) (gName j)) (hs : ∀ x, foldedSetIterable iter X.env x = pure x := by intro _; rfl) :
    DEx X Δ (.ListComp elt [⟨.Name nm p, iter, ifs, 0⟩] scope pos) (.nl ys) Δn := by
  subst hown
  exact ⟨hi.rk.trans rk, pe_imp (pe_lc hc hN hi.pi ok hg (fun s H C cl fp => pts_any ⟨s, H, C, cl, fp, rfl⟩) (fun s H C cl fp => pe_any ⟨s, H, C, cl, fp, rfl⟩) hs) fun σ H Q q => tLc_of h hj hl q⟩
/-- x = [..], x a local -/
theorem ds1_setLc {own : List (Str × Nat)} {i : Nat} {v : Str} {py : Pos} {s : Sl} (hN : X.N.Nodup) (hc : X.calm = true) (hi : DIx X Δ (.Name nm p) iter xs Δ1) (h : Lc X scope elt ifs j xs 0 Δ1 ys Δn) (hj : Δ1[j]? = some .no) (hl : ys.length ≤ 1000000) (rk : RK Δ1 Δn) (hown : own = [(nm, j)]) (ok : BlkOk X.N X.env.scope scope own)
    (hg : ∀ (s : Shared) (H : Hp) (C : Addr) (cl : List (Str × Addr)) (fp : List Addr), PG (X.blk s H scope (compEnvC scope cl C X.env) fp) (.Name nm p) (gName j)) (hΔ : Δn[i]? = some s) (hsr : s.isRef = false) (hy : X.N[i]? = some v) (hyl : X.env.scope.names.lookup v = some .local)
    (hsw : swapsWith (.ListComp elt [⟨.Name nm p, iter, ifs, 0⟩] scope pos) (some (.Name v py)) spos.line X.env = pure true) (hs : ∀ x, foldedSetIterable iter X.env x = pure x := by intro _; rfl) :
    DS1 X W Δ (.Assign [.Name v py] (.ListComp elt [⟨.Name nm p, iter, ifs, 0⟩] scope pos) spos) (.nx (Δn.set i (.own ys))) := by
  subst hown
  refine ps_imp (ps_setLc hc hN hy hyl hsw hi.pi ok hg (fun s H C cl fp => pts_any ⟨s, H, C, cl, fp, rfl⟩) (fun s H C cl fp => pe_any ⟨s, H, C, cl, fp, rfl⟩) hs) fun D σ H ⟨B, F, ok, q⟩ => ?_
  exact tLc_of (Q := fun x H1 => D.nx (σ.set i (some x)) H1) h hj hl ⟨B, F, ok, fun x F1 H1 ok1 ex1 hv => q _ F1 H1 (put_own ok1 hv) ex1 ((Kp.refl (hi.rk.trans rk)).trans (kp_set hΔ hsr))⟩
/-- THE RULE's turn by turn: I by the turn, the slots, what is made so far -/
theorem lc_inv {ι : Type} {XS : ι → Cx} (I : Nat → En → List PyData → Prop) (hs : ∀ n Δ d dn, xs[n]? = some d → I n Δ dn → ∃ Δ' yo, (∀ q, Tc (XS q) scope elt ifs j Δ d Δ' yo) ∧ I (n + 1) Δ' (dn ++ yo.toList)) : ∀ m n Δ dn, n + m = xs.length → I n Δ dn → ∃ rs Δn, (∀ q, Lc (XS q) scope elt ifs j xs n Δ rs Δn) ∧ I xs.length Δn (dn ++ rs) := by
  intro m
  induction m with
  | zero =>
    intro n Δ dn hn hI
    have : n = xs.length := by omega
    subst this
    exact ⟨[], Δ, fun q => .done rfl, by rw [List.append_nil]; exact hI⟩
  | succ m ih =>
    intro n Δ dn hn hI
    have hlt : n < xs.length := by omega
    have he := List.getElem?_eq_getElem hlt
    obtain ⟨Δ', yo, tc, hI2⟩ := hs n Δ _ dn he hI
    obtain ⟨rs, Δn, lc, hI3⟩ := ih (n + 1) Δ' _ (by omega) hI2
    exact ⟨_, Δn, fun q => .turn he (tc q) (lc q), by rw [← List.append_assoc]; exact hI3⟩
theorem tc0 {d : PyData} (he : ∀ Y, Blk X scope Y → DEx Y (Δ.set j (.d d)) elt (.d y) Δ2) (hle : Le Δ2 Δ3) (hn : Δ3[j]? = some .no) : Tc X scope elt [] j Δ d Δ3 (some y) := .take (fun _ _ => pts_yes) he hle hn
theorem le_set : ∀ {Δ : En} {j : Nat} {s : Sl}, Δ[j]? = some .no → s.isRef = false → Le (Δ.set j s) Δ
  | [], _, _, h, _ => by simp at h
  | t :: Δ, 0, s, h, hs => by
    have e : t = .no := by simpa using h
    subst e
    exact .no hs (Le.refl _)
  | t :: Δ, j + 1, s, h, hs => .same (le_set (j := j) (by simpa using h) hs)
/-- every item is taken, the slots stay as they are: for all contexts the same -/
theorem lc_ex {ι : Type} {XS : ι → Cx} (R : Nat → PyData → PyData → Prop) (hj : Δ[j]? = some .no) (hs : ∀ n d, xs[n]? = some d → ∃ y, R n d y ∧ ∀ q Y, Blk (XS q) scope Y → DEx Y (Δ.set j (.d d)) elt (.d y) (Δ.set j (.d d))) :
    ∃ ys : List PyData, ys.length = xs.length ∧ (∀ (n : Nat) (d y : PyData), xs[n]? = some d → ys[n]? = some y → R n d y) ∧ ∀ q, Lc (XS q) scope elt [] j xs 0 Δ ys Δ := by
  obtain ⟨rs, Δn, lc, e1, e2, e3⟩ := lc_inv (XS := XS) (scope := scope) (elt := elt) (ifs := []) (j := j) (xs := xs) (fun n Δ' dn => Δ' = Δ ∧ dn.length = n ∧ ∀ (m : Nat) (d y : PyData), xs[m]? = some d → dn[m]? = some y → R m d y) (fun n Δ' d dn hd ⟨h1, h2, h3⟩ => by
    subst h1
    obtain ⟨y, hR, hy⟩ := hs n d hd
    refine ⟨_, some y, fun q => .take (fun Y hY => pts_yes) (hy q) (le_set hj rfl) hj, rfl, by simp [h2], fun m d' y' hm hy' => ?_⟩
    by_cases hmn : m < dn.length
    · exact h3 m d' y' hm (by rw [List.getElem?_append_left hmn] at hy'; exact hy')
    · have hm2 : m < (dn ++ [y]).length := (List.getElem?_eq_some_iff.mp hy').1
      have e : m = n := by simp at hm2; omega
      subst e
      rw [hd] at hm
      cases hm
      have : (dn ++ [y])[m]? = some y := by rw [List.getElem?_append_right (by omega), h2]; simp
      have hy' : (dn ++ [y])[m]? = some y' := hy'
      rw [this] at hy'
      cases hy'
      exact hR) xs.length 0 Δ [] (by omega) ⟨rfl, rfl, fun m d y _ h => by simp at h⟩
  subst e1
  refine ⟨rs, by simpa using e2, fun n d y hd hy => e3 n d y hd (by simpa using hy), lc⟩
theorem lc_map (f : Nat → PyData → PyData) (hj : Δ[j]? = some .no) (hs : ∀ n d, xs[n]? = some d → ∀ Y, Blk X scope Y → DEx Y (Δ.set j (.d d)) elt (.d (f n d)) (Δ.set j (.d d))) : Lc X scope elt [] j xs 0 Δ (xs.mapIdx f) Δ := by
  obtain ⟨ys, h1, h2, h3⟩ := lc_ex (ι := Unit) (XS := fun _ => X) (scope := scope) (elt := elt) (j := j) (xs := xs) (fun n d y => y = f n d) hj fun n d hd => ⟨f n d, rfl, fun _ Y hY => hs n d hd Y hY⟩
  have e : ys = xs.mapIdx f := by
    apply List.ext_getElem?
    intro n
    rw [List.getElem?_mapIdx]
    cases hx : xs[n]? with
    | none =>
      have : ys[n]? = none := List.getElem?_eq_none_iff.mpr (by rw [h1]; exact List.getElem?_eq_none_iff.mp hx)
      rw [this]
      rfl
    | some d =>
      have hn : n < ys.length := by rw [h1]; exact (List.getElem?_eq_some_iff.mp hx).1
      have hy := List.getElem?_eq_getElem hn
      rw [hy, h2 n d _ hx hy]
      rfl
  rw [← e]
  exact h3 ()
/-- over items that are known by something else -/
theorem lc_of {α : Type} (ts : List α) (g h : α → PyData) (hj : Δ[j]? = some .no) (hs : ∀ t ∈ ts, ∀ Y, Blk X scope Y → DEx Y (Δ.set j (.d (g t))) elt (.d (h t)) (Δ.set j (.d (g t)))) : Lc X scope elt [] j (ts.map g) 0 Δ (ts.map h) Δ := by
  obtain ⟨ys, h1, h2, h3⟩ := lc_ex (ι := Unit) (XS := fun _ => X) (scope := scope) (elt := elt) (j := j) (xs := ts.map g) (fun n d y => ∃ t, ts[n]? = some t ∧ y = h t) hj fun n d hd => by
    rw [List.getElem?_map] at hd
    cases ht : ts[n]? with
    | none => rw [ht] at hd; cases hd
    | some t =>
      rw [ht] at hd
      cases hd
      exact ⟨h t, ⟨t, rfl, rfl⟩, fun _ Y hY => hs t (List.mem_of_getElem? ht) Y hY⟩
  have e : ys = ts.map h := by
    apply List.ext_getElem?
    intro n
    rw [List.getElem?_map]
    cases hx : ts[n]? with
    | none =>
      have : ys[n]? = none := List.getElem?_eq_none_iff.mpr (by rw [h1, List.length_map]; exact List.getElem?_eq_none_iff.mp hx)
      rw [this]
      rfl
    | some d =>
      have hn : n < ys.length := by rw [h1, List.length_map]; exact (List.getElem?_eq_some_iff.mp hx).1
      have hy := List.getElem?_eq_getElem hn
      obtain ⟨t, ht, e⟩ := h2 n (g d) _ (by rw [List.getElem?_map, hx]; rfl) hy
      rw [hx] at ht
      cases ht
      rw [hy, e]
      rfl
  rw [← e]
  exact h3 ()
end
end Tr
namespace Tr
open PySem L2
/-! ### a def, by its body -/
section
variable {K : Frag} {B F F' H H' : Hp} {σ σ' : St} {Δ Δ' Δ'' : En} {vs : List V} {N : List Str}
def nos (n : Nat) : En := List.replicate n .no
theorem start_ok (ok : Ok K B F H (vs.map some) Δ) : Ok K B F H (L2.start N vs) (Δ ++ nos (N.length - vs.length)) := by
  have hl : vs.length = Δ.length := by have := ok.len; rwa [List.length_map] at this
  have at_ : ∀ {i : Nat} {s : Sl}, (Δ ++ nos (N.length - vs.length))[i]? = some s → (Δ[i]? = some s ∧ (L2.start N vs)[i]? = (vs.map some)[i]?) ∨ (s = .no ∧ ∃ o, (L2.start N vs)[i]? = some o) := fun {i s} e => by
    by_cases hi : i < Δ.length
    · rw [List.getElem?_append_left hi] at e
      refine .inl ⟨e, ?_⟩
      unfold L2.start
      rw [List.getElem?_append_left (by rw [List.length_map]; omega)]
    · rw [List.getElem?_append_right (by omega)] at e
      unfold nos at e
      have hr := (List.getElem?_eq_some_iff.mp e).1
      rw [List.length_replicate] at hr
      rw [List.getElem?_replicate_of_lt hr] at e
      refine .inr ⟨(Option.some.inj e).symm, none, ?_⟩
      unfold L2.start
      rw [List.getElem?_append_right (by rw [List.length_map]; omega), List.length_map, hl]
      exact List.getElem?_replicate_of_lt (by omega)
  refine ⟨ok.fh, ok.bh, ok.bf, ?_, fun i s e => ?_, fun i j s t a e1 e2 m1 m2 r1 r2 => ?_⟩
  · unfold L2.start nos
    rw [List.length_append, List.length_append, List.length_map, List.length_replicate, List.length_replicate, hl]
  · rcases at_ e with ⟨h1, h2⟩ | ⟨rfl, o, h⟩
    · obtain ⟨o, h3, h4⟩ := ok.sl i s h1
      exact ⟨o, h2.trans h3, h4⟩
    · exact ⟨o, h, trivial⟩
  · rcases at_ e1 with ⟨h1, h2⟩ | ⟨rfl, _⟩
    · rcases at_ e2 with ⟨h3, h4⟩ | ⟨rfl, _⟩
      · exact ok.nd i j s t a h1 h3 m1 m2 (h2.symm.trans r1) (h4.symm.trans r2)
      · cases m2
    · cases m1
/-- the parameters' slots at the end -/
def Fin (Δ Δ'' Δ' : En) : Prop := Δ'.length = Δ.length ∧ ∀ (i : Nat) (s : Sl), Δ'[i]? = some s → (Δ[i]? = some s ∧ s.mut = false) ∨ s = .no ∨ ∃ xs ys, Δ[i]? = some (.ref xs) ∧ s = .ref ys ∧ Δ''[i]? = some (.ref ys)
theorem Fin.refl (h : ∀ (i : Nat) (s : Sl), Δ[i]? = some s → s.mut = false) : Fin Δ Δ'' Δ := ⟨rfl, fun i s e => .inl ⟨e, h i s e⟩⟩
theorem fin_ok (ok : Ok K B F H (vs.map some) Δ) (ok' : Ok K B F' H' σ' Δ'') (ex : Ex F F') (kp : Kp (Δ ++ nos (N.length - vs.length)) Δ'' (L2.start N vs) σ') (fn : Fin Δ Δ'' Δ') : Ok K B F' H' (vs.map some) Δ' ∧ ∀ (i : Nat) (s : Sl), Δ'[i]? = some s → s.mut = true → (vs.map some)[i]? = σ'[i]? ∧ ∃ t, Δ''[i]? = some t ∧ t.mut = true := by
  have hl : vs.length = Δ.length := by have := ok.len; rwa [List.length_map] at this
  have at_ : ∀ {i : Nat} {xs : List PyData}, Δ[i]? = some (.ref xs) → σ'[i]? = (vs.map some)[i]? := fun {i xs} e => by
    have hi : i < Δ.length := (List.getElem?_eq_some_iff.mp e).1
    have := (kp i xs (by rw [List.getElem?_append_left hi]; exact e)).1
    rw [this]
    unfold L2.start
    rw [List.getElem?_append_left (by rw [List.length_map]; omega)]
  have key : ∀ (i : Nat) (s : Sl), Δ'[i]? = some s → s.mut = true → (vs.map some)[i]? = σ'[i]? ∧ Δ''[i]? = some s := fun i s e m => by
    rcases fn.2 i s e with ⟨_, h⟩ | rfl | ⟨xs, ys, h1, rfl, h2⟩
    · rw [h] at m; cases m
    · cases m
    · exact ⟨(at_ h1).symm, h2⟩
  refine ⟨⟨ok'.fh, ok'.bh, ok'.bf, by rw [ok.len, fn.1], fun i s e => ?_, fun i j s t a e1 e2 m1 m2 r1 r2 => ?_⟩, fun i s e m => ⟨(key i s e m).1, s, (key i s e m).2, m⟩⟩
  · rcases fn.2 i s e with ⟨h1, h2⟩ | rfl | ⟨xs, ys, h1, rfl, h2⟩
    · obtain ⟨o, h3, h4⟩ := ok.sl i s h1
      exact ⟨o, h3, h4.keep ex fun m => by rw [h2] at m; cases m⟩
    · have hi : i < Δ'.length := (List.getElem?_eq_some_iff.mp e).1
      have : i < (vs.map some).length := by rw [List.length_map, hl, ← fn.1]; exact hi
      exact ⟨_, List.getElem?_eq_getElem this, trivial⟩
    · obtain ⟨o, h3, h4⟩ := ok'.sl i _ h2
      exact ⟨o, (at_ h1).symm.trans h3, h4⟩
  · obtain ⟨h1, h2⟩ := key i s e1 m1
    obtain ⟨h3, h4⟩ := key j t e2 m2
    exact ok'.nd i j s t a h2 h4 m1 m2 (h1.symm.trans r1) (h3.symm.trans r2)
/-- how a body's end is the promise's -/
def End (Δ : En) : Out → Out → Prop
  | .rt Δ'' r', .rt Δ' r => r' = r ∧ fin r = true ∧ Fin Δ Δ'' Δ'
  | .nx Δ'', .rt Δ' r => r = .d .none ∧ Fin Δ Δ'' Δ'
  | .xc Δ'' C', .xc Δ' C => C' = C ∧ Fin Δ Δ'' Δ'
  | _, _ => False
end
section
variable {P : Program} {w : World} {K : Frag} {mg : Str → Option Value} {base : Heap} {k : Nat} {x : Str} {st : Stmt} {f : Addr} {fd : FuncData} {N ps : List Str} {S : Spec}
abbrev BX (P : Program) (w : World) (K : Frag) (mg : Str → Option Value) (base : Heap) (N : List Str) (x : Str) (sc : Scope) (f : Addr) (cdv : Value) (A : Around) (outer : List Env) (s : Shared) (H : Hp) (E : XK) : Cx := cxOf (L2.CX P w) P w K mg base N x sc f cdv A outer s H E
def W0 : WX := fun _ _ _ _ => False
def WEx (E : XK) : WX := fun cls d _ H => E cls d H
theorem end_run {W : WX} {E : XK} {Δ : En} {o o' : Out} {B F H : Hp} {vs : List V} {Q : VK} (ok : Ok K B F H (vs.map some) Δ) (he : End Δ o' o) (hw : ∀ Δ' C σ' H', o = .xc Δ' C → E (.ref C) none H' → W (.ref C) none σ' H')
    (q : SpPost K B F vs Q E o) : Post K W B F (L2.start N vs) (Δ ++ nos (N.length - vs.length)) { nx := fun _ H' => Q .non H', rt := Q } o' := by
  cases o with
  | rt Δ' r =>
    cases o' with
    | rt Δ'' r' =>
      obtain ⟨rfl, hf, fn⟩ := he
      intro v σ' F' H' ok' ex kp hr
      obtain ⟨okp, hm⟩ := fin_ok ok ok' ex kp fn
      refine q v F' H' okp ex ?_
      cases r' with
      | d x => exact hr
      | nl xs =>
        obtain ⟨a, us, ev, r1, r2, r3, r4, r5⟩ := hr
        refine ⟨a, us, ev, r1, r2, r3, r4, fun i s e m hv => ?_⟩
        obtain ⟨h1, t, h2, h3⟩ := hm i s e m
        exact r5 i t h2 h3 (h1.symm.trans hv)
      | nt i' j' => exact nt_map hr fun a hb nm => ⟨hb, fun i s e m hv => by
        obtain ⟨h1, t, h2, h3⟩ := hm i s e m
        exact nm i t h2 h3 (h1.symm.trans hv)⟩
      | sl i => cases hf
    | nx Δ'' =>
      obtain ⟨rfl, fn⟩ := he
      intro σ' F' H' ok' ex kp
      obtain ⟨okp, _⟩ := fin_ok ok ok' ex kp fn
      exact q .non F' H' okp ex .non
    | xc Δ'' C => exact he.elim
    | bk Δ'' => exact he.elim
    | ct Δ'' => exact he.elim
  | xc Δ' C =>
    cases o' with
    | xc Δ'' C' =>
      obtain ⟨rfl, fn⟩ := he
      intro σ' F' H' ok' ex kp
      obtain ⟨okp, _⟩ := fin_ok ok ok' ex kp fn
      exact hw _ _ _ _ rfl (q F' H' okp ex)
    | rt Δ'' r' => exact he.elim
    | nx Δ'' => exact he.elim
    | bk Δ'' => exact he.elim
    | ct Δ'' => exact he.elim
  | nx Δ' => exact q.elim
  | bk Δ' => exact q.elim
  | ct Δ' => exact q.elim
/-- what a call of a def brings: its code object, what runs around, the frames, the state, the objects, the wish -/
structure Par where
  cdv : Value
  A : Around
  outer : List Env
  s : Shared
  H : Hp
  E : XK
abbrev BC (P : Program) (w : World) (K : Frag) (mg : Str → Option Value) (base : Heap) (N : List Str) (x : Str) (sc : Scope) (f : Addr) (p : Par) : Cx := BX P w K mg base N x sc f p.cdv p.A p.outer p.s p.H p.E
/-- the calls for which there is room -/
abbrev Cl (P : Program) (w : World) (K : Frag) (mg : Str → Option Value) (base : Heap) (N : List Str) (x : Str) (sc : Scope) (f : Addr) (k : Nat) : Type := { p : Par // Room k (BC P w K mg base N x sc f p).A }
theorem fnOk_one {g : Addr} {gd : FuncData} (Fu : Fun K x x st g gd) (sc : FnScope N ps (defScope st)) {Δ : En} (hlen : Δ.length = ps.length) {o o' : Out} (he : End Δ o' o) (ds : ∀ q : Cl P w K mg base N x (defScope st) g k, DS (BC P w K mg base N x (defScope st) g q.1) (WEx q.1.E) (Δ ++ nos (N.length - ps.length)) (defBody st) o') :
    FnOk P w K mg base (L2.CX P w) (k + 1) g gd ps (spOf K (fun Δ' o' => Δ' = Δ ∧ o' = o)) := by
  have hl : ∀ vs H Q E, spOf K (fun D o2 => D = Δ ∧ o2 = o) vs H Q E → vs.length = ps.length := fun vs H Q E ⟨D, o, B, F, s, ok, _⟩ => by
    have h1 := ok.len
    rw [List.length_map] at h1
    rw [h1, s.1, hlen]
  refine Fu.okX sc hl fun cdv A outer s H vs Q E hr hsp => ?_
  have hvl := hl _ _ _ _ hsp
  obtain ⟨D, o, B, F, ⟨e1, e2⟩, ok, q⟩ := hsp
  subst e1 e2
  refine ⟨_, ds ⟨⟨cdv, A, outer, s, H, E⟩, hr⟩, B, F, ?_, ?_⟩
  · have z := start_ok (N := N) ok
    rw [hvl] at z
    exact z
  · have z := end_run (N := N) (W := WEx E) (E := E) ok he (fun Δ' C σ' H' e he => he) q
    rw [hvl] at z
    exact z
theorem post_w {K : Frag} {W W' : WX} {B F : Hp} {σ : St} {Δ : En} {D : Ends} {o : Out} (h : Post K W B F σ Δ D o) (ho : ∀ Δ' C, o ≠ .xc Δ' C) : Post K W' B F σ Δ D o := by
  cases o with
  | nx Δ' => exact h
  | rt Δ' r => exact h
  | bk Δ' => exact h
  | ct Δ' => exact h
  | xc Δ' C => exact absurd rfl (ho _ _)
theorem ds_nox {X : Cx} {W : WX} {Δ : En} {sts : List Stmt} {o : Out} (h : DS X.nox W0 Δ sts o) (ho : ∀ Δ' C, o ≠ .xc Δ' C) : DS X W Δ sts o := pss_imp (PSs.nox h) fun D σ H ⟨B, F, ok, q⟩ => ⟨B, F, ok, post_w q ho⟩
theorem end_noX {Δ : En} {o o' : Out} (he : End Δ o' o) (h : ∀ Δ' C, o ≠ .xc Δ' C) : ∀ Δ' C, o' ≠ .xc Δ' C := fun Δ' C e => by
  subst e
  cases o with
  | xc Δ2 C2 => exact h _ _ rfl
  | rt Δ2 r => exact he.elim
  | nx Δ2 => exact he.elim
  | bk Δ2 => exact he.elim
  | ct Δ2 => exact he.elim
theorem fn_union {g : Addr} {gd : FuncData} (hm : mg x = some (.ref g)) (hk : PySem.W.keepIn K (.ref g) = true) (hb : Binds K gd ps []) (h : ∀ Δ o, S Δ o → FnOk P w K mg base (L2.CX P w) k g gd ps (spOf K (fun Δ' o' => Δ' = Δ ∧ o' = o))) : Fn P w K mg base k x S :=
  ⟨g, gd, ps, hm, hk, hb, ⟨fun vs H Q E ⟨Δ, o, B, F, s, r⟩ => (h Δ o s).len vs H Q E ⟨Δ, o, B, F, ⟨rfl, rfl⟩, r⟩, fun A outer s H args us vs Q E a b c d ⟨Δ, o, B, F, s', r⟩ => (h Δ o s').run A outer s H args us vs Q E a b c d ⟨Δ, o, B, F, ⟨rfl, rfl⟩, r⟩⟩⟩
/-- a def that raises nothing, its ends told by S -/
theorem def_ok (Fu : Fun K x x st f fd) (sc : FnScope N ps (defScope st)) (hm : mg x = some (.ref f)) (hb : Binds K fd ps []) (hlen : ∀ Δ o, S Δ o → Δ.length = ps.length ∧ ∀ Δ' C, o ≠ .xc Δ' C)
    (hgo : ∀ Δ o, S Δ o → Go (fun q : Cl P w K mg base N x (defScope st) f k => (BC P w K mg base N x (defScope st) f q.1).nox) (fun _ => W0) (Δ ++ nos (N.length - ps.length)) (defBody st) (fun o' => End Δ o' o)) : Fn P w K mg base (k + 1) x S :=
  fn_union hm Fu.kp hb fun Δ o s => by
    obtain ⟨o', he, ds⟩ := hgo Δ o s
    exact fnOk_one Fu sc (hlen _ _ s).1 he fun q => ds_nox (ds q) (end_noX he (hlen _ _ s).2)
/-- .. that may raise -/
theorem def_okX (Fu : Fun K x x st f fd) (sc : FnScope N ps (defScope st)) (hm : mg x = some (.ref f)) (hb : Binds K fd ps []) (hlen : ∀ Δ o, S Δ o → Δ.length = ps.length)
    (hgo : ∀ Δ o, S Δ o → Go (fun q : Cl P w K mg base N x (defScope st) f k => BC P w K mg base N x (defScope st) f q.1) (fun q => WEx q.1.E) (Δ ++ nos (N.length - ps.length)) (defBody st) (fun o' => End Δ o' o)) : Fn P w K mg base (k + 1) x S :=
  fn_union hm Fu.kp hb fun Δ o s => by
    obtain ⟨o', he, ds⟩ := hgo Δ o s
    exact fnOk_one Fu sc (hlen _ _ s) he ds
/-- a def that raises nothing: it comes to some end that pleases R; the same end each time -/
theorem def_ex (Fu : Fun K x x st f fd) (sc : FnScope N ps (defScope st)) (hm : mg x = some (.ref f)) (hb : Binds K fd ps []) {V : En → Prop} {R : En → Out → Prop} (hlen : ∀ Δ, V Δ → Δ.length = ps.length)
    (hgo : ∀ Δ, V Δ → Go (fun q : Cl P w K mg base N x (defScope st) f k => (BC P w K mg base N x (defScope st) f q.1).nox) (fun _ => W0) (Δ ++ nos (N.length - ps.length)) (defBody st) (fun o' => ∃ Δ' r, End Δ o' (.rt Δ' r) ∧ R Δ (.rt Δ' r))) :
    ∃ T : En → Out, (∀ Δ, V Δ → R Δ (T Δ)) ∧ Fn P w K mg base (k + 1) x (fun Δ o => V Δ ∧ o = T Δ) := by
  have key : ∀ Δ, ∃ o, V Δ → R Δ o ∧ FnOk P w K mg base (L2.CX P w) (k + 1) f fd ps (spOf K (fun Δ' o' => Δ' = Δ ∧ o' = o)) := fun Δ => by
    by_cases v : V Δ
    · obtain ⟨o', ⟨Δ', r, he, hR⟩, ds⟩ := hgo Δ v
      exact ⟨.rt Δ' r, fun _ => ⟨hR, fnOk_one Fu sc (hlen _ v) he fun q => ds_nox (ds q) (end_noX he fun _ _ e => by cases e)⟩⟩
    · exact ⟨.nx [], fun h => absurd h v⟩
  obtain ⟨T, hT⟩ := Classical.axiomOfChoice key
  exact ⟨T, fun Δ v => (hT Δ v).1, fn_union hm Fu.kp hb fun Δ o ⟨v, e⟩ => by subst e; exact (hT Δ v).2⟩
/-- nothing can be asked -/
theorem fn_never {g : Addr} {gd : FuncData} (hm : mg x = some (.ref g)) (hk : PySem.W.keepIn K (.ref g) = true) (hb : Binds K gd ps []) (h : ∀ Δ o, ¬ S Δ o) : Fn P w K mg base k x S :=
  ⟨g, gd, ps, hm, hk, hb, ⟨fun vs H Q E ⟨Δ, o, _, _, s, _⟩ => absurd s (h _ _), fun A outer s H args us vs Q E _ _ _ _ ⟨Δ, o, _, _, s, _⟩ => absurd s (h _ _)⟩⟩
end
/-! ### what is raised -/
structure Xc (K : Frag) (mg : Str → Option Value) (n : Str) (C : Addr) : Prop where
  g : mg n = some (.ref C)
  ex : PySem.W.excIn K C [.type "ValueError", .type "Exception", .type "BaseException", .type "object"] "ValueError.__new__" = true
  kp : PySem.W.keepIn K (.ref C) = true
  sub : PySem.W.subIn K (.ref C) (.type "BaseException") = some true
  ty : PySem.W.typeIn K (.ref C) = some (.type "type")
section
variable {X : Cx} {W : WX} {Δ Δ1 Δ2 : En} {P : Out → Prop} {e : Expr} {es : List Expr} {rs : List R} {pos p p2 pos2 : Pos} {n : Str} {C : Addr} {k i : Nat}
theorem ds1_raise {m : Str} {j} (hc : X.calm = true) (tk : Takes X W) (h : Xc X.K X.mg n C) (hg : Gl X n := by rfl) (hdb : (n == ("__debug__" : Str)) = false := by decide) : DS1 X W Δ (.Raise (some (.Call (.Name n p) [.Constant (.str m) j p2] [] pos2)) none pos) (.xc Δ C) :=
  ps_imp (ps_raise hc tk (pmk_own PySem.F.excBase_ValueError h.ex h.g h.kp (raises_own h.sub h.ty) hg hdb)) fun D σ H ⟨B, F, ok, q⟩ => q σ F H ok (.refl _) (.refl .rfl)
/-- an expression that raises -/
def tX (K : Frag) (W : WX) (Δ : En) (Δ' : En) (C : Addr) : TE := fun σ H _ => ∃ B F, Ok K B F H σ Δ ∧ ∀ F' H', Ok K B F' H' σ Δ' → Ex F F' → W (.ref C) none σ H'
structure DXx (X : Cx) (W : WX) (Δ : En) (e : Expr) (Δ' : En) (C : Addr) : Prop where
  rk : RK Δ Δ'
  pe : PE X e (tX X.K W Δ Δ' C)
theorem dx_call {x : Str} {S : Spec} {Δp : En} (tk : Takes X W) (h : Fn X.prog X.w X.K X.mg X.base k x S) (hr : Room k X.A) (ha : DAx X Δ (e :: es) rs Δ1) (hs : S (rs.map (argSl Δ1)) (.xc Δp C)) (hm : OneMut Δ1 rs none) (hg : Gl X x := by rfl)
    (hdb : (x == ("__debug__" : Str)) = false := by decide) (he : starEach (e :: es) X.env = (false, eval e X.env) :: starEach es X.env := by rfl) (hpl : (backTo pos (starEach es X.env)).any (·.1) = false := by rfl) : DXx X W Δ (.Call (.Name x p) (e :: es) [] pos) Δ1 C := by
  obtain ⟨f, fd, ps, h1, h2, h3, h4⟩ := h
  refine ⟨ha.rk, pe_imp (pe_callS h4 hr hg h1 h2 h3 (fun σ => passAt tk σ) ha.pa hdb he hpl) fun σ H Q ⟨B, F, ok, q⟩ => ⟨B, F, ok, fun vs F1 H1 ok1 ex1 hv => ?_⟩⟩
  exact ⟨_, _, _, F1, hs, ok_call (n := none) ok1 hv hm, fun F2 H2 ok2 ex2 => q F2 H2 (ok_back ok1 ok2 ex2) (ex1.trans ex2)⟩
theorem ds1_exprX (h : DXx X W Δ e Δ1 C) (hs : swapsWith e none pos.line X.env = pure false := by rfl) : DS1 X W Δ (.Expr e pos) (.xc Δ1 C) := ps_imp (ps_expr h.pe hs) fun D σ H ⟨B, F, ok, q⟩ => ⟨B, F, ok, fun F' H' ok' ex => q σ F' H' ok' ex (.refl h.rk)⟩
theorem ds1_expr {r : R} (h : DEx X Δ e r Δ1) (hs : swapsWith e none pos.line X.env = pure false := by rfl) : DS1 X W Δ (.Expr e pos) (.nx Δ1) := ps_imp (ps_expr h.pe hs) fun D σ H ⟨B, F, ok, q⟩ => ⟨B, F, ok, fun v F' H' ok' ex hv => q σ F' H' ok' ex (.refl h.rk)⟩
theorem ds1_retX (h : DXx X W Δ e Δ1 C) : DS1 X W Δ (.Return (some e) pos) (.xc Δ1 C) := ps_imp (ps_ret h.pe) fun D σ H ⟨B, F, ok, q⟩ => ⟨B, F, ok, fun F' H' ok' ex => q σ F' H' ok' ex (.refl h.rk)⟩
theorem ds1_setX (i : Nat) {m : Str} (hN : X.N.Nodup) (h : DXx X W Δ e Δ1 C) (hi : X.N[i]? = some m := by rfl) (hx : Loc X.env.scope m := by first | exact Or.inl rfl | exact Or.inr rfl)
    (hsw : swapsWith e (some (.Name m p)) pos.line X.env = pure false := by rfl) (hf : X.fn m = true ∨ X.env.scope.names.lookup m = some .local := by first | exact .inl rfl | exact .inr rfl | assumption) : DS1 X W Δ (.Assign [.Name m p] e pos) (.xc Δ1 C) :=
  ps_imp (ps_set hN hi hx h.pe hsw hf) fun D σ H ⟨B, F, ok, q⟩ => ⟨B, F, ok, fun F' H' ok' ex => q σ F' H' ok' ex (.refl h.rk)⟩
end
end Tr
namespace Tr
open PySem L2
/-! ### small things that the walks want -/
/-- where a def stands -/
def Df (K : Frag) (mg : Str → Option Value) (x : Str) (st : Stmt) (ps : List Str) : Prop := ∃ f fd, mg x = some (.ref f) ∧ Fun K x x st f fd ∧ Binds K fd ps []
section
variable {P : Program} {w : World} {K : Frag} {mg : Str → Option Value} {base : Heap} {k : Nat} {x : Str} {st : Stmt} {N ps : List Str} {S : Spec}
/-- the contexts of a def's calls -/
abbrev XN (P : Program) (w : World) (K : Frag) (mg : Str → Option Value) (base : Heap) (N : List Str) (x : Str) (sc : Scope) (f : Addr) (k : Nat) : Cl P w K mg base N x sc f k → Cx := fun q => (BC P w K mg base N x sc f q.1).nox
abbrev XR (P : Program) (w : World) (K : Frag) (mg : Str → Option Value) (base : Heap) (N : List Str) (x : Str) (sc : Scope) (f : Addr) (k : Nat) : Cl P w K mg base N x sc f k → Cx := fun q => BC P w K mg base N x sc f q.1
abbrev WN {ι : Type} : ι → WX := fun _ => W0
theorem mk_ok (D : Df K mg x st ps) (sc : FnScope N ps (defScope st)) (hlen : ∀ Δ o, S Δ o → Δ.length = ps.length ∧ ∀ Δ' C, o ≠ .xc Δ' C)
    (hgo : ∀ f, ∀ Δ o, S Δ o → Go (XN P w K mg base N x (defScope st) f k) WN (Δ ++ nos (N.length - ps.length)) (defBody st) (fun o' => End Δ o' o)) : Fn P w K mg base (k + 1) x S := by
  obtain ⟨f, fd, hm, Fu, hb⟩ := D
  exact def_ok Fu sc hm hb hlen (hgo f)
theorem mk_okX (D : Df K mg x st ps) (sc : FnScope N ps (defScope st)) (hlen : ∀ Δ o, S Δ o → Δ.length = ps.length)
    (hgo : ∀ f, ∀ Δ o, S Δ o → Go (XR P w K mg base N x (defScope st) f k) (fun q => WEx q.1.E) (Δ ++ nos (N.length - ps.length)) (defBody st) (fun o' => End Δ o' o)) : Fn P w K mg base (k + 1) x S := by
  obtain ⟨f, fd, hm, Fu, hb⟩ := D
  exact def_okX Fu sc hm hb hlen (hgo f)
theorem mk_ex (D : Df K mg x st ps) (sc : FnScope N ps (defScope st)) {V : En → Prop} {R : En → Out → Prop} (hlen : ∀ Δ, V Δ → Δ.length = ps.length)
    (hgo : ∀ f, ∀ Δ, V Δ → Go (XN P w K mg base N x (defScope st) f k) WN (Δ ++ nos (N.length - ps.length)) (defBody st) (fun o' => ∃ Δ' r, End Δ o' (.rt Δ' r) ∧ R Δ (.rt Δ' r))) :
    ∃ T : En → Out, (∀ Δ, V Δ → R Δ (T Δ)) ∧ Fn P w K mg base (k + 1) x (fun Δ o => V Δ ∧ o = T Δ) := by
  obtain ⟨f, fd, hm, Fu, hb⟩ := D
  exact def_ex Fu sc hm hb hlen (hgo f)
theorem mk_never (D : Df K mg x st ps) (h : ∀ Δ o, ¬ S Δ o) : Fn P w K mg base k x S := by
  obtain ⟨f, fd, hm, Fu, hb⟩ := D
  exact fn_never hm Fu.kp hb h
end
theorem go_eq {ι : Type} {XS : ι → Cx} {WS : ι → WX} {Δ Δ' : En} {sts : List Stmt} {P : Out → Prop} (h : Δ = Δ') (k : Go XS WS Δ' sts P) : Go XS WS Δ sts P := h ▸ k
/-- nothing among the arguments is ours to change -/
theorem oneN {Δ : En} {rs : List R} (h : rs.all (fun r => !(argSl Δ r).mut) = true) : OneMut Δ rs none := fun q q' r r' h1 _ m _ => by
  have := List.all_eq_true.mp h r (List.mem_of_getElem? h1)
  rw [m] at this
  cases this
/-- one list, at slot i, is given away, as the argument q -/
theorem oneM {Δ : En} {rs : List R} {i : Nat} (n : Nat) (hn : rs[n]? = some (.sl i)) (h : ((List.range rs.length).all fun q => q == n || (match rs[q]? with | some r => !(argSl Δ r).mut | none => true)) = true) : OneMut Δ rs (some i) := fun q q' r r' h1 h2 m m' => by
  have key : ∀ {q : Nat} {r : R}, rs[q]? = some r → (argSl Δ r).mut = true → q = n := fun {q r} h1 m => by
    have hq : q < rs.length := (List.getElem?_eq_some_iff.mp h1).1
    have := List.all_eq_true.mp h q (List.mem_range.mpr hq)
    rw [h1] at this
    simp only [m, Bool.not_true, Bool.or_false] at this
    simpa using this
  have e1 := key h1 m
  have e2 := key h2 m'
  subst e1
  rw [hn] at h1
  cases h1
  exact ⟨e2.symm, i, rfl, rfl⟩
theorem fin0 {Δ D : En} (h : Δ.all (fun s => !s.mut) = true) : Fin Δ D Δ := .refl fun i s e => by
  have := List.all_eq_true.mp h s (List.mem_of_getElem? e)
  cases hs : s.mut with
  | true => rw [hs] at this; cases this
  | false => rfl
section
variable {X : Cx} {Δ Δ1 : En} {a : Expr} {r1 : R} {x : PyData} {xs : List PyData} {pos p2 p3 : Pos} {kk : Nat}
/-- t[1:] of a tuple -/
theorem de_tail (ha : DEx X Δ a r1 Δ1) (l1 : lite r1 = true) (e1 : rdOf Δ1 r1 = some (.tuple (x :: xs))) : DEx X Δ (.Subscript a (.Slice (some (.Constant (.int 1) kk p3)) none none p2) pos) (.d (.tuple xs)) Δ1 := by
  have h := de_slT (pos := pos) (p2 := p2) ha (dp_so (de_int (n := 1) (kk := kk) (pos := p3))) dp_no l1 e1 (.inl (by show HT.sIx (xs.length + 1) 0 (some ((1 : Nat) : Int)) ≠ 0; rw [HT.sIx_nat]; omega))
  have e : cutD (x :: xs) (some 1) none = xs := by
    unfold cutD
    have q : HT.sIx (x :: xs).length 0 (some 1) = 1 := by show HT.sIx (xs.length + 1) 0 (some ((1 : Nat) : Int)) = 1; rw [HT.sIx_nat]; omega
    rw [q, HT.sIx_none]
    show (xs.take _) = xs
    exact List.take_of_length_le (by simp)
  rw [e] at h
  exact h
end
theorem at0 {α : Type} {x : α} {xs : List α} : atI (x :: xs) 0 = some x := atI_nat (j := 0) rfl
theorem at1 {α : Type} {x y : α} {xs : List α} : atI (x :: y :: xs) 1 = some y := atI_nat (j := 1) rfl
theorem at_get {α : Type} {xs : List α} {i : Int} {d : α} (h0 : 0 ≤ i) (h1 : i < xs.length) : atI xs i = some (xs.getD i.toNat d) := by
  have e : i = ((i.toNat : Nat) : Int) := by omega
  have hl : i.toNat < xs.length := by omega
  have q : atI xs ((i.toNat : Nat) : Int) = some (xs.getD i.toNat d) := atI_nat (by rw [List.getElem?_eq_getElem hl, List.getD_eq_getElem?_getD, List.getElem?_eq_getElem hl]; rfl)
  rw [← e] at q
  exact q
theorem at_map {α : Type} {xs : List α} {i : Int} (f : α → PyData) (d : α) (h0 : 0 ≤ i) (h1 : i < xs.length) : atI (xs.map f) i = some (f (xs.getD i.toNat d)) := by
  have e : i = ((i.toNat : Nat) : Int) := by omega
  have hl : i.toNat < xs.length := by omega
  have q : atI (xs.map f) ((i.toNat : Nat) : Int) = some (f (xs.getD i.toNat d)) := atI_nat (by rw [List.getElem?_map, List.getElem?_eq_getElem hl, List.getD_eq_getElem?_getD, List.getElem?_eq_getElem hl]; rfl)
  rw [← e] at q
  exact q
theorem RK.nil {Δ : En} : RK [] Δ := fun i xs e => by cases e
theorem RK.refc {xs ys : List PyData} {Δ Δ' : En} (h : RK Δ Δ') : RK (.ref xs :: Δ) (.ref ys :: Δ') := fun i zs e => by
  cases i with
  | zero => exact ⟨ys, Eq.refl _⟩
  | succ i => exact h i zs e
theorem RK.skip {s t : Sl} {Δ Δ' : En} (hs : s.isRef = false) (h : RK Δ Δ') : RK (s :: Δ) (t :: Δ') := fun i zs e => by
  cases i with
  | zero => cases e; cases hs
  | succ i => exact h i zs e
/-! ### places in a text -/
def stAt (sts : List Stmt) (i : Nat) : Stmt := sts.getD i (.Pass ⟨0, 0, 0, 0⟩)
def exRet : Stmt → Expr
  | .Return (some e) _ => e
  | .Assign _ e _ => e
  | .Expr e _ => e
  | .If c _ _ _ => c
  | .For _ e _ _ _ => e
  | _ => .Name "" ⟨0, 0, 0, 0⟩
def bodyOf : Stmt → List Stmt
  | .If _ b _ _ => b
  | .For _ _ b _ _ => b
  | .While _ b _ _ => b
  | .Try b _ _ _ _ => b
  | _ => []
def elsOf : Stmt → List Stmt
  | .If _ _ b _ => b
  | _ => []
def kidAt : Expr → Nat → Expr
  | .Tuple es _ _, i => es.getD i (.Name "" ⟨0, 0, 0, 0⟩)
  | .List es _, i => es.getD i (.Name "" ⟨0, 0, 0, 0⟩)
  | .Call _ es _ _, i => es.getD i (.Name "" ⟨0, 0, 0, 0⟩)
  | .BinOp a _ b _, i => if i = 0 then a else b
  | .Compare a _ bs _, i => if i = 0 then a else bs.getD (i - 1) (.Name "" ⟨0, 0, 0, 0⟩)
  | .BoolOp _ es _, i => es.getD i (.Name "" ⟨0, 0, 0, 0⟩)
  | .UnaryOp _ a _, _ => a
  | .Subscript a b _, i => if i = 0 then a else b
  | e, _ => e
def lcElt : Expr → Expr
  | .ListComp e _ _ _ => e
  | e => e
def lcScope : Expr → Scope
  | .ListComp _ _ sc _ => sc
  | _ => { kind := .function, names := [], isGenerator := false, isCoroutine := false }
theorem shp_ints (ns : List Int) : shp (.list (ns.map PyData.int)) := by
  have h1 : ∀ ns : List Int, PyData.canLayAll0 (ns.map PyData.int) = true := fun ns => by
    induction ns with
    | nil => simp [PyData.canLayAll0]
    | cons n ns ih => simp [PyData.canLayAll0, PyData.canLay0, ih]
  have h2 : ∀ ns : List Int, PyData.depthAll (ns.map PyData.int) = 0 := fun ns => by
    induction ns with
    | nil => simp [PyData.depthAll]
    | cons n ns ih => simp [PyData.depthAll, PyData.depth, ih]
  show ((PyData.list (ns.map PyData.int)).canLay0 && decide ((PyData.list (ns.map PyData.int)).depth ≤ 64)) = true
  rw [Bool.and_eq_true]
  exact ⟨by simp [PyData.canLay0, h1], decide_eq_true (by simp [PyData.depth, h2])⟩
theorem shp_refl {x : PyData} (h : shp x) : PyData.eqv x x = true := PySem.SeqAt.eqv_refl x ((Bool.and_eq_true_iff).mp (show (x.canLay0 && decide (x.depth ≤ 64)) = true from h)).1
theorem shp_nil : shp (.list []) := shp_ints []
/-! ### cells -/
def cellAt (ns : List Int) (k : Int) : Int := if k < ns.length then (ns.getD k.toNat 0 * 48271 + k * 7919) % 1000003 else 0
theorem cellAt_lo (ns : List Int) (k : Int) : 0 ≤ cellAt ns k := by
  unfold cellAt
  split
  · exact Int.emod_nonneg _ (by decide)
  · exact Int.le_refl _
theorem cellAt_hi (ns : List Int) (k : Int) : cellAt ns k < 1000003 := by
  unfold cellAt
  split
  · exact Int.emod_lt_of_pos _ (by decide)
  · decide
def cellsL (ns : List Int) (lo hi : Int) : List Int := (List.range ((if (ns.length : Int) < hi then (ns.length : Int) else hi) - lo).toNat).map fun (k : Nat) => cellAt ns (lo + (k : Int))
def Cell (c : Int) : Prop := 0 ≤ c ∧ c < 1000003
theorem cellsL_ok (ns : List Int) (lo hi : Int) : ∀ c ∈ cellsL ns lo hi, Cell c := fun c h => by
  obtain ⟨k, _, rfl⟩ := List.mem_map.mp h
  exact ⟨cellAt_lo _ _, cellAt_hi _ _⟩
theorem cellsL_len (ns : List Int) (lo hi : Int) (h : 0 ≤ lo) : (cellsL ns lo hi).length ≤ ns.length := by
  unfold cellsL
  rw [List.length_map, List.length_range]
  split <;> omega
/-! ### trees -/
inductive Tree where
  | num (n : Int) | arg (k : Int) | bin (w : Str) (a b : Tree) | sure (a : Tree) | lett (a b : Tree) | pick (a b c : Tree) | call (f : Int) (as : List Tree)
mutual
def enc : Tree → PyData
  | .num n => .tuple [.str "num", .int n]
  | .arg k => .tuple [.str "arg", .int k]
  | .bin w a b => .tuple [.str w, enc a, enc b]
  | .sure a => .tuple [.str "sure", enc a]
  | .lett a b => .tuple [.str "let", enc a, enc b]
  | .pick a b c => .tuple [.str "pick", enc a, enc b, enc c]
  | .call f as => .tuple [.str "call", .int f, .list (encs as)]
def encs : List Tree → List PyData
  | [] => []
  | t :: ts => enc t :: encs ts
end
theorem encs_map : ∀ ts : List Tree, encs ts = ts.map enc
  | [] => rfl
  | t :: ts => by rw [encs, encs_map ts]; rfl
def kids : Tree → List Tree
  | .num _ => []
  | .arg _ => []
  | .bin _ a b => [a, b]
  | .sure a => [a]
  | .lett a b => [a, b]
  | .pick a b c => [a, b, c]
  | .call _ as => as
def opW (w : Str) : Prop := w = "add" ∨ w = "sub" ∨ w = "less"
mutual
def wf : Tree → Prop
  | .num _ => True
  | .arg _ => True
  | .bin w a b => opW w ∧ wf a ∧ wf b
  | .sure a => wf a
  | .lett a b => wf a ∧ wf b
  | .pick a b c => wf a ∧ wf b ∧ wf c
  | .call _ as => as.length ≤ 1000 ∧ wfs as
def wfs : List Tree → Prop
  | [] => True
  | t :: ts => wf t ∧ wfs ts
end
theorem wfs_iff : ∀ ts : List Tree, wfs ts ↔ ∀ t ∈ ts, wf t
  | [] => by simp [wfs]
  | t :: ts => by simp [wfs, wfs_iff ts]
theorem wf_kids : ∀ t : Tree, wf t → ∀ c ∈ kids t, wf c
  | .num _, _, c, h => by simp [kids] at h
  | .arg _, _, c, h => by simp [kids] at h
  | .bin w a b, hw, c, h => by
    simp only [kids, List.mem_cons, List.not_mem_nil, or_false] at h
    rcases h with rfl | rfl
    · exact hw.2.1
    · exact hw.2.2
  | .sure a, hw, c, h => by
    simp only [kids, List.mem_cons, List.not_mem_nil, or_false] at h
    subst h
    exact hw
  | .lett a b, hw, c, h => by
    simp only [kids, List.mem_cons, List.not_mem_nil, or_false] at h
    rcases h with rfl | rfl
    · exact hw.1
    · exact hw.2
  | .pick a b d, hw, c, h => by
    simp only [kids, List.mem_cons, List.not_mem_nil, or_false] at h
    rcases h with rfl | rfl | rfl
    · exact hw.1
    · exact hw.2.1
    · exact hw.2.2
  | .call f as, hw, c, h => (wfs_iff as).mp hw.2 c h
/-- it goes with what is known and with the functions -/
def okT (cs : List Int) : Nat → Int → Tree → Prop
  | 0, _, _ => False
  | n + 1, kn, t => match t with
    | .num _ => True
    | .arg k => 0 ≤ k ∧ k < kn
    | .bin w a b => opW w ∧ okT cs n kn a ∧ okT cs n kn b
    | .sure a => okT cs n kn a
    | .lett a b => okT cs n kn a ∧ okT cs n (kn + 1) b
    | .pick a b c => okT cs n kn a ∧ okT cs n kn b ∧ okT cs n kn c
    | .call f as => 0 ≤ f ∧ f < cs.length ∧ (as.length : Int) = cs.getD f.toNat 0 ∧ as.length ≤ 1000 ∧ ∀ a ∈ as, okT cs n kn a
theorem okT_wf {cs : List Int} : ∀ {n : Nat} {kn : Int} {t : Tree}, okT cs n kn t → wf t
  | 0, _, _, h => h.elim
  | n + 1, kn, .num _, _ => trivial
  | n + 1, kn, .arg _, _ => trivial
  | n + 1, kn, .bin w a b, h => ⟨h.1, okT_wf h.2.1, okT_wf h.2.2⟩
  | n + 1, kn, .sure a, h => okT_wf (n := n) (kn := kn) (t := a) h
  | n + 1, kn, .lett a b, h => ⟨okT_wf h.1, okT_wf h.2⟩
  | n + 1, kn, .pick a b c, h => ⟨okT_wf h.1, okT_wf h.2.1, okT_wf h.2.2⟩
  | n + 1, kn, .call f as, h => ⟨h.2.2.2.1, (wfs_iff as).mpr fun a ha => okT_wf (h.2.2.2.2 a ha)⟩
theorem okT_mono {cs : List Int} : ∀ {n m : Nat} {kn : Int} {t : Tree}, n ≤ m → okT cs n kn t → okT cs m kn t
  | 0, _, _, _, _, h => h.elim
  | n + 1, 0, _, _, l, _ => by omega
  | n + 1, m + 1, kn, .num _, _, _ => trivial
  | n + 1, m + 1, kn, .arg _, _, h => h
  | n + 1, m + 1, kn, .bin w a b, l, h => ⟨h.1, okT_mono (by omega) h.2.1, okT_mono (by omega) h.2.2⟩
  | n + 1, m + 1, kn, .sure a, l, h => okT_mono (n := n) (m := m) (kn := kn) (t := a) (by omega) h
  | n + 1, m + 1, kn, .lett a b, l, h => ⟨okT_mono (by omega) h.1, okT_mono (by omega) h.2⟩
  | n + 1, m + 1, kn, .pick a b c, l, h => ⟨okT_mono (by omega) h.1, okT_mono (by omega) h.2.1, okT_mono (by omega) h.2.2⟩
  | n + 1, m + 1, kn, .call f as, l, h => ⟨h.1, h.2.1, h.2.2.1, h.2.2.2.1, fun a ha => okT_mono (by omega) (h.2.2.2.2 a ha)⟩
/-- how deep the datum is -/
def pd (t : Tree) : Nat := (enc t).depth
theorem depthAll_mem : ∀ {xs : List PyData} {x : PyData}, x ∈ xs → x.depth ≤ PyData.depthAll xs
  | y :: ys, x, h => by
    rw [PyData.depthAll]
    rcases List.mem_cons.mp h with rfl | h
    · omega
    · have := depthAll_mem h
      omega
theorem depthAll_le {n : Nat} : ∀ {xs : List PyData}, (∀ x ∈ xs, x.depth ≤ n) → PyData.depthAll xs ≤ n
  | [], _ => by rw [PyData.depthAll]; omega
  | y :: ys, h => by
    rw [PyData.depthAll]
    have h1 := h y (by simp)
    have h2 := depthAll_le fun x hx => h x (List.mem_cons_of_mem _ hx)
    omega
theorem pd_kids (t : Tree) : ∀ c ∈ kids t, pd c < pd t := fun c h => by
  cases t with
  | num n => simp [kids] at h
  | arg n => simp [kids] at h
  | bin w a b =>
    simp only [kids, List.mem_cons, List.not_mem_nil, or_false] at h
    unfold pd
    rw [enc, PyData.depth]
    rcases h with rfl | rfl
    · exact Nat.lt_succ_of_le (depthAll_mem (by simp))
    · exact Nat.lt_succ_of_le (depthAll_mem (by simp))
  | sure a =>
    simp only [kids, List.mem_cons, List.not_mem_nil, or_false] at h
    subst h
    unfold pd
    rw [enc, PyData.depth]
    exact Nat.lt_succ_of_le (depthAll_mem (by simp))
  | lett a b =>
    simp only [kids, List.mem_cons, List.not_mem_nil, or_false] at h
    unfold pd
    rw [enc, PyData.depth]
    rcases h with rfl | rfl
    · exact Nat.lt_succ_of_le (depthAll_mem (by simp))
    · exact Nat.lt_succ_of_le (depthAll_mem (by simp))
  | pick a b d =>
    simp only [kids, List.mem_cons, List.not_mem_nil, or_false] at h
    unfold pd
    rw [enc, PyData.depth]
    rcases h with rfl | rfl | rfl
    · exact Nat.lt_succ_of_le (depthAll_mem (by simp))
    · exact Nat.lt_succ_of_le (depthAll_mem (by simp))
    · exact Nat.lt_succ_of_le (depthAll_mem (by simp))
  | call f as =>
    have h : c ∈ as := h
    unfold pd
    rw [enc, PyData.depth]
    have h1 : (PyData.list (encs as)).depth ≤ PyData.depthAll [.str "call", .int f, .list (encs as)] := depthAll_mem (by simp)
    rw [PyData.depth] at h1
    have h2 : (enc c).depth ≤ PyData.depthAll (encs as) := depthAll_mem (by rw [encs_map]; exact List.mem_map_of_mem h)
    omega
theorem so_num : PyData.strOk "num" = true := by decide +kernel
theorem so_arg : PyData.strOk "arg" = true := by decide +kernel
theorem so_sure : PyData.strOk "sure" = true := by decide +kernel
theorem so_let : PyData.strOk "let" = true := by decide +kernel
theorem so_pick : PyData.strOk "pick" = true := by decide +kernel
theorem so_call : PyData.strOk "call" = true := by decide +kernel
theorem so_op {w : Str} (h : opW w) : PyData.strOk w = true := by rcases h with rfl | rfl | rfl <;> decide +kernel
theorem depth_tup {xs : List PyData} {n : Nat} (h : ∀ x ∈ xs, x.depth ≤ n) : (PyData.tuple xs).depth ≤ n + 1 := by
  rw [PyData.depth]
  have := depthAll_le h
  omega
theorem depth_lst {xs : List PyData} {n : Nat} (h : ∀ x ∈ xs, x.depth ≤ n) : (PyData.list xs).depth ≤ n + 1 := by
  rw [PyData.depth]
  have := depthAll_le h
  omega
theorem depth_str (s : Str) : (PyData.str s).depth = 0 := by rw [PyData.depth]
theorem depth_int (i : Int) : (PyData.int i).depth = 0 := by rw [PyData.depth]
/-- no call at its root: one deeper than its parts -/
theorem pd_le1 {n : Nat} : ∀ {t : Tree}, (∀ c ∈ kids t, pd c ≤ n) → (∀ f as, t ≠ .call f as) → pd t ≤ n + 1
  | .num m, h, _ => depth_tup (n := n) fun x hx => by
    simp only [List.mem_cons, List.not_mem_nil, or_false] at hx
    rcases hx with rfl | rfl
    · rw [depth_str]; omega
    · rw [depth_int]; omega
  | .arg m, h, _ => depth_tup (n := n) fun x hx => by
    simp only [List.mem_cons, List.not_mem_nil, or_false] at hx
    rcases hx with rfl | rfl
    · rw [depth_str]; omega
    · rw [depth_int]; omega
  | .bin w a b, h, _ => depth_tup (n := n) fun x hx => by
    simp only [List.mem_cons, List.not_mem_nil, or_false] at hx
    rcases hx with rfl | rfl | rfl
    · rw [depth_str]; omega
    · exact h a (by simp [kids])
    · exact h b (by simp [kids])
  | .sure a, h, _ => depth_tup (n := n) fun x hx => by
    simp only [List.mem_cons, List.not_mem_nil, or_false] at hx
    rcases hx with rfl | rfl
    · rw [depth_str]; omega
    · exact h a (by simp [kids])
  | .lett a b, h, _ => depth_tup (n := n) fun x hx => by
    simp only [List.mem_cons, List.not_mem_nil, or_false] at hx
    rcases hx with rfl | rfl | rfl
    · rw [depth_str]; omega
    · exact h a (by simp [kids])
    · exact h b (by simp [kids])
  | .pick a b c, h, _ => depth_tup (n := n) fun x hx => by
    simp only [List.mem_cons, List.not_mem_nil, or_false] at hx
    rcases hx with rfl | rfl | rfl | rfl
    · rw [depth_str]; omega
    · exact h a (by simp [kids])
    · exact h b (by simp [kids])
    · exact h c (by simp [kids])
  | .call f as, _, h2 => absurd rfl (h2 f as)
theorem pd_le2 {n : Nat} {t : Tree} (h : ∀ c ∈ kids t, pd c ≤ n) : pd t ≤ n + 2 := by
  cases t with
  | call f as =>
    refine depth_tup (n := n + 1) fun x hx => ?_
    simp only [List.mem_cons, List.not_mem_nil, or_false] at hx
    rcases hx with rfl | rfl | rfl
    · rw [depth_str]; omega
    · rw [depth_int]; omega
    · refine depth_lst fun x hx => ?_
      rw [encs_map] at hx
      obtain ⟨c, hc, rfl⟩ := List.mem_map.mp hx
      exact h c hc
  | num m => exact Nat.le_succ_of_le (pd_le1 h fun _ _ e => by cases e)
  | arg m => exact Nat.le_succ_of_le (pd_le1 h fun _ _ e => by cases e)
  | bin w a b => exact Nat.le_succ_of_le (pd_le1 h fun _ _ e => by cases e)
  | sure a => exact Nat.le_succ_of_le (pd_le1 h fun _ _ e => by cases e)
  | lett a b => exact Nat.le_succ_of_le (pd_le1 h fun _ _ e => by cases e)
  | pick a b c => exact Nat.le_succ_of_le (pd_le1 h fun _ _ e => by cases e)
mutual
theorem lay_enc : ∀ t : Tree, wf t → (enc t).canLay0 = true
  | .num n, _ => by simp [enc, PyData.canLay0, PyData.canLayAll0, so_num]
  | .arg n, _ => by simp [enc, PyData.canLay0, PyData.canLayAll0, so_arg]
  | .bin w a b, h => by simp [enc, PyData.canLay0, PyData.canLayAll0, lay_enc a h.2.1, lay_enc b h.2.2, so_op h.1]
  | .sure a, h => by simp [enc, PyData.canLay0, PyData.canLayAll0, lay_enc a h, so_sure]
  | .lett a b, h => by simp [enc, PyData.canLay0, PyData.canLayAll0, lay_enc a h.1, lay_enc b h.2, so_let]
  | .pick a b c, h => by simp [enc, PyData.canLay0, PyData.canLayAll0, lay_enc a h.1, lay_enc b h.2.1, lay_enc c h.2.2, so_pick]
  | .call f as, h => by simp [enc, PyData.canLay0, PyData.canLayAll0, lay_encs as h.2, so_call]
theorem lay_encs : ∀ ts : List Tree, wfs ts → PyData.canLayAll0 (encs ts) = true
  | [], _ => by simp [encs, PyData.canLayAll0]
  | t :: ts, h => by simp [encs, PyData.canLayAll0, lay_enc t h.1, lay_encs ts h.2]
end
theorem shp_enc {t : Tree} (hw : wf t) (h : pd t ≤ 64) : shp (enc t) := by
  show ((enc t).canLay0 && decide ((enc t).depth ≤ 64)) = true
  rw [Bool.and_eq_true]
  exact ⟨lay_enc t hw, decide_eq_true h⟩
/-- its word -/
def wd : Tree → Str
  | .num _ => "num"
  | .arg _ => "arg"
  | .bin w _ _ => w
  | .sure _ => "sure"
  | .lett _ _ => "let"
  | .pick _ _ _ => "pick"
  | .call _ _ => "call"
mutual
def allCalls : Tree → Int
  | .num _ => 0
  | .arg _ => 0
  | .bin _ a b => allCalls a + allCalls b
  | .sure a => allCalls a
  | .lett a b => allCalls a + allCalls b
  | .pick a b c => allCalls a + allCalls b + allCalls c
  | .call _ as => 1 + allCallss as
def allCallss : List Tree → Int
  | [] => 0
  | t :: ts => allCalls t + allCallss ts
end
theorem allCallss_sum : ∀ ts : List Tree, allCallss ts = (ts.map allCalls).sum
  | [] => rfl
  | t :: ts => by rw [allCallss, allCallss_sum ts]; rfl
def lastCalls : Tree → Int
  | .lett _ b => lastCalls b
  | .pick _ b c => lastCalls b + lastCalls c
  | .call _ _ => 1
  | _ => 0
end Tr
namespace Tr
open PySem L2
/-! ### the top -/
section
variable {P : Program} {w : World} {K : Frag} {mg : Str → Option Value} {base : Heap} {k : Nat} {x : Str} {st : Stmt} {N ps : List Str} {S : Spec}
/-- def law, from its body -/
theorem law_ok {f : Addr} {fd : FuncData} (Fu : Fun K x x st f fd) (sc : FnScope N ps (defScope st)) (hlen : ∀ Δ o, S Δ o → Δ.length = ps.length ∧ ∀ Δ' C, o ≠ .xc Δ' C)
    (hgo : ∀ Δ o, S Δ o → Go (XN P w K mg base N x (defScope st) f k) WN (Δ ++ nos (N.length - ps.length)) (defBody st) (fun o' => End Δ o' o)) : FnOk P w K mg base (L2.CX P w) (k + 1) f fd ps (spOf K S) := by
  have h : ∀ Δ o, S Δ o → FnOk P w K mg base (L2.CX P w) (k + 1) f fd ps (spOf K (fun Δ' o' => Δ' = Δ ∧ o' = o)) := fun Δ o s => by
    obtain ⟨o', he, ds⟩ := hgo Δ o s
    exact fnOk_one Fu sc (hlen _ _ s).1 he fun q => ds_nox (ds q) (end_noX he (hlen _ _ s).2)
  exact ⟨fun vs H Q E ⟨Δ, o, B, F, s, r⟩ => (h Δ o s).len vs H Q E ⟨Δ, o, B, F, ⟨rfl, rfl⟩, r⟩, fun A outer s H args us vs Q E a b c d ⟨Δ, o, B, F, s', r⟩ => (h Δ o s').run A outer s H args us vs Q E a b c d ⟨Δ, o, B, F, ⟨rfl, rfl⟩, r⟩⟩
theorem df_mk {h : Heap} {f : Addr} {oc kV doc pm cdv ct : Value} {od an : Option Addr} {osl : Array (Option Value)} (X : K.In h) (G : h.Ns mainGlobals mg) (hb : ∀ {fd : FuncData}, Fun K x x st f fd → Binds K fd ps [])
    (a : PySem.W.nsIn K mainGlobals x = some (some (.ref f))) (l : K.lookup f = some ⟨oc, od, .func (PySem.W.fnOf x x (defArgs st) (defBody st) (defScope st) .none kV doc pm an cdv ct), osl⟩) (c : PySem.W.codeIn K cdv x = true) (k : PySem.W.keepIn K (.ref f) = true) : Df K mg x st ps := by
  have F := fun_mk (st := st) l c k
  exact ⟨f, _, PySem.W.mg_of X G a, F, hb F⟩
end
theorem ok_sc {K : Frag} {H : Hp} {a : Addr} {ns : List Int} (hS : SqL K H a (ns.map V.int)) : Ok K (fun _ => none) H H [some (.ref a)] [.sc ns] := by
  refine ⟨fun _ _ e => e, fun _ _ e => (by cases e), fun _ e => absurd rfl e, rfl, fun i s e => ?_, fun i j s t b e1 e2 m1 m2 r1 r2 => ?_⟩
  · cases i with
    | zero =>
      cases e
      exact ⟨_, rfl, a, rfl, hS⟩
    | succ i => cases e
  · cases i with
    | zero =>
      cases e1
      cases m1
    | succ i => cases e1
/-- the statement about the script -/
def lawS (n : Nat) : Spec := fun Δ o => ∃ ns : List Int, ns.length ≤ n ∧ Δ = [.sc ns] ∧ o = .rt Δ (.d (.bool true))
theorem walk_tr {l : PySem.W.OpenLaw} {n k : Nat} {q : Program} {loose : List Str} {XP : (Str → Option Value) → Heap → Prop} {YP : World → Heap → Prop} {d : DefRec} {K : Params → PySem.W.Frag} {x : Str}
    (hn : l.most = some n) (hn2 : n ≤ sizeLine) (hdf : d.params.defaults = []) (hr : Room k callerA)
    (hY : ∀ (w : World) (h : Heap), YP w h → (K w.params).In h)
    (F : ∀ (w : World) (mg : Str → Option Value) (fa : Addr) (h : Heap), (K w.params).In h → h.Ns mainGlobals mg → mg d.name = some (.ref fa) →
      ∃ fd : FuncData, (∀ (s : Shared) (u : Value), BindsTo s fd ⟨[u], []⟩ [(x, u)]) ∧
        ∀ base : Heap, (K w.params).In base → base.Ns mainGlobals mg → FnOk l.prog w (K w.params) mg base (L2.CX l.prog w) k fa fd [x] (spOf (K w.params) (lawS n))) :
    PySem.W.WalkO q loose XP YP l.row.toRowW d [] (fun f vs => PySem.call f vs) :=
  L2.walk_of (CX := fun w => L2.CX l.prog w) (sp := fun w => spOf (K w.params) (lawS n)) hn hn2 hdf hr hY F
    (fun w H a ns hl _ hS => ⟨[.sc ns], .rt [.sc ns] (.d (.bool true)), fun _ => none, H, ⟨ns, hl, rfl, rfl⟩, ok_sc hS, fun v F' H' ok ex hv => Dq.bl_ hv⟩)
    fun w H s e s' ⟨_, _, _, _, _, _, _, _, _, _, _, _, h⟩ => h
end Tr
namespace Tr
open PySem L2
/-! ### tuples of lists made here; what is told and then changed -/
section
variable {X : Cx} {W : WX} {Δ Δ1 Δ2 : En} {a b c e : Expr} {es : List Expr} {r : R} {rs : List R} {pos p p2 : Pos} {x : PyData} {xs ys zs : List PyData} {i j : Nat} {t1 t2 : Tm} {P : Out → Prop} {rest body : List Stmt} {o : Out}
theorem da_last (ha : DEx X Δ e r Δ1) (hs : starEach [e] X.env = (false, eval e X.env) :: starEach [] X.env := by rfl) : DAx X Δ [e] [r] Δ1 :=
  ⟨ha.rk, pa_imp (pa_cons ha.pe pa_nil hs) fun σ H Q ⟨B, F, ok, q⟩ => ⟨B, F, ok, fun v F1 H1 ok1 ex1 hv => q _ F1 H1 ok1 ex1 (.cons hv .nil)⟩⟩
theorem own_out {K : Frag} {B F H : Hp} {σ : St} {v : V} (ok : Ok K B F H σ Δ) (hi : Δ[i]? = some (.own xs)) (hv : σ[i]? = some (some v)) : TmOk B F H σ (Δ.set i .no) v (.l xs) := by
  obtain ⟨a, vs, h1, h2, h3, h4, h5⟩ := ok.rm hi (.inl rfl)
  rw [hv] at h1
  cases h1
  refine ⟨a, vs, rfl, h2, h3, h4, h5, fun k s ek hm q => ?_⟩
  by_cases hk : k = i
  · subst hk
    have hl : k < Δ.length := (List.getElem?_eq_some_iff.mp hi).1
    rw [List.getElem?_set_self hl] at ek
    cases ek
    cases hm
  · rw [List.getElem?_set_ne (Ne.symm hk)] at ek
    exact hk (ok.nd k i s _ a ek hi hm rfl q hv)
theorem nm_forget {σ : St} {q : Addr} (h : NotMut σ Δ q) : NotMut σ (Δ.set i .no) q := fun k s ek hm z => by
  by_cases hk : k = i
  · subst hk
    by_cases hl : k < Δ.length
    · rw [List.getElem?_set_self hl] at ek
      cases ek
      cases hm
    · rw [List.getElem?_eq_none (by simp; omega)] at ek
      cases ek
  · rw [List.getElem?_set_ne (Ne.symm hk)] at ek
    exact h k s ek hm z
theorem tm_new {B F H : Hp} {σ : St} {v : V} {t : Tm} {q : Addr} {ob : HO} (h : TmOk B F H σ Δ v t) (hq : H q = none) : TmOk B F (upd H q ob) σ Δ v t := by
  cases t with
  | d x => exact h
  | l xs =>
    obtain ⟨a, vs, e, h1, h2, h3, h4, h5⟩ := h
    exact ⟨a, vs, e, h1, h2, by rw [upd_ne (ne_of_none h3 hq)]; exact h3, h4, h5⟩
theorem nt_new {K : Frag} {B F H : Hp} {σ : St} {v1 v2 : V} {q : Addr} (ok : Ok K B F H σ Δ) (hq : H q = none) (h1 : TmOk B F H σ Δ v1 t1) (h2 : TmOk B F H σ Δ v2 t2) (hd : t1.isL = true → t2.isL = true → v1 ≠ v2) : Res B F (upd H q (.tup [v1, v2])) σ Δ (.ref q) (.nt t1 t2) :=
  ⟨q, v1, v2, rfl, (ok.fresh hq).1, (ok.fresh hq).2, upd_same, tm_new h1 hq, tm_new h2 hq, hd, ok.notNew hq⟩
/-- (x, e): x a list of this def's own, e a list made here -/
theorem de_nt_on {kk} (h : DAx X Δ [a, b] [.sl i, .nl zs] Δ1) (hi : Δ1[i]? = some (.own ys)) : DEx X Δ (.Tuple [a, b] kk pos) (.nt (.l ys) (.l zs)) (Δ1.set i .no) := ⟨h.rk.trans (rk_set hi rfl), pe_imp (pe_tup h.pa) fun σ H Q ⟨B, F, ok, q⟩ => ⟨B, F, ok, fun vs F1 H1 ok1 ex1 hv => by
  obtain ⟨v1, ws, rfl, g1, g2⟩ := pr_cons_inv hv
  obtain ⟨v2, ws, rfl, g3, g4⟩ := pr_cons_inv g2
  cases g4
  refine ⟨by show 2 ≤ sizeLine; decide, fun p hp => ?_⟩
  have g1 : σ[i]? = some (some v1) := g1
  have k1 := own_out ok1 hi g1
  obtain ⟨b2, vs2, rfl, m1, m2, m3, m4, m5⟩ := g3
  exact q _ _ _ (ok1.forget.new hp) ex1 (nt_new ok1.forget hp k1 ⟨b2, vs2, rfl, m1, m2, m3, m4, nm_forget m5⟩ fun _ _ e => by
    subst e
    exact m5 i _ hi rfl g1)⟩⟩
/-- both of this def's own -/
theorem de_nt_oo {kk} (h : DAx X Δ [a, b] [.sl i, .sl j] Δ1) (hi : Δ1[i]? = some (.own ys)) (hj : Δ1[j]? = some (.own zs)) (hij : i ≠ j) : DEx X Δ (.Tuple [a, b] kk pos) (.nt (.l ys) (.l zs)) ((Δ1.set i .no).set j .no) := ⟨h.rk.trans ((rk_set hi rfl).trans (rk_set (by rw [List.getElem?_set_ne hij]; exact hj) rfl)), pe_imp (pe_tup h.pa) fun σ H Q ⟨B, F, ok, q⟩ => ⟨B, F, ok, fun vs F1 H1 ok1 ex1 hv => by
  obtain ⟨v1, ws, rfl, g1, g2⟩ := pr_cons_inv hv
  obtain ⟨v2, ws, rfl, g3, g4⟩ := pr_cons_inv g2
  cases g4
  refine ⟨by show 2 ≤ sizeLine; decide, fun p hp => ?_⟩
  have g1 : σ[i]? = some (some v1) := g1
  have g3 : σ[j]? = some (some v2) := g3
  have hj' : (Δ1.set i .no)[j]? = some (.own zs) := by rw [List.getElem?_set_ne hij]; exact hj
  have k1 := own_out ok1 hi g1
  have k2 := own_out ok1.forget hj' g3
  have k1' : TmOk B F1 H1 σ ((Δ1.set i .no).set j .no) v1 (.l ys) := k1.map fun q hb nm => ⟨hb, nm_forget nm⟩
  exact q _ _ _ (ok1.forget.forget.new hp) ex1 (nt_new ok1.forget.forget hp k1' k2 fun _ _ e => by
    subst e
    obtain ⟨q1, _, h1, _⟩ := ok1.rm hi (.inl rfl)
    rw [g1] at h1
    cases h1
    exact hij (ok1.nd i j _ _ q1 hi hj rfl rfl g1 g3))⟩⟩
/-- a datum and a list of this def's own -/
theorem de_nt_do {kk} (h : DAx X Δ [a, b] [.d x, .sl j] Δ1) (hj : Δ1[j]? = some (.own zs)) : DEx X Δ (.Tuple [a, b] kk pos) (.nt (.d x) (.l zs)) (Δ1.set j .no) := ⟨h.rk.trans (rk_set hj rfl), pe_imp (pe_tup h.pa) fun σ H Q ⟨B, F, ok, q⟩ => ⟨B, F, ok, fun vs F1 H1 ok1 ex1 hv => by
  obtain ⟨v1, ws, rfl, g1, g2⟩ := pr_cons_inv hv
  obtain ⟨v2, ws, rfl, g3, g4⟩ := pr_cons_inv g2
  cases g4
  refine ⟨by show 2 ≤ sizeLine; decide, fun p hp => ?_⟩
  have g3 : σ[j]? = some (some v2) := g3
  exact q _ _ _ (ok1.forget.new hp) ex1 (nt_new ok1.forget hp (t1 := .d x) g1 (own_out ok1 hj g3) fun z => by cases z)⟩⟩
/-- (e1, e2) frozen -/
theorem tm_ice {K : Frag} {B F H : Hp} {σ : St} {v : V} (ok : Ok K B F H σ Δ) (h : TmOk B F H σ Δ v t1) : ∃ F', Ok K B F' H σ Δ ∧ Ex F F' ∧ Dq F' v t1.dt ∧ ∀ q, F' q ≠ none → F q ≠ none ∨ (v = .ref q ∧ t1.isL = true) := by
  cases t1 with
  | d x => exact ⟨F, ok, .refl _, h, fun q z => .inl z⟩
  | l xs =>
    obtain ⟨a, vs, rfl, h1, h2, h3, h4, h5⟩ := h
    refine ⟨upd F a (.lst vs), ok.ice h1 h2 h3 h5, .new h1, .list upd_same (h4.mono (.new h1)), fun q z => ?_⟩
    by_cases hq : q = a
    · exact .inr ⟨by rw [hq], rfl⟩
    · rw [upd_ne hq] at z; exact .inl z
theorem de_nte (h : DEx X Δ e (.nt t1 t2) Δ1) : DEx X Δ e (.d (.tuple [t1.dt, t2.dt])) Δ1 := ⟨h.rk, pe_imp h.pe fun σ H Q ⟨B, F, ok, q⟩ => ⟨B, F, ok, fun v F1 H1 ok1 ex1 ⟨a, v1, v2, ev, f1, f2, f3, f4, f5, f6, f7⟩ => by
  subst ev
  obtain ⟨F2, ok2, ex2, d2, n2⟩ := tm_ice ok1 f4
  have f5' : TmOk B F2 H1 σ Δ1 v2 t2 := by
    cases t2 with
    | d x => exact Dq.mono ex2 f5
    | l xs =>
      obtain ⟨b, vs, rfl, h1, h2, h3, h4, h5⟩ := f5
      refine ⟨b, vs, rfl, ?_, h2, h3, h4.mono ex2, h5⟩
      cases q2 : F2 b with
      | none => rfl
      | some o =>
        rcases n2 b (by rw [q2]; intro z; cases z) with z | ⟨z, zl⟩
        · exact absurd h1 z
        · exact absurd z (f6 zl rfl)
  obtain ⟨F3, ok3, ex3, d3, n3⟩ := tm_ice ok2 f5'
  have ha : ∀ {F4 : Hp} {v : V} {t : Tm} {Fx : Hp}, (TmOk B Fx H1 σ Δ1 v t) → Fx a = none → (∀ q, F4 q ≠ none → Fx q ≠ none ∨ (v = .ref q ∧ t.isL = true)) → F4 a = none := fun {F4 v t Fx} ht hn hq => by
    cases q2 : F4 a with
    | none => rfl
    | some o =>
      rcases hq a (by rw [q2]; intro z; cases z) with z | ⟨z, zl⟩
      · exact absurd hn z
      · cases t with
        | d x => cases zl
        | l xs =>
          obtain ⟨b, vs, e2, _, _, h3, _⟩ := ht
          rw [z] at e2
          cases e2
          rw [f3] at h3
          cases h3
  have fa2 := ha f4 f1 n2
  have fa3 := ha f5' fa2 n3
  exact q _ _ _ (ok3.ice fa3 f2 f3 f7) (((ex1.trans ex2).trans ex3).trans (.new fa3)) (.tuple upd_same (.cons ((d2.mono ex3).mono (.new fa3)) (.cons (d3.mono (.new fa3)) .nil)))⟩⟩
/-- a list of this def's own is changed no more -/
theorem ds_ice (i : Nat) (hi : Δ[i]? = some (.own xs)) (h : DS X W (Δ.set i (.d (.list xs))) rest o) : DS X W Δ rest o := pss_imp h fun D σ H ⟨B, F, ok, q⟩ => by
  obtain ⟨a, vs, h1, h2, h3, ok2, h5⟩ := ok.iceSlot hi
  exact ⟨B, _, ok2, q.step (.new h3) (.refl (rk_set hi rfl))⟩
theorem go_ice {ι : Type} {XS : ι → Cx} {WS : ι → WX} (i : Nat) (hi : Δ[i]? = some (.own xs)) (h : Go XS WS (Δ.set i (.d (.list xs))) rest P) : Go XS WS Δ rest P := let ⟨o, a, b⟩ := h; ⟨o, a, fun q => ds_ice i hi (b q)⟩
end
/-! ### what is told, held apart -/
/-- a part of it: a datum of F's, or a list that is held apart -/
def TmB (B F : Hp) (v : V) : Tm → Prop
  | .d x => Dq F v x
  | .l xs => ∃ b vs, v = .ref b ∧ B b = some (.lst vs) ∧ DqA F vs xs
structure Tk (B0 B F : Hp) (a : Addr) (v1 v2 : V) (t1 t2 : Tm) : Prop where
  ex : Ex B0 B
  tu : B a = some (.tup [v1, v2])
  p1 : TmB B F v1 t1
  p2 : TmB B F v2 t2
  ne : t1.isL = true → t2.isL = true → v1 ≠ v2
  n1 : ∀ b, t1.isL = true → v1 = .ref b → B0 b = none
  n2 : ∀ b, t2.isL = true → v2 = .ref b → B0 b = none
def tZ (K : Frag) (W : WX) (a : Addr) (v1 v2 : V) (t1 t2 : Tm) (Δ : En) (o : Out) : TS := fun D σ H => ∃ B0 B F, Tk B0 B F a v1 v2 t1 t2 ∧ Ok K B F H σ Δ ∧ Post K W B0 F σ Δ D o
def DZ (X : Cx) (W : WX) (a : Addr) (v1 v2 : V) (t1 t2 : Tm) (Δ : En) (sts : List Stmt) (o : Out) : Prop := PSs X sts (tZ X.K W a v1 v2 t1 t2 Δ o)
theorem TmB.mono {B F F' : Hp} {v : V} {t : Tm} (h : TmB B F v t) (ex : Ex F F') : TmB B F' v t := by
  cases t with
  | d x => exact Dq.mono ex h
  | l xs =>
    obtain ⟨b, vs, e, h1, h2⟩ := h
    exact ⟨b, vs, e, h1, h2.mono ex⟩
theorem Tk.mono {B0 B F F' : Hp} {a : Addr} {v1 v2 : V} {t1 t2 : Tm} (h : Tk B0 B F a v1 v2 t1 t2) (ex : Ex F F') : Tk B0 B F' a v1 v2 t1 t2 := ⟨h.ex, h.tu, h.p1.mono ex, h.p2.mono ex, h.ne, h.n1, h.n2⟩
section
variable {X : Cx} {W : WX} {Δ Δ1 Δ2 : En} {a : Addr} {v1 v2 : V} {t1 t2 : Tm} {e c : Expr} {i : Nat} {n : Str} {pos p apos cpos spos p2 : Pos} {rest body : List Stmt} {o : Out} {s : Sl} {x : PyData}
/-- all that may change is held apart -/
theorem tm_apart {K : Frag} {B F H : Hp} {σ : St} {v : V} {t : Tm} (ok : Ok K B F H σ Δ) (h : TmOk B F H σ Δ v t) : ∃ B', Ok K B' F H σ Δ ∧ Ex B B' ∧ TmB B' F v t ∧ (∀ b, t.isL = true → v = .ref b → B b = none) ∧ ∀ q, B' q ≠ none → B q ≠ none ∨ (v = .ref q ∧ t.isL = true) := by
  cases t with
  | d x => exact ⟨B, ok, .refl _, h, (fun b z => nomatch z), fun q z => .inl z⟩
  | l xs =>
    obtain ⟨b, vs, rfl, h1, h2, h3, h4, h5⟩ := h
    refine ⟨upd B b (.lst vs), ok.addB h1 h3 h5, .new h2, ⟨b, vs, rfl, upd_same, h4⟩, fun b' _ e => (by cases e; exact h2), fun q z => ?_⟩
    by_cases hq : q = b
    · exact .inr ⟨by rw [hq], rfl⟩
    · rw [upd_ne hq] at z; exact .inl z
theorem tmB_ex {B B' F : Hp} {v : V} {t : Tm} (h : TmB B F v t) (ex : Ex B B') : TmB B' F v t := by
  cases t with
  | d x => exact h
  | l xs =>
    obtain ⟨b, vs, e, h1, h2⟩ := h
    exact ⟨b, vs, e, ex _ _ h1, h2⟩
/-- x = f(..), a tuple made there: it is held apart -/
theorem ds_told (i : Nat) (hN : X.N.Nodup) (h : DEx X Δ e (.nt t1 t2) Δ1) (hr : ∀ a v1 v2, DZ X W a v1 v2 t1 t2 (Δ1.set i (.v (.ref a))) rest o) (hΔ : Δ1[i]? = some s := by rfl) (hs : s.isRef = false := by rfl) (hi : X.N[i]? = some n := by rfl) (hx : Loc X.env.scope n := by first | exact Or.inl rfl | exact Or.inr rfl)
    (hsw : swapsWith e (some (.Name n p)) pos.line X.env = pure false := by rfl) (hf : X.fn n = true ∨ X.env.scope.names.lookup n = some .local := by first | exact .inl rfl | exact .inr rfl | assumption) : DS X W Δ (.Assign [.Name n p] e pos :: rest) o := by
  have all : PSs X rest (fun D σ H => ∃ a v1 v2, tZ X.K W a v1 v2 t1 t2 (Δ1.set i (.v (.ref a))) o D σ H) := ⟨fun pins s σ H D I ⟨a, v1, v2, w⟩ => (hr a v1 v2).run pins s σ H D I w⟩
  refine pss_imp (pss_cons (ps_set hN hi hx h.pe hsw hf) all) fun D σ H ⟨B, F, ok, q⟩ => ⟨B, F, ok, fun v F1 H1 ok1 ex1 ⟨a, w1, w2, ev, f1, f2, f3, f4, f5, f6, f7⟩ => ?_⟩
  subst ev
  obtain ⟨B2, ok2, ex2, d2, m2, n2⟩ := tm_apart ok1 f4
  have f5' : TmOk B2 F1 H1 σ Δ1 w2 t2 := by
    cases t2 with
    | d x => exact f5
    | l xs =>
      obtain ⟨b, vs, rfl, h1, h2, h3, h4, h5⟩ := f5
      refine ⟨b, vs, rfl, h1, ?_, h3, h4, h5⟩
      cases q2 : B2 b with
      | none => rfl
      | some o =>
        rcases n2 b (by rw [q2]; intro z; cases z) with z | ⟨z, zl⟩
        · exact absurd h2 z
        · exact absurd z (f6 zl rfl)
  obtain ⟨B3, ok3, ex3, d3, m3, n3⟩ := tm_apart ok2 f5'
  have ok4 := ok3.addB f1 f3 f7
  have fa : B3 a = none := by
    cases q2 : B3 a with
    | none => rfl
    | some o =>
      have h1 := ok3.bh a o q2
      rw [f3] at h1
      cases h1
      rcases n3 a (by rw [q2]; intro z; cases z) with z | ⟨z, zl⟩
      · rcases n2 a z with z | ⟨z, zl⟩
        · exact absurd f2 z
        · cases t1 with
          | d x => cases zl
          | l xs =>
            obtain ⟨b, vs, e2, _, _, h3, _⟩ := f4
            rw [z] at e2; cases e2
            rw [f3] at h3; cases h3
      · cases t2 with
        | d x => cases zl
        | l xs =>
          obtain ⟨b, vs, e2, _, _, h3, _⟩ := f5
          rw [z] at e2; cases e2
          rw [f3] at h3; cases h3
  have ex4 : Ex B3 (upd B3 a (.tup [w1, w2])) := .new fa
  refine ⟨a, w1, w2, B, _, F1, ⟨(ex2.trans ex3).trans ex4, upd_same, tmB_ex d2 (ex3.trans ex4), tmB_ex d3 ex4, f6, m2, fun b hl e => ?_⟩, ok4.put (s := .v (.ref a)) rfl (fun z => nomatch z), q.step ex1 ((Kp.refl h.rk).trans (kp_set hΔ hs))⟩
  have := m3 b hl e
  cases q2 : B b with
  | none => rfl
  | some o => rw [ex2 b o q2] at this; cases this
theorem sl_nomut {K : Frag} {B B' F F' H H' : Hp} {u : Option V} (h : SlOk K B F H u s) (hm : s.mut = false) (ex : Ex F F') : SlOk K B' F' H' u s := by
  cases s with
  | no => trivial
  | d x =>
    obtain ⟨v, rfl, r⟩ := (show ∃ v, u = some v ∧ Dq F v x from h)
    exact ⟨v, rfl, r.mono ex⟩
  | own xs => cases hm
  | ref xs => cases hm
  | sc ns =>
    obtain ⟨a, rfl, r⟩ := (show ∃ a, u = some (.ref a) ∧ SqL K F a (ns.map V.int) from h)
    refine ⟨a, rfl, ?_⟩
    rcases r with (r | ⟨u, r⟩) | r
    · exact .inl (.inl (ex _ _ r))
    · exact .inl (.inr ⟨u, ex _ _ r⟩)
    · exact .inr r
  | v w => exact h
/-- a test of it, that fails -/
theorem dz_if {k : Bool} (i : Nat) (hc : DTx X (Δ.set i (.d (.tuple [t1.dt, t2.dt]))) c k (Δ.set i (.d (.tuple [t1.dt, t2.dt])))) (hk : k = false) (hi : Δ[i]? = some (.v (.ref a))) (hm : Δ.all (fun s => !s.mut) = true) (hr : DZ X W a v1 v2 t1 t2 Δ rest o) : DZ X W a v1 v2 t1 t2 Δ (.If c body [] pos :: rest) o := by
  subst hk
  refine pss_imp (pss_cons (ps_if hc.pt pss_never pss_nil) hr) fun D σ H ⟨B0, B, F, tk, ok, q⟩ => ?_
  -- the part that is frozen for the test
  obtain ⟨T, hT⟩ : ∃ T : Addr → Prop, ∀ q, T q ↔ (q = a ∨ (t1.isL = true ∧ v1 = .ref q) ∨ (t2.isL = true ∧ v2 = .ref q)) := ⟨_, fun q => Iff.rfl⟩
  have bT : ∀ q, T q → B q ≠ none := fun q h => by
    rcases (hT q).mp h with rfl | ⟨h1, h2⟩ | ⟨h1, h2⟩
    · rw [tk.tu]; intro z; cases z
    · cases t1 with
      | d x => cases h1
      | l xs =>
        obtain ⟨b, vs, e, g1, g2⟩ := tk.p1
        rw [h2] at e; cases e
        rw [g1]; intro z; cases z
    · cases t2 with
      | d x => cases h1
      | l xs =>
        obtain ⟨b, vs, e, g1, g2⟩ := tk.p2
        rw [h2] at e; cases e
        rw [g1]; intro z; cases z
  have fT : ∀ q, T q → F q = none := fun q h => ok.bf q (bT q h)
  obtain ⟨B1, hB1, hB2⟩ : ∃ B1 : Hp, (∀ q, T q → B1 q = none) ∧ ∀ q, ¬ T q → B1 q = B q := by
    classical
    exact ⟨fun q => if T q then none else B q, fun q h => if_pos h, fun q h => if_neg h⟩
  obtain ⟨F1, hF1, hF2⟩ : ∃ F1 : Hp, (∀ q, T q → F1 q = B q) ∧ ∀ q, ¬ T q → F1 q = F q := by
    classical
    exact ⟨fun q => if T q then B q else F q, fun q h => if_pos h, fun q h => if_neg h⟩
  have nomut : ∀ (k : Nat) (s : Sl), Δ[k]? = some s → s.mut = false := fun k s e => by
    have := List.all_eq_true.mp hm s (List.mem_of_getElem? e)
    cases h : s.mut with
    | false => rfl
    | true => rw [h] at this; cases this
  have exF : Ex F F1 := fun q o e => by
    by_cases h : T q
    · rw [fT q h] at e; cases e
    · rw [hF2 q h]; exact e
  have part : ∀ {v : V} {t : Tm}, TmB B F v t → (∀ q, t.isL = true → v = .ref q → T q) → Dq F1 v t.dt := fun {v t} h hq => by
    cases t with
    | d x => exact Dq.mono exF h
    | l xs =>
      obtain ⟨b, vs, rfl, h1, h2⟩ := h
      exact .list (by rw [hF1 b (hq b rfl rfl)]; exact h1) (h2.mono exF)
  obtain ⟨o1, ho1, ho2⟩ := ok.sl i _ hi
  have ho2 : o1 = some (.ref a) := ho2
  subst ho2
  have ok1 : Ok X.K B1 F1 H σ (Δ.set i (.d (.tuple [t1.dt, t2.dt]))) := by
    refine ⟨fun q o e => ?_, fun q o e => ?_, fun q hb => ?_, by simp [ok.len], fun j s ej => ?_, fun j k s t b e1 e2 m1 m2 r1 r2 => ?_⟩
    · by_cases h : T q
      · rw [hF1 q h] at e; exact ok.bh q o e
      · rw [hF2 q h] at e; exact ok.fh q o e
    · by_cases h : T q
      · rw [hB1 q h] at e; cases e
      · rw [hB2 q h] at e; exact ok.bh q o e
    · by_cases h : T q
      · exact absurd (hB1 q h) hb
      · rw [hB2 q h] at hb
        rw [hF2 q h]; exact ok.bf q hb
    · by_cases hj : j = i
      · subst hj
        have hl : j < Δ.length := (List.getElem?_eq_some_iff.mp hi).1
        rw [List.getElem?_set_self hl] at ej
        cases ej
        exact ⟨_, ho1, _, rfl, .tuple (by rw [hF1 a ((hT a).mpr (.inl rfl))]; exact tk.tu) (.cons (part tk.p1 fun q h1 h2 => (hT q).mpr (.inr (.inl ⟨h1, h2⟩))) (.cons (part tk.p2 fun q h1 h2 => (hT q).mpr (.inr (.inr ⟨h1, h2⟩))) .nil))⟩
      · rw [List.getElem?_set_ne (Ne.symm hj)] at ej
        obtain ⟨u, g1, g2⟩ := ok.sl j s ej
        exact ⟨u, g1, sl_nomut g2 (nomut j s ej) exF⟩
    · by_cases hj : j = i
      · subst hj
        have hl : j < Δ.length := (List.getElem?_eq_some_iff.mp hi).1
        rw [List.getElem?_set_self hl] at e1
        cases e1
        cases m1
      · rw [List.getElem?_set_ne (Ne.symm hj)] at e1
        rw [nomut j s e1] at m1; cases m1
  refine ⟨B1, F1, ok1, fun F' H' ok' ex => iteF ⟨B0, B, F, tk, ?_, q⟩⟩
  refine ⟨fun q o e => ok'.fh q o (ex q o (exF q o e)), fun q o e => ?_, ok.bf, ok.len, fun j s ej => ?_, ok.nd⟩
  · by_cases h : T q
    · exact ok'.fh q o (ex q o (by rw [hF1 q h]; exact e))
    · exact ok'.bh q o (by rw [hB2 q h]; exact e)
  · obtain ⟨u, g1, g2⟩ := ok.sl j s ej
    exact ⟨u, g1, g2.keep (.refl _) fun m => by rw [nomut j s ej] at m; cases m⟩
/-- told no more -/
theorem dz_out (i : Nat) (hi : Δ[i]? = some (.v (.ref a))) (hr : DS X W (Δ.set i .no) rest o) : DZ X W a v1 v2 t1 t2 Δ rest o := pss_imp hr fun D σ H ⟨B0, B, F, tk, ok, q⟩ => ⟨B0, F, (ok.weakB tk.ex).forget, q.step (.refl _) (.refl (rk_set hi rfl))⟩
/-- a change of a list that is held apart -/
theorem ok_chg {K : Frag} {B F H : Hp} {σ : St} {b : Addr} {vs us : List V} (ok : Ok K B F H σ Δ) (hb : B b = some (.lst vs)) : Ok K (upd B b (.lst us)) F (upd H b (.lst us)) σ Δ := by
  have fb : F b = none := ok.bf b (by rw [hb]; intro z; cases z)
  have nm := ok.notB (p := b) (by rw [hb]; intro z; cases z)
  refine ⟨fun q o e => ?_, fun q o e => ?_, fun q hq => ?_, ok.len, fun j s ej => ?_, ok.nd⟩
  · have : q ≠ b := fun z => by subst z; rw [fb] at e; cases e
    rw [upd_ne this]; exact ok.fh q o e
  · by_cases h : q = b
    · subst h; rw [upd_same] at e ⊢; exact e
    · rw [upd_ne h] at e ⊢; exact ok.bh q o e
  · by_cases h : q = b
    · subst h; exact fb
    · rw [upd_ne h] at hq; exact ok.bf q hq
  · obtain ⟨u, g1, g2⟩ := ok.sl j s ej
    refine ⟨u, g1, ?_⟩
    have key : ∀ {xs : List PyData}, s.mut = true → MutL B F H u xs → MutL (upd B b (.lst us)) F (upd H b (.lst us)) u xs := fun {xs} hm ⟨q, ws, e, h1, h2, h3, h4⟩ => by
      have hq : q ≠ b := fun z => by subst z; rw [hb] at h2; cases h2
      exact ⟨q, ws, e, h1, by rw [upd_ne hq]; exact h2, by rw [upd_ne hq]; exact h3, h4⟩
    cases s with
    | no => trivial
    | d x => exact g2
    | own xs => exact key rfl g2
    | ref xs => exact key rfl g2
    | sc ns => exact g2
    | v w => exact g2
theorem tmB_chg {B F : Hp} {b : Addr} {us vs : List V} {v : V} {t : Tm} (h : TmB B F v t) (hn : t.isL = true → v ≠ .ref b) : TmB (upd B b (.lst us)) F v t := by
  cases t with
  | d x => exact h
  | l xs =>
    obtain ⟨q, ws, e, h1, h2⟩ := h
    exact ⟨q, ws, e, by rw [upd_ne (fun z => hn rfl (by rw [e, z]))]; exact h1, h2⟩
theorem tk_chg1 {B0 B F : Hp} {b : Addr} {vs us : List V} {xs ys : List PyData} (tk : Tk B0 B F a (.ref b) v2 (.l xs) t2) (hb : B b = some (.lst vs)) (hu : DqA F us ys) : Tk B0 (upd B b (.lst us)) F a (.ref b) v2 (.l ys) t2 := by
  have n := tk.n1 b rfl rfl
  have ha : a ≠ b := fun z => by subst z; rw [tk.tu] at hb; cases hb
  refine ⟨fun q o e => ?_, by rw [upd_ne ha]; exact tk.tu, ⟨b, us, rfl, upd_same, hu⟩, tmB_chg (vs := vs) tk.p2 fun h z => tk.ne rfl h z.symm, tk.ne, tk.n1, tk.n2⟩
  have : q ≠ b := fun z => by subst z; rw [n] at e; cases e
  rw [upd_ne this]; exact tk.ex q o e
theorem tk_chg2 {B0 B F : Hp} {b : Addr} {vs us : List V} {xs ys : List PyData} (tk : Tk B0 B F a v1 (.ref b) t1 (.l xs)) (hb : B b = some (.lst vs)) (hu : DqA F us ys) : Tk B0 (upd B b (.lst us)) F a v1 (.ref b) t1 (.l ys) := by
  have n := tk.n2 b rfl rfl
  have ha : a ≠ b := fun z => by subst z; rw [tk.tu] at hb; cases hb
  refine ⟨fun q o e => ?_, by rw [upd_ne ha]; exact tk.tu, tmB_chg (vs := vs) tk.p1 fun h z => tk.ne h rfl z, ⟨b, us, rfl, upd_same, hu⟩, tk.ne, tk.n1, tk.n2⟩
  have : q ≠ b := fun z => by subst z; rw [n] at e; cases e
  rw [upd_ne this]; exact tk.ex q o e
/-- x[0].clear() -/
theorem dz_clear1 {xs : List PyData} {kk : Nat} {p3 : Pos} (i : Nat) (hi : Δ[i]? = some (.v (.ref a))) (hr : DZ X W a v1 v2 (.l []) t2 Δ rest o) (hN : X.N[i]? = some n := by rfl) (hv : Vis X.env.scope n := by first | exact Or.inl rfl | exact Or.inr (Or.inl rfl) | exact Or.inr (Or.inr rfl)) (hd : (n == ("__debug__" : Str)) = false := by decide) (hcd : (n == ("__classdict__" : Str)) = false := by decide)
    (hs : PlainIx (.Constant (.int 0) kk p3) := by exact fun _ _ => rfl) (hbase : attributeBase (.Subscript (.Name n p) (.Constant (.int 0) kk p3) p2) "clear" X.env (eval (.Subscript (.Name n p) (.Constant (.int 0) kk p3) p2) X.env) = eval (.Subscript (.Name n p) (.Constant (.int 0) kk p3) p2) X.env := by rfl) (hline : (apos.endLine == cpos.line) = true := by rfl)
    (hsw : swapsWith (.Call (.Attribute (.Subscript (.Name n p) (.Constant (.int 0) kk p3) p2) "clear" apos) [] [] cpos) none spos.line X.env = pure false := by rfl) :
    DZ X W a v1 v2 (.l xs) t2 Δ (.Expr (.Call (.Attribute (.Subscript (.Name n p) (.Constant (.int 0) kk p3) p2) "clear" apos) [] [] cpos) spos :: rest) o := by
  refine pss_imp (pss_cons (ps_expr (pe_bm0 PySem.F.plainAttrs_list PySem.F.slot_list_clear PySem.F.type_list_clear mt_clear (pe_ix ix_tup (pe_var hN hv hd hcd) pe_int hs) hbase hline) hsw) hr) fun D σ H ⟨B0, B, F, tk, ok, q⟩ => ?_
  obtain ⟨o1, ho1, ho2⟩ := ok.sl i _ hi
  have ho2 : o1 = some (.ref a) := ho2
  subst ho2
  obtain ⟨b, vs, rfl, g1, g2⟩ := tk.p1
  have hH := ok.bh b _ g1
  refine ⟨.ref a, ho1, a, [V.ref b, v2], 0, .ref b, rfl, rfl, SqT.of (ok.bh a _ tk.tu), rfl, Or.inl ⟨rfl, _, Or.inl (Or.inl hH)⟩, b, vs, rfl, rfl, hH, ?_⟩
  exact ⟨B0, _, F, tk_chg1 tk g1 .nil, ok_chg ok g1, q⟩
/-- x[0].append(e) -/
theorem dz_app1 {xs : List PyData} {kk : Nat} {p3 : Pos} (i : Nat) (hi : Δ[i]? = some (.v (.ref a))) (h : DEx X Δ e (.d x) Δ) (hr : DZ X W a v1 v2 (.l (xs ++ [x])) t2 Δ rest o) (hl : xs.length < 1000000) (hm : Δ.all (fun s => !s.mut) = true := by rfl) (hN : X.N[i]? = some n := by rfl) (hv : Vis X.env.scope n := by first | exact Or.inl rfl | exact Or.inr (Or.inl rfl) | exact Or.inr (Or.inr rfl)) (hd : (n == ("__debug__" : Str)) = false := by decide) (hcd : (n == ("__classdict__" : Str)) = false := by decide)
    (hs : PlainIx (.Constant (.int 0) kk p3) := by exact fun _ _ => rfl) (hbase : attributeBase (.Subscript (.Name n p) (.Constant (.int 0) kk p3) p2) "append" X.env (eval (.Subscript (.Name n p) (.Constant (.int 0) kk p3) p2) X.env) = eval (.Subscript (.Name n p) (.Constant (.int 0) kk p3) p2) X.env := by rfl)
    (hfew : ((backTo cpos (starEach [e] X.env)).all (fun x => !x.1) && (backToKw cpos (keywordEach [] X.env)).all (fun x => x.1.isSome)
      && decide ([e].length + ([] : List Keyword).length + (if ([] : List Keyword).isEmpty then 0 else 1) < 30)) = true := by rfl)
    (hline : (apos.endLine == cpos.line) = true := by rfl) (hse : starEach [e] X.env = (false, eval e X.env) :: starEach [] X.env := by rfl) (hplain : (backTo cpos (starEach [] X.env)).any (·.1) = false := by rfl)
    (hsw : swapsWith (.Call (.Attribute (.Subscript (.Name n p) (.Constant (.int 0) kk p3) p2) "append" apos) [e] [] cpos) none spos.line X.env = pure false := by rfl) :
    DZ X W a v1 v2 (.l xs) t2 Δ (.Expr (.Call (.Attribute (.Subscript (.Name n p) (.Constant (.int 0) kk p3) p2) "append" apos) [e] [] cpos) spos :: rest) o := by
  refine pss_imp (pss_cons (ps_expr (pe_bm PySem.F.plainAttrs_list PySem.F.slot_list_append PySem.F.type_list_append mt_append (pe_ix ix_tup (pe_var hN hv hd hcd) pe_int hs) (pa_cons h.pe pa_nil hse) hbase hfew hline hse hplain) hsw) hr) fun D σ H ⟨B0, B, F, tk, ok, q⟩ => ?_
  obtain ⟨o1, ho1, ho2⟩ := ok.sl i _ hi
  have ho2 : o1 = some (.ref a) := ho2
  subst ho2
  obtain ⟨b, vs, rfl, g1, g2⟩ := tk.p1
  have hH := ok.bh b _ g1
  refine ⟨.ref a, ho1, a, [V.ref b, v2], 0, .ref b, rfl, rfl, SqT.of (ok.bh a _ tk.tu), rfl, Or.inl ⟨rfl, _, Or.inl (Or.inl hH)⟩, B, F, ok, fun y F1 H1 ok1 ex1 hy => ?_⟩
  have hH1 := ok1.bh b _ g1
  refine ⟨b, vs, y, rfl, rfl, hH1, by rw [g2.length, sizeLine_eq]; omega, ?_⟩
  exact ⟨B0, _, F1, tk_chg1 (tk.mono ex1) g1 (pr_app (DqA.mono ex1 g2) (.cons hy .nil)), ok_chg ok1 g1, q.step ex1 (.refl .rfl)⟩
/-- x[1].clear() -/
theorem dz_clear2 {xs : List PyData} {kk : Nat} {p3 : Pos} (i : Nat) (hi : Δ[i]? = some (.v (.ref a))) (hr : DZ X W a v1 v2 t1 (.l []) Δ rest o) (hN : X.N[i]? = some n := by rfl) (hv : Vis X.env.scope n := by first | exact Or.inl rfl | exact Or.inr (Or.inl rfl) | exact Or.inr (Or.inr rfl)) (hd : (n == ("__debug__" : Str)) = false := by decide) (hcd : (n == ("__classdict__" : Str)) = false := by decide)
    (hs : PlainIx (.Constant (.int 1) kk p3) := by exact fun _ _ => rfl) (hbase : attributeBase (.Subscript (.Name n p) (.Constant (.int 1) kk p3) p2) "clear" X.env (eval (.Subscript (.Name n p) (.Constant (.int 1) kk p3) p2) X.env) = eval (.Subscript (.Name n p) (.Constant (.int 1) kk p3) p2) X.env := by rfl) (hline : (apos.endLine == cpos.line) = true := by rfl)
    (hsw : swapsWith (.Call (.Attribute (.Subscript (.Name n p) (.Constant (.int 1) kk p3) p2) "clear" apos) [] [] cpos) none spos.line X.env = pure false := by rfl) :
    DZ X W a v1 v2 t1 (.l xs) Δ (.Expr (.Call (.Attribute (.Subscript (.Name n p) (.Constant (.int 1) kk p3) p2) "clear" apos) [] [] cpos) spos :: rest) o := by
  refine pss_imp (pss_cons (ps_expr (pe_bm0 PySem.F.plainAttrs_list PySem.F.slot_list_clear PySem.F.type_list_clear mt_clear (pe_ix ix_tup (pe_var hN hv hd hcd) pe_int hs) hbase hline) hsw) hr) fun D σ H ⟨B0, B, F, tk, ok, q⟩ => ?_
  obtain ⟨o1, ho1, ho2⟩ := ok.sl i _ hi
  have ho2 : o1 = some (.ref a) := ho2
  subst ho2
  obtain ⟨b, vs, rfl, g1, g2⟩ := tk.p2
  have hH := ok.bh b _ g1
  refine ⟨.ref a, ho1, a, [v1, V.ref b], 1, .ref b, rfl, rfl, SqT.of (ok.bh a _ tk.tu), rfl, Or.inl ⟨rfl, _, Or.inl (Or.inl hH)⟩, b, vs, rfl, rfl, hH, ?_⟩
  exact ⟨B0, _, F, tk_chg2 tk g1 .nil, ok_chg ok g1, q⟩
/-- x[1].append(e) -/
theorem dz_app2 {xs : List PyData} {kk : Nat} {p3 : Pos} (i : Nat) (hi : Δ[i]? = some (.v (.ref a))) (h : DEx X Δ e (.d x) Δ) (hr : DZ X W a v1 v2 t1 (.l (xs ++ [x])) Δ rest o) (hl : xs.length < 1000000) (hm : Δ.all (fun s => !s.mut) = true := by rfl) (hN : X.N[i]? = some n := by rfl) (hv : Vis X.env.scope n := by first | exact Or.inl rfl | exact Or.inr (Or.inl rfl) | exact Or.inr (Or.inr rfl)) (hd : (n == ("__debug__" : Str)) = false := by decide) (hcd : (n == ("__classdict__" : Str)) = false := by decide)
    (hs : PlainIx (.Constant (.int 1) kk p3) := by exact fun _ _ => rfl) (hbase : attributeBase (.Subscript (.Name n p) (.Constant (.int 1) kk p3) p2) "append" X.env (eval (.Subscript (.Name n p) (.Constant (.int 1) kk p3) p2) X.env) = eval (.Subscript (.Name n p) (.Constant (.int 1) kk p3) p2) X.env := by rfl)
    (hfew : ((backTo cpos (starEach [e] X.env)).all (fun x => !x.1) && (backToKw cpos (keywordEach [] X.env)).all (fun x => x.1.isSome)
      && decide ([e].length + ([] : List Keyword).length + (if ([] : List Keyword).isEmpty then 0 else 1) < 30)) = true := by rfl)
    (hline : (apos.endLine == cpos.line) = true := by rfl) (hse : starEach [e] X.env = (false, eval e X.env) :: starEach [] X.env := by rfl) (hplain : (backTo cpos (starEach [] X.env)).any (·.1) = false := by rfl)
    (hsw : swapsWith (.Call (.Attribute (.Subscript (.Name n p) (.Constant (.int 1) kk p3) p2) "append" apos) [e] [] cpos) none spos.line X.env = pure false := by rfl) :
    DZ X W a v1 v2 t1 (.l xs) Δ (.Expr (.Call (.Attribute (.Subscript (.Name n p) (.Constant (.int 1) kk p3) p2) "append" apos) [e] [] cpos) spos :: rest) o := by
  refine pss_imp (pss_cons (ps_expr (pe_bm PySem.F.plainAttrs_list PySem.F.slot_list_append PySem.F.type_list_append mt_append (pe_ix ix_tup (pe_var hN hv hd hcd) pe_int hs) (pa_cons h.pe pa_nil hse) hbase hfew hline hse hplain) hsw) hr) fun D σ H ⟨B0, B, F, tk, ok, q⟩ => ?_
  obtain ⟨o1, ho1, ho2⟩ := ok.sl i _ hi
  have ho2 : o1 = some (.ref a) := ho2
  subst ho2
  obtain ⟨b, vs, rfl, g1, g2⟩ := tk.p2
  have hH := ok.bh b _ g1
  refine ⟨.ref a, ho1, a, [v1, V.ref b], 1, .ref b, rfl, rfl, SqT.of (ok.bh a _ tk.tu), rfl, Or.inl ⟨rfl, _, Or.inl (Or.inl hH)⟩, B, F, ok, fun y F1 H1 ok1 ex1 hy => ?_⟩
  have hH1 := ok1.bh b _ g1
  refine ⟨b, vs, y, rfl, rfl, hH1, by rw [g2.length, sizeLine_eq]; omega, ?_⟩
  exact ⟨B0, _, F1, tk_chg2 (tk.mono ex1) g1 (pr_app (DqA.mono ex1 g2) (.cons hy .nil)), ok_chg ok1 g1, q.step ex1 (.refl .rfl)⟩
/-! for all contexts the same -/
section
variable {ι : Type} {XS : ι → Cx} {WS : ι → WX} {P : Out → Prop} {st : Stmt} {t1' t2' : Tm}
def GoZ (XS : ι → Cx) (WS : ι → WX) (t1 t2 : Tm) (i : Nat) (Δ : En) (sts : List Stmt) (P : Out → Prop) : Prop := ∃ o, P o ∧ ∀ q a v1 v2, DZ (XS q) (WS q) a v1 v2 t1 t2 (Δ.set i (.v (.ref a))) sts o
theorem go_told (i : Nat) (h : ∀ q rest o, (∀ a v1 v2, DZ (XS q) (WS q) a v1 v2 t1 t2 (Δ1.set i (.v (.ref a))) rest o) → DS (XS q) (WS q) Δ (st :: rest) o) (hr : GoZ XS WS t1 t2 i Δ1 rest P) : Go XS WS Δ (st :: rest) P := let ⟨o, hp, k⟩ := hr; ⟨o, hp, fun q => h q rest o (k q)⟩
theorem gz_if {k : Bool} (i : Nat) {Δd : En} (hc : ∀ q, DTx (XS q) Δd c k Δd) (hk : k = false) (hd : Δ.set i (.d (.tuple [t1.dt, t2.dt])) = Δd := by rfl) (hl0 : decide (i < Δ.length) = true := by rfl) (hm : (Δ.set i .no).all (fun s => !s.mut) = true := by rfl) (hr : GoZ XS WS t1 t2 i Δ rest P) : GoZ XS WS t1 t2 i Δ (.If c body [] pos :: rest) P := by
  obtain ⟨o, hp, h⟩ := hr
  have hl := of_decide_eq_true hl0
  subst hd
  refine ⟨o, hp, fun q a v1 v2 => dz_if i (by rw [List.set_set]; exact hc q) hk (List.getElem?_set_self hl) ?_ (h q a v1 v2)⟩
  rw [List.all_eq_true] at hm ⊢
  intro s hs
  rcases List.mem_or_eq_of_mem_set hs with z | z
  · obtain ⟨j, hj⟩ := List.mem_iff_getElem?.mp hs
    by_cases e : j = i
    · subst e
      rw [List.getElem?_set_self hl] at hj
      cases hj
      rfl
    · rw [List.getElem?_set_ne (Ne.symm e)] at hj
      exact hm s (List.mem_iff_getElem?.mpr ⟨j, by rw [List.getElem?_set_ne (Ne.symm e)]; exact hj⟩)
  · subst z
    rfl
theorem gz_step (i : Nat) (h : ∀ q a v1 v2 rest o, DZ (XS q) (WS q) a v1 v2 t1' t2' (Δ.set i (.v (.ref a))) rest o → DZ (XS q) (WS q) a v1 v2 t1 t2 (Δ.set i (.v (.ref a))) (st :: rest) o) (hr : GoZ XS WS t1' t2' i Δ rest P) : GoZ XS WS t1 t2 i Δ (st :: rest) P := let ⟨o, hp, k⟩ := hr; ⟨o, hp, fun q a v1 v2 => h q a v1 v2 rest o (k q a v1 v2)⟩
theorem gz_out (i : Nat) (hr : Go XS WS (Δ.set i .no) rest P) (hl0 : decide (i < Δ.length) = true := by rfl) : GoZ XS WS t1 t2 i Δ rest P := let ⟨o, hp, k⟩ := hr; ⟨o, hp, fun q a v1 v2 => dz_out i (List.getElem?_set_self (of_decide_eq_true hl0)) (by rw [List.set_set]; exact k q)⟩
end
end
end Tr
namespace Tr
open PySem L2
/-! ### data that may be compared -/
def Sh (n : Nat) (x : PyData) : Prop := x.canLay0 = true ∧ x.depth ≤ n
theorem Sh.shp {n : Nat} {x : PyData} (h : Sh n x) (hn : n ≤ 64) : shp x := by
  show (x.canLay0 && decide (x.depth ≤ 64)) = true
  rw [Bool.and_eq_true]
  exact ⟨h.1, decide_eq_true (Nat.le_trans h.2 hn)⟩
theorem Sh.mono {n m : Nat} {x : PyData} (h : Sh n x) (hn : n ≤ m) : Sh m x := ⟨h.1, Nat.le_trans h.2 hn⟩
theorem Sh.int (i : Int) {n : Nat} : Sh n (.int i) := ⟨by simp [PyData.canLay0], by rw [depth_int]; omega⟩
theorem Sh.str {s : Str} {n : Nat} (h : PyData.strOk s = true) : Sh n (.str s) := ⟨by simp [PyData.canLay0, h], by rw [depth_str]; omega⟩
theorem lays_of : ∀ {xs : List PyData}, (∀ x ∈ xs, x.canLay0 = true) → PyData.canLayAll0 xs = true
  | [], _ => by simp [PyData.canLayAll0]
  | x :: xs, h => by
    have h1 := h x (by simp)
    have h2 := lays_of fun y hy => h y (List.mem_cons_of_mem _ hy)
    simp [PyData.canLayAll0, h1, h2]
theorem Sh.list {n : Nat} {xs : List PyData} (h : ∀ x ∈ xs, Sh n x) : Sh (n + 1) (.list xs) := ⟨by rw [PyData.canLay0]; exact lays_of fun x hx => (h x hx).1, depth_lst fun x hx => (h x hx).2⟩
theorem Sh.tup {n : Nat} {xs : List PyData} (h : ∀ x ∈ xs, Sh n x) : Sh (n + 1) (.tuple xs) := ⟨by rw [PyData.canLay0]; exact lays_of fun x hx => (h x hx).1, depth_tup fun x hx => (h x hx).2⟩
theorem Sh.tup1 {n : Nat} {x : PyData} (h : Sh n x) : Sh (n + 1) (.tuple [x]) := .tup fun z hz => by
  simp only [List.mem_cons, List.not_mem_nil, or_false] at hz
  rw [hz]; exact h
theorem Sh.tup2 {n : Nat} {x y : PyData} (h : Sh n x) (k : Sh n y) : Sh (n + 1) (.tuple [x, y]) := .tup fun z hz => by
  simp only [List.mem_cons, List.not_mem_nil, or_false] at hz
  rcases hz with rfl | rfl
  · exact h
  · exact k
theorem Sh.tup3 {n : Nat} {x y u : PyData} (h : Sh n x) (k : Sh n y) (l : Sh n u) : Sh (n + 1) (.tuple [x, y, u]) := .tup fun z hz => by
  simp only [List.mem_cons, List.not_mem_nil, or_false] at hz
  rcases hz with rfl | rfl | rfl
  · exact h
  · exact k
  · exact l
/-! ### rows -/
abbrev Rw := Str × Option Int
def encR (r : Rw) : PyData := match r.2 with
  | none => .tuple [.str r.1]
  | some n => .tuple [.str r.1, .int n]
def wordL : List Str := ["num", "arg", "add", "sub", "less", "sure", "keep", "drop", "unless", "skip", "call", "jump", "back"]
def numW : List Str := ["num", "arg", "unless", "skip", "call", "jump"]
def wfR (r : Rw) : Prop := r.1 ∈ wordL ∧ r.2.isSome = decide (r.1 ∈ numW)
theorem word_ok : ∀ w ∈ wordL, PyData.strOk w = true := by decide +kernel
theorem encR_cons (r : Rw) : ∃ fs, encR r = .tuple (.str r.1 :: fs) := by
  obtain ⟨w, n⟩ := r
  cases n with
  | none => exact ⟨_, rfl⟩
  | some n => exact ⟨_, rfl⟩
theorem sh_row {r : Rw} (h : wfR r) : Sh 1 (encR r) := by
  obtain ⟨w, n⟩ := r
  have hw := word_ok w h.1
  cases n with
  | none => exact .tup1 (.str hw)
  | some n => exact .tup2 (.str hw) (.int n)
theorem sh_rows {rs : List Rw} (h : ∀ r ∈ rs, wfR r) : Sh 2 (.list (rs.map encR)) := .list fun x hx => by
  obtain ⟨r, hr, rfl⟩ := List.mem_map.mp hx
  exact sh_row (h r hr)
/-! starts -/
abbrev Sp2 := Int × Int
def encS (s : Sp2) : PyData := .tuple [.int s.1, .int s.2]
theorem sh_starts (ss : List Sp2) : Sh 2 (.list (ss.map encS)) := .list fun x hx => by
  obtain ⟨r, hr, rfl⟩ := List.mem_map.mp hx
  exact .tup2 (.int _) (.int _)
/-! turned -/
def isLast (rs : List Rw) (k : Nat) : Bool := match rs[k]? with
  | some r => r.1 == "call" && (match rs[k + 1]? with
    | some s => s.1 == "back"
    | none => false)
  | none => false
def turnL (rs : List Rw) : List Rw := rs.mapIdx fun k r => if isLast rs k then (("jump" : Str), r.2) else r
theorem turnL_len (rs : List Rw) : (turnL rs).length = rs.length := by simp [turnL]
theorem turnL_get {rs : List Rw} {k : Nat} {r : Rw} (h : rs[k]? = some r) : (turnL rs)[k]? = some (if isLast rs k then (("jump" : Str), r.2) else r) := by
  rw [turnL, List.getElem?_mapIdx, h]; rfl
theorem call_some {r : Rw} (h : wfR r) (hc : r.1 = "call") : ∃ n, r = (("call" : Str), some n) := by
  obtain ⟨w, n⟩ := r
  have hc : w = "call" := hc
  subst hc
  cases n with
  | none => exact absurd h.2 (show ¬ (false = decide (("call" : Str) ∈ numW)) by decide)
  | some n => exact ⟨n, rfl⟩
theorem back_none {r : Rw} (h : wfR r) (hc : r.1 = "back") : r = (("back" : Str), none) := by
  obtain ⟨w, n⟩ := r
  have hc : w = "back" := hc
  subst hc
  cases n with
  | some n => exact absurd h.2 (show ¬ (true = decide (("back" : Str) ∈ numW)) by decide)
  | none => rfl
theorem wf_turn {rs : List Rw} (h : ∀ r ∈ rs, wfR r) : ∀ r ∈ turnL rs, wfR r := fun r hr => by
  obtain ⟨k, hk⟩ := List.mem_iff_getElem?.mp hr
  have hl : k < rs.length := by
    have := (List.getElem?_eq_some_iff.mp hk).1
    rw [turnL_len] at this
    exact this
  have e := List.getElem?_eq_getElem hl
  rw [turnL_get e] at hk
  cases hk
  split
  · rename_i hlst
    have h1 : rs[k].1 = "call" := by
      unfold isLast at hlst
      rw [e] at hlst
      have := (Bool.and_eq_true_iff.mp hlst).1
      exact beq_iff_eq.mp this
    obtain ⟨n, hn⟩ := call_some (h _ (List.getElem_mem hl)) h1
    rw [hn]
    exact ⟨show ("jump" : Str) ∈ wordL by decide, show true = decide (("jump" : Str) ∈ numW) by decide⟩
  · exact h _ (List.getElem_mem hl)
theorem take_sum {α : Type} (f : α → Int) {l : List α} {i : Nat} {x : α} (h : l[i]? = some x) : ((l.take (i + 1)).map f).sum = ((l.take i).map f).sum + f x := by
  rw [List.take_add_one, h]
  simp [List.sum_append]
theorem map_get {α β : Type} {f : α → β} {l : List α} {n : Nat} {d : β} (h : (l.map f)[n]? = some d) : ∃ x, l[n]? = some x ∧ d = f x ∧ x ∈ l := by
  rw [List.getElem?_map] at h
  cases e : l[n]? with
  | none => rw [e] at h; cases h
  | some x =>
    rw [e] at h
    cases h
    exact ⟨x, rfl, rfl, List.mem_of_getElem? e⟩
theorem ixN_lt {n j : Nat} (hj : j < n) : ixN n (j : Int) = some j := by
  unfold ixN
  rw [if_pos (by omega), if_pos (by omega)]
  simp
theorem take_step {α : Type} {l : List α} {n : Nat} {x : α} (h : l[n]? = some x) : l.take n ++ [x] = l.take (n + 1) := by
  rw [List.take_add_one, h]
  rfl
end Tr
namespace Tr
open PySem L2
/-! ### a call that takes lists of ours for good -/
def ownSl (Δ : En) : R → Sl
  | .d x => .d x
  | .nl _ => .no
  | .nt _ _ => .no
  | .sl i => (Δ[i]?).getD .no
/-- no slot is given twice -/
def Once (rs : List R) : Prop := ∀ (q q' i : Nat), rs[q]? = some (R.sl i) → rs[q']? = some (R.sl i) → q = q'
def slOf : Option R → Option Nat
  | some (.sl i) => some i
  | _ => none
theorem onceI {rs : List R} (h : ((List.range rs.length).all fun q => (List.range rs.length).all fun q' => match slOf rs[q]?, slOf rs[q']? with
    | some i, some j => i != j || q == q'
    | _, _ => true) = true) : Once rs := fun q q' i e1 e2 => by
  have hq : q < rs.length := (List.getElem?_eq_some_iff.mp e1).1
  have hq' : q' < rs.length := (List.getElem?_eq_some_iff.mp e2).1
  have h1 := List.all_eq_true.mp h q (List.mem_range.mpr hq)
  have h2 := List.all_eq_true.mp h1 q' (List.mem_range.mpr hq')
  rw [e1, e2] at h2
  simpa [slOf] using h2
def Sl.forget (s : Sl) : Sl := if s.mut then .no else s
section
variable {X : Cx} {W : WX} {Δ Δ1 Δ2 Δp : En} {a b c e : Expr} {es : List Expr} {r r2 : R} {rs : List R} {pos p : Pos} {x y : PyData} {xs ys : List PyData} {i j : Nat} {k : Nat} {S : Spec}
theorem ok_callA {K : Frag} {B F H : Hp} {σ : St} {vs : List V} (ok : Ok K B F H σ Δ) (hv : Paired (Res B F H σ Δ) vs rs) (hd : Once rs) : Ok K B F H (vs.map some) (rs.map (ownSl Δ)) := by
  refine ⟨ok.fh, ok.bh, ok.bf, by rw [List.length_map, List.length_map, hv.length], fun q s e => ?_, fun q q' s t ad e1 e2 m1 m2 r1 r2 => ?_⟩
  · rw [List.getElem?_map] at e
    cases hq : rs[q]? with
    | none => rw [hq] at e; cases e
    | some r =>
      rw [hq] at e
      cases e
      obtain ⟨v, hv1, hv2⟩ := pr_get hv hq
      refine ⟨some v, by rw [List.getElem?_map, hv1]; rfl, ?_⟩
      cases r with
      | d x => exact ⟨v, rfl, hv2⟩
      | nl xs => trivial
      | nt i j => trivial
      | sl i =>
        have hs : σ[i]? = some (some v) := hv2
        show SlOk K B F H (some v) ((Δ[i]?).getD .no)
        cases es : Δ[i]? with
        | none => trivial
        | some s =>
          obtain ⟨o, h1, h2⟩ := ok.sl i s es
          rw [hs] at h1
          cases h1
          exact h2
  · have key : ∀ {q : Nat} {s : Sl}, (rs.map (ownSl Δ))[q]? = some s → s.mut = true → (vs.map some)[q]? = some (some (.ref ad)) → ∃ i, rs[q]? = some (.sl i) ∧ Δ[i]? = some s ∧ σ[i]? = some (some (.ref ad)) := fun {q s} e m rr => by
      rw [List.getElem?_map] at e
      cases hq : rs[q]? with
      | none => rw [hq] at e; cases e
      | some r =>
        rw [hq] at e
        cases e
        obtain ⟨v, hv1, hv2⟩ := pr_get hv hq
        rw [List.getElem?_map, hv1] at rr
        cases rr
        cases r with
        | d x => cases m
        | nl xs => cases m
        | nt i j => cases m
        | sl i =>
          refine ⟨i, rfl, ?_, hv2⟩
          cases es : Δ[i]? with
          | none =>
            have m : ((Δ[i]?).getD .no).mut = true := m
            rw [es] at m; cases m
          | some s =>
            show some s = some ((Δ[i]?).getD .no)
            rw [es]; rfl
    obtain ⟨i, a1, a2, a3⟩ := key e1 m1 r1
    obtain ⟨j, b1, b2, b3⟩ := key e2 m2 r2
    have ij := ok.nd i j s t ad a2 b2 m1 m2 a3 b3
    subst ij
    exact hd q q' i a1 b1
theorem de_callA {x' : Str} (h : Fn X.prog X.w X.K X.mg X.base k x' S) (hr : Room k X.A) (ha : DAx X Δ (e :: es) rs Δ1) (hs : S (rs.map (ownSl Δ1)) (.rt Δp (.d y))) (hd : Once rs) (hnr : Δ1.all (fun s => !s.isRef) = true) (hg : Gl X x' := by rfl)
    (hdb : (x' == ("__debug__" : Str)) = false := by decide) (he : starEach (e :: es) X.env = (false, eval e X.env) :: starEach es X.env := by rfl) (hpl : (backTo pos (starEach es X.env)).any (·.1) = false := by rfl) :
    DEx X Δ (.Call (.Name x' p) (e :: es) [] pos) (.d y) (Δ1.map Sl.forget) := by
  obtain ⟨f, fd, ps, h1, h2, h3, h4⟩ := h
  have noref : ∀ (i : Nat) (xs : List PyData), Δ1[i]? ≠ some (.ref xs) := fun i xs z => by
    have := List.all_eq_true.mp hnr _ (List.mem_of_getElem? z)
    cases this
  refine ⟨ha.rk.trans fun i xs z => absurd z (noref i xs), pe_imp (pe_call h4 hr hg h1 h2 h3 .nil passL ha.pa hdb he hpl) fun σ H Q ⟨B, F, ok, q⟩ => ⟨B, F, ok, fun vs F1 H1 ok1 ex1 hv => ?_⟩⟩
  show spOf X.K S (vs ++ []) H1 Q E0
  rw [List.append_nil]
  refine ⟨_, _, B, F1, hs, ok_callA ok1 hv hd, fun v F2 H2 ok2 ex2 hres => ?_⟩
  refine q v F2 H2 ?_ (ex1.trans ex2) hres
  have get : ∀ {j : Nat} {s : Sl}, (Δ1.map Sl.forget)[j]? = some s → ∃ t, Δ1[j]? = some t ∧ s = t.forget := fun {j s} z => by
    rw [List.getElem?_map] at z
    cases es : Δ1[j]? with
    | none => rw [es] at z; cases z
    | some t => rw [es] at z; cases z; exact ⟨t, rfl, rfl⟩
  have nm : ∀ t : Sl, t.forget.mut = false := fun t => by
    unfold Sl.forget
    cases h : t.mut with
    | true => rfl
    | false => simp [h]
  refine ⟨ok2.fh, ok2.bh, ok2.bf, by rw [List.length_map]; exact ok1.len, fun j s z => ?_, fun j j' s t ad e1 e2 m1 _ _ _ => ?_⟩
  · obtain ⟨t, h5, rfl⟩ := get z
    obtain ⟨u, g1, g2⟩ := ok1.sl j t h5
    refine ⟨u, g1, ?_⟩
    unfold Sl.forget
    cases h : t.mut with
    | true => trivial
    | false => exact g2.keep ex2 fun m => by rw [h] at m; cases m
  · obtain ⟨t, h5, rfl⟩ := get e1
    rw [nm] at m1; cases m1
theorem dt_neq (hu : X.A.units + 64 < cLine) (ha : DEx X Δ a r Δ1) (hb : DEx X Δ1 b r2 Δ2) (l1 : lite r = true) (e1 : rdOf Δ2 r = some x) (e2 : rdOf Δ2 r2 = some x) (h1 : shp x) : DTx X Δ (.Compare a [.NotEq] [b] pos) false Δ2 := by
  have z := dt_ne (pos := pos) hu ha hb l1 e1 e2 h1 h1
  rw [shp_refl h1] at z
  exact z
theorem de_eqq (hu : X.A.units + 64 < cLine) (ha : DEx X Δ a r Δ1) (hb : DEx X Δ1 b r2 Δ2) (l1 : lite r = true) (e1 : rdOf Δ2 r = some x) (e2 : rdOf Δ2 r2 = some x) (h1 : shp x) : DEx X Δ (.Compare a [.Eq] [b] pos) (.d (.bool true)) Δ2 := by
  have z := de_eq (pos := pos) hu ha hb l1 e1 e2 h1 h1
  rw [shp_refl h1] at z
  exact z
/-! x in a tuple of texts -/
theorem bn_inT {u : V} {us : List V} (e1 : flatD x = some u) (e2 : rdOf Δ r2 = some (.tuple xs)) (e3 : flats xs = some us) (h1 : flatV u = true) (h2 : us.all flatV = true) : Bn X.K Δ (.d x) r2 (rIn X.K false) (.d (.bool (inV u us))) := fun B F H σ v w Q ok hv hw q => by
  cases Dq.flat hv e1
  obtain ⟨a, vs, rfl, ha, hd⟩ := rd_tup ok hw e2
  cases DqA.flat hd e3
  exact ⟨a, _, rfl, .inr (SqT.of (ok.fh _ _ ha)), h1, h2, q _ _ _ ok (.refl _) (.bl _)⟩
theorem dt_inT {u : V} {us : List V} (ha : DEx X Δ a (.d x) Δ1) (hb : DEx X Δ1 b r2 Δ2) (hm : behindInMarks .In b = false) (e1 : flatD x = some u) (e2 : rdOf Δ2 r2 = some (.tuple xs)) (e3 : flats xs = some us) (h1 : flatV u = true) (h2 : us.all flatV = true) :
    DTx X Δ (.Compare a [.In] [b] pos) (inV u us) Δ2 := dt_cmp op_in_seq ha hb rfl hm (bn_inT e1 e2 e3 h1 h2)
end
/-! ### places from the end -/
theorem ixN_neg {n j : Nat} (hj : j < n) : ixN n (-((j : Int) + 1)) = some (n - 1 - j) := by
  unfold ixN
  rw [if_neg (by omega), if_pos (by omega)]
  congr 1
  omega
theorem at_end1 {α : Type} {xs : List α} {x : α} : atI (xs ++ [x]) (-1) = some x := by
  unfold atI
  have e : ixN (xs ++ [x]).length (-1) = some xs.length := by
    have := ixN_neg (n := (xs ++ [x]).length) (j := 0) (by simp)
    simpa using this
  rw [e]
  show (xs ++ [x])[xs.length]? = some x
  simp
theorem at_end2 {α : Type} {xs : List α} {x y : α} : atI (xs ++ [y, x]) (-2) = some y := by
  unfold atI
  have e : ixN (xs ++ [y, x]).length (-2) = some xs.length := by
    have := ixN_neg (n := (xs ++ [y, x]).length) (j := 1) (by simp)
    simpa using this
  rw [e]
  show (xs ++ [y, x])[xs.length]? = some y
  simp
theorem sIx_neg (n d k : Nat) (h : 0 < k) : HT.sIx n d (some (-(k : Int))) = n - k := by
  show (if (-(k : Int)) < 0 then ((-(k : Int)) + (n : Int)).toNat else min (-(k : Int)).toNat n) = n - k
  rw [if_pos (by omega)]
  omega
theorem cut_end1 {xs : List PyData} {x : PyData} : cutD (xs ++ [x]) none (some (-1)) = xs := by
  unfold cutD
  have e : HT.sIx (xs ++ [x]).length (xs ++ [x]).length (some (-1)) = xs.length := by
    have := sIx_neg (xs ++ [x]).length (xs ++ [x]).length 1 (by decide)
    simpa using this
  rw [e, HT.sIx_none]
  simp
theorem cut_end2 {xs : List PyData} {x y : PyData} : cutD (xs ++ [y, x]) none (some (-2)) = xs := by
  unfold cutD
  have e : HT.sIx (xs ++ [y, x]).length (xs ++ [y, x]).length (some (-2)) = xs.length := by
    have := sIx_neg (xs ++ [y, x]).length (xs ++ [y, x]).length 2 (by decide)
    simpa using this
  rw [e, HT.sIx_none]
  simp
theorem cut_nil {n : Option Int} {m : Option Int} : cutD [] m n = [] := by
  unfold cutD
  simp
theorem cut_from {xs : List PyData} {l : Nat} : cutD xs (some (l : Int)) none = xs.drop l := by
  unfold cutD
  rw [HT.sIx_nat, HT.sIx_none]
  by_cases h : l ≤ xs.length
  · rw [Nat.min_eq_left h]
    exact List.take_of_length_le (by simp)
  · rw [Nat.min_eq_right (by omega), List.drop_eq_nil_of_le (Nat.le_refl _), List.drop_eq_nil_of_le (by omega)]
    simp
theorem cut_to {xs : List PyData} {l : Nat} : cutD xs none (some (l : Int)) = xs.take l := by
  unfold cutD
  rw [HT.sIx_nat, HT.sIx_none]
  simp only [List.drop_zero, Nat.sub_zero]
  by_cases h : l ≤ xs.length
  · rw [Nat.min_eq_left h]
  · rw [Nat.min_eq_right (by omega), List.take_of_length_le (Nat.le_refl _), List.take_of_length_le (by omega)]
theorem eqv_nil {xs : List PyData} : PyData.eqv (.list xs) (.list []) = xs.isEmpty := by
  cases xs with
  | nil => simp [PyData.eqv, PyData.eqvAll]
  | cons x xs => simp [PyData.eqv, PyData.eqvAll]
theorem snoc_cases {α : Type} (xs : List α) : xs = [] ∨ ∃ ys y, xs = ys ++ [y] := by
  cases h : xs.reverse with
  | nil => exact .inl (by simpa using h)
  | cons y ys => exact .inr ⟨ys.reverse, y, by rw [← List.reverse_reverse xs, h]; simp⟩
end Tr
namespace Tr
open PySem L2
/-! ### the machine -/
abbrev eI (ns : List Int) : List PyData := ns.map PyData.int
abbrev Fr := Int × List Int
def encF (f : Fr) : PyData := .tuple [.int f.1, .list (eI f.2)]
inductive Oc where
  | st (p : Int) (vs : List Int) (fs : List Fr) | stuck | nought | full | value (v : Int)
def Oc.isEnd : Oc → Bool
  | .st _ _ _ => false
  | _ => true
def encO : Oc → PyData
  | .st p vs fs => .tuple [.int p, .list (eI vs), .list (fs.map encF)]
  | .stuck => .tuple [.str "stuck"]
  | .nought => .tuple [.str "nought"]
  | .full => .tuple [.str "full"]
  | .value v => .tuple [.str "value", .int v]
def putT (w : Str) (a b : Int) : Int := if w = "add" then a + b else if w = "sub" then a - b else if a < b then 1 else 0
/-- a row's word and number; the frames: gs and the last one, (b, kn) -/
def takeT (w : Str) (n : Int) (p : Int) (vs : List Int) (gs : List Fr) (b : Int) (kn : List Int) : Oc :=
  if vs = [] ∨ (vs.length = 1 ∧ (w = "add" ∨ w = "sub" ∨ w = "less")) then .stuck
  else if w = "sure" then (if vs.getLastD 0 = 0 then .nought else .st (p + 1) vs (gs ++ [(b, kn)]))
  else if w = "keep" then .st (p + 1) vs.dropLast (gs ++ [(b, kn ++ [vs.getLastD 0])])
  else if w = "unless" then .st (p + 1 + (if vs.getLastD 0 = 0 then n else 0)) vs.dropLast (gs ++ [(b, kn)])
  else .st (p + 1) (vs.dropLast.dropLast ++ [putT w (vs.dropLast.getLastD 0) (vs.getLastD 0)]) (gs ++ [(b, kn)])
def stepT (w : Str) (n : Int) (p : Int) (vs : List Int) (gs : List Fr) (b : Int) (kn : List Int) : Oc :=
  if w = "num" then .st (p + 1) (vs ++ [n]) (gs ++ [(b, kn)])
  else if w = "arg" then (if n < kn.length then .st (p + 1) (vs ++ [kn.getD n.toNat 0]) (gs ++ [(b, kn)]) else .stuck)
  else if w = "skip" then .st (p + 1 + n) vs (gs ++ [(b, kn)])
  else if w = "drop" then (if kn = [] then .stuck else .st (p + 1) vs (gs ++ [(b, kn.dropLast)]))
  else takeT w n p vs gs b kn
def enterT (w : Str) (n : Int) (ss : List Sp2) (most : Int) (p : Int) (vs : List Int) (gs : List Fr) (b : Int) (kn : List Int) : Oc :=
  if ss.length ≤ n ∨ (vs.length : Int) < (ss.getD n.toNat (0, 0)).2 then .stuck
  else if w = "jump" then .st (ss.getD n.toNat (0, 0)).1 (vs.take (vs.length - (ss.getD n.toNat (0, 0)).2.toNat)) (gs ++ [(b, vs.drop (vs.length - (ss.getD n.toNat (0, 0)).2.toNat))])
  else if most ≤ ((gs ++ [(b, kn)]).length : Int) then .full
  else .st (ss.getD n.toNat (0, 0)).1 (vs.take (vs.length - (ss.getD n.toNat (0, 0)).2.toNat)) (gs ++ [(b, kn)] ++ [(p + 1, vs.drop (vs.length - (ss.getD n.toNat (0, 0)).2.toNat))])
def backT (vs : List Int) (gs : List Fr) (b : Int) : Oc :=
  if gs = [] then (if vs = [] then .stuck else .value (vs.getLastD 0)) else .st b vs gs
def stepR (w : Str) (n : Int) (ss : List Sp2) (most : Int) (p : Int) (vs : List Int) (gs : List Fr) (b : Int) (kn : List Int) : Oc :=
  if w = "call" ∨ w = "jump" then enterT w n ss most p vs gs b kn
  else if w = "back" then backT vs gs b
  else stepT w n p vs gs b kn
def rowAt (rs : List Rw) (p : Int) : Rw := rs.getD p.toNat ("back", none)
def stepQ (rs : List Rw) (ss : List Sp2) (most : Int) (p : Int) (vs : List Int) (gs : List Fr) (b : Int) (kn : List Int) : Oc :=
  if 0 ≤ p ∧ p < rs.length then stepR (rowAt rs p).1 ((rowAt rs p).2.getD 0) ss most p vs gs b kn else .stuck
/-- a row whose place is not below nought -/
def wfN (r : Rw) : Prop := wfR r ∧ (r.1 = "arg" ∨ r.1 = "call" ∨ r.1 = "jump" → 0 ≤ r.2.getD 0)
theorem num_some {r : Rw} (h : wfR r) (hn : r.1 ∈ numW) : r = (r.1, some (r.2.getD 0)) := by
  obtain ⟨w, n⟩ := r
  cases n with
  | none =>
    have := h.2
    rw [decide_eq_true hn] at this
    cases this
  | some n => rfl
theorem encR_num {r : Rw} (h : wfR r) (hn : r.1 ∈ numW) : encR r = .tuple [.str r.1, .int (r.2.getD 0)] := by
  rw [num_some h hn]; rfl
/-- the words that take a value -/
def takeW : List Str := ["add", "sub", "less", "sure", "keep", "unless"]
theorem sh_eI {ns : List Int} {n : Nat} : Sh (n + 1) (.list (eI ns)) := .list fun x hx => by
  obtain ⟨i, _, rfl⟩ := List.mem_map.mp hx
  exact .int i
theorem sh_frames (fs : List Fr) : Sh 3 (.list (fs.map encF)) := .list fun x hx => by
  obtain ⟨f, _, rfl⟩ := List.mem_map.mp hx
  exact .tup2 (.int _) sh_eI
theorem sh_O : ∀ o : Oc, Sh 4 (encO o)
  | .st p vs fs => .tup3 (.int _) sh_eI (sh_frames fs)
  | .stuck => .tup1 (.str (by decide +kernel))
  | .nought => .tup1 (.str (by decide +kernel))
  | .full => .tup1 (.str (by decide +kernel))
  | .value v => .tup2 (.str (by decide +kernel)) (.int _)
theorem eI_nil {vs : List Int} : (eI vs).isEmpty = true ↔ vs = [] := by cases vs <;> simp [eI]
theorem last_eI {us : List Int} {x : Int} : eI (us ++ [x]) = eI us ++ [.int x] := by simp [eI]
theorem last_fs {gs : List Fr} {f : Fr} : (gs ++ [f]).map encF = gs.map encF ++ [encF f] := by simp
theorem set_last {α : Type} {xs : List α} {x y : α} : (xs ++ [x]).set xs.length y = xs ++ [y] := by
  rw [List.set_append_right _ _ (Nat.le_refl _), Nat.sub_self]
  rfl
theorem getLastD_snoc {α : Type} {xs : List α} {x d : α} : (xs ++ [x]).getLastD d = x := by simp
theorem step_num {n : Int} {ss : List Sp2} {most : Int} {p : Int} {vs : List Int} {gs : List Fr} {b : Int} {kn : List Int} : stepR "num" n ss most p vs gs b kn = .st (p + 1) (vs ++ [n]) (gs ++ [(b, kn)]) := by rw [stepR, if_neg (by decide), if_neg (by decide), stepT, if_pos rfl]
theorem step_arg {n : Int} {ss : List Sp2} {most : Int} {p : Int} {vs : List Int} {gs : List Fr} {b : Int} {kn : List Int} : stepR "arg" n ss most p vs gs b kn = (if n < kn.length then .st (p + 1) (vs ++ [kn.getD n.toNat 0]) (gs ++ [(b, kn)]) else .stuck) := by rw [stepR, if_neg (by decide), if_neg (by decide), stepT, if_neg (by decide), if_pos rfl]
theorem step_skip {n : Int} {ss : List Sp2} {most : Int} {p : Int} {vs : List Int} {gs : List Fr} {b : Int} {kn : List Int} : stepR "skip" n ss most p vs gs b kn = .st (p + 1 + n) vs (gs ++ [(b, kn)]) := by rw [stepR, if_neg (by decide), if_neg (by decide), stepT, if_neg (by decide), if_neg (by decide), if_pos rfl]
theorem step_drop {n : Int} {ss : List Sp2} {most : Int} {p : Int} {vs : List Int} {gs : List Fr} {b : Int} {kn : List Int} : stepR "drop" n ss most p vs gs b kn = (if kn = [] then .stuck else .st (p + 1) vs (gs ++ [(b, kn.dropLast)])) := by rw [stepR, if_neg (by decide), if_neg (by decide), stepT, if_neg (by decide), if_neg (by decide), if_neg (by decide), if_pos rfl]
theorem step_back {n : Int} {ss : List Sp2} {most : Int} {p : Int} {vs : List Int} {gs : List Fr} {b : Int} {kn : List Int} : stepR "back" n ss most p vs gs b kn = backT vs gs b := by rw [stepR, if_neg (by decide), if_pos rfl]
theorem step_sure {n : Int} {ss : List Sp2} {most : Int} {p : Int} {vs : List Int} {gs : List Fr} {b : Int} {kn : List Int} : stepR "sure" n ss most p vs gs b kn = takeT "sure" n p vs gs b kn := by rw [stepR, if_neg (by decide), if_neg (by decide), stepT, if_neg (by decide), if_neg (by decide), if_neg (by decide), if_neg (by decide)]
theorem take_sure0 {n : Int} {p : Int} {gs : List Fr} {b : Int} {kn : List Int} : takeT "sure" n p [] gs b kn = .stuck := by rw [takeT, if_pos (.inl rfl)]
theorem step_keep {n : Int} {ss : List Sp2} {most : Int} {p : Int} {vs : List Int} {gs : List Fr} {b : Int} {kn : List Int} : stepR "keep" n ss most p vs gs b kn = takeT "keep" n p vs gs b kn := by rw [stepR, if_neg (by decide), if_neg (by decide), stepT, if_neg (by decide), if_neg (by decide), if_neg (by decide), if_neg (by decide)]
theorem take_keep0 {n : Int} {p : Int} {gs : List Fr} {b : Int} {kn : List Int} : takeT "keep" n p [] gs b kn = .stuck := by rw [takeT, if_pos (.inl rfl)]
theorem step_unless {n : Int} {ss : List Sp2} {most : Int} {p : Int} {vs : List Int} {gs : List Fr} {b : Int} {kn : List Int} : stepR "unless" n ss most p vs gs b kn = takeT "unless" n p vs gs b kn := by rw [stepR, if_neg (by decide), if_neg (by decide), stepT, if_neg (by decide), if_neg (by decide), if_neg (by decide), if_neg (by decide)]
theorem take_unless0 {n : Int} {p : Int} {gs : List Fr} {b : Int} {kn : List Int} : takeT "unless" n p [] gs b kn = .stuck := by rw [takeT, if_pos (.inl rfl)]
theorem step_add {n : Int} {ss : List Sp2} {most : Int} {p : Int} {vs : List Int} {gs : List Fr} {b : Int} {kn : List Int} : stepR "add" n ss most p vs gs b kn = takeT "add" n p vs gs b kn := by rw [stepR, if_neg (by decide), if_neg (by decide), stepT, if_neg (by decide), if_neg (by decide), if_neg (by decide), if_neg (by decide)]
theorem take_add0 {n : Int} {p : Int} {gs : List Fr} {b : Int} {kn : List Int} : takeT "add" n p [] gs b kn = .stuck := by rw [takeT, if_pos (.inl rfl)]
theorem step_sub {n : Int} {ss : List Sp2} {most : Int} {p : Int} {vs : List Int} {gs : List Fr} {b : Int} {kn : List Int} : stepR "sub" n ss most p vs gs b kn = takeT "sub" n p vs gs b kn := by rw [stepR, if_neg (by decide), if_neg (by decide), stepT, if_neg (by decide), if_neg (by decide), if_neg (by decide), if_neg (by decide)]
theorem take_sub0 {n : Int} {p : Int} {gs : List Fr} {b : Int} {kn : List Int} : takeT "sub" n p [] gs b kn = .stuck := by rw [takeT, if_pos (.inl rfl)]
theorem step_less {n : Int} {ss : List Sp2} {most : Int} {p : Int} {vs : List Int} {gs : List Fr} {b : Int} {kn : List Int} : stepR "less" n ss most p vs gs b kn = takeT "less" n p vs gs b kn := by rw [stepR, if_neg (by decide), if_neg (by decide), stepT, if_neg (by decide), if_neg (by decide), if_neg (by decide), if_neg (by decide)]
theorem take_less0 {n : Int} {p : Int} {gs : List Fr} {b : Int} {kn : List Int} : takeT "less" n p [] gs b kn = .stuck := by rw [takeT, if_pos (.inl rfl)]
theorem take_sure1 {n : Int} {p : Int} {us : List Int} {gs : List Fr} {b : Int} {x : Int} {kn : List Int} : takeT "sure" n p (us ++ [x]) gs b kn = (if x = 0 then .nought else .st (p + 1) (us ++ [x]) (gs ++ [(b, kn)])) := by rw [takeT, if_neg (fun z => by rcases z with z | ⟨_, z⟩; exact absurd z (by simp); revert z; decide), if_pos rfl, getLastD_snoc]
theorem take_keep1 {n : Int} {p : Int} {us : List Int} {gs : List Fr} {b : Int} {x : Int} {kn : List Int} : takeT "keep" n p (us ++ [x]) gs b kn = .st (p + 1) us (gs ++ [(b, kn ++ [x])]) := by rw [takeT, if_neg (fun z => by rcases z with z | ⟨_, z⟩; exact absurd z (by simp); revert z; decide), if_neg (by decide), if_pos rfl, getLastD_snoc, List.dropLast_concat]
theorem take_unless1 {n : Int} {p : Int} {us : List Int} {gs : List Fr} {b : Int} {x : Int} {kn : List Int} : takeT "unless" n p (us ++ [x]) gs b kn = .st (p + 1 + (if x = 0 then n else 0)) us (gs ++ [(b, kn)]) := by rw [takeT, if_neg (fun z => by rcases z with z | ⟨_, z⟩; exact absurd z (by simp); revert z; decide), if_neg (by decide), if_neg (by decide), if_pos rfl, getLastD_snoc, List.dropLast_concat]
theorem take_add1 {n : Int} {p : Int} {gs : List Fr} {b : Int} {x : Int} {kn : List Int} : takeT "add" n p [x] gs b kn = .stuck := by rw [takeT, if_pos (.inr ⟨rfl, by decide⟩)]
theorem take_add2 {n : Int} {p : Int} {us : List Int} {gs : List Fr} {b : Int} {x : Int} {y : Int} {kn : List Int} : takeT "add" n p (us ++ [y] ++ [x]) gs b kn = .st (p + 1) (us ++ [putT "add" y x]) (gs ++ [(b, kn)]) := by rw [takeT, if_neg (fun z => by rcases z with z | ⟨z, _⟩ <;> simp at z), if_neg (by decide), if_neg (by decide), if_neg (by decide), getLastD_snoc, List.dropLast_concat, getLastD_snoc, List.dropLast_concat]
theorem take_sub1 {n : Int} {p : Int} {gs : List Fr} {b : Int} {x : Int} {kn : List Int} : takeT "sub" n p [x] gs b kn = .stuck := by rw [takeT, if_pos (.inr ⟨rfl, by decide⟩)]
theorem take_sub2 {n : Int} {p : Int} {us : List Int} {gs : List Fr} {b : Int} {x : Int} {y : Int} {kn : List Int} : takeT "sub" n p (us ++ [y] ++ [x]) gs b kn = .st (p + 1) (us ++ [putT "sub" y x]) (gs ++ [(b, kn)]) := by rw [takeT, if_neg (fun z => by rcases z with z | ⟨z, _⟩ <;> simp at z), if_neg (by decide), if_neg (by decide), if_neg (by decide), getLastD_snoc, List.dropLast_concat, getLastD_snoc, List.dropLast_concat]
theorem take_less1 {n : Int} {p : Int} {gs : List Fr} {b : Int} {x : Int} {kn : List Int} : takeT "less" n p [x] gs b kn = .stuck := by rw [takeT, if_pos (.inr ⟨rfl, by decide⟩)]
theorem take_less2 {n : Int} {p : Int} {us : List Int} {gs : List Fr} {b : Int} {x : Int} {y : Int} {kn : List Int} : takeT "less" n p (us ++ [y] ++ [x]) gs b kn = .st (p + 1) (us ++ [putT "less" y x]) (gs ++ [(b, kn)]) := by rw [takeT, if_neg (fun z => by rcases z with z | ⟨z, _⟩ <;> simp at z), if_neg (by decide), if_neg (by decide), if_neg (by decide), getLastD_snoc, List.dropLast_concat, getLastD_snoc, List.dropLast_concat]
theorem lc_fr {X : Cx} {scope : Scope} {elt : Expr} {j : Nat} {Δ : En} (gs : List Fr) (b : Int) (kn : List Int) (hj : Δ[j]? = some .no) (hs : ∀ t ∈ gs ++ [(b, kn)], ∀ Y, Blk X scope Y → DEx Y (Δ.set j (.d (encF t))) elt (.d (encF t)) (Δ.set j (.d (encF t)))) : Lc X scope elt [] j (gs.map encF ++ [encF (b, kn)]) 0 Δ (gs.map encF ++ [encF (b, kn)]) Δ := by
  have h := lc_of (gs ++ [(b, kn)]) encF encF hj hs
  rwa [last_fs] at h
theorem ixN_of {n : Nat} {i : Int} (h0 : 0 ≤ i) (h1 : i < n) : ixN n i = some i.toNat := by
  have e : i = ((i.toNat : Nat) : Int) := by omega
  rw [e]
  exact ixN_lt (by omega)
end Tr
namespace Tr
open PySem L2 PySem.Spec PyProof.Rows
/-! ### xs[k::n] -/
/-- the places of a slice -/
def pkIx (n : Nat) (lo hi st : Option Int) : List Nat := sliceRange (sliceBounds lo hi st n).1 (sliceBounds lo hi st n).2.1 (sliceBounds lo hi st n).2.2
def pkL {α : Type} (xs : List α) (lo hi st : Option Int) : List α := (pkIx xs.length lo hi st).filterMap (xs[·]?)
theorem pr_pick {α β : Type} {F : α → β → Prop} {xs : List α} {ys : List β} (r : Paired F xs ys) : ∀ ix : List Nat, Paired F (ix.filterMap (xs[·]?)) (ix.filterMap (ys[·]?))
  | [] => .nil
  | i :: ix => by
    have hl := r.length
    rw [List.filterMap_cons, List.filterMap_cons]
    cases e : ys[i]? with
    | none =>
      have h1 : xs[i]? = none := List.getElem?_eq_none (by have := List.getElem?_eq_none_iff.mp e; omega)
      rw [h1]
      exact pr_pick r ix
    | some y =>
      obtain ⟨x, hx, hf⟩ := pr_get r e
      rw [hx]
      exact .cons hf (pr_pick r ix)
theorem pkL_mem {α : Type} {xs : List α} {lo hi st : Option Int} {x : α} (h : x ∈ pkL xs lo hi st) : x ∈ xs := by
  obtain ⟨i, _, hi⟩ := List.mem_filterMap.mp h
  exact List.mem_of_getElem? hi
theorem pkL_map {α β : Type} (f : α → β) (xs : List α) (lo hi st : Option Int) : pkL (xs.map f) lo hi st = (pkL xs lo hi st).map f := by
  unfold pkL
  rw [List.length_map, List.map_filterMap]
  congr 1
  funext i
  rw [List.getElem?_map]
theorem pkL_len {α : Type} (xs : List α) (lo hi st : Option Int) : (pkL xs lo hi st).length ≤ xs.length := by
  have h := slicePick_size_le (xs.map fun _ => Value.none).toArray lo hi st
  unfold slicePick at h
  rw [List.size_toArray, List.size_toArray, List.length_map] at h
  have e : (pkL xs lo hi st).length = (pkL (xs.map fun _ => Value.none) lo hi st).length := by rw [pkL_map, List.length_map]
  rw [e]
  unfold pkL pkIx
  rw [List.length_map]
  simpa using h
def tSlSt (K : PySem.W.Frag) (te : TE) (tl ts : TO) : TE := fun σ H Q => te σ H fun x H1 => tl σ H1 fun l H2 => ts σ H2 fun st H3 => ∃ a xs, x = .ref a ∧ SqL K H3 a xs ∧ st ≠ some 0 ∧ ∀ p, H3 p = none → Q (.ref p) (upd H3 p (.lst (pkL xs l none st)))
theorem pe_slSt {X : Cx} {e lo st : Expr} {te : TE} {tl ts : TO} {p3 pos : Pos} (he : PE X e te) (hl : PO X (some lo) tl) (hs : PO X (some st) ts) : PE X (.Subscript e (.Slice (some lo) none (some st) p3) pos) (tSlSt X.K te tl ts) := by
  refine ⟨fun pins s σ H Q I h => ?_⟩
  refine Subscript_ (thn (he.run pins s σ H _ I h) fun v s1 ⟨x, H1, I1, r1, q1⟩ => ?_)
  refine wpAny_Slice (thn (hl.run pins s1 σ H1 _ I1 q1) fun vl s2 ⟨l, H2, I2, pl, q2⟩ => ?_)
  refine thn (po_none.run pins s2 σ H2 (fun o H3 => o = none ∧ H3 = H2) I2 ⟨rfl, rfl⟩) fun vu s3 ⟨u, H3, I3, pu, eu, e3⟩ => ?_
  subst eu e3
  refine thn (hs.run pins s3 σ H3 _ I3 q2) fun vs s4 ⟨o, H4, I4, ps, q3⟩ => ?_
  obtain ⟨a, xs, ex, hx, h0, q⟩ := q3
  subst ex
  cases r1
  have I5 : Inv X pins σ H4 { s4 with heap := s4.heap.push { cls := .type "slice", data := .fields #[vl, vu, vs] } } := I4.kept (t' := s4.toks) fun b ob q => Heap.get?_push_of_some _ q
  obtain ⟨its, r, ht, hz⟩ := I5.list hx
  have hlen := r.length
  show wpAny (model X.prog X.w) X.A (subscriptTail e (.Slice (some lo) none (some st) p3) (.ref a) (.ref s4.heap.objs.size)) (EP X pins σ Q) X.xe { s4 with heap := s4.heap.push { cls := .type "slice", data := .fields #[vl, vu, vs] } }
  refine tail_any (ops := [.ref a, .ref s4.heap.objs.size]) ht.isList.typeIs (PySem.slot_list_getitem.lookup) ?_ (by with_unfolding_all rfl)
  refine wpAny_getItem_list_slice ht.isList (Heap.IsSliceOf.new _ vl vu vs) pl pu ps h0 ?_ (by rw [List.size_toArray]; omega)
  have ep : slicePick its.toArray l none o = (pkL its l none o).toArray := by
    unfold slicePick pkL pkIx
    rw [List.size_toArray]
    congr 1
    congr 1
    funext i
    simp
  rw [ep]
  have rp : Vals (pkL xs l none o) (pkL its l none o) := by
    unfold pkL
    rw [hlen]
    exact pr_pick r _
  refine ⟨.ref _, _, I5.laid (t' := s4.toks) (o := .lst (pkL xs l none o)) (fun b ob q => Heap.get?_push_of_some _ q) (Nat.le_refl _) ?_, rfl, q _ (I5.hok.fresh (Nat.le_refl _))⟩
  exact ⟨Nat.le_trans (pkL_len _ _ _ _) hz, _, 0, rp, Heap.get?_push_size _ rfl⟩
section
variable {X : Cx} {Δ Δ1 : En} {a lo st : Expr} {r1 : R} {xs : List PyData} {m n : Int} {p2 pos : Pos}
theorem de_slSt (ha : DEx X Δ a r1 Δ1) (h1 : DEx X Δ1 lo (.d (.int m)) Δ1) (h2 : DEx X Δ1 st (.d (.int n)) Δ1) (l1 : lite r1 = true) (e1 : rdOf Δ1 r1 = some (.list xs)) (hn : n ≠ 0) : DEx X Δ (.Subscript a (.Slice (some lo) none (some st) p2) pos) (.nl (pkL xs (some m) none (some n))) Δ1 := by
  obtain ⟨t1, p1, q1⟩ := (dp_so h1).po
  obtain ⟨t2, p2, q2⟩ := (dp_so h2).po
  refine ⟨ha.rk, pe_imp (pe_slSt ha.pe p1 p2) fun σ H Q ⟨B, F, ok, q⟩ => ⟨B, F, ok, fun v F1 H1 ok1 ex1 hv => ?_⟩⟩
  refine q1 _ _ _ ⟨B, F1, ok1, fun F2 H2 ok2 ex2 => q2 _ _ _ ⟨B, F2, ok2, fun F3 H3 ok3 ex3 => ?_⟩⟩
  obtain ⟨a1, vs, rfl, h1, k1⟩ := rd_list ok3 (hv.keep l1 (ex2.trans ex3)) e1
  refine ⟨a1, vs, rfl, SqL.of h1, fun z => hn (by cases z; rfl), fun p hp => ?_⟩
  have kp : DqA F3 (pkL vs (some m) none (some n)) (pkL xs (some m) none (some n)) := by
    unfold pkL
    rw [k1.length]
    exact pr_pick k1 _
  exact q _ _ _ (ok3.new hp) ((ex1.trans ex2).trans ex3) (res_nl ok3 hp kp)
end
end Tr
namespace Tr
open PySem L2
/-! ### runs -/
abbrev St3 := Int × List Int × List Fr
def stepF (rs : List Rw) (ss : List Sp2) (most : Int) (s : St3) : Oc := match s.2.2.getLast? with
  | some f => stepQ rs ss most s.1 s.2.1 s.2.2.dropLast f.1 f.2
  | none => .stuck
theorem stepF_snoc {rs : List Rw} {ss : List Sp2} {most p : Int} {vs : List Int} {gs : List Fr} {b : Int} {kn : List Int} : stepF rs ss most (p, vs, gs ++ [(b, kn)]) = stepQ rs ss most p vs gs b kn := by
  unfold stepF
  simp
abbrev Mk := Int × Int × Int
def mkOf (s : St3) : Mk := (s.1, (s.2.2.length : Int), (s.2.1.length : Int))
def encM (m : Mk) : PyData := .tuple [.int m.1, .int m.2.1, .int m.2.2]
/-- how it ends (nothing: the steps gave out), and the marks -/
def runM (rs : List Rw) (ss : List Sp2) (most : Int) : Nat → St3 → Option Oc × List Mk
  | 0, _ => (none, [])
  | n + 1, s => match stepF rs ss most s with
    | .st p vs fs => ((runM rs ss most n (p, vs, fs)).1, mkOf s :: (runM rs ss most n (p, vs, fs)).2)
    | oc => (some oc, [mkOf s])
def encE : Option Oc → PyData
  | some oc => encO oc
  | none => .tuple [.str "dry"]
theorem runM_st {rs : List Rw} {ss : List Sp2} {most : Int} {n : Nat} {s : St3} {p : Int} {vs : List Int} {fs : List Fr} (h : stepF rs ss most s = .st p vs fs) : runM rs ss most (n + 1) s = ((runM rs ss most n (p, vs, fs)).1, mkOf s :: (runM rs ss most n (p, vs, fs)).2) := by
  rw [runM, h]
theorem runM_end {rs : List Rw} {ss : List Sp2} {most : Int} {n : Nat} {s : St3} {oc : Oc} (h : stepF rs ss most s = oc) (he : oc.isEnd = true) : runM rs ss most (n + 1) s = (some oc, [mkOf s]) := by
  rw [runM, h]
  cases oc with
  | st p vs fs => cases he
  | stuck => rfl
  | nought => rfl
  | full => rfl
  | value v => rfl
/-- a state whose lists are not long; it has a frame -/
def Fit (L : Nat) (s : St3) : Prop := s.2.1.length ≤ L ∧ s.2.2.length ≤ L ∧ s.2.2 ≠ [] ∧ ∀ f ∈ s.2.2, f.2.length ≤ L
theorem Fit.mono {L M : Nat} {s : St3} (h : Fit L s) (l : L ≤ M) : Fit M s := ⟨by have := h.1; omega, by have := h.2.1; omega, h.2.2.1, fun f hf => by have := h.2.2.2 f hf; omega⟩
theorem Fit.snoc {L : Nat} {s : St3} (h : Fit L s) : ∃ gs b kn, s = (s.1, s.2.1, gs ++ [(b, kn)]) ∧ s.2.1.length ≤ L ∧ gs.length ≤ L ∧ kn.length ≤ L ∧ ∀ f ∈ gs, f.2.length ≤ L := by
  obtain ⟨p, vs, fs⟩ := s
  rcases snoc_cases fs with rfl | ⟨gs, ⟨b, kn⟩, rfl⟩
  · exact absurd rfl h.2.2.1
  · refine ⟨gs, b, kn, rfl, h.1, ?_, h.2.2.2 (b, kn) (by simp), fun f hf => h.2.2.2 f (by simp [hf])⟩
    have : (gs ++ [(b, kn)]).length ≤ L := h.2.1
    simp at this
    omega
theorem fit_of {L : Nat} {p : Int} {vs : List Int} {gs : List Fr} {b : Int} {kn : List Int} (h1 : vs.length ≤ L) (h2 : gs.length + 1 ≤ L) (h3 : kn.length ≤ L) (h4 : ∀ f ∈ gs, f.2.length ≤ L) : Fit L (p, vs, gs ++ [(b, kn)]) :=
  ⟨h1, by simp; omega, by simp, fun f hf => by
    rcases List.mem_append.mp hf with z | z
    · exact h4 f z
    · simp only [List.mem_cons, List.not_mem_nil, or_false] at z
      rw [z]; exact h3⟩
theorem fit_take {w : Str} {n p : Int} {vs : List Int} {gs : List Fr} {b : Int} {kn : List Int} {L : Nat} {s : St3} (h1 : vs.length ≤ L) (h2 : gs.length + 1 ≤ L) (h3 : kn.length ≤ L) (h4 : ∀ f ∈ gs, f.2.length ≤ L) (h : takeT w n p vs gs b kn = .st s.1 s.2.1 s.2.2) : Fit (L + 1) s := by
  obtain ⟨p', vs', fs'⟩ := s
  have h : takeT w n p vs gs b kn = .st p' vs' fs' := h
  have h4' : ∀ f ∈ gs, f.2.length ≤ L + 1 := fun f hf => by have := h4 f hf; omega
  unfold takeT at h
  split at h
  · cases h
  · split at h
    · split at h
      · cases h
      · cases h
        exact fit_of (by omega) (by omega) (by omega) h4'
    · split at h
      · cases h
        exact fit_of (by simp; omega) (by omega) (by simp; omega) h4'
      · split at h
        · cases h
          exact fit_of (by simp; omega) (by omega) (by omega) h4'
        · cases h
          exact fit_of (by simp; omega) (by omega) (by omega) h4'
theorem fit_step {rs : List Rw} {ss : List Sp2} {most : Int} {s s' : St3} {L : Nat} (h : Fit L s) (e : stepF rs ss most s = .st s'.1 s'.2.1 s'.2.2) : Fit (L + 1) s' := by
  obtain ⟨gs, b, kn, es, h1, h2', h3, h4⟩ := h.snoc
  have h2 : gs.length + 1 ≤ L := by
    have := h.2.1
    rw [es] at this
    simpa using this
  obtain ⟨p, vs, fs⟩ := s
  rw [es, stepF_snoc] at e
  have h4' : ∀ f ∈ gs, f.2.length ≤ L + 1 := fun f hf => by have := h4 f hf; omega
  have h1 : vs.length ≤ L := h1
  obtain ⟨p', vs', fs'⟩ := s'
  have e : stepQ rs ss most p vs gs b kn = .st p' vs' fs' := e
  unfold stepQ at e
  split at e
  · unfold stepR at e
    split at e
    · unfold enterT at e
      split at e
      · cases e
      · split at e
        · cases e
          exact fit_of (by simp; omega) (by omega) (by simp; omega) h4'
        · split at e
          · cases e
          · cases e
            refine fit_of (gs := gs ++ [(b, kn)]) (by simp; omega) (by simp; omega) (by simp; omega) fun f hf => ?_
            rcases List.mem_append.mp hf with z | z
            · exact h4' f z
            · simp only [List.mem_cons, List.not_mem_nil, or_false] at z
              rw [z]
              show kn.length ≤ L + 1
              omega
    · split at e
      · unfold backT at e
        split at e
        · split at e
          · cases e
          · cases e
        · rename_i hne
          cases e
          exact ⟨Nat.le_succ_of_le h1, by show _ ≤ L + 1; simp only []; omega, hne, h4'⟩
      · unfold stepT at e
        split at e
        · cases e
          exact fit_of (by simp; omega) (by omega) (by omega) h4'
        · split at e
          · split at e
            · cases e
              exact fit_of (by simp; omega) (by omega) (by omega) h4'
            · cases e
          · split at e
            · cases e
              exact fit_of (by omega) (by omega) (by omega) h4'
            · split at e
              · split at e
                · cases e
                · cases e
                  exact fit_of (by omega) (by omega) (by simp; omega) h4'
              · exact fit_take (s := (p', vs', fs')) h1 h2 h3 h4 e
  · cases e
theorem encSt3 {s : St3} : encO (.st s.1 s.2.1 s.2.2) = .tuple [.int s.1, .list (eI s.2.1), .list (s.2.2.map encF)] := rfl
theorem sh_marks (ms : List Mk) : Sh 2 (.list (ms.map encM)) := .list fun x hx => by
  obtain ⟨m, _, rfl⟩ := List.mem_map.mp hx
  exact .tup3 (.int _) (.int _) (.int _)
theorem sh_E : ∀ o : Option Oc, Sh 4 (encE o)
  | some oc => sh_O oc
  | none => .tup1 (.str (by decide +kernel))
end Tr
namespace Tr
open PySem L2
/-! ### a code and the turned code -/
theorem takeT_par (w : Str) (n p : Int) (vs kn : List Int) : (∃ oc : Oc, (oc = .stuck ∨ oc = .nought) ∧ ∀ gs b, takeT w n p vs gs b kn = oc) ∨ ∃ p1 vs1 kn1, ∀ gs b, takeT w n p vs gs b kn = .st p1 vs1 (gs ++ [(b, kn1)]) := by
  unfold takeT
  by_cases h0 : vs = [] ∨ (vs.length = 1 ∧ (w = "add" ∨ w = "sub" ∨ w = "less"))
  · exact .inl ⟨.stuck, .inl rfl, fun gs b => by rw [if_pos h0]⟩
  by_cases h1 : w = "sure"
  · by_cases h2 : vs.getLastD 0 = 0
    · exact .inl ⟨.nought, .inr rfl, fun gs b => by rw [if_neg h0, if_pos h1, if_pos h2]⟩
    · exact .inr ⟨p + 1, vs, kn, fun gs b => by rw [if_neg h0, if_pos h1, if_neg h2]⟩
  by_cases h2 : w = "keep"
  · exact .inr ⟨_, _, _, fun gs b => by rw [if_neg h0, if_neg h1, if_pos h2]⟩
  by_cases h3 : w = "unless"
  · exact .inr ⟨_, _, _, fun gs b => by rw [if_neg h0, if_neg h1, if_neg h2, if_pos h3]⟩
  · exact .inr ⟨_, _, _, fun gs b => by rw [if_neg h0, if_neg h1, if_neg h2, if_neg h3]⟩
theorem stepT_par (w : Str) (n p : Int) (vs kn : List Int) : (∃ oc : Oc, (oc = .stuck ∨ oc = .nought) ∧ ∀ gs b, stepT w n p vs gs b kn = oc) ∨ ∃ p1 vs1 kn1, ∀ gs b, stepT w n p vs gs b kn = .st p1 vs1 (gs ++ [(b, kn1)]) := by
  unfold stepT
  by_cases h1 : w = "num"
  · exact .inr ⟨_, _, _, fun gs b => by rw [if_pos h1]⟩
  by_cases h2 : w = "arg"
  · by_cases h : n < kn.length
    · exact .inr ⟨_, _, _, fun gs b => by rw [if_neg h1, if_pos h2, if_pos h]⟩
    · exact .inl ⟨.stuck, .inl rfl, fun gs b => by rw [if_neg h1, if_pos h2, if_neg h]⟩
  by_cases h3 : w = "skip"
  · exact .inr ⟨_, _, _, fun gs b => by rw [if_neg h1, if_neg h2, if_pos h3]⟩
  by_cases h4 : w = "drop"
  · by_cases h : kn = []
    · exact .inl ⟨.stuck, .inl rfl, fun gs b => by rw [if_neg h1, if_neg h2, if_neg h3, if_pos h4, if_pos h]⟩
    · exact .inr ⟨_, _, _, fun gs b => by rw [if_neg h1, if_neg h2, if_neg h3, if_pos h4, if_neg h]⟩
  · rcases takeT_par w n p vs kn with ⟨oc, h, e⟩ | ⟨p1, vs1, kn1, e⟩
    · exact .inl ⟨oc, h, fun gs b => by rw [if_neg h1, if_neg h2, if_neg h3, if_neg h4, e]⟩
    · exact .inr ⟨p1, vs1, kn1, fun gs b => by rw [if_neg h1, if_neg h2, if_neg h3, if_neg h4, e]⟩
theorem enterT_par (n : Int) (ss : List Sp2) (vs : List Int) : (∀ w most p gs b kn, enterT w n ss most p vs gs b kn = .stuck) ∨ ∃ p1 vs1 kn1, (∀ most p gs b kn, enterT "jump" n ss most p vs gs b kn = .st p1 vs1 (gs ++ [(b, kn1)])) ∧
    ∀ most p gs b kn, enterT "call" n ss most p vs gs b kn = if most ≤ (gs.length : Int) + 1 then .full else .st p1 vs1 (gs ++ [(b, kn)] ++ [(p + 1, kn1)]) := by
  unfold enterT
  by_cases h : ss.length ≤ n ∨ (vs.length : Int) < (ss.getD n.toNat (0, 0)).2
  · exact .inl fun w most p gs b kn => by rw [if_pos h]
  · refine .inr ⟨_, _, _, fun most p gs b kn => by rw [if_neg h, if_pos rfl], fun most p gs b kn => ?_⟩
    rw [if_neg h, if_neg (by decide)]
    have e : ((gs ++ [(b, kn)]).length : Int) = (gs.length : Int) + 1 := by simp
    rw [e]
def wordAt (rs : List Rw) (p : Int) : Str := if 0 ≤ p ∧ p < rs.length then (rowAt rs p).1 else ""
def backAt (rs : List Rw) (p : Int) : Prop := 0 ≤ p ∧ p < rs.length ∧ (rowAt rs p).1 = "back"
theorem backAt_word {rs : List Rw} {p : Int} : backAt rs p ↔ wordAt rs p = "back" := by
  unfold backAt wordAt
  constructor
  · rintro ⟨h1, h2, h3⟩
    rw [if_pos ⟨h1, h2⟩, h3]
  · intro h
    by_cases hp : 0 ≤ p ∧ p < rs.length
    · rw [if_pos hp] at h
      exact ⟨hp.1, hp.2, h⟩
    · rw [if_neg hp] at h
      exact absurd h (by decide)
theorem rowAt_get {rs : List Rw} {p : Int} (h : 0 ≤ p ∧ p < rs.length) : rs[p.toNat]? = some (rowAt rs p) := by
  have hl : p.toNat < rs.length := by omega
  rw [rowAt, List.getD_eq_getElem?_getD, List.getElem?_eq_getElem hl]
  rfl
theorem isLast_iff {rs : List Rw} {p : Int} (h : 0 ≤ p ∧ p < rs.length) : isLast rs p.toNat = true ↔ (rowAt rs p).1 = "call" ∧ backAt rs (p + 1) := by
  unfold isLast
  rw [rowAt_get h]
  have e : p.toNat + 1 = (p + 1).toNat := by omega
  by_cases h1 : p + 1 < rs.length
  · rw [e, rowAt_get (p := p + 1) ⟨by omega, h1⟩]
    simp only [Bool.and_eq_true, beq_iff_eq]
    constructor
    · rintro ⟨a, b⟩
      exact ⟨a, by omega, h1, b⟩
    · rintro ⟨a, _, _, b⟩
      exact ⟨a, b⟩
  · have : rs[p.toNat + 1]? = none := List.getElem?_eq_none (by omega)
    rw [this]
    simp only [Bool.and_false, Bool.false_eq_true, false_iff]
    rintro ⟨_, _, z, _⟩
    omega
theorem rowAt_turn {rs : List Rw} {p : Int} (h : 0 ≤ p ∧ p < rs.length) : rowAt (turnL rs) p = if isLast rs p.toNat then (("jump" : Str), (rowAt rs p).2) else rowAt rs p := by
  have h1 := turnL_get (rowAt_get h)
  have h2 := rowAt_get (rs := turnL rs) (p := p) (by rw [turnL_len]; exact h)
  rw [h1] at h2
  exact (Option.some.inj h2).symm
theorem stepQ_back {rs : List Rw} {ss : List Sp2} {most p : Int} {vs : List Int} {gs : List Fr} {b : Int} {kn : List Int} (h : backAt rs p) : stepQ rs ss most p vs gs b kn = backT vs gs b := by
  unfold stepQ
  rw [if_pos ⟨h.1, h.2.1⟩, h.2.2, step_back]
inductive Rl (rs : List Rw) : List Int → List Fr → Int → List Fr → Int → Prop
  | base {b : Int} : Rl rs [] [] b [] b
  | plain {L : List Int} {gs : List Fr} {b : Int} {gs' : List Fr} {b' : Int} {kn : List Int} {c : Int} (h : Rl rs L gs b gs' b') : Rl rs (L ++ [0]) (gs ++ [(b, kn)]) c (gs' ++ [(b', kn)]) c
  | turn {L : List Int} {gs : List Fr} {b : Int} {gs' : List Fr} {b' : Int} {kn : List Int} {c : Int} (h : Rl rs L gs b gs' b') (hc : backAt rs c) : Rl rs (L ++ [1]) (gs ++ [(b, kn)]) c gs' b'
theorem Rl.len {rs : List Rw} {L : List Int} {gs gs' : List Fr} {b b' : Int} (h : Rl rs L gs b gs' b') : (gs.length : Int) = gs'.length + L.sum ∧ 0 ≤ L.sum := by
  induction h with
  | base => simp
  | plain h ih => simp [List.sum_append]; omega
  | turn h hc ih => simp [List.sum_append]; omega
/-- one step of both -/
inductive Sy (rs : List Rw) (ss : List Sp2) (p : Int) (vs kn : List Int) : Prop
  | fin (oc : Oc) (ho : oc = .stuck ∨ oc = .nought) (h1 : ∀ most gs b, stepQ rs ss most p vs gs b kn = oc) (h2 : ∀ most gs b, stepQ (turnL rs) ss most p vs gs b kn = oc)
  | go (p1 : Int) (vs1 kn1 : List Int) (hc : wordAt rs p ≠ "call") (hb : wordAt rs p ≠ "back") (h1 : ∀ most gs b, stepQ rs ss most p vs gs b kn = .st p1 vs1 (gs ++ [(b, kn1)])) (h2 : ∀ most gs b, stepQ (turnL rs) ss most p vs gs b kn = .st p1 vs1 (gs ++ [(b, kn1)]))
  | call (p1 : Int) (vs1 kn1 : List Int) (hc : wordAt rs p = "call") (hb : ¬ backAt rs (p + 1)) (h1 : ∀ most gs b, stepQ rs ss most p vs gs b kn = if most ≤ (gs.length : Int) + 1 then .full else .st p1 vs1 (gs ++ [(b, kn)] ++ [(p + 1, kn1)])) (h2 : ∀ most gs b, stepQ (turnL rs) ss most p vs gs b kn = if most ≤ (gs.length : Int) + 1 then .full else .st p1 vs1 (gs ++ [(b, kn)] ++ [(p + 1, kn1)]))
  | turn (p1 : Int) (vs1 kn1 : List Int) (hc : wordAt rs p = "call") (hb : backAt rs (p + 1)) (hj : wordAt (turnL rs) p = "jump") (h1 : ∀ most gs b, stepQ rs ss most p vs gs b kn = if most ≤ (gs.length : Int) + 1 then .full else .st p1 vs1 (gs ++ [(b, kn)] ++ [(p + 1, kn1)])) (h2 : ∀ most gs b, stepQ (turnL rs) ss most p vs gs b kn = .st p1 vs1 (gs ++ [(b, kn1)]))
  | back (h1 : backAt rs p) (h2 : backAt (turnL rs) p)
theorem sync (rs : List Rw) (ss : List Sp2) (p : Int) (vs kn : List Int) : Sy rs ss p vs kn := by
  by_cases hp : 0 ≤ p ∧ p < rs.length
  · have hp' : 0 ≤ p ∧ p < (turnL rs).length := by rw [turnL_len]; exact hp
    have ew : wordAt rs p = (rowAt rs p).1 := by rw [wordAt, if_pos hp]
    have ew' : wordAt (turnL rs) p = (rowAt (turnL rs) p).1 := by rw [wordAt, if_pos hp']
    have q1 : ∀ most gs b, stepQ rs ss most p vs gs b kn = stepR (rowAt rs p).1 ((rowAt rs p).2.getD 0) ss most p vs gs b kn := fun most gs b => by rw [stepQ, if_pos hp]
    have q2 : ∀ most gs b, stepQ (turnL rs) ss most p vs gs b kn = stepR (rowAt (turnL rs) p).1 ((rowAt (turnL rs) p).2.getD 0) ss most p vs gs b kn := fun most gs b => by rw [stepQ, if_pos hp']
    have hi := isLast_iff hp
    have hr := rowAt_turn hp
    by_cases hl : isLast rs p.toNat = true
    · rw [if_pos hl] at hr
      obtain ⟨hc, hb⟩ := hi.mp hl
      rw [hr] at q2 ew'
      rw [hc] at q1 ew
      have q1' : ∀ most gs b, stepQ rs ss most p vs gs b kn = enterT "call" ((rowAt rs p).2.getD 0) ss most p vs gs b kn := fun most gs b => by rw [q1, stepR, if_pos (.inl rfl)]
      have q2' : ∀ most gs b, stepQ (turnL rs) ss most p vs gs b kn = enterT "jump" ((rowAt rs p).2.getD 0) ss most p vs gs b kn := fun most gs b => by rw [q2, stepR, if_pos (.inr rfl)]
      rcases enterT_par ((rowAt rs p).2.getD 0) ss vs with h | ⟨p1, vs1, kn1, h1, h2⟩
      · exact .fin .stuck (.inl rfl) (fun most gs b => by rw [q1', h]) (fun most gs b => by rw [q2', h])
      · exact .turn p1 vs1 kn1 ew hb ew' (fun most gs b => by rw [q1', h2]) (fun most gs b => by rw [q2', h1])
    · rw [if_neg hl] at hr
      rw [hr] at q2 ew'
      by_cases hc : (rowAt rs p).1 = "call"
      · have hb : ¬ backAt rs (p + 1) := fun z => hl (hi.mpr ⟨hc, z⟩)
        rw [hc] at q1 q2 ew
        have q1' : ∀ most gs b, stepQ rs ss most p vs gs b kn = enterT "call" ((rowAt rs p).2.getD 0) ss most p vs gs b kn := fun most gs b => by rw [q1, stepR, if_pos (.inl rfl)]
        have q2' : ∀ most gs b, stepQ (turnL rs) ss most p vs gs b kn = enterT "call" ((rowAt rs p).2.getD 0) ss most p vs gs b kn := fun most gs b => by rw [q2, stepR, if_pos (.inl rfl)]
        rcases enterT_par ((rowAt rs p).2.getD 0) ss vs with h | ⟨p1, vs1, kn1, h1, h2⟩
        · exact .fin .stuck (.inl rfl) (fun most gs b => by rw [q1', h]) (fun most gs b => by rw [q2', h])
        · exact .call p1 vs1 kn1 ew hb (fun most gs b => by rw [q1', h2]) (fun most gs b => by rw [q2', h2])
      · by_cases hb : (rowAt rs p).1 = "back"
        · exact .back ⟨hp.1, hp.2, hb⟩ ⟨hp'.1, hp'.2, by rw [hr]; exact hb⟩
        · have nc : wordAt rs p ≠ "call" := by rw [ew]; exact hc
          have nb : wordAt rs p ≠ "back" := by rw [ew]; exact hb
          by_cases hj : (rowAt rs p).1 = "jump"
          · rw [hj] at q1 q2
            have q1' : ∀ most gs b, stepQ rs ss most p vs gs b kn = enterT "jump" ((rowAt rs p).2.getD 0) ss most p vs gs b kn := fun most gs b => by rw [q1, stepR, if_pos (.inr rfl)]
            have q2' : ∀ most gs b, stepQ (turnL rs) ss most p vs gs b kn = enterT "jump" ((rowAt rs p).2.getD 0) ss most p vs gs b kn := fun most gs b => by rw [q2, stepR, if_pos (.inr rfl)]
            rcases enterT_par ((rowAt rs p).2.getD 0) ss vs with h | ⟨p1, vs1, kn1, h1, h2⟩
            · exact .fin .stuck (.inl rfl) (fun most gs b => by rw [q1', h]) (fun most gs b => by rw [q2', h])
            · exact .go p1 vs1 kn1 nc nb (fun most gs b => by rw [q1', h1]) (fun most gs b => by rw [q2', h1])
          · have hcj : ¬ ((rowAt rs p).1 = "call" ∨ (rowAt rs p).1 = "jump") := fun z => z.elim hc hj
            have q1' : ∀ most gs b, stepQ rs ss most p vs gs b kn = stepT (rowAt rs p).1 ((rowAt rs p).2.getD 0) p vs gs b kn := fun most gs b => by rw [q1, stepR, if_neg hcj, if_neg hb]
            have q2' : ∀ most gs b, stepQ (turnL rs) ss most p vs gs b kn = stepT (rowAt rs p).1 ((rowAt rs p).2.getD 0) p vs gs b kn := fun most gs b => by rw [q2, stepR, if_neg hcj, if_neg hb]
            rcases stepT_par (rowAt rs p).1 ((rowAt rs p).2.getD 0) p vs kn with ⟨oc, h, e⟩ | ⟨p1, vs1, kn1, e⟩
            · exact .fin oc h (fun most gs b => by rw [q1', e]) (fun most gs b => by rw [q2', e])
            · exact .go p1 vs1 kn1 nc nb (fun most gs b => by rw [q1', e]) (fun most gs b => by rw [q2', e])
  · have hp' : ¬ (0 ≤ p ∧ p < (turnL rs).length) := by rw [turnL_len]; exact hp
    exact .fin .stuck (.inl rfl) (fun most gs b => by rw [stepQ, if_neg hp]) (fun most gs b => by rw [stepQ, if_neg hp'])
/-- what is left of the marks -/
def lessS (rs : List Rw) (p : Int) (L : List Int) : Bool × List Int :=
  if wordAt rs p = "call" then (false, L ++ [if wordAt rs (p + 1) = "back" then 1 else 0])
  else if wordAt rs p = "back" ∧ L ≠ [] then (decide (L.getLastD 0 = 1), L.dropLast) else (false, L)
def lessM (rs : List Rw) : List Mk → Bool → List Int → List Mk
  | [], _, _ => []
  | m :: ms, beh, L => (if beh then [] else [(m.1, m.2.1 - L.sum, m.2.2)]) ++ lessM rs ms (lessS rs m.1 L).1 (lessS rs m.1 L).2
theorem lessS_else {rs : List Rw} {p : Int} {L : List Int} (h1 : wordAt rs p ≠ "call") (h2 : wordAt rs p ≠ "back") : lessS rs p L = (false, L) := by
  rw [lessS, if_neg h1, if_neg (fun z => h2 z.1)]
theorem lessS_call0 {rs : List Rw} {p : Int} {L : List Int} (h1 : wordAt rs p = "call") (h2 : ¬ backAt rs (p + 1)) : lessS rs p L = (false, L ++ [0]) := by
  rw [lessS, if_pos h1, if_neg (fun z => h2 (backAt_word.mpr z))]
theorem lessS_call1 {rs : List Rw} {p : Int} {L : List Int} (h1 : wordAt rs p = "call") (h2 : backAt rs (p + 1)) : lessS rs p L = (false, L ++ [1]) := by
  rw [lessS, if_pos h1, if_pos (backAt_word.mp h2)]
theorem lessS_back {rs : List Rw} {p x : Int} {L : List Int} (h : backAt rs p) : lessS rs p (L ++ [x]) = (decide (x = 1), L) := by
  have h := backAt_word.mp h
  rw [lessS, h, if_neg (by decide), if_pos ⟨rfl, by simp⟩, getLastD_snoc, List.dropLast_concat]
theorem mk_eq {p : Int} {vs : List Int} {gs gs' : List Fr} {b b' : Int} {kn kn' : List Int} {L : List Int} {rs : List Rw} (h : Rl rs L gs b gs' b') : ((mkOf (p, vs, gs ++ [(b, kn)])).1, (mkOf (p, vs, gs ++ [(b, kn)])).2.1 - L.sum, (mkOf (p, vs, gs ++ [(b, kn)])).2.2) = mkOf (p, vs, gs' ++ [(b', kn')]) := by
  have := h.len
  simp [mkOf]
  omega
theorem simA (rs : List Rw) (ss : List Sp2) (most : Int) : ∀ (n1 n2 : Nat) (L : List Int) (p : Int) (vs : List Int) (gs : List Fr) (b : Int) (gs' : List Fr) (b' : Int) (kn : List Int) (p' : Int) (kn' : List Int) (beh : Bool), Rl rs L gs b gs' b' → n1 ≤ n2 →
    ((beh = false ∧ p' = p ∧ kn' = kn) ∨ (beh = true ∧ backAt rs p ∧ backAt (turnL rs) p' ∧ n1 + 1 ≤ n2)) →
    lessM rs (runM rs ss most n1 (p, vs, gs ++ [(b, kn)])).2 beh L <+: (if beh then (runM (turnL rs) ss most n2 (p', vs, gs' ++ [(b', kn')])).2.tail else (runM (turnL rs) ss most n2 (p', vs, gs' ++ [(b', kn')])).2) ∧
    ∀ oc, (runM rs ss most n1 (p, vs, gs ++ [(b, kn)])).1 = some oc → oc ≠ .full → (runM (turnL rs) ss most n2 (p', vs, gs' ++ [(b', kn')])).1 = some oc ∧
      lessM rs (runM rs ss most n1 (p, vs, gs ++ [(b, kn)])).2 beh L = (if beh then (runM (turnL rs) ss most n2 (p', vs, gs' ++ [(b', kn')])).2.tail else (runM (turnL rs) ss most n2 (p', vs, gs' ++ [(b', kn')])).2) := by
  intro n1
  induction n1 with
  | zero =>
    intro n2 L p vs gs b gs' b' kn p' kn' beh hR hn hm
    refine ⟨?_, fun oc h => by cases h⟩
    show [] <+: _
    exact List.nil_prefix
  | succ m ih =>
    intro n2 L p vs gs b gs' b' kn p' kn' beh hR hn hm
    obtain ⟨k, rfl⟩ : ∃ k, n2 = k + 1 := ⟨n2 - 1, by omega⟩
    have f1 : ∀ {oc}, stepQ rs ss most p vs gs b kn = oc → stepF rs ss most (p, vs, gs ++ [(b, kn)]) = oc := fun h => by rw [stepF_snoc, h]
    have f2 : ∀ {oc}, stepQ (turnL rs) ss most p' vs gs' b' kn' = oc → stepF (turnL rs) ss most (p', vs, gs' ++ [(b', kn')]) = oc := fun h => by rw [stepF_snoc, h]
    -- the head of the turned code's marks
    have head : ∀ n, ∃ T, (runM (turnL rs) ss most (n + 1) (p', vs, gs' ++ [(b', kn')])).2 = mkOf (p', vs, gs' ++ [(b', kn')]) :: T := fun n => by
      cases h : stepF (turnL rs) ss most (p', vs, gs' ++ [(b', kn')]) with
      | st q ws fs => rw [runM_st h]; exact ⟨_, rfl⟩
      | stuck => rw [runM_end h rfl]; exact ⟨_, rfl⟩
      | nought => rw [runM_end h rfl]; exact ⟨_, rfl⟩
      | full => rw [runM_end h rfl]; exact ⟨_, rfl⟩
      | value v => rw [runM_end h rfl]; exact ⟨_, rfl⟩
    rcases hm with ⟨rfl, rfl, rfl⟩ | ⟨rfl, hb, hb', hn'⟩
    · have me := mk_eq (p := p') (vs := vs) (kn := kn') (kn' := kn') hR
      -- an end of both
      have fin' : ∀ oc : Oc, oc.isEnd = true → stepQ rs ss most p' vs gs b kn' = oc → stepQ (turnL rs) ss most p' vs gs' b' kn' = oc → lessM rs (runM rs ss most (m + 1) (p', vs, gs ++ [(b, kn')])).2 false L <+: (runM (turnL rs) ss most (k + 1) (p', vs, gs' ++ [(b', kn')])).2 ∧
          ∀ oc, (runM rs ss most (m + 1) (p', vs, gs ++ [(b, kn')])).1 = some oc → oc ≠ .full → (runM (turnL rs) ss most (k + 1) (p', vs, gs' ++ [(b', kn')])).1 = some oc ∧ lessM rs (runM rs ss most (m + 1) (p', vs, gs ++ [(b, kn')])).2 false L = (runM (turnL rs) ss most (k + 1) (p', vs, gs' ++ [(b', kn')])).2 := fun oc he e1 e2 => by
        rw [runM_end (f1 e1) he, runM_end (f2 e2) he]
        have : lessM rs [mkOf (p', vs, gs ++ [(b, kn')])] false L = [mkOf (p', vs, gs' ++ [(b', kn')])] := by
          rw [lessM, lessM, me]; rfl
        exact ⟨by rw [this]; exact List.prefix_refl _, fun oc' h _ => ⟨h, this⟩⟩
      have full' : stepQ rs ss most p' vs gs b kn' = .full → lessM rs (runM rs ss most (m + 1) (p', vs, gs ++ [(b, kn')])).2 false L <+: (runM (turnL rs) ss most (k + 1) (p', vs, gs' ++ [(b', kn')])).2 ∧
          ∀ oc, (runM rs ss most (m + 1) (p', vs, gs ++ [(b, kn')])).1 = some oc → oc ≠ .full → (runM (turnL rs) ss most (k + 1) (p', vs, gs' ++ [(b', kn')])).1 = some oc ∧ lessM rs (runM rs ss most (m + 1) (p', vs, gs ++ [(b, kn')])).2 false L = (runM (turnL rs) ss most (k + 1) (p', vs, gs' ++ [(b', kn')])).2 := fun e1 => by
        rw [runM_end (f1 e1) rfl]
        have : lessM rs [mkOf (p', vs, gs ++ [(b, kn')])] false L = [mkOf (p', vs, gs' ++ [(b', kn')])] := by
          rw [lessM, lessM, me]; rfl
        obtain ⟨T, hT⟩ := head k
        refine ⟨by rw [this, hT]; exact ⟨T, rfl⟩, fun oc' h hne => ?_⟩
        have h : some Oc.full = some oc' := h
        cases h
        exact absurd rfl hne
      -- both go on
      have step' : ∀ (p1 : Int) (vs1 : List Int) (hs : List Fr) (c : Int) (kn1 : List Int) (hs' : List Fr) (c' : Int) (L1 : List Int), stepQ rs ss most p' vs gs b kn' = .st p1 vs1 (hs ++ [(c, kn1)]) → stepQ (turnL rs) ss most p' vs gs' b' kn' = .st p1 vs1 (hs' ++ [(c', kn1)]) → lessS rs p' L = (false, L1) → Rl rs L1 hs c hs' c' →
          lessM rs (runM rs ss most (m + 1) (p', vs, gs ++ [(b, kn')])).2 false L <+: (runM (turnL rs) ss most (k + 1) (p', vs, gs' ++ [(b', kn')])).2 ∧
          ∀ oc, (runM rs ss most (m + 1) (p', vs, gs ++ [(b, kn')])).1 = some oc → oc ≠ .full → (runM (turnL rs) ss most (k + 1) (p', vs, gs' ++ [(b', kn')])).1 = some oc ∧ lessM rs (runM rs ss most (m + 1) (p', vs, gs ++ [(b, kn')])).2 false L = (runM (turnL rs) ss most (k + 1) (p', vs, gs' ++ [(b', kn')])).2 := fun p1 vs1 hs c kn1 hs' c' L1 e1 e2 eL hR1 => by
        rw [runM_st (f1 e1), runM_st (f2 e2)]
        obtain ⟨g1, g2⟩ := ih k L1 p1 vs1 hs c hs' c' kn1 p1 kn1 false hR1 (by omega) (.inl ⟨rfl, rfl, rfl⟩)
        have e : ∀ M, lessM rs (mkOf (p', vs, gs ++ [(b, kn')]) :: M) false L = mkOf (p', vs, gs' ++ [(b', kn')]) :: lessM rs M false L1 := fun M => by
          rw [lessM, me]
          have : (mkOf (p', vs, gs ++ [(b, kn')])).1 = p' := rfl
          rw [this, eL]; rfl
        refine ⟨?_, fun oc h hne => ?_⟩
        · show lessM rs (_ :: _) false L <+: _ :: _
          rw [e]
          exact (List.prefix_cons_inj _).mpr g1
        · obtain ⟨z1, z2⟩ := g2 oc h hne
          refine ⟨z1, ?_⟩
          show lessM rs (_ :: _) false L = _ :: _
          rw [e]
          exact congrArg _ z2
      cases sync rs ss p' vs kn' with
      | fin oc ho h1 h2 => exact fin' oc (by rcases ho with rfl | rfl <;> rfl) (h1 _ _ _) (h2 _ _ _)
      | go p1 vs1 kn1 hc hb h1 h2 => exact step' p1 vs1 gs b kn1 gs' b' L (h1 _ _ _) (h2 _ _ _) (lessS_else hc hb) hR
      | call p1 vs1 kn1 hc hb h1 h2 =>
        by_cases hf : most ≤ (gs.length : Int) + 1
        · exact full' (by rw [h1, if_pos hf])
        · have := hR.len
          exact step' p1 vs1 (gs ++ [(b, kn')]) (p' + 1) kn1 (gs' ++ [(b', kn')]) (p' + 1) (L ++ [0]) (by rw [h1, if_neg hf]) (by rw [h2, if_neg (by omega)]) (lessS_call0 hc hb) (.plain hR)
      | turn p1 vs1 kn1 hc hb hj h1 h2 =>
        by_cases hf : most ≤ (gs.length : Int) + 1
        · exact full' (by rw [h1, if_pos hf])
        · exact step' p1 vs1 (gs ++ [(b, kn')]) (p' + 1) kn1 gs' b' (L ++ [1]) (by rw [h1, if_neg hf]) (h2 _ _ _) (lessS_call1 hc hb) (.turn hR hb)
      | back h1 h2 =>
        have s1 : ∀ gs b, stepQ rs ss most p' vs gs b kn' = backT vs gs b := fun gs b => stepQ_back h1
        have s2 : ∀ gs b, stepQ (turnL rs) ss most p' vs gs b kn' = backT vs gs b := fun gs b => stepQ_back h2
        cases hR with
        | base =>
          rcases Classical.em (vs = []) with hv | hv
          · exact fin' .stuck rfl (by rw [s1, backT, if_pos rfl, if_pos hv]) (by rw [s2, backT, if_pos rfl, if_pos hv])
          · exact fin' (.value (vs.getLastD 0)) rfl (by rw [s1, backT, if_pos rfl, if_neg hv]) (by rw [s2, backT, if_pos rfl, if_neg hv])
        | @plain L0 g c g' c' kk _ hR0 =>
          exact step' b vs g c kk g' c' L0 (by rw [s1, backT, if_neg (by simp)]) (by rw [s2, backT, if_neg (by simp)]) (by rw [lessS_back h1]; rfl) hR0
        | @turn L0 g c g' c' kk _ hR0 hbc =>
          have e1 : stepQ rs ss most p' vs (g ++ [(c, kk)]) b kn' = .st b vs (g ++ [(c, kk)]) := by rw [s1, backT, if_neg (by simp)]
          rw [runM_st (f1 e1)]
          obtain ⟨g1, g2⟩ := ih (k + 1) L0 b vs g c gs' b' kk p' kn' true hR0 (by omega) (.inr ⟨rfl, hbc, h2, by omega⟩)
          have e : ∀ M, lessM rs (mkOf (p', vs, (g ++ [(c, kk)]) ++ [(b, kn')]) :: M) false (L0 ++ [1]) = mkOf (p', vs, gs' ++ [(b', kn')]) :: lessM rs M true L0 := fun M => by
            rw [lessM, me]
            have : (mkOf (p', vs, (g ++ [(c, kk)]) ++ [(b, kn')])).1 = p' := rfl
            rw [this, lessS_back h1]; rfl
          obtain ⟨T, hT⟩ := head k
          rw [if_pos rfl, hT] at g1 g2
          refine ⟨?_, fun oc h hne => ?_⟩
          · show lessM rs (_ :: _) false _ <+: _
            rw [e, if_neg (by decide), hT]
            exact (List.prefix_cons_inj _).mpr g1
          · obtain ⟨z1, z2⟩ := g2 oc h hne
            refine ⟨z1, ?_⟩
            show lessM rs (_ :: _) false _ = _
            rw [e, if_neg (by decide), hT]
            exact congrArg _ z2
    · have s1 : ∀ gs b, stepQ rs ss most p vs gs b kn = backT vs gs b := fun gs b => stepQ_back hb
      have s2 : ∀ gs b, stepQ (turnL rs) ss most p' vs gs b kn' = backT vs gs b := fun gs b => stepQ_back hb'
      cases hR with
      | base =>
        have fin' : ∀ oc : Oc, oc.isEnd = true → backT vs [] b = oc → lessM rs (runM rs ss most (m + 1) (p, vs, [] ++ [(b, kn)])).2 true [] <+: (runM (turnL rs) ss most (k + 1) (p', vs, [] ++ [(b, kn')])).2.tail ∧
            ∀ oc, (runM rs ss most (m + 1) (p, vs, [] ++ [(b, kn)])).1 = some oc → oc ≠ .full → (runM (turnL rs) ss most (k + 1) (p', vs, [] ++ [(b, kn')])).1 = some oc ∧ lessM rs (runM rs ss most (m + 1) (p, vs, [] ++ [(b, kn)])).2 true [] = (runM (turnL rs) ss most (k + 1) (p', vs, [] ++ [(b, kn')])).2.tail := fun oc he e => by
          rw [runM_end (f1 ((s1 _ _).trans e)) he, runM_end (f2 ((s2 _ _).trans e)) he]
          have : lessM rs [mkOf (p, vs, [] ++ [(b, kn)])] true [] = [] := by rw [lessM, lessM]; rfl
          exact ⟨by rw [this]; exact List.nil_prefix, fun oc' h _ => ⟨h, this⟩⟩
        rcases Classical.em (vs = []) with hv | hv
        · exact fin' .stuck rfl (by rw [backT, if_pos rfl, if_pos hv])
        · exact fin' (.value (vs.getLastD 0)) rfl (by rw [backT, if_pos rfl, if_neg hv])
      | @plain L0 g c g' c' kk _ hR0 =>
        have e1 : stepQ rs ss most p vs (g ++ [(c, kk)]) b kn = .st b vs (g ++ [(c, kk)]) := by rw [s1, backT, if_neg (by simp)]
        have e2 : stepQ (turnL rs) ss most p' vs (g' ++ [(c', kk)]) b kn' = .st b vs (g' ++ [(c', kk)]) := by rw [s2, backT, if_neg (by simp)]
        rw [runM_st (f1 e1), runM_st (f2 e2)]
        obtain ⟨g1, g2⟩ := ih k L0 b vs g c g' c' kk b kk false hR0 (by omega) (.inl ⟨rfl, rfl, rfl⟩)
        have e : ∀ M, lessM rs (mkOf (p, vs, (g ++ [(c, kk)]) ++ [(b, kn)]) :: M) true (L0 ++ [0]) = lessM rs M false L0 := fun M => by
          rw [lessM]
          have : (mkOf (p, vs, (g ++ [(c, kk)]) ++ [(b, kn)])).1 = p := rfl
          rw [this, lessS_back hb]; rfl
        refine ⟨?_, fun oc h hne => ?_⟩
        · show lessM rs (_ :: _) true _ <+: _
          rw [e]
          exact g1
        · obtain ⟨z1, z2⟩ := g2 oc h hne
          refine ⟨z1, ?_⟩
          show lessM rs (_ :: _) true _ = _
          rw [e]
          exact z2
      | @turn L0 g c g' c' kk _ hR0 hbc =>
        have e1 : stepQ rs ss most p vs (g ++ [(c, kk)]) b kn = .st b vs (g ++ [(c, kk)]) := by rw [s1, backT, if_neg (by simp)]
        rw [runM_st (f1 e1)]
        obtain ⟨g1, g2⟩ := ih (k + 1) L0 b vs g c gs' b' kk p' kn' true hR0 (by omega) (.inr ⟨rfl, hbc, hb', by omega⟩)
        have e : ∀ M, lessM rs (mkOf (p, vs, (g ++ [(c, kk)]) ++ [(b, kn)]) :: M) true (L0 ++ [1]) = lessM rs M true L0 := fun M => by
          rw [lessM]
          have : (mkOf (p, vs, (g ++ [(c, kk)]) ++ [(b, kn)])).1 = p := rfl
          rw [this, lessS_back hb]; rfl
        refine ⟨?_, fun oc h hne => ?_⟩
        · show lessM rs (_ :: _) true _ <+: _
          rw [e]
          exact g1
        · obtain ⟨z1, z2⟩ := g2 oc h hne
          refine ⟨z1, ?_⟩
          show lessM rs (_ :: _) true _ = _
          rw [e]
          exact z2
/-- the jump rows that were begun -/
def jumpsM (rs : List Rw) (ms : List Mk) : Nat := ms.countP fun m => decide (wordAt rs m.1 = "jump")
theorem simB (rs : List Rw) (ss : List Sp2) (most : Int) : ∀ (n n1 : Nat) (L : List Int) (most1 p : Int) (vs : List Int) (gs : List Fr) (b : Int) (gs' : List Fr) (b' : Int) (kn : List Int) (p' : Int) (kn' : List Int), Rl rs L gs b gs' b' →
    ((p' = p ∧ kn' = kn) ∨ (backAt rs p ∧ backAt (turnL rs) p')) → (gs'.length : Int) + 1 ≤ most → ∀ oc, (runM (turnL rs) ss most n (p', vs, gs' ++ [(b', kn')])).1 = some oc → oc ≠ .full →
    (n : Int) + L.sum + jumpsM (turnL rs) (runM (turnL rs) ss most n (p', vs, gs' ++ [(b', kn')])).2 ≤ n1 → most + L.sum + jumpsM (turnL rs) (runM (turnL rs) ss most n (p', vs, gs' ++ [(b', kn')])).2 ≤ most1 →
    (runM rs ss most1 n1 (p, vs, gs ++ [(b, kn)])).1 = some oc := by
  intro n
  induction n with
  | zero => intro n1 L most1 p vs gs b gs' b' kn p' kn' hR hm hf oc h; cases h
  | succ n ih =>
    -- both at back rows
    have back : ∀ (L : List Int) (gs : List Fr) (b : Int) (gs' : List Fr) (b' : Int), Rl rs L gs b gs' b' → ∀ (n1 : Nat) (most1 p : Int) (vs : List Int) (kn : List Int) (p' : Int) (kn' : List Int), backAt rs p → backAt (turnL rs) p' → (gs'.length : Int) + 1 ≤ most → ∀ oc, (runM (turnL rs) ss most (n + 1) (p', vs, gs' ++ [(b', kn')])).1 = some oc → oc ≠ .full →
        ((n + 1 : Nat) : Int) + L.sum + jumpsM (turnL rs) (runM (turnL rs) ss most (n + 1) (p', vs, gs' ++ [(b', kn')])).2 ≤ n1 → most + L.sum + jumpsM (turnL rs) (runM (turnL rs) ss most (n + 1) (p', vs, gs' ++ [(b', kn')])).2 ≤ most1 →
        (runM rs ss most1 n1 (p, vs, gs ++ [(b, kn)])).1 = some oc := by
      intro L gs b gs' b' hR
      induction hR with
      | @base b =>
        intro n1 most1 p vs kn p' kn' hb hb' hf oc h hne c1 c2
        rw [List.sum_nil] at c1
        obtain ⟨k, rfl⟩ : ∃ k, n1 = k + 1 := ⟨n1 - 1, by omega⟩
        have f1 : stepF rs ss most1 (p, vs, [] ++ [(b, kn)]) = backT vs [] b := by rw [stepF_snoc, stepQ_back hb]
        have f2 : stepF (turnL rs) ss most (p', vs, [] ++ [(b, kn')]) = backT vs [] b := by rw [stepF_snoc, stepQ_back hb']
        have he : (backT vs [] b).isEnd = true := by rw [backT, if_pos rfl]; split <;> rfl
        rw [runM_end f2 he] at h
        rw [runM_end f1 he]
        exact h
      | @plain L0 g c g' c' kk b hR0 ih0 =>
        intro n1 most1 p vs kn p' kn' hb hb' hf oc h hne c1 c2
        have hl := hR0.len
        have f1 : stepF rs ss most1 (p, vs, (g ++ [(c, kk)]) ++ [(b, kn)]) = .st b vs (g ++ [(c, kk)]) := by rw [stepF_snoc, stepQ_back hb, backT, if_neg (by simp)]
        have f2 : stepF (turnL rs) ss most (p', vs, (g' ++ [(c', kk)]) ++ [(b, kn')]) = .st b vs (g' ++ [(c', kk)]) := by rw [stepF_snoc, stepQ_back hb', backT, if_neg (by simp)]
        rw [runM_st f2] at h c1 c2
        obtain ⟨k, rfl⟩ : ∃ k, n1 = k + 1 := ⟨n1 - 1, by simp [List.sum_append] at c1; omega⟩
        rw [runM_st f1]
        have hj : jumpsM (turnL rs) (mkOf (p', vs, (g' ++ [(c', kk)]) ++ [(b, kn')]) :: (runM (turnL rs) ss most n (b, vs, g' ++ [(c', kk)])).2) = jumpsM (turnL rs) (runM (turnL rs) ss most n (b, vs, g' ++ [(c', kk)])).2 := by
          have hw : wordAt (turnL rs) p' = "back" := backAt_word.mp hb'
          have : (mkOf (p', vs, (g' ++ [(c', kk)]) ++ [(b, kn')])).1 = p' := rfl
          rw [jumpsM, List.countP_cons, this, hw, if_neg (by decide)]
          rfl
        have c1 : ((n + 1 : Nat) : Int) + (L0 ++ [0]).sum + jumpsM (turnL rs) (mkOf (p', vs, (g' ++ [(c', kk)]) ++ [(b, kn')]) :: (runM (turnL rs) ss most n (b, vs, g' ++ [(c', kk)])).2) ≤ ((k + 1 : Nat) : Int) := c1
        have c2 : most + (L0 ++ [0]).sum + jumpsM (turnL rs) (mkOf (p', vs, (g' ++ [(c', kk)]) ++ [(b, kn')]) :: (runM (turnL rs) ss most n (b, vs, g' ++ [(c', kk)])).2) ≤ most1 := c2
        rw [hj, List.sum_append] at c1 c2
        have e0 : ([0] : List Int).sum = 0 := rfl
        rw [e0] at c1 c2
        exact ih k L0 most1 b vs g c g' c' kk b kk hR0 (.inl ⟨rfl, rfl⟩) (by simp at hf; omega) oc h hne (by omega) (by omega)
      | @turn L0 g c g' c' kk b hR0 hbc ih0 =>
        intro n1 most1 p vs kn p' kn' hb hb' hf oc h hne c1 c2
        have hl := hR0.len
        have e0 : (L0 ++ [1]).sum = L0.sum + 1 := by rw [List.sum_append]; rfl
        rw [e0] at c1 c2
        have f1 : stepF rs ss most1 (p, vs, (g ++ [(c, kk)]) ++ [(b, kn)]) = .st b vs (g ++ [(c, kk)]) := by rw [stepF_snoc, stepQ_back hb, backT, if_neg (by simp)]
        obtain ⟨k, rfl⟩ : ∃ k, n1 = k + 1 := ⟨n1 - 1, by omega⟩
        rw [runM_st f1]
        exact ih0 k most1 b vs kk p' kn' hbc hb' hf oc h hne (by omega) (by omega)
    intro n1 L most1 p vs gs b gs' b' kn p' kn' hR hm hf oc h hne c1 c2
    rcases hm with ⟨rfl, rfl⟩ | ⟨hb, hb'⟩
    · have hl := hR.len
      obtain ⟨k, rfl⟩ : ∃ k, n1 = k + 1 := ⟨n1 - 1, by omega⟩
      have f1 : ∀ {oc}, stepQ rs ss most1 p' vs gs b kn' = oc → stepF rs ss most1 (p', vs, gs ++ [(b, kn')]) = oc := fun h => by rw [stepF_snoc, h]
      have f2 : ∀ {oc}, stepQ (turnL rs) ss most p' vs gs' b' kn' = oc → stepF (turnL rs) ss most (p', vs, gs' ++ [(b', kn')]) = oc := fun h => by rw [stepF_snoc, h]
      have jc : ∀ M, (jumpsM (turnL rs) (mkOf (p', vs, gs' ++ [(b', kn')]) :: M) : Int) = jumpsM (turnL rs) M + (if wordAt (turnL rs) p' = "jump" then 1 else 0) := fun M => by
        have : (mkOf (p', vs, gs' ++ [(b', kn')])).1 = p' := rfl
        rw [jumpsM, List.countP_cons, this]
        by_cases hw : wordAt (turnL rs) p' = "jump"
        · rw [if_pos (decide_eq_true hw), if_pos hw]; simp [jumpsM]
        · rw [if_neg (by rw [decide_eq_false hw]; decide), if_neg hw]; simp [jumpsM]
      have j01 : (0 : Int) ≤ (if wordAt (turnL rs) p' = "jump" then 1 else 0) := by split <;> decide
      have step' : ∀ (p1 : Int) (vs1 : List Int) (hs : List Fr) (c : Int) (kn1 : List Int) (hs' : List Fr) (c' : Int) (L1 : List Int), stepQ rs ss most1 p' vs gs b kn' = .st p1 vs1 (hs ++ [(c, kn1)]) → stepQ (turnL rs) ss most p' vs gs' b' kn' = .st p1 vs1 (hs' ++ [(c', kn1)]) → Rl rs L1 hs c hs' c' → L1.sum ≤ L.sum + (if wordAt (turnL rs) p' = "jump" then 1 else 0) → (hs'.length : Int) + 1 ≤ most →
          (runM rs ss most1 (k + 1) (p', vs, gs ++ [(b, kn')])).1 = some oc := fun p1 vs1 hs c kn1 hs' c' L1 e1 e2 hR1 hL hf1 => by
        rw [runM_st (f2 e2)] at h c1 c2
        rw [runM_st (f1 e1)]
        have c1 : ((n + 1 : Nat) : Int) + L.sum + jumpsM (turnL rs) (mkOf (p', vs, gs' ++ [(b', kn')]) :: (runM (turnL rs) ss most n (p1, vs1, hs' ++ [(c', kn1)])).2) ≤ ((k + 1 : Nat) : Int) := c1
        have c2 : most + L.sum + jumpsM (turnL rs) (mkOf (p', vs, gs' ++ [(b', kn')]) :: (runM (turnL rs) ss most n (p1, vs1, hs' ++ [(c', kn1)])).2) ≤ most1 := c2
        rw [jc] at c1 c2
        exact ih k L1 most1 p1 vs1 hs c hs' c' kn1 p1 kn1 hR1 (.inl ⟨rfl, rfl⟩) hf1 oc h hne (by omega) (by omega)
      cases sync rs ss p' vs kn' with
      | fin oc' ho h1 h2 =>
        have he : oc'.isEnd = true := by rcases ho with rfl | rfl <;> rfl
        rw [runM_end (f2 (h2 _ _ _)) he] at h
        rw [runM_end (f1 (h1 _ _ _)) he]
        exact h
      | go p1 vs1 kn1 hc hb h1 h2 => exact step' p1 vs1 gs b kn1 gs' b' L (h1 _ _ _) (h2 _ _ _) hR (by omega) hf
      | call p1 vs1 kn1 hc hb h1 h2 =>
        by_cases hfu : most ≤ (gs'.length : Int) + 1
        · rw [runM_end (f2 (by rw [h2, if_pos hfu])) rfl] at h
          have h : some Oc.full = some oc := h
          cases h
          exact absurd rfl hne
        · have hj0 : (0 : Int) ≤ jumpsM (turnL rs) (runM (turnL rs) ss most (n + 1) (p', vs, gs' ++ [(b', kn')])).2 := by omega
          exact step' p1 vs1 (gs ++ [(b, kn')]) (p' + 1) kn1 (gs' ++ [(b', kn')]) (p' + 1) (L ++ [0]) (by rw [h1, if_neg (by omega)]) (by rw [h2, if_neg hfu]) (.plain hR) (by rw [List.sum_append]; show L.sum + 0 ≤ _; omega) (by simp; omega)
      | turn p1 vs1 kn1 hc hb hj h1 h2 =>
        have e2 := h2 most gs' b'
        have c2' := c2
        rw [runM_st (f2 e2)] at c2'
        have c2' : most + L.sum + jumpsM (turnL rs) (mkOf (p', vs, gs' ++ [(b', kn')]) :: (runM (turnL rs) ss most n (p1, vs1, gs' ++ [(b', kn1)])).2) ≤ most1 := c2'
        rw [jc, if_pos hj] at c2'
        exact step' p1 vs1 (gs ++ [(b, kn')]) (p' + 1) kn1 gs' b' (L ++ [1]) (by rw [h1, if_neg (by omega)]) e2 (.turn hR hb) (by rw [List.sum_append, if_pos hj]; show L.sum + 1 ≤ _; omega) hf
      | back h1 h2 => exact back L gs b gs' b' hR (k + 1) most1 p' vs kn' p' kn' h1 h2 hf oc h hne c1 c2
    · exact back L gs b gs' b' hR n1 most1 p vs kn p' kn' hb hb' hf oc h hne c1 c2
/-- a jump row leaves as many frames as there were -/
theorem jump_keeps (rs : List Rw) (ss : List Sp2) (most : Int) : ∀ (n : Nat) (s : St3) (i : Nat) (m m' : Mk), s.2.2 ≠ [] → (runM rs ss most n s).2[i]? = some m → (runM rs ss most n s).2[i + 1]? = some m' → wordAt rs m.1 = "jump" → m'.2.1 = m.2.1 := by
  have hd : ∀ (n : Nat) (s : St3) (m : Mk), (runM rs ss most n s).2[0]? = some m → m = mkOf s := fun n s m h => by
    cases n with
    | zero => cases h
    | succ n =>
      cases e : stepF rs ss most s with
      | st q ws fs => rw [runM_st e] at h; exact (Option.some.inj h).symm
      | stuck => rw [runM_end e rfl] at h; exact (Option.some.inj h).symm
      | nought => rw [runM_end e rfl] at h; exact (Option.some.inj h).symm
      | full => rw [runM_end e rfl] at h; exact (Option.some.inj h).symm
      | value v => rw [runM_end e rfl] at h; exact (Option.some.inj h).symm
  have no1 : ∀ {s : St3} {oc : Oc} {i : Nat} {m' : Mk}, (some oc, [mkOf s]).2[i + 1]? = some m' → False := fun {s oc i m'} h => by cases h
  intro n
  induction n with
  | zero => intro s i m m' _ h; cases h
  | succ n ih =>
    intro s i m m' hne h1 h2 hw
    cases e : stepF rs ss most s with
    | st q ws fs =>
      rw [runM_st e] at h1 h2
      have fsne : fs ≠ [] ∧ (i = 0 → fs.length = s.2.2.length) := by
        obtain ⟨p, vs, fs0⟩ := s
        rcases snoc_cases fs0 with rfl | ⟨gs, ⟨b, kn⟩, rfl⟩
        · exact absurd rfl hne
        · rw [stepF_snoc] at e
          have ew : i = 0 → wordAt rs p = "jump" := fun hi => by
            subst hi
            have : mkOf (p, vs, gs ++ [(b, kn)]) = m := Option.some.inj h1
            subst this
            exact hw
          unfold stepQ at e
          split at e
          · rename_i hp
            have ew2 : i = 0 → (rowAt rs p).1 = "jump" := fun hi => by
              have := ew hi
              rwa [wordAt, if_pos hp] at this
            unfold stepR at e
            split at e
            · rename_i hc
              rcases enterT_par ((rowAt rs p).2.getD 0) ss vs with h | ⟨p1, vs1, kn1, g1, g2⟩
              · rw [h] at e; cases e
              · rcases hc with hc | hc
                · rw [hc, g2] at e
                  split at e
                  · cases e
                  · cases e
                    refine ⟨by simp, fun hi => ?_⟩
                    have := ew2 hi
                    rw [hc] at this
                    exact absurd this (by decide)
                · rw [hc, g1] at e
                  cases e
                  exact ⟨by simp, fun _ => by simp⟩
            · rename_i hc
              refine ⟨?_, fun hi => absurd (ew2 hi) fun z => hc (.inr z)⟩
              split at e
              · unfold backT at e
                split at e
                · split at e <;> cases e
                · rename_i hg
                  cases e
                  exact hg
              · rcases stepT_par (rowAt rs p).1 ((rowAt rs p).2.getD 0) p vs kn with ⟨oc, h, g⟩ | ⟨p1, vs1, kn1, g⟩
                · rw [g] at e
                  rcases h with rfl | rfl <;> cases e
                · rw [g] at e
                  cases e
                  simp
          · cases e
      cases i with
      | zero =>
        have a1 : mkOf s = m := Option.some.inj h1
        have a2 := hd n _ _ h2
        subst a1 a2
        show (fs.length : Int) = (s.2.2.length : Int)
        rw [fsne.2 rfl]
      | succ i => exact ih _ i m m' fsne.1 h1 h2 hw
    | stuck => rw [runM_end e rfl] at h2; exact (no1 h2).elim
    | nought => rw [runM_end e rfl] at h2; exact (no1 h2).elim
    | full => rw [runM_end e rfl] at h2; exact (no1 h2).elim
    | value v => rw [runM_end e rfl] at h2; exact (no1 h2).elim
end Tr
namespace Tr
open PySem L2
/-! ### small things -/
theorem de_cast {X : Cx} {Δ Δ1 : En} {a : Expr} {x y : PyData} (e : x = y) (h : DEx X Δ a (.d x) Δ1) : DEx X Δ a (.d y) Δ1 := e ▸ h
theorem de_castB {X : Cx} {Δ Δ1 : En} {a : Expr} {k l : Bool} (e : k = l) (h : DEx X Δ a (.d (.bool k)) Δ1) : DEx X Δ a (.d (.bool l)) Δ1 := e ▸ h
theorem dt_cast {X : Cx} {Δ Δ1 : En} {a : Expr} {k l : Bool} (e : k = l) (h : DTx X Δ a k Δ1) : DTx X Δ a l Δ1 := e ▸ h
theorem dt_castW {X : Cx} {Δ Δ1 : En} {a : Expr} {k l : Bool} (e : k = l) (h : DWx X Δ a k Δ1) : DWx X Δ a l Δ1 := e ▸ h
/-- and, whose second part fails -/
theorem dw_andF {X : Cx} {Δ : En} {a b : Expr} {es : List Expr} {k : Bool} {pos : Pos} (h : DTx X Δ a k Δ) (hb : k = true → DWx X Δ (.BoolOp .And (b :: es) pos) false Δ) : DWx X Δ (.BoolOp .And (a :: b :: es) pos) false Δ := by
  have z := dw_and (l := false) h hb
  rw [Bool.and_false] at z
  exact z
theorem eqv_word (v u : Str) : PyData.eqv (.tuple [.str v]) (.tuple [.str u]) = decide (v = u) := by
  simp only [PyData.eqv, PyData.eqvAll, Bool.and_true]
  by_cases h : v = u
  · subst h; simp
  · rw [decide_eq_false h]; exact beq_eq_false_iff_ne.mpr h
/-! a statement while something is held apart -/
theorem dz_then {X : Cx} {W : WX} {Δ Δ1 : En} {st : Stmt} {rest : List Stmt} {o : Out} {a : Addr} {v1 v2 : V} {t1 t2 : Tm} (h : DS1 X W Δ st (.nx Δ1)) (hr : DZ X W a v1 v2 t1 t2 Δ1 rest o) : DZ X W a v1 v2 t1 t2 Δ (st :: rest) o := pss_imp (pss_cons h hr) fun D σ H ⟨B0, B, F, tk, ok, q⟩ => ⟨B, F, ok, fun σ' F' H' ok' ex kp => ⟨B0, B, F', tk.mono ex, ok', q.step ex kp⟩⟩
theorem gz_then {ι : Type} {XS : ι → Cx} {WS : ι → WX} {P : Out → Prop} {Δ Δ1 : En} {st : Stmt} {rest : List Stmt} {t1 t2 : Tm} (i : Nat) (Δa Δb : Addr → En) (ha : ∀ a, Δ.set i (.v (.ref a)) = Δa a) (hb : ∀ a, Δ1.set i (.v (.ref a)) = Δb a) (h : ∀ q a, DS1 (XS q) (WS q) (Δa a) st (.nx (Δb a))) (hr : GoZ XS WS t1 t2 i Δ1 rest P) : GoZ XS WS t1 t2 i Δ (st :: rest) P := let ⟨o, hp, k⟩ := hr; ⟨o, hp, fun q a v1 v2 => by
  have h1 := h q a
  rw [← ha, ← hb] at h1
  exact dz_then h1 (k q a v1 v2)⟩
def endE : Option Oc → Bool
  | none => true
  | some oc => oc.isEnd
theorem end_shape {oc : Oc} (h : oc.isEnd = true) : (∃ v, encO oc = .tuple [.str v]) ∨ ∃ v n, encO oc = .tuple [.str v, .int n] := by
  cases oc with
  | st p vs fs => cases h
  | stuck => exact .inl ⟨_, rfl⟩
  | nought => exact .inl ⟨_, rfl⟩
  | full => exact .inl ⟨_, rfl⟩
  | value v => exact .inr ⟨_, _, rfl⟩
theorem endE_shape {oc : Option Oc} (h : endE oc = true) : (∃ v, encE oc = .tuple [.str v]) ∨ ∃ v n, encE oc = .tuple [.str v, .int n] := by
  cases oc with
  | none => exact .inl ⟨_, rfl⟩
  | some oc => exact end_shape h
theorem runM_endE {rs : List Rw} {ss : List Sp2} {most : Int} : ∀ (n : Nat) (s : St3), endE (runM rs ss most n s).1 = true
  | 0, s => rfl
  | n + 1, s => by
    cases h : stepF rs ss most s with
    | st p vs fs => rw [runM_st h]; exact runM_endE n _
    | stuck => rw [runM_end h rfl]; rfl
    | nought => rw [runM_end h rfl]; rfl
    | full => rw [runM_end h rfl]; rfl
    | value v => rw [runM_end h rfl]; rfl
theorem runM_len {rs : List Rw} {ss : List Sp2} {most : Int} : ∀ (n : Nat) (s : St3), (runM rs ss most n s).2.length ≤ n
  | 0, s => Nat.le_refl _
  | n + 1, s => by
    cases h : stepF rs ss most s with
    | st p vs fs =>
      rw [runM_st h]
      have := runM_len (rs := rs) (ss := ss) (most := most) n (p, vs, fs)
      show _ + 1 ≤ n + 1
      omega
    | stuck => rw [runM_end h rfl]; show 1 ≤ n + 1; omega
    | nought => rw [runM_end h rfl]; show 1 ≤ n + 1; omega
    | full => rw [runM_end h rfl]; show 1 ≤ n + 1; omega
    | value v => rw [runM_end h rfl]; show 1 ≤ n + 1; omega
theorem wfN_turn {rs : List Rw} (h : ∀ r ∈ rs, wfN r) : ∀ r ∈ turnL rs, wfN r := fun r hr => by
  obtain ⟨k, hk⟩ := List.mem_iff_getElem?.mp hr
  have hl : k < rs.length := by
    have := (List.getElem?_eq_some_iff.mp hk).1
    rw [turnL_len] at this
    exact this
  have e := List.getElem?_eq_getElem hl
  have hw := wf_turn (fun r hr => (h r hr).1) r hr
  rw [turnL_get e] at hk
  have hm := h _ (List.getElem_mem hl)
  have hk := Option.some.inj hk
  by_cases hlst : isLast rs k = true
  · rw [if_pos hlst] at hk
    subst hk
    have h1 : rs[k].1 = "call" := by
      unfold isLast at hlst
      rw [e] at hlst
      have := (Bool.and_eq_true_iff.mp hlst).1
      exact beq_iff_eq.mp this
    exact ⟨hw, fun _ => hm.2 (.inr (.inl h1))⟩
  · rw [if_neg hlst] at hk
    subst hk
    exact hm
theorem pre_take {α : Type} {A B : List α} (h : A <+: B) : B.take A.length = A := by
  obtain ⟨T, rfl⟩ := h
  simp
end Tr
namespace Tr
open PySem L2
/-! ### the rows of trees -/
abbrev r0 (w : Str) : Rw := (w, none)
abbrev r1 (w : Str) (n : Int) : Rw := (w, some n)
theorem wfN_r0 {w : Str} (h : w ∈ wordL ∧ ¬ w ∈ numW) : wfN (r0 w) := by
  refine ⟨⟨h.1, ?_⟩, fun z => ?_⟩
  · show false = decide (w ∈ numW)
    rw [decide_eq_false h.2]
  · exfalso
    have z : w = "arg" ∨ w = "call" ∨ w = "jump" := z
    rcases z with rfl | rfl | rfl <;> exact h.2 (by decide)
theorem wfN_r1 {w : Str} {n : Int} (h : w ∈ wordL ∧ w ∈ numW) (hn : w = "arg" ∨ w = "call" ∨ w = "jump" → 0 ≤ n) : wfN (r1 w n) := by
  refine ⟨⟨h.1, ?_⟩, hn⟩
  show true = decide (w ∈ numW)
  rw [decide_eq_true h.2]
theorem wfN_rn {w : Str} {n : Int} (h : w ∈ wordL ∧ w ∈ numW) (hn : ¬ (w = "arg" ∨ w = "call" ∨ w = "jump")) : wfN (r1 w n) := wfN_r1 h fun z => absurd z hn
mutual
def inR : Tree → List Rw
  | .num n => [r1 "num" n]
  | .arg k => [r1 "arg" k]
  | .bin w a b => inR a ++ inR b ++ [r0 w]
  | .sure a => inR a ++ [r0 "sure"]
  | .lett a b => inR a ++ [r0 "keep"] ++ inR b ++ [r0 "drop"]
  | .pick a b c => inR a ++ [r1 "unless" ((inR b).length + 1)] ++ inR b ++ [r1 "skip" (inR c).length] ++ inR c
  | .call f as => inRs as ++ [r1 "call" f]
def inRs : List Tree → List Rw
  | [] => []
  | t :: ts => inR t ++ inRs ts
end
def lastR : Tree → List Rw
  | .lett a b => inR a ++ [r0 "keep"] ++ lastR b
  | .pick a b c => inR a ++ [r1 "unless" (lastR b).length] ++ lastR b ++ lastR c
  | .num n => inR (.num n) ++ [r0 "back"]
  | .arg k => inR (.arg k) ++ [r0 "back"]
  | .bin w a b => inR (.bin w a b) ++ [r0 "back"]
  | .sure a => inR (.sure a) ++ [r0 "back"]
  | .call f as => inR (.call f as) ++ [r0 "back"]
theorem inRs_app : ∀ xs ys : List Tree, inRs (xs ++ ys) = inRs xs ++ inRs ys
  | [], ys => rfl
  | x :: xs, ys => by
    show inR x ++ inRs (xs ++ ys) = (inR x ++ inRs xs) ++ inRs ys
    rw [inRs_app xs ys, List.append_assoc]
theorem inRs_one (t : Tree) : inRs [t] = inR t := by
  show inR t ++ inRs [] = inR t
  exact List.append_nil _
theorem inRs_take {ts : List Tree} {n : Nat} {t : Tree} (h : ts[n]? = some t) : inRs (ts.take (n + 1)) = inRs (ts.take n) ++ inR t := by
  rw [← take_step h, inRs_app, inRs_one]
theorem inRs_take_le (ts : List Tree) (n : Nat) : (inRs (ts.take n)).length ≤ (inRs ts).length := by
  have : inRs ts = inRs (ts.take n) ++ inRs (ts.drop n) := by rw [← inRs_app, List.take_append_drop]
  rw [this, List.length_append]
  omega
mutual
theorem wfN_in : ∀ {cs : List Int} {n : Nat} {kn : Int} {t : Tree}, okT cs n kn t → ∀ r ∈ inR t, wfN r
  | cs, 0, kn, t, h => h.elim
  | cs, n + 1, kn, .num m, _ => fun r hr => by
    simp only [inR, List.mem_cons, List.not_mem_nil, or_false] at hr
    subst hr
    exact wfN_rn (by decide) (by decide)
  | cs, n + 1, kn, .arg k, h => fun r hr => by
    simp only [inR, List.mem_cons, List.not_mem_nil, or_false] at hr
    subst hr
    exact wfN_r1 (by decide) fun _ => h.1
  | cs, n + 1, kn, .bin v a b, h => fun r hr => by
    simp only [inR, List.mem_append, List.mem_cons, List.not_mem_nil, or_false] at hr
    rcases hr with (hr | hr) | hr
    · exact wfN_in h.2.1 r hr
    · exact wfN_in h.2.2 r hr
    · subst hr
      rcases h.1 with rfl | rfl | rfl <;> exact wfN_r0 (by decide)
  | cs, n + 1, kn, .sure a, h => fun r hr => by
    simp only [inR, List.mem_append, List.mem_cons, List.not_mem_nil, or_false] at hr
    rcases hr with hr | hr
    · exact wfN_in (n := n) (kn := kn) (t := a) h r hr
    · subst hr
      exact wfN_r0 (by decide)
  | cs, n + 1, kn, .lett a b, h => fun r hr => by
    simp only [inR, List.mem_append, List.mem_cons, List.not_mem_nil, or_false] at hr
    rcases hr with ((hr | hr) | hr) | hr
    · exact wfN_in h.1 r hr
    · subst hr
      exact wfN_r0 (by decide)
    · exact wfN_in h.2 r hr
    · subst hr
      exact wfN_r0 (by decide)
  | cs, n + 1, kn, .pick a b c, h => fun r hr => by
    simp only [inR, List.mem_append, List.mem_cons, List.not_mem_nil, or_false] at hr
    rcases hr with (((hr | hr) | hr) | hr) | hr
    · exact wfN_in h.1 r hr
    · subst hr
      exact wfN_rn (by decide) (by decide)
    · exact wfN_in h.2.1 r hr
    · subst hr
      exact wfN_rn (by decide) (by decide)
    · exact wfN_in h.2.2 r hr
  | cs, n + 1, kn, .call f as, h => fun r hr => by
    simp only [inR, List.mem_append, List.mem_cons, List.not_mem_nil, or_false] at hr
    rcases hr with hr | hr
    · exact wfN_ins h.2.2.2.2 r hr
    · subst hr
      exact wfN_r1 (by decide) fun _ => h.1
theorem wfN_ins : ∀ {cs : List Int} {n : Nat} {kn : Int} {ts : List Tree}, (∀ a ∈ ts, okT cs n kn a) → ∀ r ∈ inRs ts, wfN r
  | cs, n, kn, [], h => fun r hr => by cases hr
  | cs, n, kn, t :: ts, h => fun r hr => by
    simp only [inRs, List.mem_append] at hr
    rcases hr with hr | hr
    · exact wfN_in (h t (by simp)) r hr
    · exact wfN_ins (fun a ha => h a (List.mem_cons_of_mem _ ha)) r hr
end
theorem wfN_bk : wfN (r0 "back") := wfN_r0 (by decide)
theorem mem_snocR {r x : Rw} {xs : List Rw} (h : r ∈ xs ++ [x]) : r ∈ xs ∨ r = x := by
  rcases List.mem_append.mp h with h | h
  · exact .inl h
  · simp only [List.mem_cons, List.not_mem_nil, or_false] at h
    exact .inr h
theorem wfN_last : ∀ {cs : List Int} {n : Nat} {kn : Int} {t : Tree}, okT cs n kn t → ∀ r ∈ lastR t, wfN r
  | cs, 0, kn, t, h => h.elim
  | cs, n + 1, kn, .num m, h => fun r hr => by
    rcases mem_snocR hr with hr | hr
    · exact wfN_in h r hr
    · subst hr; exact wfN_bk
  | cs, n + 1, kn, .arg k, h => fun r hr => by
    rcases mem_snocR hr with hr | hr
    · exact wfN_in h r hr
    · subst hr; exact wfN_bk
  | cs, n + 1, kn, .bin v a b, h => fun r hr => by
    rcases mem_snocR hr with hr | hr
    · exact wfN_in h r hr
    · subst hr; exact wfN_bk
  | cs, n + 1, kn, .sure a, h => fun r hr => by
    rcases mem_snocR hr with hr | hr
    · exact wfN_in h r hr
    · subst hr; exact wfN_bk
  | cs, n + 1, kn, .call f as, h => fun r hr => by
    rcases mem_snocR hr with hr | hr
    · exact wfN_in h r hr
    · subst hr; exact wfN_bk
  | cs, n + 1, kn, .lett a b, h => fun r hr => by
    simp only [lastR, List.mem_append, List.mem_cons, List.not_mem_nil, or_false] at hr
    rcases hr with (hr | hr) | hr
    · exact wfN_in h.1 r hr
    · subst hr
      exact wfN_r0 (by decide)
    · exact wfN_last h.2 r hr
  | cs, n + 1, kn, .pick a b c, h => fun r hr => by
    simp only [lastR, List.mem_append, List.mem_cons, List.not_mem_nil, or_false] at hr
    rcases hr with ((hr | hr) | hr) | hr
    · exact wfN_in h.1 r hr
    · subst hr
      exact wfN_rn (by decide) (by decide)
    · exact wfN_last h.2.1 r hr
    · exact wfN_last h.2.2 r hr
/-! programs -/
abbrev Fnc := Int × Tree
def encFn (p : Fnc) : PyData := .tuple [.int p.1, enc p.2]
def prowsL : List Fnc → List Rw
  | [] => []
  | p :: ps => lastR p.2 ++ prowsL ps
/-- the starts, the rows ahead being so many -/
def pstartsL : Nat → List Fnc → List Sp2
  | _, [] => []
  | k, p :: ps => ((k : Int), p.1) :: pstartsL (k + (lastR p.2).length) ps
theorem prowsL_app : ∀ xs ys : List Fnc, prowsL (xs ++ ys) = prowsL xs ++ prowsL ys
  | [], ys => rfl
  | x :: xs, ys => by
    show lastR x.2 ++ prowsL (xs ++ ys) = (lastR x.2 ++ prowsL xs) ++ prowsL ys
    rw [prowsL_app xs ys, List.append_assoc]
theorem pstartsL_app : ∀ (k : Nat) (xs ys : List Fnc), pstartsL k (xs ++ ys) = pstartsL k xs ++ pstartsL (k + (prowsL xs).length) ys
  | k, [], ys => rfl
  | k, x :: xs, ys => by
    show ((k : Int), x.1) :: pstartsL (k + (lastR x.2).length) (xs ++ ys) = ((k : Int), x.1) :: (pstartsL (k + (lastR x.2).length) xs ++ pstartsL (k + (lastR x.2 ++ prowsL xs).length) ys)
    rw [pstartsL_app _ xs ys, List.length_append, Nat.add_assoc]
theorem pstartsL_len : ∀ (k : Nat) (xs : List Fnc), (pstartsL k xs).length = xs.length
  | k, [] => rfl
  | k, x :: xs => by
    show (pstartsL _ xs).length + 1 = xs.length + 1
    rw [pstartsL_len]
theorem pstartsL_snd : ∀ (k : Nat) (xs : List Fnc), (pstartsL k xs).map Prod.snd = xs.map Prod.fst
  | k, [] => rfl
  | k, x :: xs => by
    show x.1 :: (pstartsL _ xs).map Prod.snd = x.1 :: xs.map Prod.fst
    rw [pstartsL_snd]
theorem prows_take {ps : List Fnc} {n : Nat} {p : Fnc} (h : ps[n]? = some p) : prowsL (ps.take (n + 1)) = prowsL (ps.take n) ++ lastR p.2 := by
  rw [← take_step h, prowsL_app]
  show _ ++ (lastR p.2 ++ []) = _
  rw [List.append_nil]
theorem pstarts_take {ps : List Fnc} {n : Nat} {p : Fnc} (h : ps[n]? = some p) : pstartsL 0 (ps.take (n + 1)) = pstartsL 0 (ps.take n) ++ [(((prowsL (ps.take n)).length : Int), p.1)] := by
  rw [← take_step h, pstartsL_app, Nat.zero_add]
  rfl
theorem prows_le {ps : List Fnc} {L : Nat} (h : ∀ p ∈ ps, (lastR p.2).length ≤ L) : (prowsL ps).length ≤ L * ps.length := by
  induction ps with
  | nil => exact Nat.zero_le _
  | cons p ps ih =>
    have h1 := h p (by simp)
    have h2 := ih fun q hq => h q (List.mem_cons_of_mem _ hq)
    show (lastR p.2 ++ prowsL ps).length ≤ L * (ps.length + 1)
    rw [List.length_append, Nat.mul_add, Nat.mul_one]
    omega
/-- a program that goes -/
def okProg (N : Nat) (ps : List Fnc) : Prop := ps.length ≤ 45 ∧ ∀ p ∈ ps, 0 ≤ p.1 ∧ p.1 ≤ 1000 ∧ okT (ps.map Prod.fst) N p.1 p.2 ∧ pd p.2 ≤ N ∧ (lastR p.2).length ≤ 20000
theorem okProg.rows {N : Nat} {ps : List Fnc} (h : okProg N ps) : (prowsL ps).length ≤ 900000 := by
  have h1 := prows_le fun p hp => (h.2 p hp).2.2.2.2
  have := h.1
  omega
theorem okProg.wfN {N : Nat} {ps : List Fnc} (h : okProg N ps) : ∀ r ∈ prowsL ps, wfN r := by
  have key : ∀ qs : List Fnc, (∀ p ∈ qs, ∃ cs, okT cs N p.1 p.2) → ∀ r ∈ prowsL qs, Tr.wfN r := by
    intro qs
    induction qs with
    | nil => intro _ r hr; cases hr
    | cons q qs ih =>
      intro hq r hr
      have hr : r ∈ lastR q.2 ++ prowsL qs := hr
      rcases List.mem_append.mp hr with hr | hr
      · obtain ⟨cs, hcs⟩ := hq q (by simp)
        exact wfN_last hcs r hr
      · exact ih (fun p hp => hq p (List.mem_cons_of_mem _ hp)) r hr
  exact key ps fun p hp => ⟨_, (h.2 p hp).2.2.1⟩
end Tr
namespace Tr
open PySem L2
/-! ### a new list given away in a call -/
theorem Res.weakB {K : Frag} {B B' F H : Hp} {σ : St} {Δ : En} {v : V} {r : R} (h : Res B' F H σ Δ v r) (e : Ex B B') : Res B F H σ Δ v r := by
  cases r with
  | d x => exact h
  | sl i => exact h
  | nl xs =>
    obtain ⟨a, vs, ev, h1, h2, h3⟩ := h
    exact ⟨a, vs, ev, h1, e.back h2, h3⟩
  | nt i j => exact nt_map h fun a hb nm => ⟨e.back hb, nm⟩
section
variable {X : Cx} {Δ Δ1 Δ2 Δp : En} {e : Expr} {es : List Expr} {r : R} {rs : List R} {xs : List PyData} {pos p : Pos} {k : Nat} {x : Str} {S : Spec}
theorem da_consN (ha : DEx X Δ e (.nl xs) Δ1) (hr : DAx X Δ1 es rs Δ2) (hs : starEach (e :: es) X.env = (false, eval e X.env) :: starEach es X.env := by rfl) : DAx X Δ (e :: es) (.nl xs :: rs) Δ2 :=
  ⟨ha.rk.trans hr.rk, pa_imp (pa_cons ha.pe hr.pa hs) fun σ H Q ⟨B, F, ok, q⟩ => ⟨B, F, ok, fun v F1 H1 ok1 ex1 ⟨a, vs, ev, h1, h2, h3, h4, h5⟩ => by
    subst ev
    refine ⟨upd B a (.lst vs), F1, ok1.addB h1 h3 h5, fun vs2 F2 H2 ok2 ex2 hvs => ?_⟩
    have hB : (upd B a (.lst vs)) a ≠ none := by rw [upd_same]; intro z; cases z
    exact q _ F2 H2 (ok2.weakB (.new h2)) (ex1.trans ex2) (.cons ⟨a, vs, rfl, ok2.bf a hB, h2, ok2.bh a _ upd_same, h4.mono ex2, ok2.notB hB⟩ (pr_mono (fun _ _ z => Res.weakB (K := X.K) z (.new h2)) hvs))⟩⟩
theorem ok_consRef {K : Frag} {B F H : Hp} {σ : St} {Δ : En} {a : Addr} (ok : Ok K B F H σ Δ) (h : MutL B F H (some (.ref a)) xs) (nm : NotMut σ Δ a) : Ok K B F H (some (.ref a) :: σ) (.ref xs :: Δ) := by
  refine ⟨ok.fh, ok.bh, ok.bf, by simp [ok.len], fun i s e => ?_, fun i j s t b e1 e2 m1 m2 r1 r2 => ?_⟩
  · cases i with
    | zero => cases e; exact ⟨_, rfl, h⟩
    | succ i => exact ok.sl i s e
  · cases i with
    | zero =>
      cases j with
      | zero => rfl
      | succ j =>
        cases r1
        exact absurd r2 (nm j t e2 m2)
    | succ i =>
      cases j with
      | zero =>
        cases r2
        exact absurd r1 (nm i s e1 m1)
      | succ j => exact congrArg _ (ok.nd i j s t b e1 e2 m1 m2 r1 r2)
theorem de_callN (h : Fn X.prog X.w X.K X.mg X.base k x S) (hr : Room k X.A) (ha : DAx X Δ (e :: es) (.nl xs :: rs) Δ1) (hs : S (.ref xs :: rs.map (argSl Δ1)) (.rt Δp r)) (hm : rs.all (fun r => !(argSl Δ1 r).mut) = true) (hf : fin r = true) (hg : Gl X x := by rfl)
    (hdb : (x == ("__debug__" : Str)) = false := by decide) (he : starEach (e :: es) X.env = (false, eval e X.env) :: starEach es X.env := by rfl) (hpl : (backTo pos (starEach es X.env)).any (·.1) = false := by rfl) :
    DEx X Δ (.Call (.Name x p) (e :: es) [] pos) r Δ1 := by
  obtain ⟨f, fd, ps, h1, h2, h3, h4⟩ := h
  refine ⟨ha.rk, pe_imp (pe_call h4 hr hg h1 h2 h3 .nil passL ha.pa hdb he hpl) fun σ H Q ⟨B, F, ok, q⟩ => ⟨B, F, ok, fun vs F1 H1 ok1 ex1 hv => ?_⟩⟩
  show spOf X.K S (vs ++ []) H1 Q E0
  rw [List.append_nil]
  cases hv with
  | @cons v _ vs _ hn hv =>
  obtain ⟨a, us, ev, n1, n2, n3, n4, n5⟩ := hn
  subst ev
  have okc := ok_call (n := none) ok1 hv (oneN hm)
  have ka : keepB σ Δ1 B H1 none a = none := by
    unfold keepB
    split
    · rename_i z
      obtain ⟨j, s, e1, m, hj, _⟩ := z
      exact absurd hj (n5 j s e1 m)
    · exact n2
  have okn : Ok X.K (keepB σ Δ1 B H1 none) F1 H1 ((V.ref a :: vs).map some) (.ref xs :: rs.map (argSl Δ1)) := ok_consRef okc ⟨a, us, rfl, n1, ka, n3, n4⟩ fun i s ei mi _ => by
    rw [List.getElem?_map] at ei
    cases hi : rs[i]? with
    | none => rw [hi] at ei; cases ei
    | some r' =>
      rw [hi] at ei
      cases ei
      have := List.all_eq_true.mp hm r' (List.mem_of_getElem? hi)
      rw [mi] at this
      cases this
  refine ⟨_, _, _, F1, hs, okn, fun v F2 H2 ok2 ex2 hres => ?_⟩
  have ok3 := ok_back ok1 ok2 ex2
  refine q v F2 H2 ok3 (ex1.trans ex2) ?_
  cases r with
  | d x => exact hres
  | nl xs =>
    obtain ⟨a, ws, ev, r1, r2, r3, r4, r5⟩ := hres
    exact ⟨a, ws, ev, r1, (keepB_ex ok1).back r2, r3, r4, notMut_back (H' := H2) (F' := F2) (Δp := Δp) ok1 r2⟩
  | nt i j => exact nt_map hres fun a r2 _ => ⟨(keepB_ex ok1).back r2, notMut_back (H' := H2) (F' := F2) (Δp := Δp) ok1 r2⟩
  | sl i => cases hf
end
/-! ### xs.count(e) of truth values, of texts -/
section
variable {X : Cx}
theorem count_strs {k : Str} : ∀ {us : List Value} {ss : List Str}, PyProof.Rows.StrsAre us ss → us.countP (PyProof.Rows.isStrOf k) = ss.count k
  | _, _, .nil => rfl
  | _, _, .cons n t h => by
    have ih := count_strs (k := k) h
    rw [List.countP_cons, List.count_cons, ih] <;> rfl
theorem mt_scount : MtR X "list.count" (fun x xs H Q => ∃ (p : Addr) (ss : List Str) (k : Str), x = .ref p ∧ xs = [.str k] ∧ SqL X.K H p (ss.map V.str) ∧ Q (.int (ss.count k : Nat)) H) := by
  intro pins s σ H x xs v us Q I rx rxs h
  obtain ⟨p, ss, k, rfl, rfl, hs, q⟩ := h
  cases rx
  obtain ⟨u, rfl, ru⟩ := rxs.one
  obtain ⟨t, rfl⟩ := ru
  obtain ⟨its, rv, ⟨⟨cls, dd, data, sl⟩, n, ho, hc, hdn, hd⟩, hlen⟩ := I.list hs
  simp only at hc hd
  subst hc hd
  have hi := Vals.strs rv
  refine PySem.call_meets PySem.F.slot_list_count ⟨_, ho, rfl⟩ PySem.F.entry_list_count (PySem.F.args_list_count_2 _ _)
    (PySem.SeqAt.list_countAt p its.toArray n dd sl (.str k t) (PyProof.Rows.isStrOf k)) ⟨ho, fun y hy => (PyProof.Rows.eq_isStrOf k t hi y (by simpa using hy)).at _ _, ?_⟩
  have ec : its.toArray.toList.countP (PyProof.Rows.isStrOf k) = ss.count k := count_strs hi
  refine ⟨.int (ss.count k : Nat), H, I.tok _, ⟨s.toks, ?_⟩, q⟩
  show Value.int ((its.toArray.toList.countP (PyProof.Rows.isStrOf k) : Nat) : Int) s.toks = Value.int ((ss.count k : Nat) : Int) s.toks
  rw [ec]
theorem bools_at {k : Bool} {A : Around} {s : Shared} : ∀ {us : List Value} {bs : List Bool}, Vals (bs.map V.bl) us → ∀ y ∈ us, PySem.SeqAt.EqAt A s y (.bool k) (PyProof.Rows.isBoolOf k y)
  | _, [], .nil => fun y hy => by cases hy
  | _, b :: bs, .cons r t => fun y hy => by
    rcases List.mem_cons.mp hy with e | hy
    · rw [e]
      have r : _ = Value.bool b := r
      rw [r]
      exact PySem.SeqAt.EqAt.bool_bool b k
    · exact bools_at t y hy
theorem count_bools {k : Bool} : ∀ {us : List Value} {bs : List Bool}, Vals (bs.map V.bl) us → us.countP (PyProof.Rows.isBoolOf k) = bs.count k
  | _, [], .nil => rfl
  | _, b :: bs, .cons r t => by
    have ih := count_bools (k := k) t
    have r : _ = Value.bool b := r
    rw [List.countP_cons, List.count_cons, ih, r] <;> rfl
theorem mt_bcount : MtR X "list.count" (fun x xs H Q => ∃ (p : Addr) (bs : List Bool) (k : Bool), x = .ref p ∧ xs = [.bl k] ∧ SqL X.K H p (bs.map V.bl) ∧ Q (.int (bs.count k : Nat)) H) := by
  intro pins s σ H x xs v us Q I rx rxs h
  obtain ⟨p, bs, k, rfl, rfl, hs, q⟩ := h
  cases rx
  obtain ⟨u, rfl, ru⟩ := rxs.one
  have ru : u = Value.bool k := ru
  subst ru
  obtain ⟨its, rv, ⟨⟨cls, dd, data, sl⟩, n, ho, hc, hdn, hd⟩, hlen⟩ := I.list hs
  simp only at hc hd
  subst hc hd
  refine PySem.call_meets PySem.F.slot_list_count ⟨_, ho, rfl⟩ PySem.F.entry_list_count (PySem.F.args_list_count_2 _ _)
    (PySem.SeqAt.list_countAt p its.toArray n dd sl (.bool k) (PyProof.Rows.isBoolOf k)) ⟨ho, fun y hy => bools_at rv y (by simpa using hy), ?_⟩
  have ec : its.toArray.toList.countP (PyProof.Rows.isBoolOf k) = bs.count k := count_bools rv
  refine ⟨.int (bs.count k : Nat), H, I.tok _, ⟨s.toks, ?_⟩, q⟩
  show Value.int ((its.toArray.toList.countP (PyProof.Rows.isBoolOf k) : Nat) : Int) s.toks = Value.int ((bs.count k : Nat) : Int) s.toks
  rw [ec]
end
theorem dqa_bools {F : Hp} : ∀ {bs : List Bool} {vs : List V}, DqA F vs (bs.map PyData.bool) → vs = bs.map V.bl
  | [], _, .nil => rfl
  | b :: bs, _, .cons h t => by rw [Dq.bl_ h, dqa_bools t]; rfl
theorem dqa_strs {F : Hp} : ∀ {ss : List Str} {vs : List V}, DqA F vs (ss.map PyData.str) → vs = ss.map V.str
  | [], _, .nil => rfl
  | b :: bs, _, .cons h t => by rw [Dq.str_ h, dqa_strs t]; rfl
section
variable {X : Cx} {Δ : En} {p apos cpos p2 : Pos}
/-- xs.count(k), xs a datum's slot -/
theorem de_countB (i : Nat) {n : Str} {bs : List Bool} {k : Bool} {kk} (hΔ : Δ[i]? = some (.d (.list (bs.map PyData.bool)))) (hN : X.N[i]? = some n := by rfl)
    (hv : Vis X.env.scope n := by first | exact Or.inl rfl | exact Or.inr (Or.inl rfl) | exact Or.inr (Or.inr rfl)) (hd : (n == ("__debug__" : Str)) = false := by decide) (hcd : (n == ("__classdict__" : Str)) = false := by decide)
    (hbase : attributeBase (.Name n p) "count" X.env (eval (.Name n p) X.env) = eval (.Name n p) X.env := by rfl)
    (hfew : ((backTo cpos (starEach [.Constant (.bool k) kk p2] X.env)).all (fun x => !x.1) && (backToKw cpos (keywordEach [] X.env)).all (fun x => x.1.isSome)
      && decide (([.Constant (.bool k) kk p2] : List Expr).length + ([] : List Keyword).length + (if ([] : List Keyword).isEmpty then 0 else 1) < 30)) = true := by rfl)
    (hline : (apos.endLine == cpos.line) = true := by rfl) (hse : starEach [.Constant (.bool k) kk p2] X.env = (false, eval (.Constant (.bool k) kk p2) X.env) :: starEach [] X.env := by rfl) (hplain : (backTo cpos (starEach [] X.env)).any (·.1) = false := by rfl) :
    DEx X Δ (.Call (.Attribute (.Name n p) "count" apos) [.Constant (.bool k) kk p2] [] cpos) (.d (.int (bs.count k : Nat))) Δ := by
  refine ⟨.rfl, pe_imp (pe_bm PySem.F.plainAttrs_list PySem.F.slot_list_count PySem.F.type_list_count mt_bcount (pe_var hN hv hd hcd) (pa_cons pe_bl pa_nil hse) hbase hfew hline hse hplain) fun σ H Q ⟨B, F, ok, q⟩ => ?_⟩
  obtain ⟨v, h1, h2⟩ := ok.rd hΔ
  obtain ⟨a, vs, rfl, h3, h4⟩ := Dq.inl h2
  cases dqa_bools h4
  have hH := ok.fh _ _ h3
  exact ⟨.ref a, h1, Or.inl ⟨rfl, _, Or.inl (Or.inl hH)⟩, a, bs, k, rfl, rfl, SqL.of hH, q _ F H ok (.refl _) (.int _)⟩
theorem de_countS (i : Nat) {n : Str} {ss : List Str} {k : Str} {kk} (hΔ : Δ[i]? = some (.d (.list (ss.map PyData.str)))) (hN : X.N[i]? = some n := by rfl)
    (hv : Vis X.env.scope n := by first | exact Or.inl rfl | exact Or.inr (Or.inl rfl) | exact Or.inr (Or.inr rfl)) (hd : (n == ("__debug__" : Str)) = false := by decide) (hcd : (n == ("__classdict__" : Str)) = false := by decide)
    (hbase : attributeBase (.Name n p) "count" X.env (eval (.Name n p) X.env) = eval (.Name n p) X.env := by rfl)
    (hfew : ((backTo cpos (starEach [.Constant (.str k) kk p2] X.env)).all (fun x => !x.1) && (backToKw cpos (keywordEach [] X.env)).all (fun x => x.1.isSome)
      && decide (([.Constant (.str k) kk p2] : List Expr).length + ([] : List Keyword).length + (if ([] : List Keyword).isEmpty then 0 else 1) < 30)) = true := by rfl)
    (hline : (apos.endLine == cpos.line) = true := by rfl) (hse : starEach [.Constant (.str k) kk p2] X.env = (false, eval (.Constant (.str k) kk p2) X.env) :: starEach [] X.env := by rfl) (hplain : (backTo cpos (starEach [] X.env)).any (·.1) = false := by rfl) :
    DEx X Δ (.Call (.Attribute (.Name n p) "count" apos) [.Constant (.str k) kk p2] [] cpos) (.d (.int (ss.count k : Nat))) Δ := by
  refine ⟨.rfl, pe_imp (pe_bm PySem.F.plainAttrs_list PySem.F.slot_list_count PySem.F.type_list_count mt_scount (pe_var hN hv hd hcd) (pa_cons pe_str pa_nil hse) hbase hfew hline hse hplain) fun σ H Q ⟨B, F, ok, q⟩ => ?_⟩
  obtain ⟨v, h1, h2⟩ := ok.rd hΔ
  obtain ⟨a, vs, rfl, h3, h4⟩ := Dq.inl h2
  cases dqa_strs h4
  have hH := ok.fh _ _ h3
  exact ⟨.ref a, h1, Or.inl ⟨rfl, _, Or.inl (Or.inl hH)⟩, a, ss, k, rfl, rfl, SqL.of hH, q _ F H ok (.refl _) (.int _)⟩
end
end Tr
namespace Tr
open PySem L2
/-! ### try .. except A: .. except B: .. -/
abbrev Hl := List (Value × (Addr → Value → Option Addr → TS))
section
variable {X : Cx} {W : WX} {Δ Δ1 : En} {body : List Stmt} {h0 : ExceptHandler} {hds : List ExceptHandler} {l : Hl} {pos : Pos} {o : Out} {C : Addr}
/-- the body raises nothing -/
theorem ds1_try_ok (hs : X.stack = X.env :: X.outer) (hf : X.env.frame = some X.env.locals) (tk : Takes X W) (hb : ∀ (Wb : WX) (pn : List (Addr × Obj)) (xe : Value → Shared → Prop), Takes (X.tr pn xe) Wb → PassesOwn (model X.prog X.w) X.A X.env xe → DS (X.tr pn xe) Wb Δ body o)
    (ho : ∀ Δ' C, o ≠ .xc Δ' C) (hh : HdsOk X (h0 :: hds) l) : DS1 X W Δ (.Try body (h0 :: hds) [] [] pos) o :=
  ps_imp (ps_try_many (tb := fun Wb => tS X.K Wb Δ o) hs hf tk hb hh) fun D σ H ⟨B, F, ok, q⟩ => ⟨B, F, ok, post_w q ho⟩
/-- the body raises C: what the clauses make of it -/
theorem ds1_try_xc (hs : X.stack = X.env :: X.outer) (hf : X.env.frame = some X.env.locals) (tk : Takes X W) (hb : ∀ (Wb : WX) (pn : List (Addr × Obj)) (xe : Value → Shared → Prop), Takes (X.tr pn xe) Wb → PassesOwn (model X.prog X.w) X.A X.env xe → DS (X.tr pn xe) Wb Δ body (.xc Δ1 C))
    (hh : HdsOk X (h0 :: hds) l) (hm : ∀ D σ H, tS X.K W Δ1 o D σ H → wMany X.K W D l (.ref C) none σ H) : DS1 X W Δ (.Try body (h0 :: hds) [] [] pos) o :=
  ps_imp (ps_try_many (tb := fun Wb => tS X.K Wb Δ (.xc Δ1 C)) hs hf tk hb hh) fun D σ H ⟨B, F, ok, q⟩ => ⟨B, F, ok, fun σ' F' H' ok' ex kp => hm D σ' H' ⟨B, F', ok', q.step ex kp⟩⟩
end
section
variable {K : Frag} {W : WX} {D : Ends} {cls c : Value} {ts : Addr → Value → Option Addr → TS} {r : Hl} {σ : St} {H : Hp}
theorem many_hit (h : PySem.W.exmOne K cls c = some true) (k : ∀ a, H a = none → ts a cls none D σ H) : wMany K W D ((c, ts) :: r) cls none σ H := ⟨true, h, fun _ => k, (fun z => nomatch z)⟩
theorem many_skip (h : PySem.W.exmOne K cls c = some false) (k : wMany K W D r cls none σ H) : wMany K W D ((c, ts) :: r) cls none σ H := ⟨false, h, (fun z => nomatch z), fun _ => k⟩
end
/-- f(..)[n] where f(..) raises -/
theorem dx_ixT {X : Cx} {W : WX} {Δ Δ1 : En} {a : Expr} {n : Int} {kk : Nat} {p2 pos : Pos} {C : Addr} (h : DXx X W Δ a Δ1 C) (hs : PlainIx (.Constant (.int n) kk p2) := by exact fun _ _ => rfl) : DXx X W Δ (.Subscript a (.Constant (.int n) kk p2) pos) Δ1 C :=
  ⟨h.rk, pe_imp (pe_ix ix_tup h.pe pe_int hs) fun σ H Q w => w⟩
/-! a body's contexts -/
structure TrI {ι : Type} (XS : ι → Cx) where
  q : ι
  Wb : WX
  pn : List (Addr × Obj)
  xe : Value → Shared → Prop
  tk : Takes ((XS q).tr pn xe) Wb
  pw : PassesOwn (model (XS q).prog (XS q).w) (XS q).A (XS q).env xe
section
variable {ι : Type} {XS : ι → Cx} {WS : ι → WX} {Δ : En} {body rest : List Stmt} {h0 : ExceptHandler} {hds : List ExceptHandler} {pos : Pos} {P : Out → Prop}
abbrev XT {ι : Type} (XS : ι → Cx) : TrI XS → Cx := fun i => (XS i.q).tr i.pn i.xe
abbrev WT {ι : Type} (XS : ι → Cx) : TrI XS → WX := fun i => i.Wb
def NoXc (o : Out) : Prop := ∀ Δ' C, o ≠ .xc Δ' C
theorem go_try (hs : ∀ q, (XS q).stack = (XS q).env :: (XS q).outer) (hf : ∀ q, (XS q).env.frame = some (XS q).env.locals) (tk : ∀ q, Takes (XS q) (WS q)) (l : ι → Hl) (hh : ∀ q, HdsOk (XS q) (h0 :: hds) (l q)) {ob o : Out}
    (hb : ∀ i : TrI XS, DS (XT XS i) (WT XS i) Δ body ob) (ho : thenP XS WS rest P o)
    (hc : (NoXc ob ∧ ob = o) ∨ ∃ Δ1 C, ob = .xc Δ1 C ∧ ∀ q D σ H, tS (XS q).K (WS q) Δ1 o D σ H → wMany (XS q).K (WS q) D (l q) (.ref C) none σ H) : Go XS WS Δ (.Try body (h0 :: hds) [] [] pos :: rest) P := by
  refine go_cons ⟨o, ho, fun q => ?_⟩
  rcases hc with ⟨h1, rfl⟩ | ⟨Δ1, C, rfl, hm⟩
  · exact ds1_try_ok (hs q) (hf q) (tk q) (fun Wb pn xe t p => hb ⟨q, Wb, pn, xe, t, p⟩) h1 (hh q)
  · exact ds1_try_xc (hs q) (hf q) (tk q) (fun Wb pn xe t p => hb ⟨q, Wb, pn, xe, t, p⟩) (hh q) (hm q)
end
end Tr
namespace Tr
open PySem L2
/-! ### try .. except A as e -/
section
variable {X : Cx} {W : WX} {Δ Δ1 Δ2 : En} {body suite : List Stmt} {b₀ : Stmt} {x n : Str} {i : Nat} {cV : Value} {np pos pos' : Pos} {C : Addr} {s : Sl} {r : R} {o : Out}
theorem ds1_tryAs_xc {y : PyData} (i : Nat) (hs : X.stack = X.env :: X.outer) (hf : X.env.frame = some X.env.locals) (hN : X.N.Nodup) (hi : X.N[i]? = some n) (hln : X.env.kindOf n = some .local) (hc : Names X x cV) (tk : Takes X W)
    (hb : ∀ (Wb : WX) (pn : List (Addr × Obj)) (xe : Value → Shared → Prop), Takes (X.tr pn xe) Wb → PassesOwn (model X.prog X.w) X.A X.env xe → DS (X.tr pn xe) Wb Δ body (.xc Δ1 C))
    (he : PySem.W.exmOne X.K (.ref C) cV = some true) {Δs : Addr → En} (hΔ : Δ1[i]? = some s) (hsr : s.isRef = false)
    (hsu : ∀ (a : Addr) (oe : Obj) (pn : List (Addr × Obj)), Zc (.ref C) none oe → (∃ vs, oe.data = .fields vs) → DS (X.suite a ((a, oe) :: pn)) W (Δ1.set i (.v (.ref a))) (b₀ :: suite) (.rt (Δs a) (.d y))) (hle : ∀ a, Le (Δs a) Δ2) :
    DS1 X W Δ (.Try body [.ExceptHandler (some (.Name x np)) (some n) (b₀ :: suite) pos'] [] [] pos) (.rt Δ2 (.d y)) :=
  ps_imp (ps_try_as (ts := fun a cls d D σ H => cls = .ref C ∧ d = none ∧ tS X.K W (Δ1.set i (.v (.ref a))) (.rt (Δs a) (.d y)) D σ H) (tb := fun Wb => tS X.K Wb Δ (.xc Δ1 C)) (Wout := W) hs hf hN hi hln hc tk hb (fun a oe cls d pn hz hfv => by
    by_cases h : cls = .ref C ∧ d = none
    · obtain ⟨rfl, rfl⟩ := h
      exact pss_imp (hsu a oe pn hz hfv) fun D σ H w => w.2.2
    · exact pss_imp pss_never fun D σ H w => (h ⟨w.1, w.2.1⟩).elim)) fun D σ H ⟨B, F, ok, q⟩ => ⟨B, F, ok, fun σ' F' H' ok' ex kp => ⟨true, he, fun _ a ha => ⟨rfl, rfl, B, F', ok'.put (s := .v (.ref a)) rfl (fun z => nomatch z), fun v τ G I okk e k hr => q v τ G I ((hle a).ok okk) (ex.trans e) (((kp.trans (kp_set hΔ hsr)).trans k).trans (Kp.refl (hle a).rk)) hr⟩, (fun z => nomatch z)⟩⟩
theorem ds1_tryAs_ok (i : Nat) (hs : X.stack = X.env :: X.outer) (hf : X.env.frame = some X.env.locals) (hN : X.N.Nodup) (hi : X.N[i]? = some n) (hln : X.env.kindOf n = some .local) (hc : Names X x cV) (tk : Takes X W)
    (hb : ∀ (Wb : WX) (pn : List (Addr × Obj)) (xe : Value → Shared → Prop), Takes (X.tr pn xe) Wb → PassesOwn (model X.prog X.w) X.A X.env xe → DS (X.tr pn xe) Wb Δ body o) (ho : NoXc o) :
    DS1 X W Δ (.Try body [.ExceptHandler (some (.Name x np)) (some n) (b₀ :: suite) pos'] [] [] pos) o :=
  ps_imp (ps_try_as (ts := fun a cls d D σ H => False) (tb := fun Wb => tS X.K Wb Δ o) (Wout := W) hs hf hN hi hln hc tk hb (fun a oe cls d pn hz hfv => pss_imp pss_never fun D σ H w => w.elim)) fun D σ H ⟨B, F, ok, q⟩ => ⟨B, F, ok, post_w q ho⟩
/-- isinstance(e, A) in the suite -/
theorem de_isE {a D : Addr} {oe : Obj} {pn : List (Addr × Obj)} {f : Str} {c : V} {cv : Value} {b : Bool} {p p1 p2 : Pos} {y : Str} (i : Nat) (hE : ExcC X.K D) (hz : Zc (.ref D) none oe) (hfv : ∃ vs, oe.data = .fields vs) (G : Blt X.mg) (pf : PE (X.suite a ((a, oe) :: pn)) (.Name f p2) (tC c)) (hcv : ∀ u, RelV c u → u = cv) (hk : PySem.W.kitOne X.K (.ref D) cv = some b)
    (hΔ : Δ[i]? = some (.v (.ref a)) := by rfl) (hN : (X.suite a ((a, oe) :: pn)).N[i]? = some y := by rfl) (hv : Vis (X.suite a ((a, oe) :: pn)).env.scope y := by first | exact Or.inl rfl | exact Or.inr (Or.inl rfl) | exact Or.inr (Or.inr rfl)) (hd : (y == ("__debug__" : Str)) = false := by decide) (hcd : (y == ("__classdict__" : Str)) = false := by decide)
    (hg : Gl (X.suite a ((a, oe) :: pn)) "isinstance" := by rfl)
    (he : starEach [.Name y p1, .Name f p2] (X.suite a ((a, oe) :: pn)).env = (false, eval (.Name y p1) (X.suite a ((a, oe) :: pn)).env) :: starEach [.Name f p2] (X.suite a ((a, oe) :: pn)).env := by rfl) (he2 : starEach [.Name f p2] (X.suite a ((a, oe) :: pn)).env = (false, eval (.Name f p2) (X.suite a ((a, oe) :: pn)).env) :: starEach [] (X.suite a ((a, oe) :: pn)).env := by rfl) (hpl : (backTo pos (starEach [.Name f p2] (X.suite a ((a, oe) :: pn)).env)).any (·.1) = false := by rfl) :
    DEx (X.suite a ((a, oe) :: pn)) Δ (.Call (.Name "isinstance" p) [.Name y p1, .Name f p2] [] pos) (.d (.bool b)) Δ :=
  ⟨.rfl, pe_imp (pe_callB (call_isE hE hz hfv) hg G.isi boot_isi_ (pa_cons (pe_var hN hv hd hcd) (pa_cons pf pa_nil he2) he) (by decide) (by decide) he hpl) fun σ H Q ⟨B, F, ok, q⟩ => by
    obtain ⟨o, h1, h2⟩ := ok.sl i _ hΔ
    have h2 : o = some (.ref a) := h2
    subst h2
    exact ⟨.ref a, h1, c, cv, b, rfl, hcv, hk, q _ _ _ ok (.refl _) (.bl _)⟩⟩
end
section
variable {X : Cx} {C : Addr} {f : Str} {p2 : Pos}
theorem pe_cls {E : Addr} (hm : X.mg f = some (.ref E)) (hg : Gl X f := by rfl) (hd : (f == ("__debug__" : Str)) = false := by decide) : PE X (.Name f p2) (tC (.ref E)) := pe_glob hg hm rfl hd
theorem pe_ty {T : String} (hm : X.mg f = none) (hv : bootBuiltins f = some (.type T)) (hg : Gl X f := by rfl) (hn : f ≠ "__name__" := by decide) (hd : (f == ("__debug__" : Str)) = false := by decide) : PE X (.Name f p2) (tC (.ty T)) := pe_bltn hg hm hv rfl hn hd
end
section
variable {ι : Type} {XS : ι → Cx} {WS : ι → WX} {Δ Δ1 Δ2 : En} {body suite rest : List Stmt} {b₀ : Stmt} {x n : Str} {cV : Value} {np pos pos' : Pos} {P : Out → Prop} {C : Addr} {s : Sl} {r : R}
theorem go_tryAs_ok (i : Nat) (hs : ∀ q, (XS q).stack = (XS q).env :: (XS q).outer) (hf : ∀ q, (XS q).env.frame = some (XS q).env.locals) (hN : ∀ q, (XS q).N.Nodup) (hi : ∀ q, (XS q).N[i]? = some n) (hln : ∀ q, (XS q).env.kindOf n = some .local) (hc : ∀ q, Names (XS q) x cV) (tk : ∀ q, Takes (XS q) (WS q))
    (hb : ∀ i : TrI XS, DS (XT XS i) (WT XS i) Δ body (.nx Δ1)) (hp : Go XS WS Δ1 rest P) : Go XS WS Δ (.Try body [.ExceptHandler (some (.Name x np)) (some n) (b₀ :: suite) pos'] [] [] pos :: rest) P :=
  go_then (fun q => ds1_tryAs_ok i (hs q) (hf q) (hN q) (hi q) (hln q) (hc q) (tk q) (fun Wb pn xe t p => hb ⟨q, Wb, pn, xe, t, p⟩) (fun _ _ e => nomatch e)) hp
theorem go_tryAs_xc {y : PyData} (i : Nat) (hs : ∀ q, (XS q).stack = (XS q).env :: (XS q).outer) (hf : ∀ q, (XS q).env.frame = some (XS q).env.locals) (hN : ∀ q, (XS q).N.Nodup) (hi : ∀ q, (XS q).N[i]? = some n) (hln : ∀ q, (XS q).env.kindOf n = some .local) (hc : ∀ q, Names (XS q) x cV) (tk : ∀ q, Takes (XS q) (WS q))
    (hb : ∀ i : TrI XS, DS (XT XS i) (WT XS i) Δ body (.xc Δ1 C)) (he : ∀ q, PySem.W.exmOne (XS q).K (.ref C) cV = some true) {Δs : Addr → En} (hΔ : Δ1[i]? = some s) (hsr : s.isRef = false)
    (hsu : ∀ q (a : Addr) (oe : Obj) (pn : List (Addr × Obj)), Zc (.ref C) none oe → (∃ vs, oe.data = .fields vs) → DS ((XS q).suite a ((a, oe) :: pn)) (WS q) (Δ1.set i (.v (.ref a))) (b₀ :: suite) (.rt (Δs a) (.d y))) (hle : ∀ a, Le (Δs a) Δ2) (hp : P (.rt Δ2 (.d y))) :
    Go XS WS Δ (.Try body [.ExceptHandler (some (.Name x np)) (some n) (b₀ :: suite) pos'] [] [] pos :: rest) P :=
  go_end (fun q => ds1_tryAs_xc i (hs q) (hf q) (hN q) (hi q) (hln q) (hc q) (tk q) (fun Wb pn xe t p => hb ⟨q, Wb, pn, xe, t, p⟩) (he q) hΔ hsr (hsu q) hle) rfl hp
end
end Tr
namespace Tr
open PySem L2
/-! ### wide numbers; the script's bits -/
def CPowX (i j : Int) : Prop := 0 ≤ j ∧ (Builtin.Int.intBits i : Int) * j ≤ 2 ^ 27
theorem op_powX {X : Cx} : OpR X (binaryOp .Pow) (rI CPowX fun i j => .int (i ^ j.toNat)) := opI fun _ _ _ _ _ _ _ hc q => PyProof.Rows.pow_int hc.1 hc.2 q
theorem de_powX {X : Cx} {Δ Δ1 Δ2 : En} {a b : Expr} {i j : Int} {pos : Pos} (ha : DEx X Δ a (.d (.int i)) Δ1) (hb : DEx X Δ1 b (.d (.int j)) Δ2) (hc : CPowX i j) : DEx X Δ (.BinOp a .Pow b pos) (.d (.int (i ^ j.toNat))) Δ2 := de_bin op_powX ha hb rfl (bn_I hc fun _ => .int _)
/-- the statement about the script, its numbers' bits told -/
def lawSB (n : Nat) : Spec := fun Δ o => ∃ ns : List Int, ns.length ≤ n ∧ (∀ z ∈ ns, Builtin.Int.intBits z ≤ 1048576) ∧ Δ = [.sc ns] ∧ o = .rt Δ (.d (.bool true))
theorem walk_trB {l : PySem.W.OpenLaw} {n k : Nat} {q : Program} {loose : List Str} {XP : (Str → Option Value) → Heap → Prop} {YP : World → Heap → Prop} {d : DefRec} {K : Params → PySem.W.Frag} {x : Str}
    (hn : l.most = some n) (hn2 : n ≤ sizeLine) (hdf : d.params.defaults = []) (hr : Room k callerA)
    (hY : ∀ (w : World) (h : Heap), YP w h → (K w.params).In h)
    (F : ∀ (w : World) (mg : Str → Option Value) (fa : Addr) (h : Heap), (K w.params).In h → h.Ns mainGlobals mg → mg d.name = some (.ref fa) →
      ∃ fd : FuncData, (∀ (s : Shared) (u : Value), BindsTo s fd ⟨[u], []⟩ [(x, u)]) ∧
        ∀ base : Heap, (K w.params).In base → base.Ns mainGlobals mg → FnOk l.prog w (K w.params) mg base (L2.CX l.prog w) k fa fd [x] (spOf (K w.params) (lawSB n))) :
    PySem.W.WalkO q loose XP YP l.row.toRowW d [] (fun f vs => PySem.call f vs) :=
  L2.walk_ofB (CX := fun w => L2.CX l.prog w) (sp := fun w => spOf (K w.params) (lawSB n)) hn hn2 hdf hr hY F
    (fun w H a ns hl hb _ hS => ⟨[.sc ns], .rt [.sc ns] (.d (.bool true)), fun _ => none, H, ⟨ns, hl, hb, rfl, rfl⟩, ok_sc hS, fun v F' H' ok ex hv => Dq.bl_ hv⟩)
    fun w H s e s' ⟨_, _, _, _, _, _, _, _, _, _, _, _, h⟩ => h
def rawAt (ns : List Int) (k : Int) : Int := if k < ns.length then ns.getD k.toNat 0 else 0
theorem rawAt_bits {ns : List Int} (h : ∀ z ∈ ns, Builtin.Int.intBits z ≤ 1048576) {k : Int} (hk : 0 ≤ k) : Builtin.Int.intBits (rawAt ns k) ≤ 1048576 := by
  unfold rawAt
  split
  · have hl : k.toNat < ns.length := by omega
    rw [List.getD_eq_getElem?_getD, List.getElem?_eq_getElem hl]
    exact h _ (List.getElem_mem hl)
  · decide
theorem log_lt {i : Int} {k : Nat} (hk : 0 < k) (h : i.natAbs < 2 ^ k) : i.natAbs.log2 < k := by
  by_cases h0 : i.natAbs = 0
  · rw [h0]; simpa using hk
  · exact (Nat.log2_lt h0).mpr h
theorem ten60 {i : Int} (h1 : -(10 ^ 60) < i) (h2 : i < 10 ^ 60) : i.natAbs.log2 < 1920 := by
  refine log_lt (by decide) ?_
  have : i.natAbs < 10 ^ 60 := by omega
  exact Nat.lt_of_lt_of_le this (by decide +kernel)
end Tr
namespace Tr
open PySem L2
/-! ### texts: in, partition, find, lstrip, join, int; lists of the module's top; is None -/
section
variable {X : Cx} {W : WX} {Δ Δ1 Δ2 : En} {a b e o : Expr} {r r1 : R} {pos p p2 p3 apos pos2 : Pos} {n : Str} {x y z : PyData} {s t : Str} {k : Bool} {i j : Int} {C : Addr}
/-- x in L, L a list of the module's top -/
theorem dt_inG {c : Addr} {u : V} {us : List V} (ha : DEx X Δ a (.d x) Δ1) (e1 : flatD x = some u) (hmg : X.mg n = some (.ref c)) (hq : ∀ H, SqL X.K H c us) (h1 : flatV u = true) (h2 : us.all flatV = true) (hg : Gl X n := by rfl) (hd : (n == ("__debug__" : Str)) = false := by decide) (hm : behindInMarks .In (.Name n p) = false := by rfl) :
    DTx X Δ (.Compare a [.In] [.Name n p] pos) (inV u us) Δ1 :=
  ⟨ha.rk, pt_imp (pt_cmpR op_in_seq ha.pe (pe_glob (v := .ref c) hg hmg rfl hd) hm) fun σ H Q ⟨B, F, ok, q⟩ => ⟨B, F, ok, fun v F1 H1 ok1 ex1 hv => by
    cases Dq.flat hv e1
    exact ⟨c, us, rfl, .inl (hq H1), h1, h2, _, rfl, q F1 H1 ok1 ex1⟩⟩⟩
theorem dt_niG {c : Addr} {u : V} {us : List V} (ha : DEx X Δ a (.d x) Δ1) (e1 : flatD x = some u) (hmg : X.mg n = some (.ref c)) (hq : ∀ H, SqL X.K H c us) (h1 : flatV u = true) (h2 : us.all flatV = true) (hg : Gl X n := by rfl) (hd : (n == ("__debug__" : Str)) = false := by decide) (hm : behindInMarks .NotIn (.Name n p) = false := by rfl) :
    DTx X Δ (.Compare a [.NotIn] [.Name n p] pos) (!inV u us) Δ1 :=
  ⟨ha.rk, pt_imp (pt_cmpR op_notIn_seq ha.pe (pe_glob (v := .ref c) hg hmg rfl hd) hm) fun σ H Q ⟨B, F, ok, q⟩ => ⟨B, F, ok, fun v F1 H1 ok1 ex1 hv => by
    cases Dq.flat hv e1
    exact ⟨c, us, rfl, .inl (hq H1), h1, h2, _, rfl, q F1 H1 ok1 ex1⟩⟩⟩
/-- one sign, not in a text of the module's top -/
theorem dt_niGS {c : Nat} {tk : Tok} (ha : DEx X Δ a (.d (.str ⟨#[c]⟩)) Δ1) (hmg : X.mg n = some (.str t tk)) (hg : Gl X n := by rfl) (hd : (n == ("__debug__" : Str)) = false := by decide) (hm : behindInMarks .NotIn (.Name n p) = false := by rfl) :
    DTx X Δ (.Compare a [.NotIn] [.Name n p] pos) (!decide (c ∈ t.cps.toList)) Δ1 :=
  ⟨ha.rk, pt_imp (pt_cmpR op_notIn_sign ha.pe (pe_glob (v := .str t) hg hmg ⟨tk, rfl⟩ hd) hm) fun σ H Q ⟨B, F, ok, q⟩ => ⟨B, F, ok, fun v F1 H1 ok1 ex1 hv => by
    cases Dq.str_ hv
    exact ⟨c, t, rfl, rfl, _, rfl, q F1 H1 ok1 ex1⟩⟩⟩
theorem bn_sign {K : Frag} {c : Nat} : Bn K Δ (.d (.str ⟨#[c]⟩)) (.d (.str t)) (fun x y H Q => ∃ (c : Nat) (z : Str), x = .str ⟨#[c]⟩ ∧ y = .str z ∧ Q (.bl (decide (c ∈ z.cps.toList))) H) (.d (.bool (decide (c ∈ t.cps.toList)))) := fun B F H σ v w Q ok hv hw q => by
  cases Dq.str_ hv
  cases Dq.str_ hw
  exact ⟨c, t, rfl, rfl, q _ _ _ ok (.refl _) (.bl _)⟩
theorem bn_nsign {K : Frag} {c : Nat} : Bn K Δ (.d (.str ⟨#[c]⟩)) (.d (.str t)) (fun x y H Q => ∃ (c : Nat) (z : Str), x = .str ⟨#[c]⟩ ∧ y = .str z ∧ Q (.bl (!decide (c ∈ z.cps.toList))) H) (.d (.bool (!decide (c ∈ t.cps.toList)))) := fun B F H σ v w Q ok hv hw q => by
  cases Dq.str_ hv
  cases Dq.str_ hw
  exact ⟨c, t, rfl, rfl, q _ _ _ ok (.refl _) (.bl _)⟩
theorem dt_inS {c : Nat} (ha : DEx X Δ a (.d (.str ⟨#[c]⟩)) Δ1) (hb : DEx X Δ1 b (.d (.str t)) Δ2) (hm : behindInMarks .In b = false := by rfl) : DTx X Δ (.Compare a [.In] [b] pos) (decide (c ∈ t.cps.toList)) Δ2 := dt_cmp op_in_sign ha hb rfl hm bn_sign
theorem dt_niS {c : Nat} (ha : DEx X Δ a (.d (.str ⟨#[c]⟩)) Δ1) (hb : DEx X Δ1 b (.d (.str t)) Δ2) (hm : behindInMarks .NotIn b = false := by rfl) : DTx X Δ (.Compare a [.NotIn] [b] pos) (!decide (c ∈ t.cps.toList)) Δ2 := dt_cmp op_notIn_sign ha hb rfl hm bn_nsign
/-- x is None, is not None, x flat -/
theorem dt_isN {u : V} {kk : Nat} (ha : DEx X Δ a (.d x) Δ1) (e1 : flatD x = some u) (hm : behindInMarks .Is (.Constant .none kk p) = false := by rfl) : DTx X Δ (.Compare a [.Is] [.Constant .none kk p] pos) (decide (u = .non)) Δ1 :=
  dt_cmp op_isN ha de_none rfl hm fun B F H σ v w Q ok hv hw q => by
    cases Dq.flat hv e1
    cases Dq.non_ hw
    exact ⟨rfl, q _ _ _ ok (.refl _) (.bl _)⟩
theorem dt_notN {u : V} {kk : Nat} (ha : DEx X Δ a (.d x) Δ1) (e1 : flatD x = some u) (hm : behindInMarks .IsNot (.Constant .none kk p) = false := by rfl) : DTx X Δ (.Compare a [.IsNot] [.Constant .none kk p] pos) (!decide (u = .non)) Δ1 :=
  dt_cmp op_notN ha de_none rfl hm fun B F H σ v w Q ok hv hw q => by
    cases Dq.flat hv e1
    cases Dq.non_ hw
    exact ⟨rfl, q _ _ _ ok (.refl _) (.bl _)⟩
/-- int(text) -/
theorem de_intT {m : Int} (G : Blt X.mg) (ha : DEx X Δ a (.d (.str s)) Δ1) (hi : PySem.intText? s = some m) (hl : s.length ≤ 640) (hg : Gl X "int" := by rfl) (hs : starEach [a] X.env = (false, eval a X.env) :: starEach [] X.env := by rfl) : DEx X Δ (.Call (.Name "int" p) [a] [] pos) (.d (.int m)) Δ1 :=
  de_ct call_int_str G.int boot_int_ ha rfl (fun B F H σ v Q ok hv q => by
    cases Dq.str_ hv
    exact ⟨s, m, rfl, hi, hl, q _ _ _ ok (.refl _) (.int _)⟩) hg (by decide) (by decide) hs
/-- s.partition(t)[i] -/
theorem de_part {kk kk2 : Nat} (ha : DEx X Δ a (.d (.str s)) Δ1) (hl : s.length ≤ 1000000) (ht : (t.length == 0) = false) (hz : atI [(Txt.partition s t).1, (Txt.partition s t).2.1, (Txt.partition s t).2.2] i = some n) (hs : starEach [.Constant (.str t) kk p2] X.env = [(false, eval (.Constant (.str t) kk p2) X.env)] := by rfl)
    (hbase : attributeBase a "partition" X.env (eval a X.env) = eval a X.env := by rfl) (hline : (apos.endLine == pos.line) = true := by rfl) : DEx X Δ (.Subscript (.Call (.Attribute a "partition" apos) [.Constant (.str t) kk p2] [] pos) (.Constant (.int i) kk2 p3) pos2) (.d (.str n)) Δ1 :=
  ⟨ha.rk, pe_imp (pe_ix ix_tup (pe_partition ha.pe pe_str hs hbase hline) pe_int (fun _ _ => rfl)) fun σ H Q ⟨B, F, ok, q⟩ => ⟨B, F, ok, fun v F1 H1 ok1 ex1 hv => by
    cases Dq.str_ hv
    refine ⟨⟨s, rfl⟩, s, t, rfl, rfl, ht, by rw [sizeLine_eq]; omega, fun l hl => ?_⟩
    refine ⟨l, _, i, .str n, rfl, rfl, SqT.of upd_same, ?_, q _ F1 _ (ok1.new hl) ex1 (.str n)⟩
    obtain ⟨j, h1, h2, _⟩ := atI_get hz
    have h3 : ([V.str (Txt.partition s t).1, .str (Txt.partition s t).2.1, .str (Txt.partition s t).2.2])[j]? = some (.str n) := by
      have : ([(Txt.partition s t).1, (Txt.partition s t).2.1, (Txt.partition s t).2.2].map V.str)[j]? = some (.str n) := by rw [List.getElem?_map, h2]; rfl
      exact this
    unfold atI at hz ⊢
    exact (by
      cases hq : ixN 3 i with
      | none =>
        have hz : (ixN 3 i).bind _ = _ := hz
        rw [hq] at hz
        cases hz
      | some j' =>
        have z := ixN_seq hq
        have h1 : _ = some j := h1
        have e : j' = j := by
          have := z.1
          first
            | exact Option.some.inj (this.symm.trans h1)
            | (rw [h1] at this; exact (Option.some.inj this).symm)
        subst e
        exact h3)⟩⟩
/-- s.find(t), s.lstrip(t) -/
theorem de_find (ha : DEx X Δ a (.d (.str s)) Δ1) (hb : DEx X Δ1 b (.d (.str t)) Δ2) (hs : starEach [b] X.env = [(false, eval b X.env)] := by rfl) (hbase : attributeBase a "find" X.env (eval a X.env) = eval a X.env := by rfl) (hline : (apos.endLine == pos.line) = true := by rfl) : DEx X Δ (.Call (.Attribute a "find" apos) [b] [] pos) (.d (.int (Txt.find s t))) Δ2 :=
  ⟨ha.rk.trans hb.rk, pe_imp (pe_m1 PySem.F.slot_str_find PySem.F.type_str_find mt_find ha.pe hb.pe hs hbase hline) fun σ H Q ⟨B, F, ok, q⟩ => ⟨B, F, ok, fun v F1 H1 ok1 ex1 hv => by
    cases Dq.str_ hv
    exact ⟨⟨s, rfl⟩, B, F1, ok1, fun w F2 H2 ok2 ex2 hw => by
      cases Dq.str_ hw
      exact ⟨s, t, rfl, rfl, q _ F2 H2 ok2 (ex1.trans ex2) (.int _)⟩⟩⟩⟩
theorem de_lstrip (ha : DEx X Δ a (.d (.str s)) Δ1) (hb : DEx X Δ1 b (.d (.str t)) Δ2) (hl : s.length ≤ 1000000) (hs : starEach [b] X.env = [(false, eval b X.env)] := by rfl) (hbase : attributeBase a "lstrip" X.env (eval a X.env) = eval a X.env := by rfl) (hline : (apos.endLine == pos.line) = true := by rfl) : DEx X Δ (.Call (.Attribute a "lstrip" apos) [b] [] pos) (.d (.str (Txt.lstripChars s t))) Δ2 :=
  ⟨ha.rk.trans hb.rk, pe_imp (pe_m1 PySem.F.slot_str_lstrip PySem.F.type_str_lstrip mt_lstripChars ha.pe hb.pe hs hbase hline) fun σ H Q ⟨B, F, ok, q⟩ => ⟨B, F, ok, fun v F1 H1 ok1 ex1 hv => by
    cases Dq.str_ hv
    exact ⟨⟨s, rfl⟩, B, F1, ok1, fun w F2 H2 ok2 ex2 hw => by
      cases Dq.str_ hw
      exact ⟨s, t, rfl, rfl, by rw [sizeLine_eq]; omega, q _ F2 H2 ok2 (ex1.trans ex2) (.str _)⟩⟩⟩⟩
/-- s.join(list of texts) -/
theorem de_join {ys : List Str} (ha : DEx X Δ a (.d (.str s)) Δ1) (hb : DEx X Δ1 b (.d (.list (ys.map PyData.str))) Δ2) (hl : (ys.map (·.length)).sum + ys.length * s.length ≤ 16777216) (hs : starEach [b] X.env = [(false, eval b X.env)] := by rfl) (hbase : attributeBase a "join" X.env (eval a X.env) = eval a X.env := by rfl) (hline : (apos.endLine == pos.line) = true := by rfl) : DEx X Δ (.Call (.Attribute a "join" apos) [b] [] pos) (.d (.str (Txt.join s ys))) Δ2 :=
  ⟨ha.rk.trans hb.rk, pe_imp (pe_join ha.pe hb.pe hs hbase hline) fun σ H Q ⟨B, F, ok, q⟩ => ⟨B, F, ok, fun v F1 H1 ok1 ex1 hv => by
    cases Dq.str_ hv
    exact ⟨⟨s, rfl⟩, B, F1, ok1, fun w F2 H2 ok2 ex2 hw => by
      obtain ⟨c, vs, rfl, h1, h2⟩ := Dq.inl hw
      cases dqa_strs h2
      exact ⟨s, c, ys, rfl, rfl, .inl (SqL.of (ok2.fh _ _ h1)), hl, q _ F2 H2 ok2 (ex1.trans ex2) (.str _)⟩⟩⟩⟩
/-! what raises, in a tuple, under a minus -/
theorem dx_tup2 {kk} (ha : DEx X Δ a (.d x) Δ) (hb : DXx X W Δ b Δ1 C) (hs : starEach [a, b] X.env = (false, eval a X.env) :: starEach [b] X.env := by rfl) (hs2 : starEach [b] X.env = (false, eval b X.env) :: starEach [] X.env := by rfl) : DXx X W Δ (.Tuple [a, b] kk pos) Δ1 C :=
  ⟨hb.rk, pe_imp (pe_tup (pa_cons ha.pe (pa_cons hb.pe pa_nil hs2) hs)) fun σ H Q ⟨B, F, ok, q⟩ => ⟨B, F, ok, fun v F1 H1 ok1 ex1 hv => ⟨B, F1, ok1, fun F2 H2 ok2 ex2 => q F2 H2 ok2 (ex1.trans ex2)⟩⟩⟩
theorem dx_neg (ha : DXx X W Δ a Δ1 C) : DXx X W Δ (.UnaryOp .USub a pos) Δ1 C := ⟨ha.rk, pe_imp (pe_un un_neg ha.pe) fun σ H Q w => w⟩
end
/-! for sign in text -/
section
variable {X : Cx} {Δ Δ1 : En} {tg e : Expr} {s : Str}
def sgn (s : Str) : List PyData := s.cps.toList.map fun c => PyData.str ⟨#[c]⟩
theorem sgn_get {s : Str} {i : Nat} {d : PyData} (h : (sgn s)[i]? = some d) : ∃ c, s.cps.toList[i]? = some c ∧ d = .str ⟨#[c]⟩ := by
  unfold sgn at h
  rw [List.getElem?_map] at h
  cases q : s.cps.toList[i]? with
  | none => rw [q] at h; cases h
  | some c => rw [q] at h; cases h; exact ⟨c, rfl, rfl⟩
theorem wk_str {K : Frag} {F : Hp} : Wk K F (Its s) (sgn s) where
  go := fun i H hi ex => by
    unfold sgn at hi
    rw [List.length_map, Array.length_toList] at hi
    exact hi
  yl := fun i H v H' B F1 σ Δ hi hy ok ex => by
    obtain ⟨rfl, c, hc, rfl⟩ := hy
    refine ⟨F1, ok, .refl _, .str ⟨#[c]⟩, ?_, .str _⟩
    unfold sgn
    rw [List.getElem?_map, Array.getElem?_toList, hc]
    rfl
  stop := fun H ex => by
    unfold sgn
    rw [List.length_map, Array.length_toList]
    exact Nat.le_refl _
theorem di_str (h : DEx X Δ e (.d (.str s)) Δ1) : DIx X Δ tg e (sgn s) Δ1 := ⟨h.rk, pi_imp (pi_str h.pe) fun σ H R ⟨B, F, ok, q⟩ => ⟨B, F, ok, fun v F1 H1 ok1 ex1 hv => by
  cases Dq.str_ hv
  exact ⟨s, rfl, q _ F1 H1 ok1 ex1 wk_str⟩⟩⟩
end
end Tr
namespace Tr
open PySem L2 TL
/-! ### rows read: the plain law -/
def digC (c : Nat) : Bool := decide (48 ≤ c ∧ c ≤ 57)
def nmL : List Nat → Option Int
  | [] => none
  | c :: cs => if c = 48 ∧ 0 < cs.length then none else if (c :: cs).all digC = true then some ((NumText.digitsVal (c :: cs) : Nat) : Int) else none
theorem nmL_cons (c : Nat) (cs : List Nat) : nmL (c :: cs) = if c = 48 ∧ 0 < cs.length then none else if (c :: cs).all digC = true then some ((NumText.digitsVal (c :: cs) : Nat) : Int) else none := rfl
def nmS (s : Str) : Option Int := nmL (tl s)
theorem all_dig {l : List Nat} (h : l.all digC = true) : NumText.AllDigits l := fun c hc => by
  have := List.all_eq_true.mp h c hc
  unfold digC at this
  exact of_decide_eq_true this
theorem nm_text {s : Str} {m : Int} (h : nmS s = some m) (hl : s.length ≤ 640) : intText? s = some m := by
  unfold nmS at h
  cases e : tl s with
  | nil => rw [e] at h; cases h
  | cons c cs =>
    rw [e] at h
    rw [nmL_cons] at h
    split at h
    · cases h
    · split at h
      · rename_i hd
        cases h
        have hd2 : NumText.AllDigits s.cps.toList := by
          have e2 : s.cps.toList = c :: cs := e
          rw [e2]; exact all_dig hd
        have := PySem.intText_digits hd2 (by have e2 : s.cps.toList = c :: cs := e; rw [e2]; simp) (by omega)
        rw [this]
        have e2 : s.cps.toList = c :: cs := e
        rw [e2]
      · cases h
theorem fold_ge : ∀ (l : List Nat) (a : Nat), a ≤ l.foldl (fun acc c => acc * 10 + (c - 48)) a
  | [], a => Nat.le_refl _
  | c :: cs, a => by
    rw [List.foldl_cons]
    exact Nat.le_trans (by omega) (fold_ge cs (a * 10 + (c - 48)))
theorem nm_zero {l : List Nat} (h : nmL l = some 0) : l = [48] := by
  cases l with
  | nil => cases h
  | cons c cs =>
    rw [nmL_cons] at h
    split at h
    · cases h
    · rename_i h1
      split at h
      · rename_i h2
        have hd := all_dig h2 c (List.mem_cons_self ..)
        have hv : (NumText.digitsVal (c :: cs) : Nat) = 0 := by
          have := Option.some.inj h
          omega
        have hg : c - 48 ≤ NumText.digitsVal (c :: cs) := by
          unfold NumText.digitsVal
          rw [List.foldl_cons]
          exact Nat.le_trans (by omega) (fold_ge cs _)
        have hc : c = 48 := by omega
        subst hc
        cases cs with
        | nil => rfl
        | cons d ds => exact absurd ⟨rfl, by simp⟩ h1
      · cases h
theorem nm_minus (l : List Nat) : nmL (45 :: l) = none := by
  rw [nmL_cons, if_neg (by omega), if_neg]
  simp [digC]
def bareL : List Str := ["add", "sub", "less", "sure", "keep", "drop", "back"]
theorem tl_to (s : Str) (k : Nat) : tl (cutS s none (some (k : Int))) = (tl s).take k := by
  show (s.cps.toList.drop (HT.sIx s.length 0 none)).take (HT.sIx s.length s.length (some (k : Int)) - HT.sIx s.length 0 none) = _
  rw [HT.sIx_none, HT.sIx_nat, List.drop_zero, Nat.sub_zero]
  have : s.length = s.cps.toList.length := by simp [Str.length]
  rw [this]
  show List.take (min k (tl s).length) (tl s) = _
  rw [← List.take_eq_take_min]
theorem tl_from (s : Str) (k : Nat) : tl (cutS s (some (k : Int)) none) = (tl s).drop k := by
  show (s.cps.toList.drop (HT.sIx s.length 0 (some (k : Int)))).take (HT.sIx s.length s.length none - HT.sIx s.length 0 (some (k : Int))) = _
  rw [HT.sIx_none, HT.sIx_nat]
  have hl : s.length = (tl s).length := len_tl s
  rw [hl]
  show ((tl s).drop (min k (tl s).length)).take ((tl s).length - min k (tl s).length) = _
  rw [List.take_of_length_le (by rw [List.length_drop]; omega)]
  by_cases h : k ≤ (tl s).length
  · rw [Nat.min_eq_left h]
  · rw [Nat.min_eq_right (by omega), List.drop_length, List.drop_eq_nil_of_le (by omega)]
def readP (s : Str) : Option Rw :=
  if s ∈ bareL then some (s, none) else
  if (Txt.partition s " ").1 ∉ numW then none else
  if (Txt.partition s " ").1 = "num" ∧ cutS (Txt.partition s " ").2.2 none (some 1) = "-" ∧ (Txt.partition s " ").2.2 ≠ "-0" then (nmS (cutS (Txt.partition s " ").2.2 (some 1) none)).map fun n => ((Txt.partition s " ").1, some (-n))
  else (nmS (Txt.partition s " ").2.2).map fun n => ((Txt.partition s " ").1, some n)
def dueN (w f : Str) : Option Int := if w = "num" ∧ cutS f none (some 1) = "-" ∧ ¬ (nmS (cutS f (some 1) none) = none ∨ nmS (cutS f (some 1) none) = some 0) then (nmS (cutS f (some 1) none)).map (fun n => -n) else nmS f
def dueAt (w s : Str) : Option Int := if cutS s none (some ((w.length : Int) + 1)) = w ++ " " then dueN w (cutS s (some ((w.length : Int) + 1)) none) else none
def dueLoop : List Str → Str → Option Rw
  | [], _ => none
  | w :: ws, s => match dueAt w s with
    | some n => some (w, some n)
    | none => dueLoop ws s
def dueP (s : Str) : Option Rw := if s ∈ bareL then some (s, none) else dueLoop numW s
theorem tl_ext {x y : Str} (h : tl x = tl y) : x = y := by rw [← mk_tl x, ← mk_tl y, h]
theorem tl_blank : tl (" " : Str) = [32] := rfl
theorem first_blank : ∀ {l : List Nat}, 32 ∈ l → ∃ p f, l = p ++ 32 :: f ∧ 32 ∉ p
  | [], h => by simp at h
  | c :: cs, h => by
    by_cases e : c = 32
    · subst e
      exact ⟨[], cs, rfl, by simp⟩
    · have h : 32 ∈ cs := by simp at h; exact h.resolve_left (fun z => e z.symm)
      obtain ⟨p, f, rfl, hp⟩ := first_blank h
      exact ⟨c :: p, f, rfl, by simp; exact ⟨fun z => e z.symm, hp⟩⟩
theorem take_blank : ∀ {p W f : List Nat}, 32 ∉ p → 32 ∉ W → ((p ++ 32 :: f).take (W.length + 1) = W ++ [32] ↔ W = p)
  | [], [], f, _, _ => by simp
  | [], w :: W, f, _, hW => by
    have hw : 32 ≠ w := fun z => hW (by rw [z]; simp)
    simp [hw]
  | c :: p, [], f, hp, _ => by
    have hc : c ≠ 32 := fun z => hp (by rw [z]; simp)
    simp [hc]
  | c :: p, w :: W, f, hp, hW => by
    have hp' : 32 ∉ p := fun z => hp (List.mem_cons_of_mem _ z)
    have hW' : 32 ∉ W := fun z => hW (List.mem_cons_of_mem _ z)
    have ih := take_blank (f := f) hp' hW'
    show (c :: (p ++ 32 :: f)).take ((W.length + 1) + 1) = w :: (W ++ [32]) ↔ w :: W = c :: p
    rw [List.take_succ_cons, List.cons.injEq, List.cons.injEq, ih]
    exact and_congr_left fun _ => eq_comm
theorem numW_free : ∀ w ∈ numW, 32 ∉ tl w := by decide +kernel
theorem int_succ (n : Nat) : ((n : Int) + 1) = ((n + 1 : Nat) : Int) := by omega
theorem drop_mid : ∀ (p f : List Nat), (p ++ 32 :: f).drop (p.length + 1) = f
  | [], f => rfl
  | c :: p, f => drop_mid p f
theorem due_at {w s : Str} {p f : List Nat} (hs : tl s = p ++ 32 :: f) (hp : 32 ∉ p) (hw : 32 ∉ tl w) : dueAt w s = if w = ⟨p.toArray⟩ then dueN w ⟨f.toArray⟩ else none := by
  unfold dueAt
  rw [int_succ]
  have hl : w.length = (tl w).length := len_tl w
  have key : cutS s none (some ((w.length + 1 : Nat) : Int)) = w ++ " " ↔ w = ⟨p.toArray⟩ := by
    constructor
    · intro h
      have := congrArg tl h
      rw [tl_to, tl_append, hs, tl_blank, hl, take_blank hp hw] at this
      exact tl_ext this
    · intro h
      refine tl_ext ?_
      rw [tl_to, tl_append, hs, tl_blank, hl]
      exact (take_blank hp hw).mpr (by rw [h])
  by_cases h : w = ⟨p.toArray⟩
  · rw [if_pos (key.mpr h), if_pos h]
    congr 1
    refine tl_ext ?_
    rw [tl_from, hs, hl, h]
    show (p ++ 32 :: f).drop (p.length + 1) = f
    exact drop_mid p f
  · rw [if_neg (fun z => h (key.mp z)), if_neg h]
theorem due_at0 {w s : Str} (hs : 32 ∉ tl s) : dueAt w s = none := by
  unfold dueAt
  rw [if_neg]
  intro h
  rw [int_succ] at h
  have h1 := congrArg tl h
  rw [tl_to, tl_append, tl_blank] at h1
  have : 32 ∈ (tl s).take (w.length + 1) := by rw [h1]; simp
  exact hs (List.mem_of_mem_take this)
theorem due_loop0 {s : Str} (hs : 32 ∉ tl s) : ∀ ws, dueLoop ws s = none
  | [] => rfl
  | w :: ws => by unfold dueLoop; rw [due_at0 hs]; exact due_loop0 hs ws
theorem due_loop {s : Str} {p f : List Nat} (hs : tl s = p ++ 32 :: f) (hp : 32 ∉ p) : ∀ ws : List Str, (∀ w ∈ ws, 32 ∉ tl w) → dueLoop ws s = if (⟨p.toArray⟩ : Str) ∈ ws then (dueN ⟨p.toArray⟩ ⟨f.toArray⟩).map (fun n => ((⟨p.toArray⟩ : Str), some n)) else none
  | [], _ => rfl
  | w :: ws, h => by
    have ih := due_loop hs hp ws fun v hv => h v (List.mem_cons_of_mem _ hv)
    unfold dueLoop
    rw [due_at hs hp (h w (List.mem_cons_self ..))]
    by_cases e : w = ⟨p.toArray⟩
    · rw [if_pos e, if_pos (by rw [e]; exact List.mem_cons_self ..), e]
      cases hn : dueN ⟨p.toArray⟩ ⟨f.toArray⟩ with
      | some n => rfl
      | none =>
        show dueLoop ws s = _
        rw [ih, hn]
        split <;> rfl
    · rw [if_neg e]
      show dueLoop ws s = _
      rw [ih]
      have : (⟨p.toArray⟩ : Str) ∈ w :: ws ↔ (⟨p.toArray⟩ : Str) ∈ ws := by
        rw [List.mem_cons]
        exact ⟨fun z => z.resolve_left fun q => e q.symm, .inr⟩
      by_cases hm : (⟨p.toArray⟩ : Str) ∈ ws
      · rw [if_pos hm, if_pos (this.mpr hm)]
      · rw [if_neg hm, if_neg (fun z => hm (this.mp z))]
theorem due_same (w f : Str) : (dueN w f).map (fun n => (w, some n)) = (if w = "num" ∧ cutS f none (some 1) = "-" ∧ f ≠ "-0" then (nmS (cutS f (some 1) none)).map fun n => (w, some (-n)) else (nmS f).map fun n => (w, some n)) := by
  unfold dueN
  by_cases h : w = "num" ∧ cutS f none (some 1) = "-"
  · obtain ⟨h1, h2⟩ := h
    have e1 : (tl f).take 1 = [45] := by
      have := congrArg tl h2
      rw [show (some (1 : Int)) = some ((1 : Nat) : Int) from rfl, tl_to] at this
      exact this
    obtain ⟨g, hg⟩ : ∃ g, tl f = 45 :: g := by
      cases e : tl f with
      | nil => rw [e] at e1; cases e1
      | cons c cs =>
        rw [e] at e1
        simp at e1
        exact ⟨cs, by rw [e1]⟩
    have e2 : tl (cutS f (some 1) none) = g := by
      rw [show (some (1 : Int)) = some ((1 : Nat) : Int) from rfl, tl_from, hg]; rfl
    have hf : nmS f = none := by unfold nmS; rw [hg]; exact nm_minus g
    have h0 : f = "-0" ↔ g = [48] := by
      constructor
      · intro z
        rw [z] at hg
        have hg : [45, 48] = 45 :: g := hg
        injection hg with _ hg
        exact hg.symm
      · intro z
        refine tl_ext ?_
        rw [hg, z]; rfl
    have hN : nmS (cutS f (some 1) none) = nmL g := by unfold nmS; rw [e2]
    rw [hN, hf]
    cases hn : nmL g with
    | none =>
      rw [if_neg (fun z => z.2.2 (.inl rfl))]
      split <;> rfl
    | some n =>
      by_cases hz : n = 0
      · subst hz
        have hg48 := nm_zero hn
        rw [if_neg (fun z => z.2.2 (.inr rfl)), if_neg (fun z => z.2.2 (h0.mpr hg48))]
      · have hne : f ≠ "-0" := fun z => by
          have := h0.mp z
          rw [this] at hn
          have e : nmL [48] = some 0 := rfl
          rw [e] at hn
          exact hz (Option.some.inj hn).symm
        rw [if_pos ⟨h1, h2, fun z => by rcases z with z | z; cases z; exact hz (Option.some.inj z)⟩, if_pos ⟨h1, h2, hne⟩]
        rfl
  · rw [if_neg (fun z => h ⟨z.1, z.2.1⟩), if_neg (fun z => h ⟨z.1, z.2.1⟩)]
theorem due_read (s : Str) : dueP s = readP s := by
  unfold dueP readP
  by_cases hb : s ∈ bareL
  · rw [if_pos hb, if_pos hb]
  rw [if_neg hb, if_neg hb]
  by_cases h32 : 32 ∈ tl s
  · obtain ⟨p, f, hs, hp⟩ := first_blank h32
    have es : s = (⟨p.toArray⟩ : Str) ++ " " ++ ⟨f.toArray⟩ := tl_ext (by rw [tl_append, tl_append, hs, tl_blank, tl_mk, tl_mk, List.append_assoc]; rfl)
    have ep : Txt.partition s " " = ((⟨p.toArray⟩ : Str), (" " : Str), (⟨f.toArray⟩ : Str)) := by
      rw [es]
      exact partition_app (s := 32) (S := []) rfl hp
    rw [ep, due_loop hs hp numW numW_free]
    by_cases hm : (⟨p.toArray⟩ : Str) ∈ numW
    · rw [if_pos hm, if_neg (fun z => z hm)]
      exact due_same _ _
    · rw [if_neg hm, if_pos hm]
  · have ep : Txt.partition s " " = (s, Str.empty, Str.empty) := partition_none (s := 32) (S := []) rfl h32
    rw [ep, due_loop0 h32]
    split
    · rfl
    · rw [if_neg (fun z => by
        have := congrArg tl z.2.1
        rw [show (some (1 : Int)) = some ((1 : Nat) : Int) from rfl, tl_to] at this
        cases this)]
      rfl
theorem bare_word : ∀ w ∈ bareL, w ∈ wordL ∧ decide (w ∈ numW) = false := by decide +kernel
theorem num_word : ∀ w ∈ numW, w ∈ wordL := by decide +kernel
theorem read_wf {s : Str} {r : Rw} (h : readP s = some r) : wfR r := by
  unfold readP at h
  split at h
  · rename_i hb
    cases h
    exact ⟨(bare_word _ hb).1, (bare_word _ hb).2.symm⟩
  · split at h
    · cases h
    · rename_i hn
      have hn : (Txt.partition s " ").1 ∈ numW := Decidable.not_not.mp hn
      have key : ∀ {o : Option Int} {g : Int → Int}, (o.map fun n => ((Txt.partition s " ").1, some (g n))) = some r → wfR r := fun {o g} e => by
        cases o with
        | none => cases e
        | some n =>
          cases e
          exact ⟨num_word _ hn, (decide_eq_true hn).symm⟩
      split at h
      · exact key (g := fun n => -n) h
      · exact key (g := fun n => n) h
/-! texts of the walk -/
theorem inV_str (v : Str) (ws : List Str) : inV (.str v) (ws.map V.str) = decide (v ∈ ws) := by
  rw [Bool.eq_iff_iff]
  unfold inV
  rw [List.any_eq_true, decide_eq_true_iff]
  constructor
  · rintro ⟨x, hx, h⟩
    obtain ⟨u, hu, rfl⟩ := List.mem_map.mp hx
    have : u = v := beq_iff_eq.mp h
    rw [← this]; exact hu
  · intro h
    exact ⟨.str v, List.mem_map.mpr ⟨v, h, rfl⟩, beq_iff_eq.mpr rfl⟩
theorem dig_in (c : Nat) : decide (c ∈ ("0123456789" : Str).cps.toList) = digC c := by
  have e : ("0123456789" : Str).cps.toList = [48, 49, 50, 51, 52, 53, 54, 55, 56, 57] := rfl
  rw [e]
  unfold digC
  rw [decide_eq_decide]
  simp only [List.mem_cons, List.not_mem_nil, or_false]
  omega
def optD : Option Int → PyData
  | none => .none
  | some n => .int n
end Tr
namespace Tr
open PySem L2
def top (i : Nat) : Stmt := PySem.Challenge.pw_tailroad_k02_rows_read.main.body.getD i (.Pass ⟨0, 0, 0, 0⟩)
abbrev st_number_of : Stmt := top 10
abbrev st_read : Stmt := top 11
abbrev st_cell_at : Stmt := top 13
abbrev st_raw : Stmt := top 14
abbrev st_whole : Stmt := top 15
abbrev st_row_alike : Stmt := top 16
abbrev st_lnumber : Stmt := top 17
abbrev st_due_of : Stmt := top 18
abbrev st_odd : Stmt := top 19
abbrev st_line : Stmt := top 20
abbrev st_by_any : Stmt := top 21
abbrev st_law : Stmt := top 22
section
variable {P : Program} {w : World} {K : Frag} {mg : Str → Option Value} {base : Heap}
/-! cell_at -/
theorem sc_cell_at : FnScope ["_law_script", "_law_k"] ["_law_script", "_law_k"] (defScope st_cell_at) := ⟨rfl, rfl, rfl, by decide +kernel, rfl, by decide +kernel, by decide +kernel⟩
def S_cell_at : Spec := fun Δ o => ∃ ns k, 0 ≤ k ∧ Δ = [.sc ns, .d (.int k)] ∧ o = .rt Δ (.d (.int (cellAt ns k)))
theorem ok_cell_at (G : Blt mg) (D : Df K mg "_law_cell_at" st_cell_at ["_law_script", "_law_k"]) : Fn P w K mg base 1 "_law_cell_at" S_cell_at := by
  refine mk_ok D sc_cell_at (fun Δ o ⟨ns, k, hk, h1, h2⟩ => ⟨by rw [h1]; rfl, fun _ _ e => by rw [h2] at e; cases e⟩) fun f Δ o ⟨ns, k, hk, h1, h2⟩ => ?_
  subst h1 h2
  refine go_if (fun q => dt_lt (de_nm 1) (de_lenSc G (de_sl 0) rfl)) (fun h => ?_) (fun h => ?_)
  · have h := of_decide_eq_true h
    refine go_end (fun q => ds1_ret (de_mod (de_add (de_mul (de_ixSc (de_sl 0) (de_nm 1) rfl (at_get (d := 0) hk h)) de_int (.inr ⟨by decide, by decide⟩)) (de_mul (de_nm 1) de_int (.inr ⟨by decide, by decide⟩))) de_int (by decide))) rfl ⟨?_, rfl, fin0 rfl⟩
    rw [cellAt, if_pos h]
  · have h := of_decide_eq_false h
    refine go_on (go_end (fun q => ds1_ret de_int) rfl ⟨?_, rfl, fin0 rfl⟩)
    rw [cellAt, if_neg h]
/-! raw -/
theorem sc_raw : FnScope ["_law_script", "_law_k"] ["_law_script", "_law_k"] (defScope st_raw) := ⟨rfl, rfl, rfl, by decide +kernel, rfl, by decide +kernel, by decide +kernel⟩
def S_raw : Spec := fun Δ o => ∃ ns k, 0 ≤ k ∧ Δ = [.sc ns, .d (.int k)] ∧ o = .rt Δ (.d (.int (rawAt ns k)))
theorem ok_raw (G : Blt mg) (D : Df K mg "_law_raw" st_raw ["_law_script", "_law_k"]) : Fn P w K mg base 1 "_law_raw" S_raw := by
  refine mk_ok D sc_raw (fun Δ o ⟨ns, k, hk, h1, h2⟩ => ⟨by rw [h1]; rfl, fun _ _ e => by rw [h2] at e; cases e⟩) fun f Δ o ⟨ns, k, hk, h1, h2⟩ => ?_
  subst h1 h2
  refine go_if (fun q => dt_lt (de_nm 1) (de_lenSc G (de_sl 0) rfl)) (fun h => ?_) (fun h => ?_)
  · have h := of_decide_eq_true h
    refine go_end (fun q => ds1_ret (de_ixSc (de_sl 0) (de_nm 1) rfl (at_get (d := 0) hk h))) rfl ⟨?_, rfl, fin0 rfl⟩
    rw [rawAt, if_pos h]
  · have h := of_decide_eq_false h
    refine go_on (go_end (fun q => ds1_ret de_int) rfl ⟨?_, rfl, fin0 rfl⟩)
    rw [rawAt, if_neg h]
/-! whole -/
theorem sc_whole : FnScope ["_law_found"] ["_law_found"] (defScope st_whole) := ⟨rfl, rfl, rfl, by decide +kernel, rfl, by decide +kernel, by decide +kernel⟩
def S_whole : Spec := fun Δ o => ∃ n : Int, Δ = [.d (.int n)] ∧ o = .rt Δ (.d (.bool true))
theorem ok_whole (G : Blt mg) (D : Df K mg "_law_whole" st_whole ["_law_found"]) : Fn P w K mg base 1 "_law_whole" S_whole := by
  refine mk_ok D sc_whole (fun Δ o ⟨n, h1, h2⟩ => ⟨by rw [h1]; rfl, fun _ _ e => by rw [h2] at e; cases e⟩) fun f Δ o ⟨n, h1, h2⟩ => ?_
  subst h1 h2
  exact go_end (fun q => ds1_ret (de_and (k := true) (l := true) (de_isi (x := .int n) G (de_nm 0) G.int boot_int_ (show kitB "int" "int" = some true by decide +kernel)) fun h => (de_one (de_not (k := false) (de_isi (x := .int n) G (de_nm 0) G.bool boot_bool_ (show kitB "int" "bool" = some false by decide +kernel)))))) rfl ⟨rfl, rfl, fin0 rfl⟩
/-! row_alike, rows_alike -/
theorem sc_row_alike : FnScope ["_law_found", "_law_due"] ["_law_found", "_law_due"] (defScope st_row_alike) := ⟨rfl, rfl, rfl, by decide +kernel, rfl, by decide +kernel, by decide +kernel⟩
def S_row_alike : Spec := fun Δ o => ∃ r : Rw, wfR r ∧ Δ = [.d (encR r), .d (encR r)] ∧ o = .rt Δ (.d (.bool true))
theorem ok_row_alike (G : Blt mg) (D : Df K mg "_law_row_alike" st_row_alike ["_law_found", "_law_due"]) (F_whole : Fn P w K mg base 1 "_law_whole" S_whole) : Fn P w K mg base 2 "_law_row_alike" S_row_alike := by
  refine mk_ok D sc_row_alike (fun Δ o ⟨r, _, h1, h2⟩ => ⟨by rw [h1]; rfl, fun _ _ e => by rw [h2] at e; cases e⟩) fun f Δ o ⟨r, hw, h1, h2⟩ => ?_
  subst h1 h2
  have e0 : PyData.eqv (encR r) (encR r) = true := shp_refl ((sh_row hw).shp (by decide))
  have hs := (sh_row hw).shp (by decide)
  obtain ⟨v, n⟩ := r
  cases n with
  | none =>
    refine go_if (fun q => (DWx.dt (dw_or (k := false) (dt_not (k := true) (dt_val (de_isi (x := encR (v, none)) G (de_nm 0) G.tuple boot_tuple_ (show kitB "tuple" "tuple" = some true by decide +kernel)))) fun h => (dw_or (k := false) (dt_neI (de_lenT (xs := [.str v]) G (de_nm 0) rfl rfl) (de_lenT (xs := [.str v]) G (de_nm 1) rfl rfl)) fun h => (dw_or1 (dt_not (k := true) (dt_val (de_isi (x := .str v) G (de_ixT (de_nm 0) de_int rfl rfl rfl) G.str boot_str_ (show kitB "str" "str" = some true by decide +kernel))))))))) (fun h => by simp at h) (fun h => go_on ?_)
    refine go_if (fun q => (DWx.dt (dw_and (k := false) (l := false) (dt_eqI (de_lenT (xs := [.str v]) G (de_nm 1) rfl rfl) de_int) fun h => by simp at h))) (fun h => by simp at h) (fun h => go_on ?_)
    refine go_end (fun q => ds1_ret (de_eq q.2.units (de_nm 0) (de_nm 1) rfl rfl rfl hs hs)) rfl ⟨?_, rfl, fin0 rfl⟩
    rw [e0]
  | some n =>
    refine go_if (fun q => (DWx.dt (dw_or (k := false) (dt_not (k := true) (dt_val (de_isi (x := encR (v, some n)) G (de_nm 0) G.tuple boot_tuple_ (show kitB "tuple" "tuple" = some true by decide +kernel)))) fun h => (dw_or (k := false) (dt_neI (de_lenT (xs := [.str v, .int n]) G (de_nm 0) rfl rfl) (de_lenT (xs := [.str v, .int n]) G (de_nm 1) rfl rfl)) fun h => (dw_or1 (dt_not (k := true) (dt_val (de_isi (x := .str v) G (de_ixT (de_nm 0) de_int rfl rfl rfl) G.str boot_str_ (show kitB "str" "str" = some true by decide +kernel))))))))) (fun h => by simp at h) (fun h => go_on ?_)
    refine go_if (fun q => (DWx.dt (dw_and (k := true) (l := false) (dt_eqI (de_lenT (xs := [.str v, .int n]) G (de_nm 1) rfl rfl) de_int) fun h => (dw_and1 (dt_not (k := true) (dt_val (de_call F_whole (q.2.mono (by omega)) (da_cons (de_ixT (de_nm 0) de_int rfl rfl rfl) da_nil) ⟨n, rfl, rfl⟩ (oneN rfl) rfl))))))) (fun h => by simp at h) (fun h => go_on ?_)
    refine go_end (fun q => ds1_ret (de_eq q.2.units (de_nm 0) (de_nm 1) rfl rfl rfl hs hs)) rfl ⟨?_, rfl, fin0 rfl⟩
    rw [e0]
end
end Tr
namespace Tr
open PySem L2 TL
/-! lists and texts of the module's top -/
structure GL (K : Frag) (mg : Str → Option Value) (n : Str) (ws : List Str) : Prop where
  ex : ∃ c, mg n = some (.ref c) ∧ ∀ H, SqL K H c (ws.map V.str)
theorem gl_mk {K : Frag} {mg : Str → Option Value} {n : Str} {ws : List Str} {c : Addr} {its : Array Value} {k : Nat} {sl : Array (Option Value)} (hm : mg n = some (.ref c)) (l : K.lookup c = some ⟨.type "list", none, .seq its k, sl⟩) (hz : its.size ≤ 1000) (hv : Vals (ws.map V.str) its.toList) : GL K mg n ws :=
  ⟨c, hm, fun H => .inr ⟨_, its, k, l, rfl, rfl, rfl, by rw [sizeLine_eq]; omega, hv⟩⟩
theorem nm_out {s : Str} (h : s = "" ∨ (∃ c cs, tl s = c :: cs ∧ c = 48 ∧ 0 < cs.length) ∨ ∃ c ∈ tl s, digC c = false) : nmS s = none := by
  rcases h with rfl | ⟨c, cs, e, rfl, h⟩ | ⟨c, hc, hd⟩
  · rfl
  · unfold nmS
    rw [e, nmL_cons, if_pos ⟨rfl, h⟩]
  · unfold nmS
    cases e : tl s with
    | nil => rfl
    | cons d ds =>
      rw [nmL_cons]
      split
      · rfl
      · rw [if_neg]
        intro z
        rw [e] at hc
        have := List.all_eq_true.mp z c hc
        rw [hd] at this
        cases this
theorem nm_in {s : Str} {c : Nat} {cs : List Nat} (e : tl s = c :: cs) (h1 : ¬ (c = 48 ∧ 0 < cs.length)) (h2 : ∀ d ∈ tl s, digC d = true) : ∃ m, nmS s = some m := by
  unfold nmS
  rw [e, nmL_cons, if_neg h1, if_pos (List.all_eq_true.mpr (by rw [← e]; exact h2))]
  exact ⟨_, rfl⟩
theorem tl_cons {s : Str} (h : s ≠ "") : ∃ c cs, tl s = c :: cs := by
  cases e : tl s with
  | nil => exact absurd (tl_ext e) h
  | cons c cs => exact ⟨c, cs, rfl⟩
theorem sign_eq (c : Nat) : decide ((⟨#[c]⟩ : Str) = "0") = decide (c = 48) := by
  rw [decide_eq_decide]
  constructor
  · intro h
    have h : [c] = [48] := congrArg tl h
    exact (List.cons.inj h).1
  · intro h
    rw [h]; rfl
section
variable {P : Program} {w : World} {K : Frag} {mg : Str → Option Value} {base : Heap}
/-! number_of -/
theorem sc_number_of : FnScope ["figures", "sign"] ["figures"] (defScope st_number_of) := ⟨rfl, rfl, rfl, by decide +kernel, rfl, by decide +kernel, by decide +kernel⟩
def nmO (cO : Addr) (s : Str) (Δ : En) : Out := match nmS s with
  | none => .xc Δ cO
  | some n => .rt Δ (.d (.int n))
theorem nmO_none {cO : Addr} {s : Str} {Δ : En} (h : nmS s = none) : nmO cO s Δ = .xc Δ cO := by unfold nmO; rw [h]
theorem nmO_some {cO : Addr} {s : Str} {Δ : En} {n : Int} (h : nmS s = some n) : nmO cO s Δ = .rt Δ (.d (.int n)) := by unfold nmO; rw [h]
def S_number_of (cO : Addr) : Spec := fun Δ o => ∃ s : Str, s.length ≤ 640 ∧ Δ = [.d (.str s)] ∧ o = nmO cO s Δ
theorem ok_number_of (G : Blt mg) (D : Df K mg "number_of" st_number_of ["figures"]) {cO : Addr} (XO : Xc K mg "NoRow" cO) {tk : Tok} (hF : mg "FIGURES" = some (.str "0123456789" tk)) : Fn P w K mg base 1 "number_of" (S_number_of cO) := by
  refine mk_okX D sc_number_of (fun Δ o ⟨s, _, h1, h2⟩ => by rw [h1]; rfl) fun f Δ o ⟨s, hl, h1, h2⟩ => ?_
  subst h1 h2
  refine go_eq (Δ' := [.d (.str s), .no]) rfl ?_
  by_cases he : s = ""
  · rw [nmO_none (nm_out (.inl he))]
    refine go_if (k := true) (fun q => dt_castW (k := true || false) rfl (dw_or (dt_cast (decide_eq_true he) (dt_eqS (s := s) (t := "") (de_nm 0) de_str)) fun h => by cases h) |>.dt) (fun h => ?_) (fun h => by cases h)
    exact go_end (fun q => ds1_raise rfl (takes_of rfl rfl rfl rfl) XO) rfl ⟨rfl, fin0 rfl⟩
  obtain ⟨c, cs, e⟩ := tl_cons he
  have hlen : s.length = cs.length + 1 := by rw [len_tl s, e]; rfl
  have hx : atI s.cps.toList 0 = some c := by
    have e2 : s.cps.toList = c :: cs := e
    rw [e2]; exact at0
  refine go_if (k := decide (c = 48) && decide ((1 : Int) < s.length)) (fun q => dt_castW (k := false || (decide (c = 48) && decide ((1 : Int) < s.length))) (by rw [Bool.false_or]) (dw_or (dt_cast (decide_eq_false he) (dt_eqS (s := s) (t := "") (de_nm 0) de_str)) fun h => (dw_or1 (DWx.dt (dw_and (dt_cast (sign_eq c) (dt_eqS (s := ⟨#[c]⟩) (t := "0") (de_ixS (de_nm 0) de_int (by omega) hx) de_str)) fun h => (dw_and1 (dt_gt (de_lenS G (de_nm 0) (by omega)) de_int)))))) |>.dt) (fun h => ?_) (fun h => go_on ?_)
  · have h : c = 48 ∧ (1 : Int) < s.length := by simpa using h
    rw [nmO_none (nm_out (.inr (.inl ⟨c, cs, e, h.1, by omega⟩)))]
    exact go_end (fun q => ds1_raise rfl (takes_of rfl rfl rfl rfl) XO) rfl ⟨rfl, fin0 rfl⟩
  have h0 : ¬ (c = 48 ∧ 0 < cs.length) := fun z => by
    have : (decide (c = 48) && decide ((1 : Int) < s.length)) = true := by
      rw [Bool.and_eq_true, decide_eq_true_iff, decide_eq_true_iff]
      exact ⟨z.1, by omega⟩
    rw [h] at this; cases this
  refine go_for (fun n D => ∃ s1, s1.isRef = false ∧ (∀ d ∈ (tl s).take n, digC d = true) ∧ D = [.d (.str s), s1]) (fun q => passes_of rfl) (fun q => rfl) (fun q => di_str (de_nm 0)) (Le.refl _) ⟨.no, rfl, fun d hd => by simp at hd, rfl⟩ (fun n D d hd ⟨s1, hs, hdig, e1⟩ => ?_) (fun D hD => ?_)
  · subst e1
    obtain ⟨z, hz, rfl⟩ := sgn_get hd
    refine ⟨_, fun q => dg_name 1 sc_number_of.nd rfl hs, ?_⟩
    refine go_if (k := !digC z) (fun q => dt_cast (by rw [dig_in]) (dt_niGS (c := z) (de_nm 1) hF)) (fun h => ?_) (fun h => go_on (go_nil ?_))
    · rw [nmO_none (nm_out (.inr (.inr ⟨z, List.mem_of_getElem? hz, by simpa using h⟩)))]
      exact go_end (fun q => ds1_raise rfl (takes_of rfl rfl rfl rfl) XO) rfl ⟨rfl, fin0 rfl⟩
    · refine ⟨_, Le.refl _, .d (.str ⟨#[z]⟩), rfl, fun d hd => ?_, rfl⟩
      have hst : (tl s).take n ++ [z] = (tl s).take (n + 1) := take_step hz
      rw [← hst] at hd
      rcases List.mem_append.mp hd with hd | hd
      · exact hdig d hd
      · simp only [List.mem_cons, List.not_mem_nil, or_false] at hd
        subst hd
        simpa using h
  · obtain ⟨s1, hs, hdig, e1⟩ := hD
    subst e1
    have hall : ∀ d ∈ tl s, digC d = true := fun d hd => hdig d (by
      rw [List.take_of_length_le (by unfold sgn; rw [List.length_map]; exact Nat.le_refl _)]
      exact hd)
    obtain ⟨m, hm⟩ := nm_in e h0 hall
    rw [nmO_some hm]
    exact go_end (fun q => ds1_ret (de_intT G (de_nm 0) (nm_text hm hl) hl)) rfl ⟨rfl, rfl, fin0 rfl⟩
/-! _law_number -/
theorem sc_lnumber : FnScope ["_law_figures", "_law_sign"] ["_law_figures"] (defScope st_lnumber) := ⟨rfl, rfl, rfl, by decide +kernel, rfl, by decide +kernel, by decide +kernel⟩
def S_lnumber : Spec := fun Δ o => ∃ s : Str, s.length ≤ 640 ∧ Δ = [.d (.str s)] ∧ o = .rt Δ (.d (optD (nmS s)))
theorem ok_lnumber (G : Blt mg) (D : Df K mg "_law_number" st_lnumber ["_law_figures"]) : Fn P w K mg base 1 "_law_number" S_lnumber := by
  refine mk_ok D sc_lnumber (fun Δ o ⟨s, _, h1, h2⟩ => ⟨by rw [h1]; rfl, fun _ _ e => by rw [h2] at e; cases e⟩) fun f Δ o ⟨s, hl, h1, h2⟩ => ?_
  subst h1 h2
  refine go_eq (Δ' := [.d (.str s), .no]) rfl ?_
  by_cases he : s = ""
  · rw [nm_out (.inl he)]
    refine go_if (k := true) (fun q => dt_castW (k := true || false) rfl (dw_or (dt_cast (decide_eq_true he) (dt_eqS (s := s) (t := "") (de_nm 0) de_str)) fun h => by cases h) |>.dt) (fun h => ?_) (fun h => by cases h)
    exact go_end (fun q => ds1_ret de_none) rfl ⟨rfl, rfl, fin0 rfl⟩
  obtain ⟨c, cs, e⟩ := tl_cons he
  have hlen : s.length = cs.length + 1 := by rw [len_tl s, e]; rfl
  have hx : atI s.cps.toList 0 = some c := by
    have e2 : s.cps.toList = c :: cs := e
    rw [e2]; exact at0
  refine go_if (k := decide ((1 : Int) < s.length) && decide (c = 48)) (fun q => dt_castW (k := false || (decide ((1 : Int) < s.length) && decide (c = 48))) (by rw [Bool.false_or]) (dw_or (dt_cast (decide_eq_false he) (dt_eqS (s := s) (t := "") (de_nm 0) de_str)) fun h => (dw_or1 (DWx.dt (dw_and (dt_gt (de_lenS G (de_nm 0) (by omega)) de_int) fun h => (dw_and1 (dt_cast (sign_eq c) (dt_eqS (s := ⟨#[c]⟩) (t := "0") (de_ixS (de_nm 0) de_int (by omega) hx) de_str)))))) ) |>.dt) (fun h => ?_) (fun h => go_on ?_)
  · have h : (1 : Int) < s.length ∧ c = 48 := by simpa using h
    rw [nm_out (.inr (.inl ⟨c, cs, e, h.2, by omega⟩))]
    exact go_end (fun q => ds1_ret de_none) rfl ⟨rfl, rfl, fin0 rfl⟩
  have h0 : ¬ (c = 48 ∧ 0 < cs.length) := fun z => by
    have : (decide ((1 : Int) < s.length) && decide (c = 48)) = true := by
      rw [Bool.and_eq_true, decide_eq_true_iff, decide_eq_true_iff]
      exact ⟨by omega, z.1⟩
    rw [h] at this; cases this
  refine go_for (fun n D => ∃ s1, s1.isRef = false ∧ (∀ d ∈ (tl s).take n, digC d = true) ∧ D = [.d (.str s), s1]) (fun q => .never) (fun q => rfl) (fun q => di_str (de_nm 0)) (Le.refl _) ⟨.no, rfl, fun d hd => by simp at hd, rfl⟩ (fun n D d hd ⟨s1, hs, hdig, e1⟩ => ?_) (fun D hD => ?_)
  · subst e1
    obtain ⟨z, hz, rfl⟩ := sgn_get hd
    refine ⟨_, fun q => dg_name 1 sc_lnumber.nd rfl hs, ?_⟩
    refine go_if (k := !digC z) (fun q => dt_cast (by rw [dig_in]) (dt_niS (c := z) (t := "0123456789") (de_nm 1) de_str)) (fun h => ?_) (fun h => go_on (go_nil ?_))
    · rw [nm_out (.inr (.inr ⟨z, List.mem_of_getElem? hz, by simpa using h⟩))]
      exact go_end (fun q => ds1_ret de_none) rfl ⟨rfl, rfl, fin0 rfl⟩
    · refine ⟨_, Le.refl _, .d (.str ⟨#[z]⟩), rfl, fun d hd => ?_, rfl⟩
      have hst : (tl s).take n ++ [z] = (tl s).take (n + 1) := take_step hz
      rw [← hst] at hd
      rcases List.mem_append.mp hd with hd | hd
      · exact hdig d hd
      · simp only [List.mem_cons, List.not_mem_nil, or_false] at hd
        subst hd
        simpa using h
  · obtain ⟨s1, hs, hdig, e1⟩ := hD
    subst e1
    have hall : ∀ d ∈ tl s, digC d = true := fun d hd => hdig d (by
      rw [List.take_of_length_le (by unfold sgn; rw [List.length_map]; exact Nat.le_refl _)]
      exact hd)
    obtain ⟨m, hm⟩ := nm_in e h0 hall
    rw [hm]
    exact go_end (fun q => ds1_ret (de_intT G (de_nm 0) (nm_text hm hl) hl)) rfl ⟨rfl, rfl, fin0 rfl⟩
end
end Tr
namespace Tr
open PySem L2 TL
theorem part_len (s : Str) : (Txt.partition s " ").2.2.length ≤ s.length := by
  by_cases h32 : 32 ∈ tl s
  · obtain ⟨p, f, hs, hp⟩ := first_blank h32
    have es : s = (⟨p.toArray⟩ : Str) ++ " " ++ ⟨f.toArray⟩ := tl_ext (by rw [tl_append, tl_append, hs, tl_blank, tl_mk, tl_mk, List.append_assoc]; rfl)
    have ep : Txt.partition s " " = ((⟨p.toArray⟩ : Str), (" " : Str), (⟨f.toArray⟩ : Str)) := by
      rw [es]
      exact partition_app (s := 32) (S := []) rfl hp
    rw [ep, len_tl s, hs]
    show f.toArray.size ≤ _
    simp
    omega
  · have ep : Txt.partition s " " = (s, Str.empty, Str.empty) := partition_none (s := 32) (S := []) rfl h32
    rw [ep]
    exact Nat.zero_le _
theorem bare_flat : (bareL.map V.str).all flatV = true := rfl
theorem numW_flat : (numW.map V.str).all flatV = true := rfl
def flatO : Option Int → V
  | none => .non
  | some n => .int n
theorem flat_optD (o : Option Int) : flatD (optD o) = some (flatO o) := by cases o <;> rfl
theorem in_none0 (o : Option Int) : inV (flatO o) [.non, .int 0] = decide (o = none ∨ o = some 0) := by
  cases o with
  | none => rfl
  | some n =>
    rw [Bool.eq_iff_iff, decide_eq_true_iff]
    show (([V.non, .int 0].any fun y => eqV y (.int n)) = true) ↔ _
    simp only [List.any_cons, List.any_nil, eqV, Bool.or_false, Bool.false_or, beq_iff_eq, reduceCtorEq, false_or, Option.some.injEq]
    exact eq_comm
theorem numW_len : ∀ w ∈ numW, w.length ≤ 6 := by decide +kernel
theorem len_add (a b : Str) : (a ++ b).length = a.length + b.length := by
  show (a.cps ++ b.cps).size = a.cps.size + b.cps.size
  exact Array.size_append
def readO (cO : Addr) (s : Str) (Δ : En) : Out := match readP s with
  | none => .xc Δ cO
  | some r => .rt Δ (.d (encR r))
theorem readO_none {cO : Addr} {s : Str} {Δ : En} (h : readP s = none) : readO cO s Δ = .xc Δ cO := by unfold readO; rw [h]
theorem readO_some {cO : Addr} {s : Str} {Δ : En} {r : Rw} (h : readP s = some r) : readO cO s Δ = .rt Δ (.d (encR r)) := by unfold readO; rw [h]
def dueD (s : Str) : PyData := match dueP s with
  | none => .none
  | some r => encR r
section
variable {P : Program} {w : World} {K : Frag} {mg : Str → Option Value} {base : Heap}
/-! read -/
theorem sc_read : FnScope ["line", "word", "figures"] ["line"] (defScope st_read) := ⟨rfl, rfl, rfl, by decide +kernel, rfl, by decide +kernel, by decide +kernel⟩
def S_read (cO : Addr) : Spec := fun Δ o => ∃ s : Str, s.length ≤ 640 ∧ Δ = [.d (.str s)] ∧ o = readO cO s Δ
theorem ok_read (G : Blt mg) (D : Df K mg "read" st_read ["line"]) {cO : Addr} (XO : Xc K mg "NoRow" cO) (gB : GL K mg "BARE" bareL) (gN : GL K mg "NUMBERED" numW) (F : Fn P w K mg base 1 "number_of" (S_number_of cO)) : Fn P w K mg base 2 "read" (S_read cO) := by
  refine mk_okX D sc_read (fun Δ o ⟨s, _, h1, h2⟩ => by rw [h1]; rfl) fun f Δ o ⟨s, hl, h1, h2⟩ => ?_
  subst h1 h2
  obtain ⟨cB, mB, qB⟩ := gB.ex
  obtain ⟨cN, mN, qN⟩ := gN.ex
  refine go_eq (Δ' := [.d (.str s), .no, .no]) rfl ?_
  refine go_if (k := decide (s ∈ bareL)) (fun q => dt_cast (inV_str s bareL) (dt_inG (x := .str s) (u := .str s) (us := bareL.map V.str) (de_nm 0) rfl mB qB rfl bare_flat)) (fun h => ?_) (fun h => go_on ?_)
  · have h := of_decide_eq_true h
    rw [readO_some (show readP s = some (s, none) by unfold readP; rw [if_pos h])]
    exact go_end (fun q => ds1_ret (de_tup (xs := [.str s]) (da_cons (de_nm 0) da_nil))) rfl ⟨rfl, rfl, fin0 rfl⟩
  have hb := of_decide_eq_false h
  have hpl := part_len s
  have er : readP s = if (Txt.partition s " ").1 ∉ numW then none else
    if (Txt.partition s " ").1 = "num" ∧ cutS (Txt.partition s " ").2.2 none (some 1) = "-" ∧ (Txt.partition s " ").2.2 ≠ "-0" then (nmS (cutS (Txt.partition s " ").2.2 (some 1) none)).map fun n => ((Txt.partition s " ").1, some (-n))
    else (nmS (Txt.partition s " ").2.2).map fun n => ((Txt.partition s " ").1, some n) := by
    unfold readP
    rw [if_neg hb]
  obtain ⟨wd, mid, fg, ep⟩ : ∃ wd mid fg, Txt.partition s " " = (wd, mid, fg) := ⟨_, _, _, rfl⟩
  have z1 : atI [(Txt.partition s " ").1, (Txt.partition s " ").2.1, (Txt.partition s " ").2.2] 0 = some wd := by rw [ep]; rfl
  have z2 : atI [(Txt.partition s " ").1, (Txt.partition s " ").2.1, (Txt.partition s " ").2.2] 2 = some fg := by rw [ep]; rfl
  rw [ep] at er hpl
  have hpl : fg.length ≤ s.length := hpl
  have er : readP s = if wd ∉ numW then none else if wd = "num" ∧ cutS fg none (some 1) = "-" ∧ fg ≠ "-0" then (nmS (cutS fg (some 1) none)).map fun n => (wd, some (-n)) else (nmS fg).map fun n => (wd, some n) := er
  refine go_then (fun q => ds1_set (x := .str wd) 1 sc_read.nd (de_part (n := wd) (t := " ") (i := 0) (de_nm 0) (by omega) rfl z1)) ?_
  refine go_then (fun q => ds1_set (x := .str fg) 2 sc_read.nd (de_part (n := fg) (t := " ") (i := 2) (de_nm 0) (by omega) rfl z2)) ?_
  refine go_if (k := !decide (wd ∈ numW)) (fun q => dt_cast (by rw [inV_str]) (dt_niG (x := .str wd) (u := .str wd) (us := numW.map V.str) (de_nm 1) rfl mN qN rfl numW_flat)) (fun h => ?_) (fun h => go_on ?_)
  · have h : wd ∉ numW := by simpa using h
    rw [if_pos h] at er
    rw [readO_none er]
    exact go_end (fun q => ds1_raise rfl (takes_of rfl rfl rfl rfl) XO) rfl ⟨rfl, fin0 rfl⟩
  have hin : wd ∈ numW := by simpa using h
  rw [if_neg (fun z => z hin)] at er
  have hcl : (cutS fg (some 1) none).length ≤ 640 := Nat.le_trans (cutS_length _ _ _) (by omega)
  refine go_if (k := decide (wd = "num") && (decide (cutS fg none (some 1) = "-") && !decide (fg = "-0"))) (fun q => DWx.dt (dw_and (dt_eqS (s := wd) (t := "num") (de_nm 1) de_str) fun h => (dw_and (dt_eqS (s := cutS fg none (some 1)) (t := "-") (de_slS (de_nm 2) dp_no (dp_so de_int) (by omega)) de_str) fun h => (dw_and1 (dt_neS (s := fg) (t := "-0") (de_nm 2) de_str))))) (fun h => ?_) (fun h => go_on ?_)
  · have h : wd = "num" ∧ cutS fg none (some 1) = "-" ∧ fg ≠ "-0" := by simpa using h
    rw [if_pos h] at er
    cases hn : nmS (cutS fg (some 1) none) with
    | none =>
      rw [hn] at er
      rw [readO_none er]
      exact go_end (fun q => ds1_retX (dx_tup2 (de_nm 1) (dx_neg (dx_call (takes_of rfl rfl rfl rfl) F q.2 (da_cons (de_slS (de_nm 2) (dp_so de_int) dp_no (by omega)) da_nil) ⟨cutS fg (some 1) none, hcl, rfl, (nmO_none hn).symm⟩ (oneN rfl))))) rfl ⟨rfl, fin0 rfl⟩
    | some n =>
      rw [hn] at er
      rw [readO_some er]
      exact go_end (fun q => ds1_ret (de_tup (xs := [.str wd, .int (-n)]) (da_cons (de_nm 1) (da_cons (de_neg (de_call F q.2 (da_cons (de_slS (de_nm 2) (dp_so de_int) dp_no (by omega)) da_nil) ⟨cutS fg (some 1) none, hcl, rfl, (nmO_some hn).symm⟩ (oneN rfl) rfl)) da_nil)))) rfl ⟨rfl, rfl, fin0 rfl⟩
  · have h : ¬ (wd = "num" ∧ cutS fg none (some 1) = "-" ∧ fg ≠ "-0") := fun z => by
      rw [decide_eq_true z.1, decide_eq_true z.2.1, decide_eq_false z.2.2] at h
      cases h
    rw [if_neg h] at er
    cases hn : nmS fg with
    | none =>
      rw [hn] at er
      rw [readO_none er]
      exact go_end (fun q => ds1_retX (dx_tup2 (de_nm 1) (dx_call (takes_of rfl rfl rfl rfl) F q.2 (da_cons (de_nm 2) da_nil) ⟨fg, by omega, rfl, (nmO_none hn).symm⟩ (oneN rfl)))) rfl ⟨rfl, fin0 rfl⟩
    | some n =>
      rw [hn] at er
      rw [readO_some er]
      exact go_end (fun q => ds1_ret (de_tup (xs := [.str wd, .int n]) (da_cons (de_nm 1) (da_cons (de_call F q.2 (da_cons (de_nm 2) da_nil) ⟨fg, by omega, rfl, (nmO_some hn).symm⟩ (oneN rfl) rfl) da_nil)))) rfl ⟨rfl, rfl, fin0 rfl⟩
/-! _law_due_of -/
theorem sc_due_of : FnScope ["_law_line_here", "_law_word", "_law_figures", "_law_number_here"] ["_law_line_here"] (defScope st_due_of) := ⟨rfl, rfl, rfl, by decide +kernel, rfl, by decide +kernel, by decide +kernel⟩
def S_due_of : Spec := fun Δ o => ∃ s : Str, s.length ≤ 640 ∧ Δ = [.d (.str s)] ∧ o = .rt Δ (.d (dueD s))
theorem ok_due_of (G : Blt mg) (D : Df K mg "_law_due_of" st_due_of ["_law_line_here"]) (F : Fn P w K mg base 1 "_law_number" S_lnumber) : Fn P w K mg base 2 "_law_due_of" S_due_of := by
  refine mk_ok D sc_due_of (fun Δ o ⟨s, _, h1, h2⟩ => ⟨by rw [h1]; rfl, fun _ _ e => by rw [h2] at e; cases e⟩) fun f Δ o ⟨s, hl, h1, h2⟩ => ?_
  subst h1 h2
  refine go_eq (Δ' := [.d (.str s), .no, .no, .no]) rfl ?_
  refine go_if (k := decide (s ∈ bareL)) (fun q => dt_cast (inV_str s bareL) (dt_in (x := .str s) (u := .str s) (us := bareL.map V.str) (xs := [.str "add", .str "sub", .str "less", .str "sure", .str "keep", .str "drop", .str "back"]) (de_nm 0) (de_ice (de_lst (da_cons de_str (da_cons de_str (da_cons de_str (da_cons de_str (da_cons de_str (da_cons de_str (da_cons de_str da_nil))))))))) rfl rfl rfl rfl rfl bare_flat)) (fun h => ?_) (fun h => go_on ?_)
  · have h := of_decide_eq_true h
    have e : dueD s = .tuple [.str s] := by unfold dueD dueP; rw [if_pos h]; rfl
    rw [e]
    exact go_end (fun q => ds1_ret (de_tup (xs := [.str s]) (da_cons (de_nm 0) da_nil))) rfl ⟨rfl, rfl, fin0 rfl⟩
  have hb := of_decide_eq_false h
  have ed : dueP s = dueLoop numW s := by unfold dueP; rw [if_neg hb]
  refine go_for (fun n D => ∃ s1 s2 s3, s1.isRef = false ∧ s2.isRef = false ∧ s3.isRef = false ∧ dueP s = dueLoop (numW.drop n) s ∧ D = [.d (.str s), s1, s2, s3]) (fun q => .never) (fun q => rfl) (fun q => di_list (xs := numW.map PyData.str) (de_ice (de_lst (da_cons de_str (da_cons de_str (da_cons de_str (da_cons de_str (da_cons de_str (da_cons de_str da_nil))))))))) (Le.refl _) ⟨.no, .no, .no, rfl, rfl, rfl, ed, rfl⟩ (fun n D d hd ⟨s1, s2, s3, t1, t2, t3, hdl, e1⟩ => ?_) (fun D hD => ?_)
  · subst e1
    obtain ⟨v, hv, rfl, hmem⟩ := map_get hd
    have hvl := numW_len v hmem
    have edr : numW.drop n = v :: numW.drop (n + 1) := by
      obtain ⟨hlt, he⟩ := List.getElem?_eq_some_iff.mp hv
      rw [List.drop_eq_getElem_cons hlt, he]
    have eloop : dueP s = match dueAt v s with | some m => some (v, some m) | none => dueLoop (numW.drop (n + 1)) s := by
      rw [hdl, edr]; rfl
    have hv1 : (v ++ (" " : Str)).length = v.length + 1 := len_add _ _
    refine ⟨_, fun q => dg_name 1 sc_due_of.nd rfl t1, ?_⟩
    refine go_if (fun q => dt_eqS (s := cutS s none (some ((v.length : Int) + 1))) (t := v ++ " ") (de_slS (de_nm 0) dp_no (dp_so (de_add (de_lenS G (de_nm 1) (by omega)) de_int)) (by omega)) (de_addS (de_nm 1) de_str (by rw [sizeLine_eq]; show v.length + 1 ≤ _; omega))) (fun h => ?_) (fun h => go_on (go_nil ?_))
    · have h := of_decide_eq_true h
      have eat : dueAt v s = dueN v (cutS s (some ((v.length : Int) + 1)) none) := by unfold dueAt; rw [if_pos h]
      have hfl : (cutS s (some ((v.length : Int) + 1)) none).length ≤ 640 := Nat.le_trans (cutS_length _ _ _) hl
      rw [eat] at eloop
      refine go_then (fun q => ds1_set (x := .str (cutS s (some ((v.length : Int) + 1)) none)) 2 sc_due_of.nd (de_slS (de_nm 0) (dp_so (de_add (de_lenS G (de_nm 1) (by omega)) de_int)) dp_no (by omega)) rfl t2) ?_
      generalize cutS s (some ((v.length : Int) + 1)) none = fg at eloop hfl
      have hcl : (cutS fg (some 1) none).length ≤ 640 := Nat.le_trans (cutS_length _ _ _) hfl
      refine go_then (fun q => ds1_set (x := optD (nmS fg)) 3 sc_due_of.nd (de_call F q.2 (da_cons (de_nm 2) da_nil) ⟨fg, hfl, rfl, rfl⟩ (oneN rfl) rfl) rfl t3) ?_
      -- behind the number
      have fin1 : Go (XN P w K mg base ["_law_line_here", "_law_word", "_law_figures", "_law_number_here"] "_law_due_of" (defScope st_due_of) f 1) WN [.d (.str s), .d (.str v), .d (.str fg), .d (optD (dueN v fg))] ((bodyOf (stAt (bodyOf (stAt (defBody st_due_of) 1)) 0)).drop 3) (thenP (XN P w K mg base ["_law_line_here", "_law_word", "_law_figures", "_law_number_here"] "_law_due_of" (defScope st_due_of) f 1) WN [] (Tn (fun D => ∃ s1 s2 s3, s1.isRef = false ∧ s2.isRef = false ∧ s3.isRef = false ∧ dueP s = dueLoop (numW.drop (n + 1)) s ∧ D = [.d (.str s), s1, s2, s3]) (thenP (XN P w K mg base ["_law_line_here", "_law_word", "_law_figures", "_law_number_here"] "_law_due_of" (defScope st_due_of) f 1) WN ((defBody st_due_of).drop 2) (fun o' => End [.d (.str s)] o' (.rt [.d (.str s)] (.d (dueD s))))))) := by
        cases hN : dueN v fg with
        | none =>
          rw [hN] at eloop
          refine go_if (k := false) (fun q => dt_cast rfl (dt_notN (x := optD none) (u := .non) (de_nm 3) rfl)) (fun h => by cases h) (fun h => go_on (go_on (go_nil ?_)))
          exact ⟨_, Le.refl _, _, _, _, rfl, rfl, rfl, eloop, rfl⟩
        | some m =>
          rw [hN] at eloop
          have e : dueD s = .tuple [.str v, .int m] := by unfold dueD; rw [eloop]; rfl
          rw [e]
          refine go_if (k := true) (fun q => dt_cast rfl (dt_notN (x := optD (some m)) (u := .int m) (de_nm 3) rfl)) (fun h => ?_) (fun h => by cases h)
          exact go_end (fun q => ds1_ret (de_tup (xs := [.str v, .int m]) (da_cons (de_nm 1) (da_cons (de_nm 3) da_nil)))) rfl ⟨rfl, rfl, fin0 rfl⟩
      by_cases hC : v = "num" ∧ cutS fg none (some 1) = "-" ∧ ¬ (nmS (cutS fg (some 1) none) = none ∨ nmS (cutS fg (some 1) none) = some 0)
      · obtain ⟨m, hm⟩ : ∃ m, nmS (cutS fg (some 1) none) = some m := by
          cases q : nmS (cutS fg (some 1) none) with
          | none => exact absurd (.inl q) hC.2.2
          | some m => exact ⟨m, rfl⟩
        have eN : dueN v fg = some (-m) := by unfold dueN; rw [if_pos hC, hm]; rfl
        rw [eN] at fin1
        have ck : (decide (v = "num") && (decide (cutS fg none (some 1) = "-") && !inV (flatO (nmS (cutS fg (some 1) none))) [.non, .int 0])) = true := by
          rw [in_none0, decide_eq_true hC.1, decide_eq_true hC.2.1, decide_eq_false hC.2.2]; rfl
        refine go_if (k := true) (fun q => dt_cast ck (DWx.dt (dw_and (dt_eqS (s := v) (t := "num") (de_nm 1) de_str) fun h => (dw_and (dt_eqS (s := cutS fg none (some 1)) (t := "-") (de_slS (de_nm 2) dp_no (dp_so de_int) (by omega)) de_str) fun h => (dw_and1 (dt_ni (x := optD (nmS (cutS fg (some 1) none))) (xs := [.none, .int 0]) (de_call F q.2 (da_cons (de_slS (de_nm 2) (dp_so de_int) dp_no (by omega)) da_nil) ⟨cutS fg (some 1) none, hcl, rfl, rfl⟩ (oneN rfl) rfl) (de_ice (de_lst (da_cons de_none (da_cons de_int da_nil)))) rfl (flat_optD _) rfl rfl (by rw [hm]; rfl) rfl)))))) (fun h => ?_) (fun h => by cases h)
        exact go_then (fun q => ds1_set (x := .int (-m)) 3 sc_due_of.nd (de_neg (de_cast (by rw [hm]; rfl) (de_call F q.2 (da_cons (de_slS (de_nm 2) (dp_so de_int) dp_no (by omega)) da_nil) ⟨cutS fg (some 1) none, hcl, rfl, rfl⟩ (oneN rfl) rfl)))) (go_on fin1)
      · have eN : dueN v fg = nmS fg := by unfold dueN; rw [if_neg hC]
        rw [eN] at fin1
        have ck : (decide (v = "num") && (decide (cutS fg none (some 1) = "-") && !inV (flatO (nmS (cutS fg (some 1) none))) [.non, .int 0])) = false := by
          rw [in_none0]
          by_cases a1 : v = "num"
          · by_cases a2 : cutS fg none (some 1) = "-"
            · have a3 : nmS (cutS fg (some 1) none) = none ∨ nmS (cutS fg (some 1) none) = some 0 := Decidable.byContradiction fun z => hC ⟨a1, a2, z⟩
              rw [decide_eq_true a3]; simp
            · rw [decide_eq_false a2]; simp
          · rw [decide_eq_false a1]; rfl
        refine go_if (k := false) (fun q => dt_cast ck (DWx.dt (dw_and (dt_eqS (s := v) (t := "num") (de_nm 1) de_str) fun h => (dw_and (dt_eqS (s := cutS fg none (some 1)) (t := "-") (de_slS (de_nm 2) dp_no (dp_so de_int) (by omega)) de_str) fun h => (dw_and1 (dt_ni (x := optD (nmS (cutS fg (some 1) none))) (xs := [.none, .int 0]) (de_call F q.2 (da_cons (de_slS (de_nm 2) (dp_so de_int) dp_no (by omega)) da_nil) ⟨cutS fg (some 1) none, hcl, rfl, rfl⟩ (oneN rfl) rfl) (de_ice (de_lst (da_cons de_none (da_cons de_int da_nil)))) rfl (flat_optD _) rfl rfl (by cases nmS (cutS fg (some 1) none) <;> rfl) rfl)))))) (fun h => by cases h) (fun h => go_on fin1)
    · have h := of_decide_eq_false h
      have eat : dueAt v s = none := by unfold dueAt; rw [if_neg h]
      rw [eat] at eloop
      exact ⟨_, Le.refl _, _, _, _, rfl, t2, t3, eloop, rfl⟩
  · obtain ⟨s1, s2, s3, _, _, _, hdl, e1⟩ := hD
    subst e1
    have e : dueD s = .none := by unfold dueD; rw [hdl]; rfl
    rw [e]
    exact go_end (fun q => ds1_ret de_none) rfl ⟨rfl, rfl, fin0 rfl⟩
end
end Tr
namespace Tr
open PySem L2 TL
theorem cut2_len (s : Str) {a b : Int} (ha : 0 ≤ a) (hab : a ≤ b) : (cutS s none (some a)).length + (cutS s (some b) none).length ≤ s.length := by
  obtain ⟨m, rfl⟩ : ∃ m : Nat, a = (m : Int) := ⟨a.toNat, by omega⟩
  obtain ⟨k, rfl⟩ : ∃ k : Nat, b = (k : Int) := ⟨b.toNat, by omega⟩
  rw [len_tl, len_tl, len_tl s, tl_to, tl_from, List.length_take, List.length_drop]
  omega
theorem one_len (c : Nat) : (⟨#[c]⟩ : Str).length = 1 := rfl
theorem num_len {n : Int} (h0 : 0 ≤ n) (h1 : n < 10 ^ 60) : (Str.ofString (toString n)).length ≤ 60 := by
  obtain ⟨m, rfl⟩ : ∃ m : Nat, n = (m : Int) := ⟨n.toNat, by omega⟩
  rw [len_tl, tl_num]
  exact numL_len (by decide) (by exact_mod_cast h1)
theorem joinL_len : ∀ ls : List (List Nat), (joinL [] ls).length = (ls.map List.length).sum
  | [] => rfl
  | [p] => by simp [joinL]
  | p :: q :: r => by
    show (p ++ ([] ++ joinL [] (q :: r))).length = _
    rw [List.nil_append, List.length_append, joinL_len (q :: r)]
    simp
theorem join0_len (ys : List Str) : (Txt.join ("" : Str) ys).length = (ys.map (·.length)).sum := by
  rw [join_eq, len_tl, tl_join]
  show (joinL [] (ys.map tl)).length = _
  rw [joinL_len, List.map_map]
  exact congrArg List.sum (List.map_congr_left fun y _ => (len_tl y).symm)
theorem ones_sum {α : Type} (l : List α) (f : α → Str) (h : ∀ x, (f x).length = 1) : ((l.map f).map (·.length)).sum = l.length := by
  induction l with
  | nil => rfl
  | cons x xs ih =>
    rw [List.map_cons, List.map_cons, List.sum_cons, ih, h, List.length_cons]
    exact Nat.add_comm _ _
def oddL : List Str := ["", " ", "num", "num ", "num  1", " num 1", "num 1 ", "NUM 1", "Add", "add 1", "add ", "num +1", "num -0", "arg -1", "num 007", "num 1 2", "numb 1", "num1", "num 0x1", "back 0"]
theorem oddL_len : ∀ i : Nat, (oddL.getD i "").length ≤ 10 := fun i => by
  by_cases h : i < 20
  · exact (show ∀ i : Nat, i < 20 → (oddL.getD i "").length ≤ 10 by decide +kernel) i h
  · rw [List.getD_eq_getElem?_getD, List.getElem?_eq_none (by show 20 ≤ i; omega)]
    decide
def wL13 : List Str := ["num", "arg", "unless", "skip", "call", "jump", "add", "sub", "less", "sure", "keep", "drop", "back"]
def wL25 : List Str := ["num", "arg", "unless", "skip", "call", "jump", "add", "sub", "less", "sure", "keep", "drop", "back", "num", "arg", "unless", "skip", "call", "jump", "mul", "nums", "num", "num", "num", "num"]
theorem wL25_len : ∀ i : Nat, (wL25.getD i "").length ≤ 6 := fun i => by
  by_cases h : i < 25
  · exact (show ∀ i : Nat, i < 25 → (wL25.getD i "").length ≤ 6 by decide +kernel) i h
  · rw [List.getD_eq_getElem?_getD, List.getElem?_eq_none (by show 25 ≤ i; omega)]
    decide
def preL : List Str := ["", "-", "", "", "-", "", "0", "-0"]
theorem preL_len : ∀ i : Nat, (preL.getD i "").length ≤ 2 := fun i => by
  by_cases h : i < 8
  · exact (show ∀ i : Nat, i < 8 → (preL.getD i "").length ≤ 2 by decide +kernel) i h
  · rw [List.getD_eq_getElem?_getD, List.getElem?_eq_none (by show 8 ≤ i; omega)]
    decide
section
variable {P : Program} {w : World} {K : Frag} {mg : Str → Option Value} {base : Heap}
/-! _law_odd_line -/
theorem sc_odd : FnScope ["_law_cell", "_law_some"] ["_law_cell"] (defScope st_odd) := ⟨rfl, rfl, rfl, by decide +kernel, rfl, by decide +kernel, by decide +kernel⟩
def S_odd : Spec := fun Δ o => ∃ c : Int, 0 ≤ c ∧ Δ = [.d (.int c)] ∧ o = .rt Δ (.d (.str (oddL.getD (c % 20).toNat "")))
theorem ok_odd (G : Blt mg) (D : Df K mg "_law_odd_line" st_odd ["_law_cell"]) : Fn P w K mg base 1 "_law_odd_line" S_odd := by
  refine mk_ok D sc_odd (fun Δ o ⟨c, _, h1, h2⟩ => ⟨by rw [h1]; rfl, fun _ _ e => by rw [h2] at e; cases e⟩) fun f Δ o ⟨c, hc, h1, h2⟩ => ?_
  subst h1 h2
  refine go_eq (Δ' := [.d (.int c), .no]) rfl ?_
  have hx : atI (oddL.map PyData.str) (c % 20) = some (.str (oddL.getD (c % 20).toNat "")) := at_map PyData.str "" (by omega) (by show _ < (20 : Int); omega)
  refine go_then (fun q => ds1_set (x := .list [.str "", .str " ", .str "num", .str "num ", .str "num  1", .str " num 1", .str "num 1 ", .str "NUM 1", .str "Add", .str "add 1", .str "add ", .str "num +1"]) 1 sc_odd.nd (de_ice (de_lst (da_cons de_str (da_cons de_str (da_cons de_str (da_cons de_str (da_cons de_str (da_cons de_str (da_cons de_str (da_cons de_str (da_cons de_str (da_cons de_str (da_cons de_str (da_cons de_str da_nil))))))))))))))) ?_
  refine go_then (fun q => ds1_set (x := .list (oddL.map PyData.str)) 1 sc_odd.nd (de_ice (de_cat (xs := [.str "", .str " ", .str "num", .str "num ", .str "num  1", .str " num 1", .str "num 1 ", .str "NUM 1", .str "Add", .str "add 1", .str "add ", .str "num +1"]) (ys := [.str "num -0", .str "arg -1", .str "num 007", .str "num 1 2", .str "numb 1", .str "num1", .str "num 0x1", .str "back 0"]) (de_nm 1) (de_ice (de_lst (da_cons de_str (da_cons de_str (da_cons de_str (da_cons de_str (da_cons de_str (da_cons de_str (da_cons de_str (da_cons de_str da_nil)))))))))) rfl rfl rfl (by simp)))) ?_
  exact go_end (fun q => ds1_ret (de_ixL (xs := oddL.map PyData.str) (de_nm 1) (de_mod (de_nm 0) de_int (by decide)) rfl rfl hx)) rfl ⟨rfl, rfl, fin0 rfl⟩
/-! _law_line -/
abbrev NLn : List Str := ["_law_script", "_law_words", "_law_line_here", "_law_way", "_law_at", "_law_sign", "_law_number_here", "_law_letters", "_law_k"]
theorem sc_line : FnScope NLn ["_law_script"] (defScope st_line) := ⟨rfl, rfl, rfl, by decide +kernel, rfl, by decide +kernel, by decide +kernel⟩
def V_line : En → Prop := fun Δ => ∃ ns : List Int, ns.length ≤ 63 ∧ (∀ z ∈ ns, Builtin.Int.intBits z ≤ 1048576) ∧ Δ = [.sc ns]
def R_line : En → Out → Prop := fun Δ o => ∃ s : Str, s.length ≤ 640 ∧ o = .rt Δ (.d (.str s))
theorem ok_line (G : Blt mg) (D : Df K mg "_law_line" st_line ["_law_script"]) (F_cell_at : Fn P w K mg base 1 "_law_cell_at" S_cell_at) (F_raw : Fn P w K mg base 1 "_law_raw" S_raw) (F_odd : Fn P w K mg base 1 "_law_odd_line" S_odd) : ∃ T : En → Out, (∀ Δ, V_line Δ → R_line Δ (T Δ)) ∧ Fn P w K mg base 2 "_law_line" (fun Δ o => V_line Δ ∧ o = T Δ) := by
  refine mk_ex D sc_line (fun Δ ⟨ns, _, _, e⟩ => by rw [e]; rfl) fun f Δ ⟨ns, hnl, hbits, e⟩ => ?_
  subst e
  refine go_eq (Δ' := [.sc ns, .no, .no, .no, .no, .no, .no, .no, .no]) rfl ?_
  have c0 := cellAt_lo ns 0
  have c1 := cellAt_lo ns 1
  have c3 := cellAt_lo ns 3
  have c4 := cellAt_lo ns 4
  have c5 := cellAt_lo ns 5
  have c6 := cellAt_lo ns 6
  have c7 := cellAt_lo ns 7
  have c8 := cellAt_lo ns 8
  have hr2 := rawAt_bits hbits (k := 2) (by decide)
  have ret : ∀ (D : En) (s : Str), s.length ≤ 640 → ∃ Δ' r, End [.sc ns] (.rt D (.d (.str s))) (.rt Δ' r) ∧ R_line [.sc ns] (.rt Δ' r) := fun D s hs => ⟨[.sc ns], .d (.str s), ⟨rfl, rfl, fin0 rfl⟩, s, hs, rfl⟩
  have call : ∀ (k : Int), 0 ≤ k → S_cell_at [.sc ns, .d (.int k)] (.rt [.sc ns, .d (.int k)] (.d (.int (cellAt ns k)))) := fun k hk => ⟨ns, k, hk, rfl, rfl⟩
  refine go_then (fun q => ds1_set (x := .list (wL13.map PyData.str)) 1 sc_line.nd (de_ice (de_lst (xs := wL13.map PyData.str) (da_cons de_str (da_cons de_str (da_cons de_str (da_cons de_str (da_cons de_str (da_cons de_str (da_cons de_str (da_cons de_str (da_cons de_str (da_cons de_str (da_cons de_str (da_cons de_str (da_cons de_str da_nil)))))))))))))))) ?_
  have hx0 : atI (wL13.map PyData.str ++ cutD (wL13.map PyData.str) none (some 6) ++ [.str "mul", .str "nums", .str "num", .str "num", .str "num", .str "num"]) (cellAt ns 0 % 25) = some (.str (wL25.getD (cellAt ns 0 % 25).toNat "")) := at_map (xs := wL25) PyData.str "" (by omega) (by show _ < (25 : Int); omega)
  have hl0 := wL25_len (cellAt ns 0 % 25).toNat
  generalize wL25.getD (cellAt ns 0 % 25).toNat "" = s0 at hx0 hl0
  refine go_then (fun q => ds1_set (x := .str s0) 2 sc_line.nd (de_ixL (xs := wL13.map PyData.str ++ cutD (wL13.map PyData.str) none (some 6) ++ [.str "mul", .str "nums", .str "num", .str "num", .str "num", .str "num"]) (de_ice (de_cat (xs := wL13.map PyData.str ++ cutD (wL13.map PyData.str) none (some 6)) (ys := [.str "mul", .str "nums", .str "num", .str "num", .str "num", .str "num"]) (de_ice (de_cat (xs := wL13.map PyData.str) (ys := cutD (wL13.map PyData.str) none (some 6)) (de_nm 1) (de_ice (de_slL (de_nm 1) dp_no (dp_so de_int) rfl rfl)) rfl rfl rfl (by show 19 ≤ 1000000; decide))) (de_ice (de_lst (da_cons de_str (da_cons de_str (da_cons de_str (da_cons de_str (da_cons de_str (da_cons de_str da_nil)))))))) rfl rfl rfl (by show 25 ≤ 1000000; decide))) (de_mod (de_call F_cell_at q.2 (da_cons (de_sl 0) (da_cons de_int da_nil)) (call 0 (by decide)) (oneN rfl) rfl) de_int (by decide)) rfl rfl hx0)) ?_
  -- behind the last change
  have fin3 : ∀ (s : Str) (a5 : Sl) (way : Int), s.length ≤ 143 → a5.isRef = false → ∀ s4 : Sl, s4.isRef = false → Go (XN P w K mg base NLn "_law_line" (defScope st_line) f 1) WN [.sc ns, .d (.list (wL13.map PyData.str)), .d (.str s), .d (.int way), s4, a5, .no, .no, .no] ((defBody st_line).drop 10) (fun o' => ∃ Δ' r, End [.sc ns] o' (.rt Δ' r) ∧ R_line [.sc ns] (.rt Δ' r)) := fun s a5 way hs h5 s4 h4 => by
    refine go_ifset (x := .str (oddL.getD (cellAt ns 7 % 20).toNat "")) 2 (fun q => dt_eqI (de_nm 3) de_int) (fun h q => ds1_set 2 sc_line.nd (de_call F_odd q.2 (da_cons (de_call F_cell_at q.2 (da_cons (de_sl 0) (da_cons de_int da_nil)) (call 7 (by decide)) (oneN rfl) rfl) da_nil) ⟨cellAt ns 7, c7, rfl, rfl⟩ (oneN rfl) rfl)) rfl ?_
    obtain ⟨s', es, hs'⟩ : ∃ s' : Str, (if decide (way = 3) = true then PyData.str (oddL.getD (cellAt ns 7 % 20).toNat "") else PyData.str s) = .str s' ∧ s'.length ≤ 143 := by
      split
      · exact ⟨_, rfl, Nat.le_trans (oddL_len _) (by decide)⟩
      · exact ⟨_, rfl, hs⟩
    rw [es]
    refine go_if (fun q => dt_eqI (de_nm 3) de_int) (fun h => ?_) (fun h => ?_)
    · obtain ⟨n, en, hn⟩ : ∃ n : Int, n = 1 + cellAt ns 7 % 7 ∧ n ≤ 7 := ⟨_, rfl, by omega⟩
      refine go_then (fun q => ds1_setLc (X := XN P w K mg base NLn "_law_line" (defScope st_line) f 1 q) (own := [("_law_k", 8)]) (j := 8) (i := 7) sc_line.nd rfl (di_rng1 (n := n) G (da_cons (de_cast (by rw [en]) (de_add de_int (de_mod (de_call F_cell_at q.2 (da_cons (de_sl 0) (da_cons de_int da_nil)) (call 7 (by decide)) (oneN rfl) rfl) de_int (by decide)))) da_nil) ⟨by omega, by omega⟩)
        (lc_of (Δ := [.sc ns, .d (.list (wL13.map PyData.str)), .d (.str s'), .d (.int way), s4, a5, .no, .no, .no]) (List.range n.toNat) (fun (k : Nat) => .int (0 + (k : Int))) (fun (k : Nat) => PyData.int (cellAt ns (9 + (0 + (k : Int))) % 26)) rfl fun k hk Y hY => by
          obtain ⟨s, H, C, cl, fp, rfl⟩ := hY
          exact de_mod (de_call F_cell_at q.2 (da_cons (de_sl 0) (da_cons (de_add de_int (de_nm 8)) da_nil)) (call (9 + (0 + (k : Int))) (by omega)) (oneN rfl) rfl) de_int (by decide)) rfl (by simp; omega) .rfl rfl (blkOk_by (N := NLn) (sc := defScope st_line) (by decide +kernel)) (fun _ _ _ _ _ => pg_name (i := 8) sc_line.nd rfl (Or.inl rfl)) rfl rfl rfl rfl rfl) ?_
      refine go_ice 7 rfl ?_
      have eys : (List.range n.toNat).map (fun (k : Nat) => PyData.str ⟨#[("abcdefghijklmnopqrstuvwxyz" : Str).cps.toList.getD (cellAt ns (9 + (0 + (k : Int))) % 26).toNat 0]⟩) = ((List.range n.toNat).map (fun (k : Nat) => (⟨#[("abcdefghijklmnopqrstuvwxyz" : Str).cps.toList.getD (cellAt ns (9 + (0 + (k : Int))) % 26).toNat 0]⟩ : Str))).map PyData.str := by rw [List.map_map]; rfl
      have hsum : (((List.range n.toNat).map (fun (k : Nat) => (⟨#[("abcdefghijklmnopqrstuvwxyz" : Str).cps.toList.getD (cellAt ns (9 + (0 + (k : Int))) % 26).toNat 0]⟩ : Str))).map (·.length)).sum = (List.range n.toNat).length := ones_sum _ _ fun _ => rfl
      rw [List.length_range] at hsum
      have hjl := join0_len ((List.range n.toNat).map (fun (k : Nat) => (⟨#[("abcdefghijklmnopqrstuvwxyz" : Str).cps.toList.getD (cellAt ns (9 + (0 + (k : Int))) % 26).toNat 0]⟩ : Str)))
      rw [hsum] at hjl
      obtain ⟨ys, eY⟩ : ∃ ys, ys = (List.range n.toNat).map (fun (k : Nat) => (⟨#[("abcdefghijklmnopqrstuvwxyz" : Str).cps.toList.getD (cellAt ns (9 + (0 + (k : Int))) % 26).toNat 0]⟩ : Str)) := ⟨_, rfl⟩
      have hyl : ys.length = n.toNat := by rw [eY, List.length_map, List.length_range]
      rw [← eY] at eys hsum hjl
      have hls : (Txt.lstripChars s' "abcdefghijklmnopqrstuvwxyz").length ≤ s'.length := PyProof.Rows.len_stripBy _ _ _ _
      have h26 : ∀ i : Int, 0 ≤ i → i < 26 → atI ("abcdefghijklmnopqrstuvwxyz" : Str).cps.toList i = some (("abcdefghijklmnopqrstuvwxyz" : Str).cps.toList.getD i.toNat 0) := fun i h0 h1 => at_get h0 h1
      refine go_then (Δ1 := [.sc ns, .d (.list (wL13.map PyData.str)), .d (.str (Txt.join "" ys ++ Txt.lstripChars s' "abcdefghijklmnopqrstuvwxyz")), .d (.int way), s4, a5, .no, .d (.list ((List.range n.toNat).map (fun (k : Nat) => PyData.int (cellAt ns (9 + (0 + (k : Int))) % 26)))), .no]) (fun q => ds1_set (X := XN P w K mg base NLn "_law_line" (defScope st_line) f 1 q) (x := .str (Txt.join "" ys ++ Txt.lstripChars s' "abcdefghijklmnopqrstuvwxyz")) 2 sc_line.nd (de_addS (de_join (s := "") (ys := ys) de_str (de_cast (congrArg PyData.list eys) (de_ice (de_lc (own := [("_law_k", 8)]) (j := 8) sc_line.nd rfl (di_list (de_nm 7))
        (lc_of (Δ := [.sc ns, .d (.list (wL13.map PyData.str)), .d (.str s'), .d (.int way), s4, a5, .no, .d (.list ((List.range n.toNat).map (fun (k : Nat) => PyData.int (cellAt ns (9 + (0 + (k : Int))) % 26)))), .no]) (List.range n.toNat) (fun (k : Nat) => PyData.int (cellAt ns (9 + (0 + (k : Int))) % 26)) (fun (k : Nat) => PyData.str ⟨#[("abcdefghijklmnopqrstuvwxyz" : Str).cps.toList.getD (cellAt ns (9 + (0 + (k : Int))) % 26).toNat 0]⟩) rfl fun k hk Y hY => by
          obtain ⟨s, H, C, cl, fp, rfl⟩ := hY
          exact de_ixS (s := "abcdefghijklmnopqrstuvwxyz") de_str (de_nm 8) (by decide) (h26 _ (by omega) (by omega))) rfl (by simp; omega) .rfl rfl (blkOk_by (N := NLn) (sc := defScope st_line) (by decide +kernel)) (fun _ _ _ _ _ => pg_name (i := 8) sc_line.nd rfl (Or.inl rfl))))) (by rw [hsum, hyl]; show _ + _ * 0 ≤ _; omega)) (de_lstrip (s := s') (t := "abcdefghijklmnopqrstuvwxyz") (de_nm 2) de_str (by omega)) (by rw [sizeLine_eq, hjl]; omega))) (go_on ?_)
      exact go_end (fun q => ds1_ret (de_nm 2)) rfl (ret _ _ (by rw [len_add, hjl]; omega))
    · exact go_on (go_end (fun q => ds1_ret (de_nm 2)) rfl (ret _ _ (by omega)))
  have fin1 : ∀ (s : Str) (s6 : Sl), s.length ≤ 69 → s6.isRef = false → Go (XN P w K mg base NLn "_law_line" (defScope st_line) f 1) WN [.sc ns, .d (.list (wL13.map PyData.str)), .d (.str s), .no, .no, .no, s6, .no, .no] ((defBody st_line).drop 3) (fun o' => ∃ Δ' r, End [.sc ns] o' (.rt Δ' r) ∧ R_line [.sc ns] (.rt Δ' r)) := fun s s6 hs h6 => by
    refine go_le (Δ1 := [.sc ns, .d (.list (wL13.map PyData.str)), .d (.str s), .no, .no, .no, .no, .no, .no]) (.same (.same (.same (.same (.same (.same (.no h6 (Le.refl _)))))))) ?_
    refine go_then (fun q => ds1_set (x := .int (cellAt ns 5 % 16)) 3 sc_line.nd (de_mod (de_call F_cell_at q.2 (da_cons (de_sl 0) (da_cons de_int da_nil)) (call 5 (by decide)) (oneN rfl) rfl) de_int (by decide))) ?_
    generalize cellAt ns 5 % 16 = way
    have hat : 0 ≤ cellAt ns 6 % ((s.length : Int) + 1) := Int.emod_nonneg _ (by omega)
    refine go_then (fun q => ds1_set (x := .int (cellAt ns 6 % ((s.length : Int) + 1))) 4 sc_line.nd (de_mod (de_call F_cell_at q.2 (da_cons (de_sl 0) (da_cons de_int da_nil)) (call 6 (by decide)) (oneN rfl) rfl) (de_add (de_lenS G (de_nm 2) (by omega)) de_int) (by omega))) ?_
    generalize cellAt ns 6 % ((s.length : Int) + 1) = at_ at hat
    have hsg : atI (" -0123aAdnmus.+_~\n\t7" : Str).cps.toList (cellAt ns 7 % 20) = some ((" -0123aAdnmus.+_~\n\t7" : Str).cps.toList.getD (cellAt ns 7 % 20).toNat 0) := at_get (by omega) (by show _ < (20 : Int); omega)
    refine go_then (fun q => ds1_set 5 sc_line.nd (de_ixS (s := " -0123aAdnmus.+_~\n\t7") de_str (de_mod (de_call F_cell_at q.2 (da_cons (de_sl 0) (da_cons de_int da_nil)) (call 7 (by decide)) (oneN rfl) rfl) de_int (by decide)) (by decide) hsg)) ?_
    generalize (" -0123aAdnmus.+_~\n\t7" : Str).cps.toList.getD (cellAt ns 7 % 20).toNat 0 = sg
    have e1 : (⟨#[sg]⟩ : Str).length = 1 := rfl
    have a1 := cut2_len s hat (Int.le_refl at_)
    refine go_ifset (x := .str (cutS s none (some at_) ++ ⟨#[sg]⟩ ++ cutS s (some at_) none)) 2 (fun q => dt_lt (de_nm 3) de_int) (fun h q => ds1_set 2 sc_line.nd (de_addS (s := cutS s none (some at_) ++ ⟨#[sg]⟩) (t := cutS s (some at_) none) (de_addS (s := cutS s none (some at_)) (t := ⟨#[sg]⟩) (de_slS (de_nm 2) dp_no (dp_so (de_nm 4)) (by omega)) (de_nm 5) (by rw [sizeLine_eq]; omega)) (de_slS (de_nm 2) (dp_so (de_nm 4)) dp_no (by omega)) (by rw [sizeLine_eq, len_add]; omega))) rfl ?_
    obtain ⟨t1, et1, ht1⟩ : ∃ t : Str, (if decide (way < 2) = true then PyData.str (cutS s none (some at_) ++ ⟨#[sg]⟩ ++ cutS s (some at_) none) else PyData.str s) = .str t ∧ t.length ≤ 70 := by
      split
      · exact ⟨_, rfl, by rw [len_add, len_add]; omega⟩
      · exact ⟨_, rfl, by omega⟩
    rw [et1]
    have a2 := cut2_len t1 hat (show at_ ≤ at_ + 1 by omega)
    refine go_ifset (x := .str (cutS t1 none (some at_) ++ ⟨#[sg]⟩ ++ cutS t1 (some (at_ + 1)) none)) 2 (fun q => dt_eqI (de_nm 3) de_int) (fun h q => ds1_set 2 sc_line.nd (de_addS (s := cutS t1 none (some at_) ++ ⟨#[sg]⟩) (t := cutS t1 (some (at_ + 1)) none) (de_addS (s := cutS t1 none (some at_)) (t := ⟨#[sg]⟩) (de_slS (de_nm 2) dp_no (dp_so (de_nm 4)) (by omega)) (de_nm 5) (by rw [sizeLine_eq]; omega)) (de_slS (de_nm 2) (dp_so (de_add (de_nm 4) de_int)) dp_no (by omega)) (by rw [sizeLine_eq, len_add]; omega))) rfl ?_
    obtain ⟨t2, et2, ht2⟩ : ∃ t : Str, (if decide (way = 4) = true then PyData.str (cutS t1 none (some at_) ++ ⟨#[sg]⟩ ++ cutS t1 (some (at_ + 1)) none) else PyData.str t1) = .str t ∧ t.length ≤ 71 := by
      split
      · exact ⟨_, rfl, by rw [len_add, len_add]; omega⟩
      · exact ⟨_, rfl, by omega⟩
    rw [et2]
    have a3 := cut2_len t2 hat (show at_ ≤ at_ + 1 by omega)
    refine go_ifset (x := .str (cutS t2 none (some at_) ++ cutS t2 (some (at_ + 1)) none)) 2 (fun q => dt_eqI (de_nm 3) de_int) (fun h q => ds1_set 2 sc_line.nd (de_addS (s := cutS t2 none (some at_)) (t := cutS t2 (some (at_ + 1)) none) (de_slS (de_nm 2) dp_no (dp_so (de_nm 4)) (by omega)) (de_slS (de_nm 2) (dp_so (de_add (de_nm 4) de_int)) dp_no (by omega)) (by rw [sizeLine_eq]; omega))) rfl ?_
    obtain ⟨t3, et3, ht3⟩ : ∃ t : Str, (if decide (way = 2) = true then PyData.str (cutS t2 none (some at_) ++ cutS t2 (some (at_ + 1)) none) else PyData.str t2) = .str t ∧ t.length ≤ 71 := by
      split
      · exact ⟨_, rfl, by rw [len_add]; omega⟩
      · exact ⟨_, rfl, by omega⟩
    rw [et3]
    have hsep : atI ("\t\n\t\t\t_:." : Str).cps.toList (cellAt ns 7 % 8) = some (("\t\n\t\t\t_:." : Str).cps.toList.getD (cellAt ns 7 % 8).toNat 0) := at_get (by omega) (by show _ < (8 : Int); omega)
    have b1 := cutS_length t3 none (some (Txt.find t3 " "))
    have b2 := cutS_length t3 (some (Txt.find t3 " " + 1)) none
    refine go_if (fun q => DWx.dt (dw_and (dt_in (x := .int way) (u := .int way) (us := [.int 5, .int 7, .int 8, .int 9]) (xs := [.int 5, .int 7, .int 8, .int 9]) (de_nm 3) (de_ice (de_lst (da_cons de_int (da_cons de_int (da_cons de_int (da_cons de_int da_nil)))))) rfl rfl rfl rfl rfl rfl) fun h => (dw_and1 (dt_inS (c := 32) (t := t3) (de_cast (x := .str " ") rfl de_str) (de_nm 2))))) (fun h => ?_) (fun h => ?_)
    · refine go_then (fun q => ds1_set (x := .int (Txt.find t3 " ")) 4 sc_line.nd (de_find (de_nm 2) de_str)) ?_
      generalize ("\t\n\t\t\t_:." : Str).cps.toList.getD (cellAt ns 7 % 8).toNat 0 = sp at hsep
      have e2 : (⟨#[sp]⟩ : Str).length = 1 := rfl
      refine go_eq (Δ' := [.sc ns, .d (.list (wL13.map PyData.str)), .d (.str t3), .d (.int way), .d (.int (Txt.find t3 " ")), .d (.str ⟨#[sg]⟩), .no, .no, .no]) rfl ?_
      refine go_then (fun q => ds1_set (X := XN P w K mg base NLn "_law_line" (defScope st_line) f 1 q) (x := .str (cutS t3 none (some (Txt.find t3 " ")) ++ ⟨#[sp]⟩ ++ cutS t3 (some (Txt.find t3 " " + 1)) none)) 2 sc_line.nd (de_addS (Δ1 := [.sc ns, .d (.list (wL13.map PyData.str)), .d (.str t3), .d (.int way), .d (.int (Txt.find t3 " ")), .d (.str ⟨#[sg]⟩), .no, .no, .no]) (s := cutS t3 none (some (Txt.find t3 " ")) ++ ⟨#[sp]⟩) (t := cutS t3 (some (Txt.find t3 " " + 1)) none) (de_addS (Δ1 := [.sc ns, .d (.list (wL13.map PyData.str)), .d (.str t3), .d (.int way), .d (.int (Txt.find t3 " ")), .d (.str ⟨#[sg]⟩), .no, .no, .no]) (s := cutS t3 none (some (Txt.find t3 " "))) (t := ⟨#[sp]⟩) (de_slS (de_nm 2) dp_no (dp_so (de_nm 4)) (by omega)) (de_ixS (s := "\t\n\t\t\t_:.") de_str (de_mod (de_call F_cell_at q.2 (da_cons (de_sl 0) (da_cons de_int da_nil)) (call 7 (by decide)) (oneN rfl) rfl) de_int (by decide)) (by decide) hsep) (by rw [sizeLine_eq]; omega)) (de_slS (de_nm 2) (dp_so (de_add (de_nm 4) de_int)) dp_no (by omega)) (by rw [sizeLine_eq, len_add]; omega))) (go_on ?_)
      exact fin3 _ _ way (by rw [len_add, len_add]; omega) rfl _ rfl
    · exact go_on (fin3 _ _ way (by omega) rfl _ rfl)
  refine go_if (fun q => DWx.dt (dw_or (dt_eqI (de_mod (de_call F_cell_at q.2 (da_cons (de_sl 0) (da_cons de_int da_nil)) (call 1 (by decide)) (oneN rfl) rfl) de_int (by decide)) de_int) fun h => (dw_or1 (dt_in (x := .str s0) (u := .str s0) (us := [.str "num", .str "arg", .str "unless", .str "skip", .str "call", .str "jump"]) (xs := cutD (wL13.map PyData.str) none (some 6)) (de_nm 2) (de_ice (de_slL (de_nm 1) dp_no (dp_so de_int) rfl rfl)) rfl rfl rfl rfl rfl rfl)))) (fun h => ?_) (fun h => go_on (fin1 s0 _ (by omega) rfl))
  refine go_then (fun q => ds1_set 6 sc_line.nd (de_mod (de_add (de_powX (i := rawAt ns 2) (j := 4) (de_call F_raw q.2 (da_cons (de_sl 0) (da_cons de_int da_nil)) ⟨ns, 2, by omega, rfl, rfl⟩ (oneN rfl) rfl) de_int ⟨by decide, by omega⟩) (de_call F_cell_at q.2 (da_cons (de_sl 0) (da_cons de_int da_nil)) (call 8 (by decide)) (oneN rfl) rfl)) (de_pow (i := 10) (j := 58) de_int de_int ⟨by decide, by decide, by decide⟩) (by decide))) ?_
  have n0 : 0 ≤ (rawAt ns 2 ^ (4 : Int).toNat + cellAt ns 8) % 10 ^ (58 : Int).toNat ∧ (rawAt ns 2 ^ (4 : Int).toNat + cellAt ns 8) % 10 ^ (58 : Int).toNat < 10 ^ 60 := ⟨Int.emod_nonneg _ (by decide), Int.lt_of_lt_of_le (Int.emod_lt_of_pos _ (by decide)) (by decide)⟩
  have n1 : 0 ≤ (rawAt ns 2 ^ (4 : Int).toNat + cellAt ns 8) % 10 ^ (60 : Int).toNat ∧ (rawAt ns 2 ^ (4 : Int).toNat + cellAt ns 8) % 10 ^ (60 : Int).toNat < 10 ^ 60 := ⟨Int.emod_nonneg _ (by decide), Int.emod_lt_of_pos _ (by decide)⟩
  generalize (rawAt ns 2 ^ (4 : Int).toNat + cellAt ns 8) % 10 ^ (58 : Int).toNat = m0 at n0
  refine go_ifset (k := decide ((3 : Int) < cellAt ns 5 % 16) && decide (cellAt ns 4 % 8 < 6)) (x := .int ((rawAt ns 2 ^ (4 : Int).toNat + cellAt ns 8) % 10 ^ (60 : Int).toNat)) (y := .int m0) 6 (fun q => DWx.dt (dw_and (dt_gt (de_mod (de_call F_cell_at q.2 (da_cons (de_sl 0) (da_cons de_int da_nil)) (call 5 (by decide)) (oneN rfl) rfl) de_int (by decide)) de_int) fun h => (dw_and1 (dt_lt (de_mod (de_call F_cell_at q.2 (da_cons (de_sl 0) (da_cons de_int da_nil)) (call 4 (by decide)) (oneN rfl) rfl) de_int (by decide)) de_int))))
    (fun h q => ds1_set 6 sc_line.nd (de_mod (de_add (de_powX (i := rawAt ns 2) (j := 4) (de_call F_raw q.2 (da_cons (de_sl 0) (da_cons de_int da_nil)) ⟨ns, 2, by omega, rfl, rfl⟩ (oneN rfl) rfl) de_int ⟨by decide, by omega⟩) (de_call F_cell_at q.2 (da_cons (de_sl 0) (da_cons de_int da_nil)) (call 8 (by decide)) (oneN rfl) rfl)) (de_pow (i := 10) (j := 60) de_int de_int ⟨by decide, by decide, by decide⟩) (by decide))) rfl ?_
  obtain ⟨m1, em1, hm1⟩ : ∃ m : Int, (if (decide ((3 : Int) < cellAt ns 5 % 16) && decide (cellAt ns 4 % 8 < 6)) = true then PyData.int ((rawAt ns 2 ^ (4 : Int).toNat + cellAt ns 8) % 10 ^ (60 : Int).toNat) else PyData.int m0) = .int m ∧ 0 ≤ m ∧ m < 10 ^ 60 := by
    split
    · exact ⟨_, rfl, n1⟩
    · exact ⟨_, rfl, n0⟩
  rw [em1]
  refine go_ifset (x := .int 0) (y := .int m1) 6 (fun q => dt_eqI (de_mod (de_call F_cell_at q.2 (da_cons (de_sl 0) (da_cons de_int da_nil)) (call 3 (by decide)) (oneN rfl) rfl) de_int (by decide)) de_int) (fun h q => ds1_set 6 sc_line.nd de_int) rfl ?_
  obtain ⟨m2, em2, hm2⟩ : ∃ m : Int, (if decide (cellAt ns 3 % 3 = 1) = true then PyData.int 0 else PyData.int m1) = .int m ∧ 0 ≤ m ∧ m < 10 ^ 60 := by
    split
    · exact ⟨_, rfl, by decide, by decide⟩
    · exact ⟨_, rfl, hm1⟩
  rw [em2]
  have hx4 : atI (preL.map PyData.str) (cellAt ns 4 % 8) = some (.str (preL.getD (cellAt ns 4 % 8).toNat "")) := at_map (xs := preL) PyData.str "" (by omega) (by show _ < (8 : Int); omega)
  have hl4 := preL_len (cellAt ns 4 % 8).toNat
  generalize preL.getD (cellAt ns 4 % 8).toNat "" = pr at hx4 hl4
  have hlog := ten60 (i := m2) (by omega) hm2.2
  have hnl2 := num_len hm2.1 hm2.2
  have hb : (s0 ++ (" " : Str)).length = s0.length + 1 := len_add _ _
  have hb2 : (s0 ++ (" " : Str) ++ pr).length = s0.length + 1 + pr.length := by rw [len_add, hb]
  refine go_then (fun q => ds1_set (x := .str (s0 ++ " " ++ pr ++ Str.ofString (toString m2))) 2 sc_line.nd (de_addS (s := s0 ++ " " ++ pr) (t := Str.ofString (toString m2)) (de_addS (s := s0 ++ " ") (t := pr) (de_addS (s := s0) (t := " ") (de_nm 2) de_str (by rw [sizeLine_eq]; show s0.length + 1 ≤ _; omega)) (de_ixL (xs := preL.map PyData.str) (de_ice (de_lst (xs := preL.map PyData.str) (da_cons de_str (da_cons de_str (da_cons de_str (da_cons de_str (da_cons de_str (da_cons de_str (da_cons de_str (da_cons de_str da_nil)))))))))) (de_mod (de_call F_cell_at q.2 (da_cons (de_sl 0) (da_cons de_int da_nil)) (call 4 (by decide)) (oneN rfl) rfl) de_int (by decide)) rfl rfl hx4) (by rw [sizeLine_eq, hb]; omega)) (de_strI G (de_nm 6) hlog) (by rw [sizeLine_eq, hb2]; omega))) (go_on ?_)
  exact fin1 _ _ (by rw [len_add, hb2]; omega) rfl
end
end Tr
namespace Tr
open PySem L2 TL
def hdsOf : Stmt → List ExceptHandler
  | .Try _ h _ _ _ => h
  | _ => []
theorem tk0 {X : Cx} : Takes X W0 := fun u s' ⟨_, _, _, _, _, _, _, _, _, _, _, _, _, _, _, _, w⟩ => w.elim
/-- a tuple is not None -/
theorem dt_isT {X : Cx} {Δ Δ1 : En} {a : Expr} {xs : List PyData} {pos p : Pos} {kk : Nat} (ha : DEx X Δ a (.d (.tuple xs)) Δ1) (hm : behindInMarks .Is (.Constant .none kk p) = false := by rfl) : DTx X Δ (.Compare a [.Is] [.Constant .none kk p] pos) false Δ1 :=
  dt_cmp op_isN ha de_none rfl hm fun B F H σ v w Q ok hv hw q => by
    obtain ⟨c, vs, rfl, _, _⟩ := Dq.int_tup hv
    cases Dq.non_ hw
    exact ⟨rfl, q _ _ _ ok (.refl _) (.bl _)⟩
theorem shp_bools3 : shp (.list [.bool false, .bool false, .bool false]) := (Sh.list (n := 0) fun x hx => by
  simp only [List.mem_cons, List.not_mem_nil, or_false] at hx
  rcases hx with rfl | rfl | rfl <;> exact ⟨by simp [PyData.canLay0], by simp [PyData.depth]⟩).shp (by decide)
/-- what the kept fragment says of a refusal's class -/
structure Kinds2 (K : Frag) (cR cN cB cU C : Addr) : Prop where
  exc : ExcC K C
  r : PySem.W.exmOne K (.ref C) (.ref cR) = some true
  k1 : PySem.W.kitOne K (.ref C) (.ref cN) = some false
  k2 : PySem.W.kitOne K (.ref C) (.ref cB) = some false
  k3 : PySem.W.kitOne K (.ref C) (.ref cU) = some false
  kv : PySem.W.kitOne K (.ref C) (.type "ValueError") = some true
section
variable {P : Program} {w : World} {K : Frag} {mg : Str → Option Value} {base : Heap}
/-! _law_refused_by_any -/
abbrev NAn : List Str := ["_law_line_here", "e", "_law_kinds"]
theorem sc_any : FnScope NAn ["_law_line_here"] (defScope st_by_any) := ⟨rfl, rfl, rfl, by decide +kernel, rfl, by decide +kernel, by decide +kernel⟩
def S_any2 : Spec := fun Δ o => ∃ s : Str, s.length ≤ 640 ∧ readP s = none ∧ Δ = [.d (.str s)] ∧ o = .rt Δ (.d (.bool true))
theorem ok_any (G : Blt mg) (D : Df K mg "_law_refused_by_any" st_by_any ["_law_line_here"]) {cR cN cB cU cO : Addr} (XR' : Xc K mg "RoadError" cR) (XF : Xc K mg "NoFunction" cN) (XB : Xc K mg "BadCount" cB) (XU : Xc K mg "Unknown" cU) (hVE : mg "ValueError" = none)
    (hk : Kinds2 K cR cN cB cU cO) (F : Fn P w K mg base 2 "read" (S_read cO)) : Fn P w K mg base 3 "_law_refused_by_any" S_any2 := by
  refine mk_ok D sc_any (fun Δ o ⟨s, _, _, h1, h2⟩ => ⟨by rw [h1]; rfl, fun _ _ e => by rw [h2] at e; cases e⟩) fun f Δ o ⟨s, hl, hn, h1, h2⟩ => ?_
  subst h1 h2
  refine go_eq (Δ' := [.d (.str s), .no, .no]) rfl ?_
  have hnames : ∀ q, Names ((XN P w K mg base NAn "_law_refused_by_any" (defScope st_by_any) f 2) q) "RoadError" (.ref cR) := fun q => ⟨rfl, by decide, .inl XR'.g⟩
  have body : Go (XT (XN P w K mg base NAn "_law_refused_by_any" (defScope st_by_any) f 2)) (WT (XN P w K mg base NAn "_law_refused_by_any" (defScope st_by_any) f 2)) [.d (.str s), .no, .no] (bodyOf (stAt (defBody st_by_any) 0)) (fun ob => ob = .xc [.d (.str s), .no, .no] cO) :=
    go_end (fun i => ds1_exprX (dx_call i.tk F i.q.2 (da_cons (de_nm 0) da_nil) ⟨s, hl, rfl, (readO_none hn).symm⟩ (oneN rfl))) rfl rfl
  obtain ⟨ob, rfl, hb⟩ := body
  refine go_tryAs_xc (i := 1) (y := .bool true) (Δs := fun a => [.d (.str s), .v (.ref a), .d (.list [.bool false, .bool false, .bool false])]) (Δ2 := [.d (.str s), .no, .d (.list [.bool false, .bool false, .bool false])]) (fun q => rfl) (fun q => rfl) (fun q => sc_any.nd) (fun q => rfl) (fun q => rfl) hnames (fun q => tk0) hb (fun q => hk.r) (s := .no) rfl rfl (fun q a oe pn hz hfv => ?_) (fun a => .same (.no rfl (.same .nil))) ⟨rfl, rfl, fin0 rfl⟩
  refine ds_cons (ds1_set (Δ1 := [.d (.str s), .v (.ref a), .no]) (x := .list [.bool false, .bool false, .bool false]) 2 sc_any.nd (de_ice (de_lst (xs := [.bool false, .bool false, .bool false]) (da_cons (de_isE 1 hk.exc hz hfv G (pe_cls XF.g) (fun u h => h) hk.k1) (da_cons (de_isE 1 hk.exc hz hfv G (pe_cls XB.g) (fun u h => h) hk.k2) (da_cons (de_isE 1 hk.exc hz hfv G (pe_cls XU.g) (fun u h => h) hk.k3) da_nil)))))) ?_
  exact ds_stop (ds1_ret (X := ((XN P w K mg base NAn "_law_refused_by_any" (defScope st_by_any) f 2) q).suite a ((a, oe) :: pn)) (Δ := [.d (.str s), .v (.ref a), .d (.list [.bool false, .bool false, .bool false])]) (de_castB (k := true && true) rfl (de_and (X := ((XN P w K mg base NAn "_law_refused_by_any" (defScope st_by_any) f 2) q).suite a ((a, oe) :: pn)) (Δ := [.d (.str s), .v (.ref a), .d (.list [.bool false, .bool false, .bool false])]) (de_isE 1 hk.exc hz hfv G (pe_ty (T := "ValueError") hVE rfl) (fun u h => h) hk.kv) fun h => (de_one (de_castB (shp_refl shp_bools3) (de_eq (x := .list [.bool false, .bool false, .bool false]) (y := .list [.bool false, .bool false, .bool false]) q.2.units (de_nm 2) (de_ice (de_lst (da_cons de_bool (da_cons de_bool (da_cons de_bool da_nil))))) rfl rfl rfl shp_bools3 shp_bools3)))))) rfl
/-! law -/
abbrev NL : List Str := ["_law_script", "_law_line_here", "_law_due", "_law_refused", "_law_found"]
theorem sc_law : FnScope NL ["_law_script"] (defScope st_law) := ⟨rfl, rfl, rfl, by decide +kernel, rfl, by decide +kernel, by decide +kernel⟩
theorem ok_law (G : Blt mg) {f : Addr} {fd : FuncData} (Fu : Fun K "law" "law" st_law f fd) {cO : Addr} (XO : Xc K mg "NoRow" cO) (e1 : PySem.W.exmOne K (.ref cO) (.ref cO) = some true) {T : En → Out} (hT : ∀ Δ, V_line Δ → R_line Δ (T Δ)) (F_line : Fn P w K mg base 2 "_law_line" (fun Δ o => V_line Δ ∧ o = T Δ))
    (F_due : Fn P w K mg base 2 "_law_due_of" S_due_of) (F_read : Fn P w K mg base 2 "read" (S_read cO)) (F_any : Fn P w K mg base 3 "_law_refused_by_any" S_any2) (F_ra : Fn P w K mg base 2 "_law_row_alike" S_row_alike) : FnOk P w K mg base (L2.CX P w) 4 f fd ["_law_script"] (spOf K (lawSB 63)) := by
  refine law_ok Fu sc_law (fun Δ o ⟨ns, _, _, h1, h2⟩ => ⟨by rw [h1]; rfl, fun _ _ e => by rw [h2] at e; cases e⟩) fun Δ o ⟨ns, hl, hbits, h1, h2⟩ => ?_
  subst h1 h2
  refine go_eq (Δ' := [.sc ns, .no, .no, .no, .no]) rfl ?_
  have hV : V_line [.sc ns] := ⟨ns, hl, hbits, rfl⟩
  obtain ⟨s, hs, eo⟩ := hT _ hV
  refine go_then (fun q => ds1_set (x := .str s) 1 sc_law.nd (de_call F_line (q.2.mono (by omega)) (da_cons (de_sl 0) da_nil) ⟨hV, eo.symm⟩ (oneN rfl) rfl)) ?_
  refine go_then (fun q => ds1_set (x := dueD s) 2 sc_law.nd (de_call F_due (q.2.mono (by omega)) (da_cons (de_nm 1) da_nil) ⟨s, hs, rfl, rfl⟩ (oneN rfl) rfl)) ?_
  refine go_then (fun q => ds1_set (x := .bool false) 3 sc_law.nd de_bool) ?_
  refine go_then (fun q => ds1_set (x := .none) 4 sc_law.nd de_none) ?_
  have hdr := due_read s
  obtain ⟨Dd, eD⟩ : ∃ Dd, Dd = dueD s := ⟨_, rfl⟩
  rw [← eD]
  refine go_eq (Δ' := [.sc ns, .d (.str s), .d Dd, .d (.bool false), .d .none]) rfl ?_
  have hds : ∀ q, HdsOk ((XN P w K mg base NL "law" (defScope st_law) f 3) q) (hdsOf (stAt (defBody st_law) 4)) [(.ref cO, fun _ _ _ => tS K W0 [.sc ns, .d (.str s), .d Dd, .d (.bool false), .d .none] (.nx [.sc ns, .d (.str s), .d Dd, .d (.bool true), .d .none]))] := fun q =>
    .cons (x := "NoRow") ⟨rfl, by decide, .inl XO.g⟩ (fun a oe cls d pn _ _ => ds_cons (ds1_set 3 sc_law.nd de_bool) ds_nil) .nil
  cases hr : readP s with
  | none =>
    rw [hr] at hdr
    have eN : Dd = .none := by rw [eD]; unfold dueD; rw [hdr]
    have body : Go (XT (XN P w K mg base NL "law" (defScope st_law) f 3)) (WT (XN P w K mg base NL "law" (defScope st_law) f 3)) [.sc ns, .d (.str s), .d Dd, .d (.bool false), .d .none] (bodyOf (stAt (defBody st_law) 4)) (fun ob => ob = .xc [.sc ns, .d (.str s), .d Dd, .d (.bool false), .d .none] cO) :=
      go_end (fun i => ds1_setX 4 sc_law.nd (dx_call i.tk F_read (i.q.2.mono (by omega)) (da_cons (de_nm 1) da_nil) ⟨s, hs, rfl, (readO_none hr).symm⟩ (oneN rfl))) rfl rfl
    obtain ⟨ob, rfl, hb⟩ := body
    refine go_try (o := .nx [.sc ns, .d (.str s), .d Dd, .d (.bool true), .d .none]) (fun q => rfl) (fun q => rfl) (fun q => tk0) _ hds hb ?_ (.inr ⟨_, _, rfl, fun q D σ H w => many_hit e1 fun a ha => w⟩)
    rw [eN]
    refine go_if (k := true) (fun q => dt_cast rfl (dt_isN (x := .none) (u := .non) (de_nm 2) rfl)) (fun h => ?_) (fun h => by cases h)
    exact go_end (fun q => ds1_ret (de_castB (k := true && true) rfl (de_and (de_nm 3) fun h => (de_one (de_call F_any q.2 (da_cons (de_nm 1) da_nil) ⟨s, hs, hr, rfl, rfl⟩ (oneN rfl) rfl))))) rfl ⟨rfl, rfl, fin0 rfl⟩
  | some r =>
    rw [hr] at hdr
    have eN : Dd = encR r := by rw [eD]; unfold dueD; rw [hdr]
    have hwf := read_wf hr
    obtain ⟨fs, ef⟩ := encR_cons r
    have body : Go (XT (XN P w K mg base NL "law" (defScope st_law) f 3)) (WT (XN P w K mg base NL "law" (defScope st_law) f 3)) [.sc ns, .d (.str s), .d Dd, .d (.bool false), .d .none] (bodyOf (stAt (defBody st_law) 4)) (fun ob => ob = .nx [.sc ns, .d (.str s), .d Dd, .d (.bool false), .d (encR r)]) :=
      go_then (fun i => ds1_set (x := encR r) 4 sc_law.nd (de_call F_read (i.q.2.mono (by omega)) (da_cons (de_nm 1) da_nil) ⟨s, hs, rfl, (readO_some hr).symm⟩ (oneN rfl) rfl)) (go_nil rfl)
    obtain ⟨ob, rfl, hb⟩ := body
    refine go_try (o := .nx [.sc ns, .d (.str s), .d Dd, .d (.bool false), .d (encR r)]) (fun q => rfl) (fun q => rfl) (fun q => tk0) _ hds hb ?_ (.inl ⟨fun _ _ e => (by cases e), rfl⟩)
    rw [eN]
    refine go_if (k := false) (fun q => dt_isT (xs := .str r.1 :: fs) (de_cast ef (de_nm 2))) (fun h => by cases h) (fun h => go_on ?_)
    exact go_end (fun q => ds1_ret (de_castB (k := !false && true) rfl (de_and (de_not (de_nm 3)) fun h => (de_one (de_call F_ra (q.2.mono (by omega)) (da_cons (de_nm 4) (da_cons (de_nm 2) da_nil)) ⟨r, hwf, rfl, rfl⟩ (oneN rfl) rfl))))) rfl ⟨rfl, rfl, fin0 rfl⟩
end
end Tr
namespace Tr
open PySem L2
theorem all_mk {l : PySem.W.OpenLaw} {w : World} {K : PySem.W.Frag} {h : Heap} {mg : Str → Option Value} {fa : Addr} (X : K.In h) (G : h.Ns mainGlobals mg) (hfa : mg "law" = some (.ref fa))
    {f1 : Addr} {od1 an1 : Option Addr} {sl1 : Array (Option Value)} {oc1 kV1 dc1 pm1 cd1 ct1 : Value}
    (a1 : PySem.W.nsIn K mainGlobals "number_of" = some (some (.ref f1))) (l1 : K.lookup f1 = some ⟨oc1, od1, .func (PySem.W.fnOf "number_of" "number_of" (defArgs st_number_of) (defBody st_number_of) (defScope st_number_of) .none kV1 dc1 pm1 an1 cd1 ct1), sl1⟩) (c1 : PySem.W.codeIn K cd1 "number_of" = true) (k1 : PySem.W.keepIn K (.ref f1) = true)
    {f2 : Addr} {od2 an2 : Option Addr} {sl2 : Array (Option Value)} {oc2 kV2 dc2 pm2 cd2 ct2 : Value}
    (a2 : PySem.W.nsIn K mainGlobals "read" = some (some (.ref f2))) (l2 : K.lookup f2 = some ⟨oc2, od2, .func (PySem.W.fnOf "read" "read" (defArgs st_read) (defBody st_read) (defScope st_read) .none kV2 dc2 pm2 an2 cd2 ct2), sl2⟩) (c2 : PySem.W.codeIn K cd2 "read" = true) (k2 : PySem.W.keepIn K (.ref f2) = true)
    {f3 : Addr} {od3 an3 : Option Addr} {sl3 : Array (Option Value)} {oc3 kV3 dc3 pm3 cd3 ct3 : Value}
    (a3 : PySem.W.nsIn K mainGlobals "_law_cell_at" = some (some (.ref f3))) (l3 : K.lookup f3 = some ⟨oc3, od3, .func (PySem.W.fnOf "_law_cell_at" "_law_cell_at" (defArgs st_cell_at) (defBody st_cell_at) (defScope st_cell_at) .none kV3 dc3 pm3 an3 cd3 ct3), sl3⟩) (c3 : PySem.W.codeIn K cd3 "_law_cell_at" = true) (k3 : PySem.W.keepIn K (.ref f3) = true)
    {f4 : Addr} {od4 an4 : Option Addr} {sl4 : Array (Option Value)} {oc4 kV4 dc4 pm4 cd4 ct4 : Value}
    (a4 : PySem.W.nsIn K mainGlobals "_law_raw" = some (some (.ref f4))) (l4 : K.lookup f4 = some ⟨oc4, od4, .func (PySem.W.fnOf "_law_raw" "_law_raw" (defArgs st_raw) (defBody st_raw) (defScope st_raw) .none kV4 dc4 pm4 an4 cd4 ct4), sl4⟩) (c4 : PySem.W.codeIn K cd4 "_law_raw" = true) (k4 : PySem.W.keepIn K (.ref f4) = true)
    {f5 : Addr} {od5 an5 : Option Addr} {sl5 : Array (Option Value)} {oc5 kV5 dc5 pm5 cd5 ct5 : Value}
    (a5 : PySem.W.nsIn K mainGlobals "_law_whole" = some (some (.ref f5))) (l5 : K.lookup f5 = some ⟨oc5, od5, .func (PySem.W.fnOf "_law_whole" "_law_whole" (defArgs st_whole) (defBody st_whole) (defScope st_whole) .none kV5 dc5 pm5 an5 cd5 ct5), sl5⟩) (c5 : PySem.W.codeIn K cd5 "_law_whole" = true) (k5 : PySem.W.keepIn K (.ref f5) = true)
    {f6 : Addr} {od6 an6 : Option Addr} {sl6 : Array (Option Value)} {oc6 kV6 dc6 pm6 cd6 ct6 : Value}
    (a6 : PySem.W.nsIn K mainGlobals "_law_row_alike" = some (some (.ref f6))) (l6 : K.lookup f6 = some ⟨oc6, od6, .func (PySem.W.fnOf "_law_row_alike" "_law_row_alike" (defArgs st_row_alike) (defBody st_row_alike) (defScope st_row_alike) .none kV6 dc6 pm6 an6 cd6 ct6), sl6⟩) (c6 : PySem.W.codeIn K cd6 "_law_row_alike" = true) (k6 : PySem.W.keepIn K (.ref f6) = true)
    {f7 : Addr} {od7 an7 : Option Addr} {sl7 : Array (Option Value)} {oc7 kV7 dc7 pm7 cd7 ct7 : Value}
    (a7 : PySem.W.nsIn K mainGlobals "_law_number" = some (some (.ref f7))) (l7 : K.lookup f7 = some ⟨oc7, od7, .func (PySem.W.fnOf "_law_number" "_law_number" (defArgs st_lnumber) (defBody st_lnumber) (defScope st_lnumber) .none kV7 dc7 pm7 an7 cd7 ct7), sl7⟩) (c7 : PySem.W.codeIn K cd7 "_law_number" = true) (k7 : PySem.W.keepIn K (.ref f7) = true)
    {f8 : Addr} {od8 an8 : Option Addr} {sl8 : Array (Option Value)} {oc8 kV8 dc8 pm8 cd8 ct8 : Value}
    (a8 : PySem.W.nsIn K mainGlobals "_law_due_of" = some (some (.ref f8))) (l8 : K.lookup f8 = some ⟨oc8, od8, .func (PySem.W.fnOf "_law_due_of" "_law_due_of" (defArgs st_due_of) (defBody st_due_of) (defScope st_due_of) .none kV8 dc8 pm8 an8 cd8 ct8), sl8⟩) (c8 : PySem.W.codeIn K cd8 "_law_due_of" = true) (k8 : PySem.W.keepIn K (.ref f8) = true)
    {f9 : Addr} {od9 an9 : Option Addr} {sl9 : Array (Option Value)} {oc9 kV9 dc9 pm9 cd9 ct9 : Value}
    (a9 : PySem.W.nsIn K mainGlobals "_law_odd_line" = some (some (.ref f9))) (l9 : K.lookup f9 = some ⟨oc9, od9, .func (PySem.W.fnOf "_law_odd_line" "_law_odd_line" (defArgs st_odd) (defBody st_odd) (defScope st_odd) .none kV9 dc9 pm9 an9 cd9 ct9), sl9⟩) (c9 : PySem.W.codeIn K cd9 "_law_odd_line" = true) (k9 : PySem.W.keepIn K (.ref f9) = true)
    {f10 : Addr} {od10 an10 : Option Addr} {sl10 : Array (Option Value)} {oc10 kV10 dc10 pm10 cd10 ct10 : Value}
    (a10 : PySem.W.nsIn K mainGlobals "_law_line" = some (some (.ref f10))) (l10 : K.lookup f10 = some ⟨oc10, od10, .func (PySem.W.fnOf "_law_line" "_law_line" (defArgs st_line) (defBody st_line) (defScope st_line) .none kV10 dc10 pm10 an10 cd10 ct10), sl10⟩) (c10 : PySem.W.codeIn K cd10 "_law_line" = true) (k10 : PySem.W.keepIn K (.ref f10) = true)
    {f11 : Addr} {od11 an11 : Option Addr} {sl11 : Array (Option Value)} {oc11 kV11 dc11 pm11 cd11 ct11 : Value}
    (a11 : PySem.W.nsIn K mainGlobals "_law_refused_by_any" = some (some (.ref f11))) (l11 : K.lookup f11 = some ⟨oc11, od11, .func (PySem.W.fnOf "_law_refused_by_any" "_law_refused_by_any" (defArgs st_by_any) (defBody st_by_any) (defScope st_by_any) .none kV11 dc11 pm11 an11 cd11 ct11), sl11⟩) (c11 : PySem.W.codeIn K cd11 "_law_refused_by_any" = true) (k11 : PySem.W.keepIn K (.ref f11) = true)
    {f12 : Addr} {od12 an12 : Option Addr} {sl12 : Array (Option Value)} {oc12 kV12 dc12 pm12 cd12 ct12 : Value}
    (a12 : PySem.W.nsIn K mainGlobals "law" = some (some (.ref f12))) (l12 : K.lookup f12 = some ⟨oc12, od12, .func (PySem.W.fnOf "law" "law" (defArgs st_law) (defBody st_law) (defScope st_law) .none kV12 dc12 pm12 an12 cd12 ct12), sl12⟩) (c12 : PySem.W.codeIn K cd12 "law" = true) (k12 : PySem.W.keepIn K (.ref f12) = true)
    {C1 : Addr} (g1 : PySem.W.nsIn K mainGlobals "RoadError" = some (some (.ref C1))) (x1 : PySem.W.excIn K C1 [.type "ValueError", .type "Exception", .type "BaseException", .type "object"] "ValueError.__new__" = true) (xk1 : PySem.W.keepIn K (.ref C1) = true) (xs1 : PySem.W.subIn K (.ref C1) (.type "BaseException") = some true) (xt1 : PySem.W.typeIn K (.ref C1) = some (.type "type"))
    {C2 : Addr} (g2 : PySem.W.nsIn K mainGlobals "NoFunction" = some (some (.ref C2))) (x2 : PySem.W.excIn K C2 [.type "ValueError", .type "Exception", .type "BaseException", .type "object"] "ValueError.__new__" = true) (xk2 : PySem.W.keepIn K (.ref C2) = true) (xs2 : PySem.W.subIn K (.ref C2) (.type "BaseException") = some true) (xt2 : PySem.W.typeIn K (.ref C2) = some (.type "type"))
    {C3 : Addr} (g3 : PySem.W.nsIn K mainGlobals "BadCount" = some (some (.ref C3))) (x3 : PySem.W.excIn K C3 [.type "ValueError", .type "Exception", .type "BaseException", .type "object"] "ValueError.__new__" = true) (xk3 : PySem.W.keepIn K (.ref C3) = true) (xs3 : PySem.W.subIn K (.ref C3) (.type "BaseException") = some true) (xt3 : PySem.W.typeIn K (.ref C3) = some (.type "type"))
    {C4 : Addr} (g4 : PySem.W.nsIn K mainGlobals "Unknown" = some (some (.ref C4))) (x4 : PySem.W.excIn K C4 [.type "ValueError", .type "Exception", .type "BaseException", .type "object"] "ValueError.__new__" = true) (xk4 : PySem.W.keepIn K (.ref C4) = true) (xs4 : PySem.W.subIn K (.ref C4) (.type "BaseException") = some true) (xt4 : PySem.W.typeIn K (.ref C4) = some (.type "type"))
    {C5 : Addr} (g5 : PySem.W.nsIn K mainGlobals "NoRow" = some (some (.ref C5))) (x5 : PySem.W.excIn K C5 [.type "ValueError", .type "Exception", .type "BaseException", .type "object"] "ValueError.__new__" = true) (xk5 : PySem.W.keepIn K (.ref C5) = true) (xs5 : PySem.W.subIn K (.ref C5) (.type "BaseException") = some true) (xt5 : PySem.W.typeIn K (.ref C5) = some (.type "type"))
    (z_len : PySem.W.nsIn K mainGlobals "len" = some none)
    (z_range : PySem.W.nsIn K mainGlobals "range" = some none)
    (z_list : PySem.W.nsIn K mainGlobals "list" = some none)
    (z_int : PySem.W.nsIn K mainGlobals "int" = some none)
    (z_str : PySem.W.nsIn K mainGlobals "str" = some none)
    (z_bool : PySem.W.nsIn K mainGlobals "bool" = some none)
    (z_tuple : PySem.W.nsIn K mainGlobals "tuple" = some none)
    (z_isinstance : PySem.W.nsIn K mainGlobals "isinstance" = some none)
    (z_sum : PySem.W.nsIn K mainGlobals "sum" = some none)
    (z_min : PySem.W.nsIn K mainGlobals "min" = some none)
    (z_max : PySem.W.nsIn K mainGlobals "max" = some none)
    (z_enumerate : PySem.W.nsIn K mainGlobals "enumerate" = some none)
    (z_ValueError : PySem.W.nsIn K mainGlobals "ValueError" = some none)
    {b1 : Addr} {bi1 : Array Value} {bk1 : Nat} {bs1 : Array (Option Value)} (ga1 : PySem.W.nsIn K mainGlobals "BARE" = some (some (.ref b1))) (gl1 : K.lookup b1 = some ⟨.type "list", none, .seq bi1 bk1, bs1⟩) (gz1 : bi1.size ≤ 1000) (gv1 : L2.Vals (bareL.map V.str) bi1.toList)
    {b2 : Addr} {bi2 : Array Value} {bk2 : Nat} {bs2 : Array (Option Value)} (ga2 : PySem.W.nsIn K mainGlobals "NUMBERED" = some (some (.ref b2))) (gl2 : K.lookup b2 = some ⟨.type "list", none, .seq bi2 bk2, bs2⟩) (gz2 : bi2.size ≤ 1000) (gv2 : L2.Vals (numW.map V.str) bi2.toList)
    {tk1 : Tok} (gt1 : PySem.W.nsIn K mainGlobals "FIGURES" = some (some (.str "0123456789" tk1)))
    (hcn : PySem.W.specialIn K (.builtin "object.__class__") "__get__" = some (some (.builtin "getset_descriptor.__get__")))
    (hct : PySem.W.takesIn K (.builtin "object.__class__") = some true)
    (hg5 : PySem.W.findIn K (.ref C5) "__getattribute__" = some (some (.builtin "BaseException.__getattribute__")))
    (hk5 : PySem.W.findIn K (.ref C5) "__getattr__" = some none)
    (hd5 : PySem.W.hasDictIn K C5 = true)
    (ha5 : PySem.W.findIn K (.ref C5) "__class__" = some (some (.builtin "object.__class__")))
    (hm5 : PySem.W.mroIn K C5 (.type "object") = some true)
    (er5 : PySem.W.exmOne K (.ref C5) (.ref C1) = some true)
    (k52 : PySem.W.kitOne K (.ref C5) (.ref C2) = some false)
    (k53 : PySem.W.kitOne K (.ref C5) (.ref C3) = some false)
    (k54 : PySem.W.kitOne K (.ref C5) (.ref C4) = some false)
    (kv5 : PySem.W.kitOne K (.ref C5) (.type "ValueError") = some true)
    (e55 : PySem.W.exmOne K (.ref C5) (.ref C5) = some true)
    : ∃ fd : FuncData, (∀ (s : Shared) (u : Value), BindsTo s fd ⟨[u], []⟩ [("_law_script", u)]) ∧ ∀ base : Heap, K.In base → base.Ns mainGlobals mg → FnOk l.prog w K mg base (L2.CX l.prog w) 4 fa fd ["_law_script"] (spOf K (lawSB 63)) := by
  have e := hfa.symm.trans (PySem.W.mg_of X G a12)
  cases e
  refine ⟨PySem.W.fnOf "law" "law" (defArgs st_law) (defBody st_law) (defScope st_law) .none kV12 dc12 pm12 an12 cd12 ct12, fun s v => .of_eq rfl, fun base _ _ => ?_⟩
  have G0 : Blt mg := ⟨(PySem.W.mg_none_of X G z_len), (PySem.W.mg_none_of X G z_range), (PySem.W.mg_none_of X G z_list), (PySem.W.mg_none_of X G z_int), (PySem.W.mg_none_of X G z_str), (PySem.W.mg_none_of X G z_bool), (PySem.W.mg_none_of X G z_tuple), (PySem.W.mg_none_of X G z_isinstance), (PySem.W.mg_none_of X G z_sum), (PySem.W.mg_none_of X G z_min), (PySem.W.mg_none_of X G z_max), (PySem.W.mg_none_of X G z_enumerate)⟩
  have Z_ValueError := (PySem.W.mg_none_of X G z_ValueError)
  have D_number_of : Df K mg "number_of" st_number_of ["figures"] := df_mk X G (fun F => F.binds (ps := ["figures"]) fun _ _ _ _ _ _ us hl => match us, hl with | [_], _ => rfl) a1 l1 c1 k1
  have D_read : Df K mg "read" st_read ["line"] := df_mk X G (fun F => F.binds (ps := ["line"]) fun _ _ _ _ _ _ us hl => match us, hl with | [_], _ => rfl) a2 l2 c2 k2
  have D__law_cell_at : Df K mg "_law_cell_at" st_cell_at ["_law_script", "_law_k"] := df_mk X G (fun F => F.binds (ps := ["_law_script", "_law_k"]) fun _ _ _ _ _ _ us hl => match us, hl with | [_, _], _ => rfl) a3 l3 c3 k3
  have D__law_raw : Df K mg "_law_raw" st_raw ["_law_script", "_law_k"] := df_mk X G (fun F => F.binds (ps := ["_law_script", "_law_k"]) fun _ _ _ _ _ _ us hl => match us, hl with | [_, _], _ => rfl) a4 l4 c4 k4
  have D__law_whole : Df K mg "_law_whole" st_whole ["_law_found"] := df_mk X G (fun F => F.binds (ps := ["_law_found"]) fun _ _ _ _ _ _ us hl => match us, hl with | [_], _ => rfl) a5 l5 c5 k5
  have D__law_row_alike : Df K mg "_law_row_alike" st_row_alike ["_law_found", "_law_due"] := df_mk X G (fun F => F.binds (ps := ["_law_found", "_law_due"]) fun _ _ _ _ _ _ us hl => match us, hl with | [_, _], _ => rfl) a6 l6 c6 k6
  have D__law_number : Df K mg "_law_number" st_lnumber ["_law_figures"] := df_mk X G (fun F => F.binds (ps := ["_law_figures"]) fun _ _ _ _ _ _ us hl => match us, hl with | [_], _ => rfl) a7 l7 c7 k7
  have D__law_due_of : Df K mg "_law_due_of" st_due_of ["_law_line_here"] := df_mk X G (fun F => F.binds (ps := ["_law_line_here"]) fun _ _ _ _ _ _ us hl => match us, hl with | [_], _ => rfl) a8 l8 c8 k8
  have D__law_odd_line : Df K mg "_law_odd_line" st_odd ["_law_cell"] := df_mk X G (fun F => F.binds (ps := ["_law_cell"]) fun _ _ _ _ _ _ us hl => match us, hl with | [_], _ => rfl) a9 l9 c9 k9
  have D__law_line : Df K mg "_law_line" st_line ["_law_script"] := df_mk X G (fun F => F.binds (ps := ["_law_script"]) fun _ _ _ _ _ _ us hl => match us, hl with | [_], _ => rfl) a10 l10 c10 k10
  have D__law_refused_by_any : Df K mg "_law_refused_by_any" st_by_any ["_law_line_here"] := df_mk X G (fun F => F.binds (ps := ["_law_line_here"]) fun _ _ _ _ _ _ us hl => match us, hl with | [_], _ => rfl) a11 l11 c11 k11
  have X_RoadError : Xc K mg "RoadError" C1 := ⟨PySem.W.mg_of X G g1, x1, xk1, xs1, xt1⟩
  have X_NoFunction : Xc K mg "NoFunction" C2 := ⟨PySem.W.mg_of X G g2, x2, xk2, xs2, xt2⟩
  have X_BadCount : Xc K mg "BadCount" C3 := ⟨PySem.W.mg_of X G g3, x3, xk3, xs3, xt3⟩
  have X_Unknown : Xc K mg "Unknown" C4 := ⟨PySem.W.mg_of X G g4, x4, xk4, xs4, xt4⟩
  have X_NoRow : Xc K mg "NoRow" C5 := ⟨PySem.W.mg_of X G g5, x5, xk5, xs5, xt5⟩
  have GL_BARE : GL K mg "BARE" bareL := gl_mk (PySem.W.mg_of X G ga1) gl1 gz1 gv1
  have GL_NUMBERED : GL K mg "NUMBERED" numW := gl_mk (PySem.W.mg_of X G ga2) gl2 gz2 gv2
  have GT_FIGURES := PySem.W.mg_of X G gt1
  have Fu := fun_mk (st := st_law) l12 c12 k12
  have E_5 : ExcC K C5 := ⟨hg5, hk5, xs5, hd5, ha5, hcn, hct, hm5⟩
  have Q_5 : Kinds2 K C1 C2 C3 C4 C5 := ⟨E_5, er5, k52, k53, k54, kv5⟩
  have F_ca := ok_cell_at (P := l.prog) (w := w) (base := base) G0 D__law_cell_at
  have F_rw := ok_raw (P := l.prog) (w := w) (base := base) G0 D__law_raw
  have F_wh := ok_whole (P := l.prog) (w := w) (base := base) G0 D__law_whole
  have F_ra := ok_row_alike (P := l.prog) (w := w) (base := base) G0 D__law_row_alike F_wh
  have F_no := ok_number_of (P := l.prog) (w := w) (base := base) G0 D_number_of X_NoRow GT_FIGURES
  have F_re := ok_read (P := l.prog) (w := w) (base := base) G0 D_read X_NoRow GL_BARE GL_NUMBERED F_no
  have F_ln := ok_lnumber (P := l.prog) (w := w) (base := base) G0 D__law_number
  have F_du := ok_due_of (P := l.prog) (w := w) (base := base) G0 D__law_due_of F_ln
  have F_od := ok_odd (P := l.prog) (w := w) (base := base) G0 D__law_odd_line
  obtain ⟨Tl, hTl, F_li⟩ := ok_line (P := l.prog) (w := w) (base := base) G0 D__law_line F_ca F_rw F_od
  have F_an := ok_any (P := l.prog) (w := w) (base := base) G0 D__law_refused_by_any X_RoadError X_NoFunction X_BadCount X_Unknown Z_ValueError Q_5 F_re
  exact ok_law G0 Fu X_NoRow e55 hTl F_li F_du F_re F_an F_ra
end Tr
open PySem PySem.W PyProof.Rows
set_option maxRecDepth 100000 in
set_option maxHeartbeats 0 in
theorem PySem.Challenge.cw_tailroad_k02_rows_read_holds : PySem.Challenge.rw_tailroad_k02_rows_read.Holds := by
  w_on; o_law; k_head; (case hw => w_witness2)
  k_fill
  refine Tr.walk_trB (l := PySem.Challenge.rw_tailroad_k02_rows_read) (n := 63) (k := 4) (x := "_law_script") rfl (by decide) rfl ⟨rfl, by decide, by decide⟩ (fun w h Y => PySem.W.kIn_of Y) ?F
  case F =>
    intro w mg fa h KX G hmg
    refine' Tr.all_mk KX G hmg ?a1 ?l1 ?c1 ?k1 ?a2 ?l2 ?c2 ?k2 ?a3 ?l3 ?c3 ?k3 ?a4 ?l4 ?c4 ?k4 ?a5 ?l5 ?c5 ?k5 ?a6 ?l6 ?c6 ?k6 ?a7 ?l7 ?c7 ?k7 ?a8 ?l8 ?c8 ?k8 ?a9 ?l9 ?c9 ?k9 ?a10 ?l10 ?c10 ?k10 ?a11 ?l11 ?c11 ?k11 ?a12 ?l12 ?c12 ?k12 ?g1 ?x1 ?xk1 ?xs1 ?xt1 ?g2 ?x2 ?xk2 ?xs2 ?xt2 ?g3 ?x3 ?xk3 ?xs3 ?xt3 ?g4 ?x4 ?xk4 ?xs4 ?xt4 ?g5 ?x5 ?xk5 ?xs5 ?xt5 ?z_len ?z_range ?z_list ?z_int ?z_str ?z_bool ?z_tuple ?z_isinstance ?z_sum ?z_min ?z_max ?z_enumerate ?z_ValueError ?ga1 ?gl1 ?gz1 ?gv1 ?ga2 ?gl2 ?gz2 ?gv2 ?gt1 ?hcn ?hct ?hg5 ?hk5 ?hd5 ?ha5 ?hm5 ?er5 ?k52 ?k53 ?k54 ?kv5 ?e55
    (case a1 => k_is)
    (case l1 => k_is)
    (case c1 => k_is)
    (case k1 => k_is)
    (case a2 => k_is)
    (case l2 => k_is)
    (case c2 => k_is)
    (case k2 => k_is)
    (case a3 => k_is)
    (case l3 => k_is)
    (case c3 => k_is)
    (case k3 => k_is)
    (case a4 => k_is)
    (case l4 => k_is)
    (case c4 => k_is)
    (case k4 => k_is)
    (case a5 => k_is)
    (case l5 => k_is)
    (case c5 => k_is)
    (case k5 => k_is)
    (case a6 => k_is)
    (case l6 => k_is)
    (case c6 => k_is)
    (case k6 => k_is)
    (case a7 => k_is)
    (case l7 => k_is)
    (case c7 => k_is)
    (case k7 => k_is)
    (case a8 => k_is)
    (case l8 => k_is)
    (case c8 => k_is)
    (case k8 => k_is)
    (case a9 => k_is)
    (case l9 => k_is)
    (case c9 => k_is)
    (case k9 => k_is)
    (case a10 => k_is)
    (case l10 => k_is)
    (case c10 => k_is)
    (case k10 => k_is)
    (case a11 => k_is)
    (case l11 => k_is)
    (case c11 => k_is)
    (case k11 => k_is)
    (case a12 => k_is)
    (case l12 => k_is)
    (case c12 => k_is)
    (case k12 => k_is)
    (case g1 => k_is)
    (case x1 => k_exc)
    (case xk1 => k_is)
    (case xs1 => k_is)
    (case xt1 => k_is)
    (case g2 => k_is)
    (case x2 => k_exc)
    (case xk2 => k_is)
    (case xs2 => k_is)
    (case xt2 => k_is)
    (case g3 => k_is)
    (case x3 => k_exc)
    (case xk3 => k_is)
    (case xs3 => k_is)
    (case xt3 => k_is)
    (case g4 => k_is)
    (case x4 => k_exc)
    (case xk4 => k_is)
    (case xs4 => k_is)
    (case xt4 => k_is)
    (case g5 => k_is)
    (case x5 => k_exc)
    (case xk5 => k_is)
    (case xs5 => k_is)
    (case xt5 => k_is)
    (case z_len => k_is)
    (case z_range => k_is)
    (case z_list => k_is)
    (case z_int => k_is)
    (case z_str => k_is)
    (case z_bool => k_is)
    (case z_tuple => k_is)
    (case z_isinstance => k_is)
    (case z_sum => k_is)
    (case z_min => k_is)
    (case z_max => k_is)
    (case z_enumerate => k_is)
    (case z_ValueError => k_is)
    (case ga1 => k_is)
    (case gl1 => k_is)
    (case gz1 => decide)
    (case gv1 => exact .cons ⟨_, rfl⟩ (.cons ⟨_, rfl⟩ (.cons ⟨_, rfl⟩ (.cons ⟨_, rfl⟩ (.cons ⟨_, rfl⟩ (.cons ⟨_, rfl⟩ (.cons ⟨_, rfl⟩ (.nil))))))))
    (case ga2 => k_is)
    (case gl2 => k_is)
    (case gz2 => decide)
    (case gv2 => exact .cons ⟨_, rfl⟩ (.cons ⟨_, rfl⟩ (.cons ⟨_, rfl⟩ (.cons ⟨_, rfl⟩ (.cons ⟨_, rfl⟩ (.cons ⟨_, rfl⟩ (.nil)))))))
    (case gt1 => k_is)
    (case hcn => first | k_is | kit_is | rfl)
    (case hct => first | k_is | kit_is | rfl)
    (case hg5 => first | k_is | kit_is | rfl)
    (case hk5 => first | k_is | kit_is | rfl)
    (case hd5 => first | k_is | kit_is | rfl)
    (case ha5 => first | k_is | kit_is | rfl)
    (case hm5 => first | k_is | kit_is | rfl)
    (case er5 => first | k_is | kit_is | rfl)
    (case k52 => first | k_is | kit_is | rfl)
    (case k53 => first | k_is | kit_is | rfl)
    (case k54 => first | k_is | kit_is | rfl)
    (case kv5 => first | k_is | kit_is | rfl)
    (case e55 => first | k_is | kit_is | rfl)
