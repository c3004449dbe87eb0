import PyProof.Rows.All
import Wide.All
import OpenK.AllK
import Wide.FinOn
import HandS.ForMost
import HandS.Wide
import HandS.Deep
import HandS.IsInst
import HandS.Zip
import HandS.IterVal
import HandS.Lambda
import HandS.AnyAll
import HandS.TryOnly
import HandS.Defaults
import HandS.Exc
import HandS.ExcOwn
import HandS.WordsExc
import KE.GoesMore
import PyProof.GenCompD
import KE.KStateDown
import HandS.Ends
import HandS.More
import HandS.Words
import HandS.Head0
import HandS.Head1
import HandS.Head2
import HandS.HeadEnd
import HandS.HeadHook1
import HandS.HeadHook2
import HandS.HeadHook3
import HandS.HeadHook4
import HandS.HeadWalk
import PySem.Challenge.RW_luckwright_k64_whole_plans_at_any_size
set_option Elab.async false
set_option linter.all false
set_option autoImplicit false
set_option maxRecDepth 100000
/-! A small abstract layer over HandS: environments of abstract values, what an expression evaluates to, what a block does. -/
namespace LW
open L2 PySem PySem.Spec PyProof.Rows

/-- fixed through the law: the written part, the class Plans, the tables of code objects (generator expressions, lambdas) -/
structure Cf where
  K : PySem.W.Frag
  C : Addr
  gs : List Addr
  ls : List (Addr × Str)
/-- lists that may change, each with its word -/
abbrev Mu := List (Addr × (HO → Prop))
def hid (M : Mu) (H : Hp) : Hp := fun b => if b ∈ M.map (·.1) then none else H b
structure Ok (c : Cf) (M : Mu) (H : Hp) : Prop where
  g : ∀ P ∈ c.gs, GxR.TabG H P
  l : LamX.Tabs c.ls H
  m : ∀ p ∈ M, ∃ xs, H p.1 = some (.lst xs) ∧ p.2 (.lst xs)
structure Ex (c : Cf) (M : Mu) (H H' : Hp) : Prop where
  keep : ∀ b o, H b = some o → (∀ ps, o ≠ .tbl ps) → b ∉ M.map (·.1) → H' b = some o
  ok : Ok c M H → Ok c M H'
  dom : ∀ b, H' b = none → H b = none
inductive AV where
  | d (x : PyData)
  | at (a : Addr)
  | mls (a : Addr) (xs : List V) (ds : List PyData)
  | inst (p l : PyData)
def flds (vp vl : V) : List (Str × V) := [("places", vp), ("later", vl)]
def Rel (c : Cf) (M : Mu) (H : Hp) (v : V) : AV → Prop
  | .d x => Dp c.K (hid M H) v x
  | .at a => v = .ref a
  | .mls a xs ds => v = .ref a ∧ DpAll c.K (hid M H) xs ds
  | .inst p l => ∃ a dx vp vl, v = .ref a ∧ hid M H a = some (.ins c.C dx (flds vp vl)) ∧ Dp c.K (hid M H) vp p ∧ Dp c.K (hid M H) vl l

theorem memC {α : Type _} {a b : α} {l : List α} (h : a ∈ b :: l) : a = b ∨ a ∈ l := List.mem_cons.mp h
theorem memA {α : Type _} {a : α} {l m : List α} (h : a ∈ l ++ m) : a ∈ l ∨ a ∈ m := List.mem_append.mp h
theorem memG {α : Type _} {a : α} {l : List α} (h : a ∈ l) : ∃ i : Nat, l[i]? = some a := List.mem_iff_getElem?.mp h
theorem someI {α : Type _} {a b : α} (h : some a = some b) : a = b := by cases h; rfl
theorem getDq {α : Type _} {l : List α} {i : Nat} {a : α} : l.getD i a = l[i]?.getD a := by simp
theorem byC {p : Prop} (h : ¬ p → False) : p := Classical.byContradiction h
theorem hid_some {M : Mu} {H : Hp} {b : Addr} {o : HO} (h : hid M H b = some o) : H b = some o ∧ b ∉ M.map (·.1) := by
  unfold hid at h
  split at h
  · cases h
  · exact ⟨h, by assumption⟩
theorem hid_of {M : Mu} {H : Hp} {b : Addr} {o : HO} (h : H b = some o) (hn : b ∉ M.map (·.1)) : hid M H b = some o := by
  unfold hid
  rw [if_neg hn]
  exact h
theorem hid_nil {H : Hp} : hid [] H = H := by
  funext b
  unfold hid
  simp
theorem Ex.refl {c : Cf} {M : Mu} (H : Hp) : Ex c M H H := ⟨fun _ _ e _ _ => e, fun h => h, fun _ h => h⟩
theorem Ex.trans {c : Cf} {M : Mu} {H H1 H2 : Hp} (a : Ex c M H H1) (b : Ex c M H1 H2) : Ex c M H H2 :=
  ⟨fun x o e n m => b.1 x o (a.1 x o e n m) n m, fun h => b.2 (a.2 h), fun x h => a.3 x (b.3 x h)⟩
/-- all that was tracked stays -/
theorem Ex.same {c : Cf} {M : Mu} {H H' : Hp} (e : ∀ b o, H b = some o → H' b = some o) : Ex c M H H' := by
  refine ⟨fun b o h _ _ => e b o h, fun h => ⟨fun P hP => ?_, h.l.ext e, fun p hp => ?_⟩, fun b h => ?_⟩
  · obtain ⟨ps, h1, h2⟩ := h.g P hP
    exact ⟨ps, e _ _ h1, h2⟩
  · obtain ⟨xs, h1, h2⟩ := h.m p hp
    exact ⟨xs, e _ _ h1, h2⟩
  · cases z : H b with
    | none => rfl
    | some o =>
      rw [e b o z] at h
      cases h
theorem same_new {H : Hp} {p : Addr} {o : HO} (h : H p = none) : ∀ b u, H b = some u → upd H p o b = some u := fun b u e => by
  rw [upd_ne (ne_of_none e h)]
  exact e
theorem Ex.new {c : Cf} {M : Mu} {H : Hp} {p : Addr} {o : HO} (h : H p = none) : Ex c M H (upd H p o) := Ex.same (same_new h)
theorem Ex.hid {c : Cf} {M : Mu} {H H' : Hp} (e : Ex c M H H') : LamX.ExtN (hid M H) (hid M H') := fun b o h n => by
  obtain ⟨h1, h2⟩ := hid_some h
  exact hid_of (e.1 b o h1 n h2) h2
theorem sqL_ext {K : PySem.W.Frag} {H H' : Hp} {a : Addr} {xs : List V} (e : LamX.ExtN H H') (h : SqL K H a xs) : SqL K H' a xs := by
  rcases h with (k | ⟨o, k⟩) | k
  · exact .inl (.inl (e _ _ k (fun _ q => nomatch q)))
  · exact .inl (.inr ⟨o, e _ _ k (fun _ q => nomatch q)⟩)
  · exact .inr k
theorem sqT_ext {K : PySem.W.Frag} {H H' : Hp} {a : Addr} {xs : List V} (e : LamX.ExtN H H') (h : SqT K H a xs) : SqT K H' a xs := by
  rcases h with (k | ⟨o, k⟩) | k
  · exact .inl (.inl (e _ _ k (fun _ q => nomatch q)))
  · exact .inl (.inr ⟨o, e _ _ k (fun _ q => nomatch q)⟩)
  · exact .inr k
mutual
theorem dp_ext {K : PySem.W.Frag} {H H' : Hp} (e : LamX.ExtN H H') : ∀ (d : PyData) (v : V), Dp K H v d → Dp K H' v d
  | .none, _, .non => .non
  | .bool _, _, .bl b => .bl b
  | .int _, _, .int i => .int i
  | .str _, _, .str x => .str x
  | .list ds, _, .lst h a => .lst (sqL_ext e h) (dpAll_ext e ds _ a)
  | .tuple ds, _, .tup h a => .tup (sqT_ext e h) (dpAll_ext e ds _ a)
theorem dpAll_ext {K : PySem.W.Frag} {H H' : Hp} (e : LamX.ExtN H H') : ∀ (ds : List PyData) (vs : List V), DpAll K H vs ds → DpAll K H' vs ds
  | [], _, .nil => .nil
  | d :: ds, _, .cons h a => .cons (dp_ext e d _ h) (dpAll_ext e ds _ a)
end
section
variable {c : Cf} {M : Mu}
theorem Rel.mono {H H' : Hp} {v : V} {a : AV} (e : Ex c M H H') (h : Rel c M H v a) : Rel c M H' v a := by
  cases a with
  | d x => exact dp_ext e.hid x v h
  | «at» a => exact h
  | mls a xs ds => exact ⟨h.1, dpAll_ext e.hid ds xs h.2⟩
  | inst p l =>
    obtain ⟨a, dx, vp, vl, e1, e2, e3, e4⟩ := h
    exact ⟨a, dx, vp, vl, e1, e.hid _ _ e2 (fun _ q => nomatch q), dp_ext e.hid _ _ e3, dp_ext e.hid _ _ e4⟩
theorem rel_d {H : Hp} {v : V} {x : PyData} : Rel c M H v (.d x) = Dp c.K (hid M H) v x := rfl
theorem sqL_hid {K : PySem.W.Frag} {H : Hp} {a : Addr} {xs : List V} (h : SqL K (hid M H) a xs) : SqL K H a xs := by
  rcases h with (k | ⟨o, k⟩) | k
  · exact .inl (.inl (hid_some k).1)
  · exact .inl (.inr ⟨o, (hid_some k).1⟩)
  · exact .inr k
theorem sqT_hid {K : PySem.W.Frag} {H : Hp} {a : Addr} {xs : List V} (h : SqT K (hid M H) a xs) : SqT K H a xs := by
  rcases h with (k | ⟨o, k⟩) | k
  · exact .inl (.inl (hid_some k).1)
  · exact .inl (.inr ⟨o, (hid_some k).1⟩)
  · exact .inr k
mutual
theorem dp_hid {K : PySem.W.Frag} {H : Hp} : ∀ (d : PyData) (v : V), Dp K (hid M H) v d → Dp K H v d
  | .none, _, .non => .non
  | .bool _, _, .bl b => .bl b
  | .int _, _, .int i => .int i
  | .str _, _, .str x => .str x
  | .list ds, _, .lst h a => .lst (sqL_hid h) (dpAll_hid ds _ a)
  | .tuple ds, _, .tup h a => .tup (sqT_hid h) (dpAll_hid ds _ a)
theorem dpAll_hid {K : PySem.W.Frag} {H : Hp} : ∀ (ds : List PyData) (vs : List V), DpAll K (hid M H) vs ds → DpAll K H vs ds
  | [], _, .nil => .nil
  | d :: ds, _, .cons h a => .cons (dp_hid d _ h) (dpAll_hid ds _ a)
end
/-- a fresh object is not among the changing ones -/
theorem Ok.fresh {H : Hp} {p : Addr} (k : Ok c M H) (h : H p = none) : p ∉ M.map (·.1) := fun hp => by
  obtain ⟨q, hq, e⟩ := List.mem_map.mp hp
  obtain ⟨xs, h1, _⟩ := k.m q hq
  rw [e, h] at h1
  cases h1
theorem hid_upd {H : Hp} {p : Addr} {o : HO} (hp : p ∉ M.map (·.1)) : hid M (upd H p o) = upd (hid M H) p o := by
  funext b
  unfold hid upd
  by_cases hb : b = p
  · subst hb
    rw [if_neg hp, if_pos rfl, if_pos rfl]
  · rw [if_neg hb, if_neg hb]
/-! ### lists of data -/
theorem dpAll_len {K : PySem.W.Frag} {H : Hp} : ∀ {vs : List V} {ds : List PyData}, DpAll K H vs ds → vs.length = ds.length
  | _, _, .nil => rfl
  | _, _, .cons _ a => congrArg (· + 1) (dpAll_len a)
theorem dpAll_get {K : PySem.W.Frag} {H : Hp} : ∀ {vs : List V} {ds : List PyData} {i : Nat} {d : PyData}, DpAll K H vs ds → ds[i]? = some d → ∃ v, vs[i]? = some v ∧ Dp K H v d
  | _, _, _, _, .nil, z => by simp at z
  | _, _, 0, _, .cons h _, e => by simp at e; subst e; exact ⟨_, rfl, h⟩
  | _, _, i + 1, d, .cons _ a, e => by
    obtain ⟨v, h1, h2⟩ := dpAll_get (i := i) (d := d) a (by simpa using e)
    exact ⟨v, by simpa using h1, h2⟩
theorem dpAll_at {K : PySem.W.Frag} {H : Hp} : ∀ {vs : List V} {ds : List PyData} {i : Nat} {v : V}, DpAll K H vs ds → vs[i]? = some v → ∃ d, ds[i]? = some d ∧ Dp K H v d
  | _, _, _, _, .nil, z => by simp at z
  | _, _, 0, _, .cons h _, e => by simp at e; subst e; exact ⟨_, rfl, h⟩
  | _, _, i + 1, v, .cons _ a, e => by
    obtain ⟨d, h1, h2⟩ := dpAll_at (i := i) (v := v) a (by simpa using e)
    exact ⟨d, by simpa using h1, h2⟩
theorem dpAll_app {K : PySem.W.Frag} {H : Hp} : ∀ {vs ws : List V} {ds es : List PyData}, DpAll K H vs ds → DpAll K H ws es → DpAll K H (vs ++ ws) (ds ++ es)
  | _, _, _, _, .nil, b => b
  | _, _, _, _, .cons h a, b => .cons h (dpAll_app a b)
theorem dpAll_nil {K : PySem.W.Frag} {H : Hp} {vs : List V} (h : DpAll K H vs []) : vs = [] := by cases h; rfl
theorem dpAll_cons {K : PySem.W.Frag} {H : Hp} {vs : List V} {d : PyData} {ds : List PyData} (h : DpAll K H vs (d :: ds)) : ∃ v ws, vs = v :: ws ∧ Dp K H v d ∧ DpAll K H ws ds := by
  cases h
  exact ⟨_, _, rfl, by assumption, by assumption⟩
theorem dpAll_two {K : PySem.W.Frag} {H : Hp} {vs : List V} {d e : PyData} (h : DpAll K H vs [d, e]) : ∃ v w, vs = [v, w] ∧ Dp K H v d ∧ Dp K H w e := by
  obtain ⟨v, ws, rfl, h1, h2⟩ := dpAll_cons h
  obtain ⟨w, us, rfl, h3, h4⟩ := dpAll_cons h2
  obtain rfl := dpAll_nil h4
  exact ⟨v, w, rfl, h1, h3⟩
theorem dpAll_one {K : PySem.W.Frag} {H : Hp} {v : V} {d : PyData} (h : Dp K H v d) : DpAll K H [v] [d] := .cons h .nil
theorem dpAll_of {K : PySem.W.Frag} {H : Hp} : ∀ {vs : List V} {ds : List PyData}, vs.length = ds.length → (∀ (i : Nat) (v : V) (d : PyData), vs[i]? = some v → ds[i]? = some d → Dp K H v d) → DpAll K H vs ds
  | [], [], _, _ => .nil
  | v :: vs, d :: ds, hl, h => .cons (h 0 v d rfl rfl) (dpAll_of (by simpa using hl) fun i a b e1 e2 => h (i + 1) a b (by simpa using e1) (by simpa using e2))
  | [], _ :: _, hz, _ => by simp at hz
  | _ :: _, [], hz, _ => by simp at hz
/-! ### environments -/
abbrev Env' := List (Option AV)
structure Sig (c : Cf) (M : Mu) (H : Hp) (σ : L2.St) (G : Env') : Prop where
  len : σ.length = G.length
  at_ : ∀ (i : Nat) (a : AV), G[i]? = some (some a) → ∃ v, σ[i]? = some (some v) ∧ Rel c M H v a
theorem Sig.mono {H H' : Hp} {σ : L2.St} {G : Env'} (e : Ex c M H H') (s : Sig c M H σ G) : Sig c M H' σ G :=
  ⟨s.len, fun i a h => let ⟨v, h1, h2⟩ := s.at_ i a h; ⟨v, h1, h2.mono e⟩⟩
theorem Sig.set {H : Hp} {σ : L2.St} {G : Env'} {i : Nat} {v : V} {a : AV} (s : Sig c M H σ G) (h : Rel c M H v a) : Sig c M H (σ.set i (some v)) (G.set i (some a)) := by
  refine ⟨by rw [List.length_set, List.length_set, s.len], fun j b hj => ?_⟩
  by_cases e : i = j
  · subst e
    by_cases hl : i < G.length
    · rw [List.getElem?_set_self hl] at hj
      cases hj
      exact ⟨v, by rw [List.getElem?_set_self (by rw [s.len]; exact hl)], h⟩
    · rw [List.getElem?_eq_none_iff.mpr (by rw [List.length_set]; omega)] at hj
      cases hj
  · rw [List.getElem?_set_ne e] at hj
    rw [List.getElem?_set_ne e]
    exact s.at_ j b hj
theorem Sig.forget {H : Hp} {σ : L2.St} {G : Env'} {i : Nat} (s : Sig c M H σ G) : Sig c M H (σ.set i none) (G.set i none) := by
  refine ⟨by rw [List.length_set, List.length_set, s.len], fun j b hj => ?_⟩
  by_cases e : i = j
  · subst e
    by_cases hl : i < G.length
    · rw [List.getElem?_set_self hl] at hj
      cases hj
    · rw [List.getElem?_eq_none_iff.mpr (by rw [List.length_set]; omega)] at hj
      cases hj
  · rw [List.getElem?_set_ne e] at hj
    rw [List.getElem?_set_ne e]
    exact s.at_ j b hj
/-- fewer facts -/
theorem Sig.weak {H : Hp} {σ : L2.St} {G G' : Env'} (s : Sig c M H σ G) (hl : G'.length = G.length) (h : ∀ (i : Nat) (a : AV), G'[i]? = some (some a) → G[i]? = some (some a)) : Sig c M H σ G' :=
  ⟨s.len.trans hl.symm, fun i a e => s.at_ i a (h i a e)⟩
def wipG (G : Env') : List Nat → Env'
  | [] => G
  | v :: vs => (wipG G vs).set v none
theorem Sig.wipe {H : Hp} {σ : L2.St} {G : Env'} (s : Sig c M H σ G) : ∀ vs : List Nat, Sig c M H (L2.wipe σ vs) (wipG G vs)
  | [] => s
  | _ :: vs => (Sig.wipe s vs).forget
def RelAll (c : Cf) (M : Mu) (H : Hp) : List V → List AV → Prop
  | [], [] => True
  | v :: vs, a :: as => Rel c M H v a ∧ RelAll c M H vs as
  | _, _ => False
theorem RelAll.mono {H H' : Hp} (e : Ex c M H H') : ∀ {vs : List V} {as : List AV}, RelAll c M H vs as → RelAll c M H' vs as
  | [], [], _ => trivial
  | _ :: _, _ :: _, h => ⟨h.1.mono e, RelAll.mono e h.2⟩
  | [], _ :: _, h => h.elim
  | _ :: _, [], h => h.elim
theorem RelAll.len {H : Hp} : ∀ {vs : List V} {as : List AV}, RelAll c M H vs as → vs.length = as.length
  | [], [], _ => rfl
  | _ :: _, _ :: _, h => congrArg (· + 1) (RelAll.len h.2)
  | [], _ :: _, h => h.elim
  | _ :: _, [], h => h.elim
theorem relAll_d {H : Hp} : ∀ {vs : List V} {ds : List PyData}, RelAll c M H vs (ds.map AV.d) → DpAll c.K (hid M H) vs ds
  | [], [], _ => .nil
  | _ :: _, _ :: _, h => .cons h.1 (relAll_d h.2)
  | [], _ :: _, h => h.elim
  | _ :: _, [], h => h.elim
theorem relAll_get {H : Hp} : ∀ {vs : List V} {as : List AV} {i : Nat} {a : AV}, RelAll c M H vs as → as[i]? = some a → ∃ v, vs[i]? = some v ∧ Rel c M H v a
  | [], [], _, _, _, e => by simp at e
  | v :: _, b :: _, 0, a, h, e => by simp at e; subst e; exact ⟨v, rfl, h.1⟩
  | _ :: _, _ :: _, i + 1, a, h, e => by
    obtain ⟨v, h1, h2⟩ := relAll_get (i := i) (a := a) h.2 (by simpa using e)
    exact ⟨v, by simpa using h1, h2⟩
  | [], _ :: _, _, _, h, _ => h.elim
  | _ :: _, [], _, _, h, _ => h.elim
/-- the environment of a def's entry -/
def startG (n : Nat) (as : List AV) : Env' := as.map some ++ List.replicate (n - as.length) none
theorem sig_start {H : Hp} {N : List Str} {vs : List V} {as : List AV} (h : RelAll c M H vs as) : Sig c M H (L2.start N vs) (startG N.length as) := by
  have hl := h.len
  refine ⟨by unfold L2.start startG; simp [hl], fun i a e => ?_⟩
  unfold startG at e
  by_cases hi : i < (as.map some).length
  · rw [List.getElem?_append_left hi, List.getElem?_map] at e
    cases e2 : as[i]? with
    | none => rw [e2] at e; cases e
    | some b =>
      rw [e2] at e
      obtain rfl : b = a := someI (someI e)
      obtain ⟨v, h1, h2⟩ := relAll_get h e2
      refine ⟨v, ?_, h2⟩
      unfold L2.start
      rw [List.getElem?_append_left (by rw [List.length_map, hl]; simpa using hi), List.getElem?_map, h1]
      rfl
  · rw [List.getElem?_append_right (by omega)] at e
    have := List.getElem?_replicate (a := (none : Option AV)) (n := N.length - as.length) (i := i - (as.map some).length)
    rw [this] at e
    split at e
    · cases e
    · cases e
/-! ### the judgements -/
/-- what follows, for a value of which P -/
def Kp (c : Cf) (M : Mu) (H : Hp) (P : AV → Prop) (Q : VK) : Prop := ∀ v H' a, P a → Ex c M H H' → Rel c M H' v a → Q v H'
def EvP (c : Cf) (M : Mu) (te : TE) (G : Env') (P : AV → Prop) : Prop := ∀ σ H, Sig c M H σ G → Ok c M H → ∀ Q : VK, Kp c M H P Q → te σ H Q
abbrev EvD (c : Cf) (M : Mu) (te : TE) (G : Env') (a : AV) : Prop := EvP c M te G (fun b => b = a)
def EvBP (c : Cf) (M : Mu) (tt : TT) (G : Env') (P : Bool → Prop) : Prop := ∀ σ H, Sig c M H σ G → Ok c M H → ∀ Q : Bool → Hp → Prop, (∀ b H', P b → Ex c M H H' → Q b H') → tt σ H Q
abbrev EvB (c : Cf) (M : Mu) (tt : TT) (G : Env') (b : Bool) : Prop := EvBP c M tt G (fun k => k = b)
def EvAP (c : Cf) (M : Mu) (ta : TA) (G : Env') (P : List AV → Prop) : Prop := ∀ σ H, Sig c M H σ G → Ok c M H → ∀ Q : List V → Hp → Prop, (∀ vs H' as, P as → Ex c M H H' → RelAll c M H' vs as → Q vs H') → ta σ H Q
abbrev EvA (c : Cf) (M : Mu) (ta : TA) (G : Env') (as : List AV) : Prop := EvAP c M ta G (fun b => b = as)
/-- an operation on two values, a call on values -/
def RvP (c : Cf) (M : Mu) (r : R2) (a b : AV) (P : AV → Prop) : Prop := ∀ x y H, Rel c M H x a → Rel c M H y b → Ok c M H → ∀ Q : VK, Kp c M H P Q → r x y H Q
abbrev RvD (c : Cf) (M : Mu) (r : R2) (a b e : AV) : Prop := RvP c M r a b (fun x => x = e)
def RcP (c : Cf) (M : Mu) (r : List V → Hp → VK → Prop) (as : List AV) (P : AV → Prop) : Prop := ∀ vs H, RelAll c M H vs as → Ok c M H → ∀ Q : VK, Kp c M H P Q → r vs H Q
abbrev RcD (c : Cf) (M : Mu) (r : List V → Hp → VK → Prop) (as : List AV) (e : AV) : Prop := RcP c M r as (fun x => x = e)
/-- a block: PG of the environment where it goes on, P of what it hands back -/
def StP (c : Cf) (M : Mu) (ts : TS) (G : Env') (PG : Env' → Prop) (P : AV → Prop) : Prop := ∀ σ H, Sig c M H σ G → Ok c M H → ∀ D : Ends,
  (∀ σ' H' G', PG G' → Ex c M H H' → Sig c M H' σ' G' → D.nx σ' H') → Kp c M H P D.rt → ts D σ H
/-- a target takes a value -/
def TgP (c : Cf) (M : Mu) (g : TG) (vs : List Nat) (a : AV) (G G' : Env') : Prop := ∀ σ H v, Sig c M H σ G → Ok c M H → Rel c M H v a → ∀ Q : L2.St → Hp → Prop,
  (∀ σ' : L2.St, Sig c M H σ' G' → (∀ k : Nat, k ∉ vs → σ'[k]? = σ[k]?) → σ'.length = σ.length → Q σ' H) → g v σ H Q
structure WkD (c : Cf) (J : It) (ds : List PyData) (W : Hp → Prop) : Prop where
  keep : ∀ V V', W V → LamX.ExtN V V' → W V'
  stop : ∀ (M : Mu) H, W (hid M H) → Ok c M H → J.stop ds.length H
  go : ∀ (M : Mu) i H, i < ds.length → W (hid M H) → Ok c M H → J.go i H
  yld : ∀ (M : Mu) i H x H', i < ds.length → W (hid M H) → Ok c M H → J.yld i H x H' → Ex c M H H' ∧ ∃ d, ds[i]? = some d ∧ Dp c.K (hid M H') x d
def ItD (c : Cf) (M : Mu) (wi : TI) (G : Env') (ds : List PyData) : Prop := ∀ σ H, Sig c M H σ G → Ok c M H → ∀ R : It → Hp → Prop, (∀ J H' W, Ex c M H H' → W (hid M H') → WkD c J ds W → R J H') → wi σ H R

theorem Kp.ex {H H' : Hp} {P : AV → Prop} {Q : VK} (e : Ex c M H H') (k : Kp c M H P Q) : Kp c M H' P Q := fun v H2 a h1 h2 h3 => k v H2 a h1 (e.trans h2) h3
theorem Kp.here {H : Hp} {P : AV → Prop} {Q : VK} {v : V} {a : AV} (k : Kp c M H P Q) (p : P a) (r : Rel c M H v a) : Q v H := k v H a p (Ex.refl H) r
section
variable {G G' : Env'} {ta tb te : TE} {t u : TT} {r : R2} {P P' Pa Pb : AV → Prop} {a b e : AV}
theorem EvP.mono (h : EvP c M te G P) (hp : ∀ a, P a → P' a) : EvP c M te G P' := fun σ H s k Q q => h σ H s k Q fun v H' a p x y => q v H' a (hp a p) x y
theorem EvP.of (h : EvD c M te G a) (hp : P a) : EvP c M te G P := h.mono fun b e => e ▸ hp
theorem ev_var {i : Nat} (h : G[i]? = some (some a)) : EvD c M (tVar i) G a := fun σ H s k Q q => by
  obtain ⟨v, h1, h2⟩ := s.at_ i a h
  exact ⟨v, h1, q.here rfl h2⟩
theorem ev_int {i : Int} : EvD c M (tC (.int i)) G (.d (.int i)) := fun σ H s k Q q => q.here (a := .d (.int i)) rfl (Dp.int i)
theorem ev_str {x : Str} : EvD c M (tC (.str x)) G (.d (.str x)) := fun σ H s k Q q => q.here (a := .d (.str x)) rfl (Dp.str x)
theorem ev_bl {x : Bool} : EvD c M (tC (.bl x)) G (.d (.bool x)) := fun σ H s k Q q => q.here (a := .d (.bool x)) rfl (Dp.bl x)
theorem ev_non : EvD c M (tC .non) G (.d .none) := fun σ H s k Q q => q.here (a := .d .none) rfl Dp.non
theorem ev_opP (ha : EvP c M ta G Pa) (hb : EvP c M tb G Pb) (hr : ∀ a b, Pa a → Pb b → RvP c M r a b P) : EvP c M (tOp r ta tb) G P := fun σ H s k Q q =>
  ha σ H s k _ fun x H1 a pa e1 r1 => hb σ H1 (s.mono e1) (e1.2 k) _ fun y H2 b pb e2 r2 =>
    hr a b pa pb x y H2 (r1.mono e2) r2 (e2.2 (e1.2 k)) Q (q.ex (e1.trans e2))
theorem ev_op (ha : EvD c M ta G a) (hb : EvD c M tb G b) (hr : RvP c M r a b P) : EvP c M (tOp r ta tb) G P := ev_opP ha hb fun _ _ e1 e2 => e1 ▸ e2 ▸ hr
theorem rv_of {R : R2} (h : ∀ x y H, Rel c M H x a → Rel c M H y b → Ok c M H → ∀ Q : VK, (∀ v, Rel c M H v e → Q v H) → R x y H Q) : RvD c M R a b e := fun x y H h1 h2 k Q q =>
  h x y H h1 h2 k Q fun v r => q.here rfl r
theorem dp_int {K : PySem.W.Frag} {H : Hp} {v : V} {i : Int} (h : Dp K H v (.int i)) : v = .int i := by cases h; rfl
theorem dp_str {K : PySem.W.Frag} {H : Hp} {v : V} {i : Str} (h : Dp K H v (.str i)) : v = .str i := by cases h; rfl
theorem dp_bool {K : PySem.W.Frag} {H : Hp} {v : V} {i : Bool} (h : Dp K H v (.bool i)) : v = .bl i := by cases h; rfl
theorem dp_none {K : PySem.W.Frag} {H : Hp} {v : V} (h : Dp K H v .none) : v = .non := by cases h; rfl
theorem dp_tup {K : PySem.W.Frag} {H : Hp} {v : V} {ds : List PyData} (h : Dp K H v (.tuple ds)) : ∃ a xs, v = .ref a ∧ SqT K H a xs ∧ DpAll K H xs ds := by cases h; exact ⟨_, _, rfl, by assumption, by assumption⟩
theorem dp_lst {K : PySem.W.Frag} {H : Hp} {v : V} {ds : List PyData} (h : Dp K H v (.list ds)) : ∃ a xs, v = .ref a ∧ SqL K H a xs ∧ DpAll K H xs ds := by cases h; exact ⟨_, _, rfl, by assumption, by assumption⟩
abbrev aI (i : Int) : AV := .d (.int i)
abbrev aB (b : Bool) : AV := .d (.bool b)
abbrev aT (ds : List PyData) : AV := .d (.tuple ds)
abbrev aL (ds : List PyData) : AV := .d (.list ds)
theorem rv_I0 {g : Int → Int → Int} {i j : Int} : RvD c M (rI0 fun i j => .int (g i j)) (aI i) (aI j) (aI (g i j)) := rv_of fun x y H h1 h2 k Q q =>
  ⟨i, j, dp_int h1, dp_int h2, q _ (Dp.int _)⟩
theorem rv_B0 {g : Int → Int → Bool} {i j : Int} : RvD c M (rI0 fun i j => .bl (g i j)) (aI i) (aI j) (aB (g i j)) := rv_of fun x y H h1 h2 k Q q =>
  ⟨i, j, dp_int h1, dp_int h2, q _ (Dp.bl _)⟩
theorem rv_I {C : Int → Int → Prop} {g : Int → Int → Int} {i j : Int} (hc : C i j) : RvD c M (rI C fun i j => .int (g i j)) (aI i) (aI j) (aI (g i j)) := rv_of fun x y H h1 h2 k Q q =>
  ⟨i, j, dp_int h1, dp_int h2, hc, q _ (Dp.int _)⟩
/-- t[i], xs[i] -/
theorem rv_ixT {ds : List PyData} {d : PyData} {n : Nat} (h : ds[n]? = some d) : RvD c M (rIx c.K) (aT ds) (aI (n : Int)) (.d d) := rv_of fun x y H h1 h2 k Q q => by
  obtain ⟨a, xs, rfl, hs, hd⟩ := dp_tup h1
  obtain ⟨v, e1, e2⟩ := dpAll_get hd h
  exact .inr (.inl ⟨a, xs, (n : Int), v, rfl, dp_int h2, sqT_hid hs, atI_nat e1, q v e2⟩)
theorem rv_ixL {ds : List PyData} {d : PyData} {n : Nat} (h : ds[n]? = some d) : RvD c M (rIx c.K) (aL ds) (aI (n : Int)) (.d d) := rv_of fun x y H h1 h2 k Q q => by
  obtain ⟨a, xs, rfl, hs, hd⟩ := dp_lst h1
  obtain ⟨v, e1, e2⟩ := dpAll_get hd h
  exact .inl ⟨a, xs, (n : Int), v, rfl, dp_int h2, sqL_hid hs, atI_nat e1, q v e2⟩
/-- == of data -/
theorem rv_eqD {x y : PyData} (h1 : SeqAt.shaped x = true) (h2 : SeqAt.shaped y = true) : RvD c M (rEqD c.K) (.d x) (.d y) (aB (PyData.eqv x y)) := rv_of fun v w H r1 r2 k Q q =>
  ⟨x, y, dp_hid x v r1, dp_hid y w r2, h1, h2, q _ (Dp.bl _)⟩
theorem rv_neD {x y : PyData} (h1 : SeqAt.shaped x = true) (h2 : SeqAt.shaped y = true) : RvD c M (rNeD c.K) (.d x) (.d y) (aB (!PyData.eqv x y)) := rv_of fun v w H r1 r2 k Q q =>
  ⟨x, y, dp_hid x v r1, dp_hid y w r2, h1, h2, q _ (Dp.bl _)⟩
/-! ### new objects -/
theorem Kp.newT {H : Hp} {Q : VK} {ds : List PyData} {xs : List V} (k : Ok c M H) (hd : DpAll c.K (hid M H) xs ds) (hp : P (aT ds)) (q : Kp c M H P Q) : ∀ p, H p = none → Q (.ref p) (upd H p (.tup xs)) := fun p np => by
  have e : Ex c M H (upd H p (.tup xs)) := Ex.new np
  refine q _ _ (aT ds) hp e ?_
  refine Dp.tup (.inl (.inl ?_)) (dpAll_ext e.hid _ _ hd)
  exact hid_of upd_same (k.fresh np)
theorem Kp.newL {H : Hp} {Q : VK} {ds : List PyData} {xs : List V} (k : Ok c M H) (hd : DpAll c.K (hid M H) xs ds) (hp : P (aL ds)) (q : Kp c M H P Q) : ∀ p, H p = none → Q (.ref p) (upd H p (.lst xs)) := fun p np => by
  have e : Ex c M H (upd H p (.lst xs)) := Ex.new np
  refine q _ _ (aL ds) hp e ?_
  refine Dp.lst (.inl (.inl ?_)) (dpAll_ext e.hid _ _ hd)
  exact hid_of upd_same (k.fresh np)
/-! ### argument lists -/
variable {tr : TA} {as : List AV} {PA' PB : List AV → Prop}
theorem EvAP.mono {ta : TA} (h : EvAP c M ta G PA') (hp : ∀ a, PA' a → PB a) : EvAP c M ta G PB := fun σ H s k Q q => h σ H s k Q fun v H' a p x y => q v H' a (hp a p) x y
theorem ea_nil : EvA c M tNil G [] := fun σ H s k Q q => q [] H [] rfl (Ex.refl H) trivial
theorem ea_consP (h : EvP c M te G P) (hr : EvAP c M tr G PA') : EvAP c M (tCons te tr) G (fun l => ∃ a as, l = a :: as ∧ P a ∧ PA' as) := fun σ H s k Q q =>
  h σ H s k _ fun x H1 a pa e1 r1 => hr σ H1 (s.mono e1) (e1.2 k) _ fun xs H2 as pas e2 r2 => q (x :: xs) H2 (a :: as) ⟨a, as, rfl, pa, pas⟩ (e1.trans e2) ⟨r1.mono e2, r2⟩
theorem ea_cons (h : EvD c M te G a) (hr : EvA c M tr G as) : EvA c M (tCons te tr) G (a :: as) := (ea_consP h hr).mono fun l ⟨x, y, e, e1, e2⟩ => by rw [e, e1, e2]
theorem ev_tup {ta : TA} {ds : List PyData} (h : EvA c M ta G (ds.map AV.d)) (hl : ds.length ≤ 1000) : EvD c M (tTup ta) G (aT ds) := fun σ H s k Q q =>
  h σ H s k _ fun vs H1 as e e1 r1 => by
    subst e
    have hd := relAll_d r1
    exact ⟨by rw [dpAll_len hd]; exact Nat.le_of_lt (small1000 hl), (Kp.newT (P := fun b => b = aT ds) (e1.2 k) hd rfl (q.ex e1))⟩
theorem ev_lst {ta : TA} {ds : List PyData} (h : EvA c M ta G (ds.map AV.d)) (hl : ds.length ≤ 1000) : EvD c M (tLst ta) G (aL ds) := fun σ H s k Q q =>
  h σ H s k _ fun vs H1 as e e1 r1 => by
    subst e
    have hd := relAll_d r1
    exact ⟨by rw [dpAll_len hd]; exact Nat.le_of_lt (small1000 hl), (Kp.newL (P := fun b => b = aL ds) (e1.2 k) hd rfl (q.ex e1))⟩
theorem ev_tupP {ta : TA} (h : EvAP c M ta G PA') (hl : ∀ l, PA' l → ∃ ds : List PyData, l = ds.map AV.d ∧ ds.length ≤ 1000 ∧ P (aT ds)) : EvP c M (tTup ta) G P := fun σ H s k Q q =>
  h σ H s k _ fun vs H1 as e e1 r1 => by
    obtain ⟨ds, rfl, h1, h2⟩ := hl _ e
    have hd := relAll_d r1
    exact ⟨by rw [dpAll_len hd]; exact Nat.le_of_lt (small1000 h1), (Kp.newT (e1.2 k) hd h2 (q.ex e1))⟩
/-! ### promises -/
/-- a def's promise by a relation: arguments, what is handed back -/
abbrev PR := Mu → List AV → (AV → Prop) → Prop
def spR (c : Cf) (R : PR) : Sp := fun vs H Q _ => ∃ (M : Mu) (as : List AV) (P : AV → Prop), R M as P ∧ RelAll c M H vs as ∧ Ok c M H ∧ Kp c M H P Q
theorem ev_callP {R : PR} {E : XK} {ta : TA} (h : EvAP c M ta G PA') (hr : ∀ as, PA' as → R M as P) : EvP c M (tCall (spR c R) [] E ta) G P := fun σ H s k Q q =>
  h σ H s k _ fun vs H1 as p e1 r1 => by
    rw [List.append_nil]
    exact ⟨M, as, P, hr as p, r1, e1.2 k, q.ex e1⟩
theorem ev_call {R : PR} {E : XK} {ta : TA} (h : EvA c M ta G as) (hr : R M as P) : EvP c M (tCall (spR c R) [] E ta) G P := ev_callP h fun _ e => e ▸ hr
theorem ev_cbP {rr : List V → Hp → VK → Prop} {ta : TA} (h : EvAP c M ta G PA') (hr : ∀ as, PA' as → RcP c M rr as P) : EvP c M (tCB rr ta) G P := fun σ H s k Q q =>
  h σ H s k _ fun vs H1 as p e1 r1 => hr as p vs H1 r1 (e1.2 k) Q (q.ex e1)
theorem ev_cb {rr : List V → Hp → VK → Prop} {ta : TA} (h : EvA c M ta G as) (hr : RcP c M rr as P) : EvP c M (tCB rr ta) G P := ev_cbP h fun _ e => e ▸ hr
/-! ### tests -/
variable {PB1 PB2 : Bool → Prop}
theorem EvBP.mono (h : EvBP c M t G PB1) (hp : ∀ b, PB1 b → PB2 b) : EvBP c M t G PB2 := fun σ H s k Q q => h σ H s k Q fun b H' p x => q b H' (hp b p) x
theorem et_testP (h : EvP c M te G (fun a => ∃ b, a = aB b ∧ PB1 b)) : EvBP c M (tTest te) G PB1 := fun σ H s k Q q =>
  h σ H s k _ fun v H1 a ⟨b, e, p⟩ e1 r1 => by
    subst e
    exact ⟨b, dp_bool r1, q b H1 p e1⟩
theorem et_test {b : Bool} (h : EvD c M te G (aB b)) : EvB c M (tTest te) G b := et_testP (h.mono fun a e => ⟨b, e, rfl⟩)
theorem et_BP (h : EvP c M te G (fun a => ∃ b, a = aB b ∧ PB1 b)) : EvBP c M (tB te) G PB1 := fun σ H s k Q q =>
  h σ H s k _ fun v H1 a ⟨b, e, p⟩ e1 r1 => by
    subst e
    exact ⟨b, dp_bool r1, q b H1 p e1⟩
theorem et_B {b : Bool} (h : EvD c M te G (aB b)) : EvB c M (tB te) G b := et_BP (h.mono fun a e => ⟨b, e, rfl⟩)
theorem et_and {a b : Bool} (h1 : EvB c M t G a) (h2 : a = true → EvB c M u G b) : EvB c M (tAnd t u) G (a && b) := fun σ H s k Q q =>
  h1 σ H s k _ fun x H1 e e1 => by
    subst e
    cases x with
    | true => exact h2 rfl σ H1 (s.mono e1) (e1.2 k) Q fun y H2 e e2 => q y H2 (by rw [e]; rfl) (e1.trans e2)
    | false => exact q false H1 rfl e1
theorem et_or {a b : Bool} (h1 : EvB c M t G a) (h2 : a = false → EvB c M u G b) : EvB c M (tOr t u) G (a || b) := fun σ H s k Q q =>
  h1 σ H s k _ fun x H1 e e1 => by
    subst e
    cases x with
    | false => exact h2 rfl σ H1 (s.mono e1) (e1.2 k) Q fun y H2 e e2 => q y H2 (by rw [e]; rfl) (e1.trans e2)
    | true => exact q true H1 rfl e1
theorem et_not {b : Bool} (h : EvB c M t G b) : EvB c M (tNot t) G (!b) := fun σ H s k Q q => h σ H s k _ fun x H1 e e1 => q (!x) H1 (by rw [e]) e1
theorem et_is {a b : Bool} (h : EvB c M t G a) (e : a = b) : EvB c M t G b := e ▸ h
theorem ev_is {a b : AV} (h : EvD c M te G a) (e : a = b) : EvD c M te G b := e ▸ h
theorem ev_if {b : Bool} (h : EvB c M t G b) (h1 : b = true → EvP c M ta G P) (h2 : b = false → EvP c M tb G P) : EvP c M (tIf t ta tb) G P := fun σ H s k Q q =>
  h σ H s k _ fun x H1 e e1 => by
    subst e
    cases x with
    | true => exact h1 rfl σ H1 (s.mono e1) (e1.2 k) Q (q.ex e1)
    | false => exact h2 rfl σ H1 (s.mono e1) (e1.2 k) Q (q.ex e1)
theorem ev_ifP (h : EvBP c M t G PB1) (h1 : PB1 true → EvP c M ta G P) (h2 : PB1 false → EvP c M tb G P) : EvP c M (tIf t ta tb) G P := fun σ H s k Q q =>
  h σ H s k _ fun x H1 e e1 => by
    cases x with
    | true => exact h1 e σ H1 (s.mono e1) (e1.2 k) Q (q.ex e1)
    | false => exact h2 e σ H1 (s.mono e1) (e1.2 k) Q (q.ex e1)
theorem ev_andV {a b : Bool} (h1 : EvD c M ta G (aB a)) (h2 : a = true → EvD c M tb G (aB b)) : EvD c M (tAndV ta tb) G (aB (a && b)) := fun σ H s k Q q =>
  h1 σ H s k _ fun v H1 e he e1 r1 => by
    subst he
    refine ⟨a, dp_bool r1, ?_⟩
    cases a with
    | true => exact h2 rfl σ H1 (s.mono e1) (e1.2 k) Q (q.ex e1)
    | false => exact q.ex e1 |>.here (a := aB false) rfl (Dp.bl _)
/-! ### a chain of two comparisons -/
theorem ev_chain {r' : R2} {tc : TE} {x y z : AV} {b1 b2 : Bool} (hx : EvD c M ta G x) (hy : EvD c M tb G y) (hr : RvD c M r x y (aB b1)) (hz : b1 = true → EvD c M tc G z) (hr2 : b1 = true → RvD c M r' y z (aB b2)) : EvD c M (tChain r r' ta tb tc) G (aB (b1 && b2)) := fun σ H s k Q q =>
  hx σ H s k _ fun v H1 a ea e1 r1 => hy σ H1 (s.mono e1) (e1.2 k) _ fun w H2 b eb e2 r2 => by
    subst ea eb
    have e12 := e1.trans e2
    refine hr v w H2 (r1.mono e2) r2 (e12.2 k) _ fun p H3 f ef e3 r3 => ?_
    subst ef
    refine ⟨b1, dp_bool r3, ?_⟩
    have e13 := e12.trans e3
    cases b1 with
    | true =>
      refine hz rfl σ H3 (s.mono e13) (e13.2 k) _ fun u H4 g eg e4 r4 => ?_
      subst eg
      exact hr2 rfl w u H4 (r2.mono (e3.trans e4)) r4 ((e13.trans e4).2 k) Q (q.ex (e13.trans e4))
    | false => exact (q.ex e13).here (a := aB false) rfl (Dp.bl _)
/-! ### statements -/
variable {t1 t2 t3 : TS} {PG PG' PG1 : Env' → Prop} {g : TG} {vs : List Nat}
theorem StP.mono (h : StP c M t1 G PG P) (h1 : ∀ G', PG G' → PG' G') (h2 : ∀ a, P a → P' a) : StP c M t1 G PG' P' := fun σ H s k D n q =>
  h σ H s k D (fun σ' H' G' p e s' => n σ' H' G' (h1 G' p) e s') fun v H' a p e r => q v H' a (h2 a p) e r
theorem st_seq (h1 : StP c M t1 G PG1 P) (h2 : ∀ G', PG1 G' → StP c M t2 G' PG P) : StP c M (tSeq t1 t2) G PG P := fun σ H s k D n q =>
  h1 σ H s k { D with nx := t2 D } (fun σ' H' G' p e s' => h2 G' p σ' H' s' (e.2 k) D (fun σ2 H2 G2 p2 e2 s2 => n σ2 H2 G2 p2 (e.trans e2) s2) (q.ex e)) q
theorem st_ret (h : EvP c M te G P) : StP c M (tRet te) G PG P := fun σ H s k D n q => h σ H s k D.rt q
theorem st_asg (h : EvP c M te G Pa) (hg : ∀ a, Pa a → ∃ G' vs, TgP c M g vs a G G' ∧ PG G') : StP c M (tAsg te g) G PG P := fun σ H s k D n q =>
  h σ H s k _ fun v H1 a p e1 r1 => by
    obtain ⟨G', vs, tg, pg⟩ := hg a p
    exact tg σ H1 v (s.mono e1) (e1.2 k) r1 _ fun σ' s' _ _ => n σ' H1 G' pg e1 s'
theorem tg_name {i : Nat} : TgP c M (gName i) [i] a G (G.set i (some a)) := fun σ H v s k r Q q =>
  q _ (s.set r) (fun j hj => List.getElem?_set_ne (by simpa using fun e => hj (by simp [e]))) (List.length_set ..)
theorem st_set {i : Nat} (h : EvD c M te G a) (hp : PG (G.set i (some a))) : StP c M (tAsg te (gName i)) G PG P := st_asg h fun b e => by
  subst e
  exact ⟨_, _, tg_name, hp⟩
theorem st_next (h : PG G) : StP c M tNext G PG P := fun σ H s k D n q => n σ H G h (Ex.refl H) s
theorem st_if {b : Bool} (h : EvB c M t G b) (h1 : b = true → StP c M t1 G PG P) (h2 : b = false → StP c M t2 G PG P) : StP c M (tIfS t t1 t2) G PG P := fun σ H s k D n q =>
  h σ H s k _ fun x H1 e e1 => by
    subst e
    cases x with
    | true => exact h1 rfl σ H1 (s.mono e1) (e1.2 k) D (fun σ' H' G' p e s' => n σ' H' G' p (e1.trans e) s') (q.ex e1)
    | false => exact h2 rfl σ H1 (s.mono e1) (e1.2 k) D (fun σ' H' G' p e s' => n σ' H' G' p (e1.trans e) s') (q.ex e1)
theorem st_ifP (h : EvBP c M t G PB1) (h1 : PB1 true → StP c M t1 G PG P) (h2 : PB1 false → StP c M t2 G PG P) : StP c M (tIfS t t1 t2) G PG P := fun σ H s k D n q =>
  h σ H s k _ fun x H1 e e1 => by
    cases x with
    | true => exact h1 e σ H1 (s.mono e1) (e1.2 k) D (fun σ' H' G' p e s' => n σ' H' G' p (e1.trans e) s') (q.ex e1)
    | false => exact h2 e σ H1 (s.mono e1) (e1.2 k) D (fun σ' H' G' p e s' => n σ' H' G' p (e1.trans e) s') (q.ex e1)
theorem st_drop (h : EvP c M te G Pa) (hp : PG G) : StP c M (tDrop te) G PG P := fun σ H s k D n q => h σ H s k _ fun v H1 a p e1 r1 => n σ H1 G hp e1 (s.mono e1)
theorem st_par {i j : Nat} {ta : TA} {x y : AV} (h : EvA c M ta G [x, y]) (hp : PG ((G.set i (some x)).set j (some y))) : StP c M (tPar i j ta) G PG P := fun σ H s k D n q =>
  h σ H s k _ fun vs H1 as e e1 r1 => by
    subst e
    match vs, r1 with
    | [v, w], r1 => exact ⟨v, w, rfl, n _ H1 _ hp e1 (((s.mono e1).set r1.1).set r1.2.1)⟩
    | [], r1 => exact r1.elim
    | [_], r1 => exact r1.2.elim
    | _ :: _ :: _ :: _, r1 => exact r1.2.2.elim
/-- (x, y) = a tuple of two -/
theorem tg_tup2 {g1 g2 : TG} {v1 v2 : List Nat} {G1 : Env'} {d1 d2 : PyData} (h1 : TgP c M g1 v1 (.d d1) G G1) (h2 : TgP c M g2 v2 (.d d2) G1 G') :
    TgP c M (gTup c.K 2 (gCons g1 (gCons g2 gNil))) (v1 ++ v2) (aT [d1, d2]) G G' := fun σ H v s k r Q q => by
  obtain ⟨a, xs, rfl, hs, hd⟩ := dp_tup r
  obtain ⟨x, y, rfl, r1, r2⟩ := dpAll_two hd
  refine ⟨a, [x, y], rfl, sqT_hid hs, rfl, x, [y], rfl, ?_⟩
  refine h1 σ H x s k r1 _ fun σ1 s1 k1 l1 => ?_
  refine ⟨y, [], rfl, ?_⟩
  refine h2 σ1 H y s1 k r2 _ fun σ2 s2 k2 l2 => ⟨rfl, ?_⟩
  exact q σ2 s2 (fun j hj => (k2 j fun z => hj (List.mem_append_right _ z)).trans (k1 j fun z => hj (List.mem_append_left _ z))) (l2.trans l1)
/-! ### loops -/
theorem st_for {wi : TI} {ds : List PyData} (h : ItD c M wi G ds) (W : Nat → Env' → Prop) (h0 : W 0 G)
    (hs : ∀ i d G', ds[i]? = some d → W i G' → ∃ G2 vs, TgP c M g vs (.d d) G' G2 ∧ StP c M t1 G2 (W (i + 1)) P) (hd : ∀ G', W ds.length G' → PG G') : StP c M (tFor wi g t1) G PG P := fun σ H s k D n q =>
  h σ H s k _ fun J H1 Wk e1 w1 wk => by
    refine Exists.intro (fun (i m : Nat) (σ' : L2.St) (H' : Hp) => ∃ G', i + m = ds.length ∧ W i G' ∧ Ex c M H H' ∧ Sig c M H' σ' G' ∧ Wk (hid M H')) ?_
    refine ⟨⟨ds.length, G, Nat.zero_add _, h0, e1, s.mono e1, w1⟩, ?_⟩
    rintro i m σ' H' ⟨G2, em, hw, eH, sg, wH⟩
    have kH := eH.2 k
    by_cases hi : i < ds.length
    · refine .inr ⟨wk.go M i H' hi wH kH, fun σ2 H2 => ∃ G3, W (i + 1) G3 ∧ Ex c M H H2 ∧ Sig c M H2 σ2 G3 ∧ Wk (hid M H2), fun σ2 H2 ⟨G3, w3, e3, s3, wk3⟩ => ⟨m - 1, by omega, G3, by omega, w3, e3, s3, wk3⟩, fun x H2 hy => ?_⟩
      obtain ⟨e2, a, ha, ra⟩ := wk.yld M i H' x H2 hi wH kH hy
      obtain ⟨G3, vs, tg, st⟩ := hs i a G2 ha hw
      refine tg σ' H2 x (sg.mono e2) (e2.2 kH) ra _ fun σ3 s3 _ _ => ?_
      refine st σ3 H2 s3 (e2.2 kH) _ (fun σ4 H4 G4 p4 e4 s4 => ?_) ?_
      · exact ⟨G4, p4, (eH.trans e2).trans e4, s4, wk.keep _ _ wH (e2.trans e4).hid⟩
      · exact q.ex (eH.trans e2)
    · have : i = ds.length := by omega
      subst this
      exact .inl ⟨wk.stop M H' wH kH, n σ' H' G2 (hd G2 hw) eH sg⟩
/-- a while: W with its measure -/
theorem st_while {W : Nat → Env' → Prop} (m0 : Nat) (h0 : W m0 G)
    (hs : ∀ m G', W m G' → ∃ b, EvB c M t G' b ∧ (b = true → StP c M t1 G' (fun G2 => ∃ m', m' < m ∧ W m' G2) P) ∧ (b = false → PG G')) : StP c M (tWhile t t1) G PG P := fun σ H s k D n q => by
  refine ⟨fun m σ' H' => ∃ G', W m G' ∧ Ex c M H H' ∧ Sig c M H' σ' G', ⟨m0, G, h0, Ex.refl H, s⟩, fun m σ' H' ⟨G', w, e, sg⟩ => ?_⟩
  obtain ⟨b, hb, h1, h2⟩ := hs m G' w
  refine hb σ' H' sg (e.2 k) _ fun x H1 ex e1 => ?_
  subst ex
  cases x with
  | true =>
    refine ⟨fun σ2 H2 => ∃ m', m' < m ∧ ∃ G2, W m' G2 ∧ Ex c M H H2 ∧ Sig c M H2 σ2 G2, fun σ2 H2 ⟨m', hm, G2, w2, e2, s2⟩ => ⟨m', hm, G2, w2, e2, s2⟩, ?_⟩
    exact h1 rfl σ' H1 (sg.mono e1) ((e.trans e1).2 k) _ (fun σ2 H2 G2 ⟨m', hm, w2⟩ e2 s2 => ⟨m', hm, G2, w2, (e.trans e1).trans e2, s2⟩) (q.ex (e.trans e1))
  | false => exact n σ' H1 G' (h2 rfl) (e.trans e1) (sg.mono e1)
theorem wk_list {a : Addr} {xs : List V} {ds : List PyData} (hl : xs.length = ds.length) : WkD c (Itl c.K a) ds (fun H => SqL c.K H a xs ∧ DpAll c.K H xs ds) where
  keep := fun H H' ⟨h1, h2⟩ e => ⟨sqL_ext e h1, dpAll_ext e _ _ h2⟩
  stop := fun M H ⟨h1, h2⟩ k => ⟨xs, sqL_hid h1, by simp [hl]⟩
  go := fun M i H hi ⟨h1, h2⟩ k => by
    have hi' : i < xs.length := by rw [hl]; exact hi
    exact ⟨xs, xs[i], sqL_hid h1, List.getElem?_eq_getElem hi'⟩
  yld := fun M i H x H' hi ⟨h1, h2⟩ k hy => by
    obtain ⟨rfl, hx⟩ := hy
    obtain ⟨d, e1, e2⟩ := dpAll_at h2 (hx _ (sqL_hid h1))
    exact ⟨Ex.refl _, d, e1, e2⟩
theorem wk_tup {a : Addr} {xs : List V} {ds : List PyData} (hl : xs.length = ds.length) : WkD c (Itt c.K a) ds (fun H => SqT c.K H a xs ∧ DpAll c.K H xs ds) where
  keep := fun H H' ⟨h1, h2⟩ e => ⟨sqT_ext e h1, dpAll_ext e _ _ h2⟩
  stop := fun M H ⟨h1, h2⟩ k => ⟨xs, sqT_hid h1, by simp [hl]⟩
  go := fun M i H hi ⟨h1, h2⟩ k => by
    have hi' : i < xs.length := by rw [hl]; exact hi
    exact ⟨xs, xs[i], sqT_hid h1, List.getElem?_eq_getElem hi'⟩
  yld := fun M i H x H' hi ⟨h1, h2⟩ k hy => by
    obtain ⟨rfl, hx⟩ := hy
    obtain ⟨d, e1, e2⟩ := dpAll_at h2 (hx _ (sqT_hid h1))
    exact ⟨Ex.refl _, d, e1, e2⟩
theorem it_list {ds : List PyData} (h : EvD c M te G (aL ds)) : ItD c M (iList c.K te) G ds := fun σ H s k R q =>
  h σ H s k _ fun v H1 b e e1 r1 => by
    subst e
    obtain ⟨a, xs, rfl, hs, hd⟩ := dp_lst r1
    exact ⟨a, rfl, ⟨xs, sqL_hid hs⟩, q _ H1 _ e1 ⟨hs, hd⟩ (wk_list (dpAll_len hd))⟩
theorem it_tup {ds : List PyData} (h : EvD c M te G (aT ds)) : ItD c M (iTup c.K te) G ds := fun σ H s k R q =>
  h σ H s k _ fun v H1 b e e1 r1 => by
    subst e
    obtain ⟨a, xs, rfl, hs, hd⟩ := dp_tup r1
    exact ⟨a, rfl, ⟨xs, sqT_hid hs⟩, q _ H1 _ e1 ⟨hs, hd⟩ (wk_tup (dpAll_len hd))⟩
def rngD (lo : Int) (n : Nat) : List PyData := (List.range n).map fun (i : Nat) => PyData.int (lo + ((i : Nat) : Int))
theorem rngD_len (lo : Int) (n : Nat) : (rngD lo n).length = n := by unfold rngD; simp
theorem rngD_get {lo : Int} {n i : Nat} (h : i < n) : (rngD lo n)[i]? = some (.int (lo + (i : Int))) := by
  unfold rngD
  rw [List.getElem?_map, List.getElem?_range h]
  rfl
theorem rngD_at {lo : Int} {n i : Nat} {d : PyData} (h : (rngD lo n)[i]? = some d) : i < n ∧ d = .int (lo + (i : Int)) := by
  have hi : i < n := by
    have := (List.getElem?_eq_some_iff.mp h).1
    rwa [rngD_len] at this
  rw [rngD_get hi] at h
  exact ⟨hi, (someI h).symm⟩
theorem wk_range {lo : Int} {n : Nat} : WkD c (Itr lo n) (rngD lo n) (fun _ => True) where
  keep := fun _ _ _ _ => trivial
  stop := fun M H _ _ => by rw [rngD_len]; exact Nat.le_refl _
  go := fun M i H hi _ _ => by rw [rngD_len] at hi; exact hi
  yld := fun M i H x H' hi _ k hy => by
    rw [rngD_len] at hi
    obtain ⟨rfl, rfl⟩ := hy
    exact ⟨Ex.refl _, _, rngD_get hi, Dp.int _⟩
theorem it_range1 {ta : TA} {n : Nat} (h : EvA c M ta G [aI (n : Int)]) (hn : n ≤ 1000000) : ItD c M (iRng1 ta) G (rngD 0 n) := fun σ H s k R q =>
  h σ H s k _ fun vs H1 as e e1 r1 => by
    subst e
    match vs, r1 with
    | [v], r1 =>
      obtain rfl := dp_int r1.1
      refine ⟨(n : Int), rfl, by omega, by omega, q _ H1 (fun _ => True) e1 trivial ?_⟩
      have := wk_range (c := c) (lo := 0) (n := n)
      rw [show ((n : Int)).toNat = n by omega]
      exact this
    | [], r1 => exact r1.elim
    | _ :: _ :: _, r1 => exact r1.2.elim
theorem it_range2 {ta : TA} {lo n : Nat} (h : EvA c M ta G [aI (lo : Int), aI (n : Int)]) (hl : lo ≤ 1000000) (hn : n ≤ 1000000) : ItD c M (iRng2 ta) G (rngD lo (n - lo)) := fun σ H s k R q =>
  h σ H s k _ fun vs H1 as e e1 r1 => by
    subst e
    match vs, r1 with
    | [v, w], r1 =>
      obtain rfl := dp_int r1.1
      obtain rfl := dp_int r1.2.1
      refine ⟨(lo : Int), (n : Int), rfl, by omega, q _ H1 (fun _ => True) e1 trivial ?_⟩
      rw [show ((n : Int) - (lo : Int)).toNat = n - lo by omega]
      exact wk_range
    | [], r1 => exact r1.elim
    | [_], r1 => exact r1.2.elim
    | _ :: _ :: _ :: _, r1 => exact r1.2.2.elim
/-! ### comprehensions -/
theorem wipe_len (σ : L2.St) : ∀ vs : List Nat, (L2.wipe σ vs).length = σ.length := L2.wipe_length σ
theorem wipe_at {σ : L2.St} : ∀ (vs : List Nat) (k : Nat), (L2.wipe σ vs)[k]? = if k ∈ vs then (if k < σ.length then some none else none) else σ[k]?
  | [], k => by simp [L2.wipe]
  | v :: vs, k => by
    show ((L2.wipe σ vs).set v none)[k]? = _
    by_cases e : v = k
    · subst e
      by_cases h : v < σ.length
      · rw [List.getElem?_set_self (by rw [wipe_len]; exact h)]
        simp [h]
      · rw [List.getElem?_eq_none_iff.mpr (by rw [List.length_set, wipe_len]; omega)]
        simp [h]
    · rw [List.getElem?_set_ne e, wipe_at vs k]
      have : (k ∈ v :: vs) ↔ k ∈ vs := by simp [show k ≠ v from fun z => e z.symm]
      simp only [this]
theorem wipe_eq {σ σ' : L2.St} {vs us : List Nat} (hl : σ'.length = σ.length) (h : ∀ k : Nat, k ∉ us → σ'[k]? = σ[k]?) (hs : ∀ k ∈ us, k ∈ vs) : L2.wipe σ' vs = L2.wipe σ vs := by
  apply List.ext_getElem?
  intro k
  rw [wipe_at, wipe_at, hl]
  by_cases hk : k ∈ vs
  · rw [if_pos hk, if_pos hk]
  · rw [if_neg hk, if_neg hk]
    exact h k fun z => hk (hs k z)
theorem wipe_wipe {σ : L2.St} (vs : List Nat) : L2.wipe (L2.wipe σ vs) vs = L2.wipe σ vs := by
  apply List.ext_getElem?
  intro k
  rw [wipe_at, wipe_at, wipe_len]
  by_cases hk : k ∈ vs
  · rw [if_pos hk, if_pos hk]
  · rw [if_neg hk, if_neg hk]
/-- a fresh thing hidden: nothing is lost -/
theorem hid_fresh {H : Hp} {D : Addr} {w : HO → Prop} (h : H D = none) : hid ((D, w) :: M) H = hid M H := by
  funext b
  unfold hid
  by_cases hb : b = D
  · subst hb
    simp [h]
  · have : (b ∈ ((D, w) :: M).map (·.1)) ↔ b ∈ M.map (·.1) := by simp [hb]
    simp only [this]
theorem hid_more {H : Hp} {D : Addr} {w : HO → Prop} : LamX.ExtN (hid ((D, w) :: M) H) (hid M H) := fun b o h _ => by
  obtain ⟨h1, h2⟩ := hid_some h
  exact hid_of h1 fun z => h2 (List.mem_cons_of_mem _ z)
theorem hid_word {H : Hp} {D : Addr} {w w' : HO → Prop} : hid ((D, w) :: M) H = hid ((D, w') :: M) H := rfl
theorem hid_upd_in {H : Hp} {D : Addr} {w : HO → Prop} {o : HO} : hid ((D, w) :: M) (upd H D o) = hid ((D, w) :: M) H := by
  funext b
  unfold hid
  by_cases hb : b = D
  · subst hb
    simp
  · rw [upd_ne hb]
theorem Rel.fresh {H : Hp} {D : Addr} {w : HO → Prop} {v : V} (h : H D = none) (r : Rel c M H v a) : Rel c ((D, w) :: M) H v a := by
  cases a with
  | d x =>
    show Dp c.K (hid ((D, w) :: M) H) v x
    rw [hid_fresh h]
    exact r
  | «at» b => exact r
  | mls b xs ds =>
    refine ⟨r.1, ?_⟩
    rw [hid_fresh h]
    exact r.2
  | inst p l =>
    obtain ⟨b, dx, vp, vl, e1, e2, e3, e4⟩ := r
    refine ⟨b, dx, vp, vl, e1, ?_, ?_, ?_⟩
    all_goals rw [hid_fresh h]
    · exact e2
    · exact e3
    · exact e4
theorem Sig.fresh {H : Hp} {D : Addr} {w : HO → Prop} {σ : L2.St} (h : H D = none) (s : Sig c M H σ G) : Sig c ((D, w) :: M) H σ G :=
  ⟨s.len, fun i a e => let ⟨v, h1, h2⟩ := s.at_ i a e; ⟨v, h1, h2.fresh h⟩⟩
theorem Rel.unhide {H : Hp} {D : Addr} {w : HO → Prop} {v : V} {x : PyData} (r : Rel c ((D, w) :: M) H v (.d x)) : Rel c M H v (.d x) := dp_ext hid_more _ _ r
/-- seen with D hidden, from where D was not -/
theorem Ex.push {H H' : Hp} {D : Addr} {w : HO → Prop} (hD : H D = none) (e : Ex c M H H') : Ex c ((D, w) :: M) H H' :=
  ⟨fun b o h n m => e.1 b o h n fun z => m (List.mem_cons_of_mem _ z), fun k => by
    obtain ⟨xs, h1, _⟩ := k.m (D, w) List.mem_cons_self
    rw [hD] at h1
    exact absurd h1 (by simp), e.3⟩
theorem Ex.pop {H H' : Hp} {D : Addr} {w : HO → Prop} (hD : H D = none) (e : Ex c ((D, w) :: M) H H') (k : Ok c M H') : Ex c M H H' :=
  ⟨fun b o h n m => e.1 b o h n fun z => by
    rcases memC z with z | z
    · rw [show b = D from z, hD] at h
      cases h
    · exact m z, fun _ => k, e.3⟩
theorem Ok.push {H : Hp} {D : Addr} {w : HO → Prop} {xs : List V} (k : Ok c M H) (h : H D = some (.lst xs)) (hw : w (.lst xs)) : Ok c ((D, w) :: M) H :=
  ⟨k.g, k.l, fun p hp => by
    rcases memC hp with z | z
    · rw [z]
      exact ⟨xs, h, hw⟩
    · exact k.m p z⟩
theorem Ok.pop {H : Hp} {D : Addr} {w : HO → Prop} (k : Ok c ((D, w) :: M) H) : Ok c M H := ⟨k.g, k.l, fun p hp => k.m p (List.mem_cons_of_mem _ hp)⟩
/-- a list is written -/
theorem Ok.upd {H : Hp} {D : Addr} {xs ys : List V} (k : Ok c M H) (hM : D ∉ M.map (·.1)) (h : H D = some (.lst xs)) : Ok c M (L2.upd H D (.lst ys)) := by
  have nt : ∀ {b : Addr} {o : HO}, H b = some o → (∀ zs, o ≠ .lst zs) → L2.upd H D (.lst ys) b = some o := fun {b o} e n => by
    rw [upd_ne (fun z => ?_)]
    · exact e
    · rw [z, h] at e
      exact n xs (someI e).symm
  refine ⟨fun P hP => ?_, fun p hp => ?_, fun p hp => ?_⟩
  · obtain ⟨ps, h1, h2⟩ := k.g P hP
    exact ⟨ps, nt h1 (fun _ q => nomatch q), h2⟩
  · obtain ⟨ps, h1, h2, h3⟩ := k.l p hp
    refine ⟨ps, nt h1 (fun _ q => nomatch q), h2, fun pos cv e => ?_⟩
    obtain ⟨c', e1, e2⟩ := h3 pos cv e
    exact ⟨c', e1, nt e2 (fun zs q => by unfold LamX.CodeO at q; cases q)⟩
  · obtain ⟨zs, h1, h2⟩ := k.m p hp
    refine ⟨zs, ?_, h2⟩
    rw [upd_ne (fun z => hM (List.mem_map.mpr ⟨p, hp, z⟩))]
    exact h1
theorem Ex.upd {H H' : Hp} {D : Addr} {w : HO → Prop} {xs ys : List V} (e : Ex c ((D, w) :: M) H H') (hD : H D = none) : Ex c ((D, w) :: M) H (L2.upd H' D (.lst ys)) :=
  ⟨fun b o h n m => by
    rw [upd_ne (ne_of_none h hD)]
    exact e.1 b o h n m, fun k => by
    obtain ⟨xs, h1, _⟩ := k.m (D, w) List.mem_cons_self
    rw [hD] at h1
    exact absurd h1 (by simp), fun b h => by
    by_cases hb : b = D
    · rw [hb]
      exact hD
    · rw [upd_ne hb] at h
      exact e.3 b h⟩
/-- [e for x in ..] from where its walk has begun -/
theorem lc_tail {vs : List Nat} {ds : List PyData} {Pe : Nat → PyData → Prop} {J : It} {H1 : Hp} {Wk : Hp → Prop} {σ : L2.St} {Q : VK} (hl : ds.length ≤ 1000) (s : Sig c M H1 σ G) (k1 : Ok c M H1) (w1 : Wk (hid M H1)) (wk : WkD c J ds Wk)
    (he : ∀ (M' : Mu), (∀ p ∈ M, p ∈ M') → ∀ i d, ds[i]? = some d → ∃ G2 us, TgP c M' g us (.d d) (wipG G vs) G2 ∧ (∀ k ∈ us, k ∈ vs) ∧ EvP c M' te G2 (fun x => ∃ d, x = .d d ∧ Pe i d))
    (hp : ∀ es : List PyData, es.length = ds.length → (∀ (i : Nat) (e : PyData), es[i]? = some e → Pe i e) → P (aL es)) (q : Kp c M H1 P Q) :
    ∀ D, H1 D = none → ∃ W : Nat → Nat → Hp → Prop, (∃ m, W 0 m (L2.upd H1 D (.lst []))) ∧ ∀ i m H, W i m H →
      (J.stop i H ∧ Q (.ref D) H) ∨ (J.go i H ∧ ∃ Nx : Hp → Prop, (∀ H', Nx H' → ∃ m', m' < m ∧ W (i + 1) m' H') ∧ ∀ x H', J.yld i H x H' → g x (L2.wipe σ vs) H' fun σ2 H2 => L2.wipe σ2 vs = L2.wipe σ vs ∧ tYes σ2 H2 fun b H3 =>
        if b = true then te σ2 H3 fun y H4 => ∃ acc, H4 D = some (.lst acc) ∧ acc.length < sizeLine ∧ Nx (L2.upd H4 D (.lst (acc ++ [y]))) else Nx H3) := by
    intro D nD
    have nDM : D ∉ M.map (·.1) := k1.fresh nD
    have s1 : ∀ w, Sig c ((D, w) :: M) H1 σ G := fun w => s.fresh nD
    -- seen with D hidden
    refine ⟨fun i m H' => i + m = ds.length ∧ ∃ ys es, H' D = some (.lst ys) ∧ Ok c M H' ∧ Ex c ((D, fun _ => True) :: M) H1 H' ∧ DpAll c.K (hid ((D, fun _ => True) :: M) H') ys es ∧ es.length = i ∧ ∀ (j : Nat) (e : PyData), es[j]? = some e → Pe j e,
      ⟨ds.length, by omega, [], [], upd_same, (Ex.new nD).2 k1, (Ex.new nD).push nD, .nil, rfl, fun j e he => by simp at he⟩, fun i m H' ⟨em, ys, es, hD, kH, eH, hda, hle, hpe⟩ => ?_⟩
    have wH : Wk (hid ((D, fun _ => True) :: M) H') := wk.keep _ _ (by rw [hid_fresh nD]; exact w1) eH.hid
    by_cases hi : i < ds.length
    · have kM : Ok c ((D, fun o => o = .lst ys) :: M) H' := kH.push hD rfl
      refine .inr ⟨wk.go ((D, fun o => o = .lst ys) :: M) i H' hi wH kM, fun H2 => ∃ ys es, H2 D = some (.lst ys) ∧ Ok c M H2 ∧ Ex c ((D, fun _ => True) :: M) H1 H2 ∧ DpAll c.K (hid ((D, fun _ => True) :: M) H2) ys es ∧ es.length = i + 1 ∧ ∀ (j : Nat) (e : PyData), es[j]? = some e → Pe j e,
        fun H2 a => ⟨m - 1, by omega, by omega, a⟩, fun x H2 hy => ?_⟩
      obtain ⟨e2, a, ha, ra⟩ := wk.yld ((D, fun o => o = .lst ys) :: M) i H' x H2 hi wH kM hy
      obtain ⟨G2, us, tg, hus, hev⟩ := he ((D, fun o => o = .lst ys) :: M) (fun p hp => List.mem_cons_of_mem _ hp) i a ha
      have k2 := e2.2 kM
      have eH' : Ex c ((D, fun o => o = .lst ys) :: M) H1 H' := ⟨eH.1, fun _ => kM, eH.3⟩
      refine tg (L2.wipe σ vs) H2 x (((s1 _).mono (eH'.trans e2)).wipe vs) k2 ra _ fun σ2 s2 kk ll => ⟨?_, ?_⟩
      · rw [wipe_eq ll kk hus, wipe_wipe]
      · show te σ2 H2 _
        refine hev σ2 H2 s2 k2 _ fun y H3 b ⟨d, eb, pe⟩ e3 r3 => ?_
        subst eb
        have e13 := (eH'.trans e2).trans e3
        have k3 := (e2.trans e3).2 kM
        obtain ⟨zs, hz1, hz2⟩ := k3.m _ List.mem_cons_self
        obtain rfl : zs = ys := HO.lst.inj hz2
        have hz1 : H3 D = some (.lst zs) := hz1
        refine ⟨zs, hz1, by rw [dpAll_len hda, hle]; exact small1000 (by omega), zs ++ [y], es ++ [d], upd_same, k3.pop.upd nDM hz1, ?_, ?_, by simp [hle], fun j e hj => ?_⟩
        · exact Ex.upd (xs := zs) (w := fun _ => True) ⟨e13.1, fun k => by
            obtain ⟨_, h1, _⟩ := k.m _ List.mem_cons_self
            rw [show H1 D = none from nD] at h1
            exact absurd h1 (by simp), e13.3⟩ nD
        · rw [hid_upd_in]
          exact dpAll_app (dpAll_ext (e2.trans e3).hid _ _ hda) (dpAll_one r3)
        · by_cases hj2 : j < es.length
          · rw [List.getElem?_append_left hj2] at hj
            exact hpe j e hj
          · rw [List.getElem?_append_right (by omega)] at hj
            have : j - es.length = 0 := by
              have := (List.getElem?_eq_some_iff.mp hj).1
              simp at this
              omega
            rw [this] at hj
            obtain rfl : d = e := by simpa using hj
            rw [show j = i by omega]
            exact pe
    · have : i = ds.length := by omega
      subst this
      have kM : Ok c ((D, fun o => o = .lst ys) :: M) H' := kH.push hD rfl
      refine .inl ⟨wk.stop ((D, fun o => o = .lst ys) :: M) H' wH kM, ?_⟩
      refine q _ H' (aL es) (hp es hle hpe) (eH.pop nD kH) ?_
      exact Dp.lst (.inl (.inl (hid_of hD nDM))) (dpAll_ext hid_more _ _ hda)
/-- [e for x in ..]: each element of which Pe i -/
theorem ev_lcP {wi : TI} {vs : List Nat} {ds : List PyData} {Pe : Nat → PyData → Prop} (h : ItD c M wi G ds) (hl : ds.length ≤ 1000)
    (he : ∀ (M' : Mu), (∀ p ∈ M, p ∈ M') → ∀ i d, ds[i]? = some d → ∃ G2 us, TgP c M' g us (.d d) (wipG G vs) G2 ∧ (∀ k ∈ us, k ∈ vs) ∧ EvP c M' te G2 (fun x => ∃ d, x = .d d ∧ Pe i d))
    (hp : ∀ es : List PyData, es.length = ds.length → (∀ (i : Nat) (e : PyData), es[i]? = some e → Pe i e) → P (aL es)) : EvP c M (tLc wi g tYes te vs) G P := fun σ H s k Q q =>
  h σ H s k _ fun J H1 Wk e1 w1 wk => lc_tail hl (s.mono e1) (e1.2 k) w1 wk he hp (q.ex e1)
/-- told by a list -/
theorem ev_lc {wi : TI} {vs : List Nat} {ds es : List PyData} (h : ItD c M wi G ds) (hl : ds.length ≤ 1000) (hes : es.length = ds.length)
    (he : ∀ (M' : Mu), (∀ p ∈ M, p ∈ M') → ∀ (i : Nat) (d e : PyData), ds[i]? = some d → es[i]? = some e → ∃ G2 us, TgP c M' g us (.d d) (wipG G vs) G2 ∧ (∀ k ∈ us, k ∈ vs) ∧ EvD c M' te G2 (.d e)) : EvD c M (tLc wi g tYes te vs) G (aL es) :=
  ev_lcP (Pe := fun i x => es[i]? = some x) h hl (fun M' hM i d hd => by
    have hi : i < es.length := by
      rw [hes]
      exact (List.getElem?_eq_some_iff.mp hd).1
    obtain ⟨G2, us, h1, h2, h3⟩ := he M' hM i d es[i] hd (List.getElem?_eq_getElem hi)
    exact ⟨G2, us, h1, h2, h3.mono fun x hx => ⟨_, hx, List.getElem?_eq_getElem hi⟩⟩) fun fs hf hp => by
    have : fs = es := by
      apply List.ext_getElem?
      intro i
      by_cases hi : i < fs.length
      · rw [List.getElem?_eq_getElem hi, hp i _ (List.getElem?_eq_getElem hi)]
      · rw [List.getElem?_eq_none_iff.mpr (by omega), List.getElem?_eq_none_iff.mpr (by omega)]
    rw [this]
end
end
end LW

namespace LW
open L2 PySem PySem.Spec PyProof.Rows
section
variable {c : Cf} {M : Mu} {G G' : Env'} {ta tb te : TE} {P P' Pa Pb : AV → Prop} {a b e : AV}
/-! ### fields and methods of a Plans -/
theorem flds_places (vp vl : V) : (flds vp vl).lookup ("places" : Str) = some vp := rfl
theorem flds_later (vp vl : V) : (flds vp vl).lookup ("later" : Str) = some vl := rfl
structure PlTxt (c : Cf) : Prop where
  cl : Cls c.K c.C
  nP : NoAttr c.K c.C "places"
  nL : NoAttr c.K c.C "later"
theorem ev_places {p l : PyData} (T : PlTxt c) (h : EvD c M te G (.inst p l)) : EvD c M (tFld c.K te "places") G (.d p) := fun σ H s k Q q =>
  h σ H s k _ fun v H1 b e e1 r1 => by
    subst e
    obtain ⟨a, dx, vp, vl, rfl, h1, h2, h3⟩ := r1
    exact ⟨a, c.C, dx, _, vp, rfl, (hid_some h1).1, T.cl, T.nP, flds_places vp vl, q vp H1 (.d p) rfl e1 h2⟩
theorem ev_later {p l : PyData} (T : PlTxt c) (h : EvD c M te G (.inst p l)) : EvD c M (tFld c.K te "later") G (.d l) := fun σ H s k Q q =>
  h σ H s k _ fun v H1 b e e1 r1 => by
    subst e
    obtain ⟨a, dx, vp, vl, rfl, h1, h2, h3⟩ := r1
    exact ⟨a, c.C, dx, _, vl, rfl, (hid_some h1).1, T.cl, T.nL, flds_later vp vl, q vl H1 (.d l) rfl e1 h3⟩
theorem ev_meth {R : PR} {E : XK} {t : TA} {m : Str} {p l : PyData} {PA' : List AV → Prop} (h : EvD c M te G (.inst p l)) (hm : ∀ vp vl, (flds vp vl).lookup m = none) (ha : EvAP c M t G PA') (hr : ∀ as, PA' as → R M (.inst p l :: as) P) :
    EvP c M (tMeth c.C m (spR c R) [] E te t) G P := fun σ H s k Q q =>
  h σ H s k _ fun v H1 b e e1 r1 => by
    subst e
    obtain ⟨a, dx, vp, vl, rfl, h1, h2, h3⟩ := id r1
    refine ⟨a, dx, _, rfl, (hid_some h1).1, hm vp vl, ?_⟩
    refine ha σ H1 (s.mono e1) (e1.2 k) _ fun vs H2 as pa e2 r2 => ?_
    rw [List.append_nil]
    exact ⟨M, .inst p l :: as, P, hr as pa, ⟨r1.mono e2, r2⟩, (e1.trans e2).2 k, q.ex (e1.trans e2)⟩
theorem ev_meth1 {R : PR} {E : XK} {t : TA} {m : Str} {p l : PyData} {as : List AV} (h : EvD c M te G (.inst p l)) (hm : ∀ vp vl, (flds vp vl).lookup m = none) (ha : EvA c M t G as) (hr : R M (.inst p l :: as) P) :
    EvP c M (tMeth c.C m (spR c R) [] E te t) G P := ev_meth h hm ha fun _ e => e ▸ hr
/-! ### built-ins -/
def rLenQ (K : PySem.W.Frag) : List V → Hp → VK → Prop := fun xs H Q => ∃ p ys, xs = [.ref p] ∧ (SqL K H p ys ∨ SqT K H p ys) ∧ Q (.int ys.length) H
def rTupQ (K : PySem.W.Frag) : List V → Hp → VK → Prop := fun xs H Q => ∃ p ys, xs = [.ref p] ∧ ((SqL K H p ys ∧ ∀ l, H l = none → Q (.ref l) (upd H l (.tup ys))) ∨ (SqT K H p ys ∧ Q (.ref p) H))
def rLstQ (K : PySem.W.Frag) : List V → Hp → VK → Prop := fun xs H Q => ∃ p ys, xs = [.ref p] ∧ (SqL K H p ys ∨ SqT K H p ys) ∧ ∀ l, H l = none → Q (.ref l) (upd H l (.lst ys))
def rIntQ : List V → Hp → VK → Prop := fun xs H Q => (∃ i, xs = [.int i] ∧ Q (.int i) H) ∨ ∃ k, xs = [.bl k] ∧ Q (.int (if k then 1 else 0)) H
def rAbsQ : List V → Hp → VK → Prop := fun xs H Q => ∃ i, xs = [.int i] ∧ Q (.int (if i < 0 then -i else i)) H
theorem call_lenQ {X : Cx} : CallR X (.builtin "len") (rLenQ X.K) := call_len_seq
theorem call_tupQ {X : Cx} : CallR X (.type "tuple") (rTupQ X.K) := call_tuple_of
theorem call_lstQ {X : Cx} : CallR X (.type "list") (rLstQ X.K) := call_list_of
theorem call_intQ {X : Cx} : CallR X (.type "int") rIntQ := call_int1
theorem call_absQ {X : Cx} : CallR X (.builtin "abs") rAbsQ := call_abs
theorem relAll_one {H : Hp} {vs : List V} {a : AV} (h : RelAll c M H vs [a]) : ∃ v, vs = [v] ∧ Rel c M H v a := by
  match vs, h with
  | [v], h => exact ⟨v, rfl, h.1⟩
  | [], h => exact h.elim
  | _ :: _ :: _, h => exact h.2.elim
theorem rc_lenT {ds : List PyData} : RcD c M (rLenQ c.K) [aT ds] (aI (ds.length : Int)) := fun vs H r k Q q => by
  obtain ⟨v, rfl, r1⟩ := relAll_one r
  obtain ⟨a, xs, rfl, hs, hd⟩ := dp_tup r1
  exact ⟨a, xs, rfl, .inr (sqT_hid hs), q.here rfl (by rw [dpAll_len hd]; exact Dp.int _)⟩
theorem rc_lenL {ds : List PyData} : RcD c M (rLenQ c.K) [aL ds] (aI (ds.length : Int)) := fun vs H r k Q q => by
  obtain ⟨v, rfl, r1⟩ := relAll_one r
  obtain ⟨a, xs, rfl, hs, hd⟩ := dp_lst r1
  exact ⟨a, xs, rfl, .inl (sqL_hid hs), q.here rfl (by rw [dpAll_len hd]; exact Dp.int _)⟩
theorem rc_tupL {ds : List PyData} : RcD c M (rTupQ c.K) [aL ds] (aT ds) := fun vs H r k Q q => by
  obtain ⟨v, rfl, r1⟩ := relAll_one r
  obtain ⟨a, xs, rfl, hs, hd⟩ := dp_lst r1
  exact ⟨a, xs, rfl, .inl ⟨sqL_hid hs, Kp.newT (P := fun x => x = aT ds) k hd rfl q⟩⟩
theorem rc_tupT {ds : List PyData} : RcD c M (rTupQ c.K) [aT ds] (aT ds) := fun vs H r k Q q => by
  obtain ⟨v, rfl, r1⟩ := relAll_one r
  obtain ⟨a, xs, rfl, hs, hd⟩ := dp_tup r1
  exact ⟨a, xs, rfl, .inr ⟨sqT_hid hs, q.here rfl (Dp.tup hs hd)⟩⟩
theorem rc_lstT {ds : List PyData} : RcD c M (rLstQ c.K) [aT ds] (aL ds) := fun vs H r k Q q => by
  obtain ⟨v, rfl, r1⟩ := relAll_one r
  obtain ⟨a, xs, rfl, hs, hd⟩ := dp_tup r1
  exact ⟨a, xs, rfl, .inr (sqT_hid hs), Kp.newL (P := fun x => x = aL ds) k hd rfl q⟩
theorem rc_lstL {ds : List PyData} : RcD c M (rLstQ c.K) [aL ds] (aL ds) := fun vs H r k Q q => by
  obtain ⟨v, rfl, r1⟩ := relAll_one r
  obtain ⟨a, xs, rfl, hs, hd⟩ := dp_lst r1
  exact ⟨a, xs, rfl, .inl (sqL_hid hs), Kp.newL (P := fun x => x = aL ds) k hd rfl q⟩
theorem rc_int {i : Int} : RcD c M rIntQ [aI i] (aI i) := fun vs H r k Q q => by
  obtain ⟨v, rfl, r1⟩ := relAll_one r
  obtain rfl := dp_int r1
  exact .inl ⟨i, rfl, q.here rfl (Dp.int _)⟩
theorem rc_intB {b : Bool} : RcD c M rIntQ [aB b] (aI (if b then 1 else 0)) := fun vs H r k Q q => by
  obtain ⟨v, rfl, r1⟩ := relAll_one r
  obtain rfl := dp_bool r1
  exact .inr ⟨b, rfl, q.here rfl (Dp.int _)⟩
theorem rc_abs {i : Int} : RcD c M rAbsQ [aI i] (aI (if i < 0 then -i else i)) := fun vs H r k Q q => by
  obtain ⟨v, rfl, r1⟩ := relAll_one r
  obtain rfl := dp_int r1
  exact ⟨i, rfl, q.here rfl (Dp.int _)⟩
theorem dpAll_ints {K : PySem.W.Frag} {H : Hp} : ∀ {vs : List V} {ns : List Int}, DpAll K H vs (ns.map PyData.int) → vs = ns.map V.int
  | [], [], _ => rfl
  | _ :: _, _ :: _, .cons h a => by rw [dp_int h, dpAll_ints a]; rfl
theorem rc_sum {ns : List Int} : RcD c M (rSum c.K) [aL (ns.map PyData.int)] (aI ns.sum) := fun vs H r k Q q => by
  obtain ⟨v, rfl, r1⟩ := relAll_one r
  obtain ⟨a, xs, rfl, hs, hd⟩ := dp_lst r1
  obtain rfl := dpAll_ints hd
  exact ⟨a, ns, rfl, sqL_hid hs, q.here rfl (Dp.int _)⟩
/-- xs.index(y) -/
theorem ev_index {ds : List PyData} {d z : PyData} {j : Nat} {t : TE} (h : EvD c M te G (aL ds)) (ha : EvD c M t G (.d d)) (s1 : SeqAt.shaped (.list ds) = true) (s2 : SeqAt.shaped d = true) (hj : ds[j]? = some z) (hz : PyData.eqv z d = true)
    (hn : ∀ (m : Nat) (z' : PyData), m < j → ds[m]? = some z' → PyData.eqv z' d = false) : EvD c M (tBM c.K "list" (rIndexD c.K) te (tCons t tNil)) G (aI (j : Int)) := fun σ H s k Q q =>
  h σ H s k _ fun v H1 b e e1 r1 => by
    subst e
    obtain ⟨l, xs, rfl, hs, hd⟩ := dp_lst r1
    refine ⟨.inl ⟨rfl, xs, sqL_hid hs⟩, ha σ H1 (s.mono e1) (e1.2 k) _ fun w H2 b2 e er2 r2 => ?_⟩
    subst e
    have e12 := e1.trans er2
    have r1' : Rel c M H2 (.ref l) (aL ds) := Rel.mono (a := aL ds) er2 (Dp.lst hs hd)
    exact ⟨l, w, d, ds, j, z, rfl, rfl, dp_hid _ _ r1', dp_hid _ _ r2, s1, s2, hj, hz, hn, q.ex e12 |>.here (a := aI (j : Int)) rfl (Dp.int _)⟩
/-- [..] + [..], [..] * k, of new lists alone -/
theorem rv_cat {ds es : List PyData} {x y : V} {H : Hp} {l m : Addr} {xs ys : List V} (k : Ok c M H) (hx : H l = some (.lst xs)) (hy : H m = some (.lst ys)) (hz : ds.length + es.length ≤ 1000)
    (d1 : DpAll c.K (hid M H) xs ds) (d2 : DpAll c.K (hid M H) ys es) {Q : VK} (q : Kp c M H (fun x => x = aL (ds ++ es)) Q) : rCat (.ref l) (.ref m) H Q :=
  ⟨l, m, xs, ys, rfl, rfl, hx, hy, by rw [dpAll_len d1, dpAll_len d2]; exact Nat.le_of_lt (small1000 hz), Kp.newL (P := fun x => x = aL (ds ++ es)) k (dpAll_app d1 d2) rfl q⟩
/-- a list that was just made: as ev_lst, its address told -/
def EvN (c : Cf) (M : Mu) (te : TE) (G : Env') (ds : List PyData) : Prop := ∀ σ H, Sig c M H σ G → Ok c M H → ∀ Q : VK, (∀ l H' xs, H l = none → Ex c M H H' → H' l = some (.lst xs) → DpAll c.K (hid M H') xs ds → Q (.ref l) H') → te σ H Q
theorem EvN.d {ds : List PyData} (h : EvN c M te G ds) : EvD c M te G (aL ds) := fun σ H s k Q q => h σ H s k Q fun l H' xs nl e hl hd =>
  q (.ref l) H' (aL ds) rfl e (Dp.lst (.inl (.inl (hid_of hl (k.fresh nl)))) hd)
theorem en_lst {t : TA} {ds : List PyData} (h : EvA c M t G (ds.map AV.d)) (hl : ds.length ≤ 1000) : EvN c M (tLst t) G ds := fun σ H s k Q q =>
  h σ H s k _ fun vs H1 as e e1 r1 => by
    subst e
    have hd := relAll_d r1
    refine ⟨by rw [dpAll_len hd]; exact Nat.le_of_lt (small1000 hl), fun p np => ?_⟩
    have nH : H p = none := e1.3 p np
    have e2 : Ex c M H1 (upd H1 p (.lst vs)) := Ex.new np
    exact q p _ vs nH (e1.trans e2) upd_same (dpAll_ext e2.hid _ _ hd)
end
end LW

/-! What is walked: enumerate of a tuple, zip of lists and tuples, a zip kept in a name. -/
namespace PySem
open Sem (wp)
set_option maxHeartbeats 1100000 in
theorem lw_enum_newT (t : Addr) (items : Array Value) :
    Meets (Builtin.«enumerate.__new__» ⟨[.type "enumerate", .ref t], []⟩) (fun _ R s => s.heap.IsTuple t items ∧
      R (.ok (.ret (.ref (s.heap.push { cls := .type "tuple_iterator", data := .fields #[.ref t, .int 0 0] }).objs.size)))
        { s with heap := (s.heap.push { cls := .type "tuple_iterator", data := .fields #[.ref t, .int 0 0] }).push { cls := .type "enumerate", data := .fields #[.none, .bool false, .ref s.heap.objs.size, rawInt 0, .none, .none] } }) :=
  .of_wp fun prog w A R s hh => by
    obtain ⟨heap0, gens0, dr0, tok0, os0⟩ := s
    obtain ⟨hT, hR⟩ := hh
    have hs := sub_enumerate
    have q1 : ∀ {A' : Around} {E : Value → Shared → Prop} {Q : Value → Shared → Prop}, Q (.ref heap0.objs.size) ⟨(heap0.push { cls := .type "tuple_iterator", data := .fields #[.ref t, .int 0 0] }), gens0, dr0, tok0, os0⟩ → wpAny (model prog w) A' (pyIter (.ref t)) Q E ⟨heap0, gens0, dr0, tok0, os0⟩ :=
      fun q => (begins_tuple t items).iter prog w _ _ ⟨heap0, gens0, dr0, tok0, os0⟩ _ hT q
    wp_walk
    refine wpAny_stack_any fun _ => wpAny_pure ?_
    split
    · rename_i u _ _ _ _ _
      cases (u == Value.type "enumerate") <;> (wp_walk using q1) <;> exact ⟨_, rfl, hR⟩
    · wp_walk using q1
      exact ⟨_, rfl, hR⟩
theorem lw_call_enumT {prog : Program} {w : World} {A : Around} {E : Value → Shared → Prop} {s : Shared} {t : Addr} {items : Array Value} {Q : Value → Shared → Prop} (hT : s.heap.IsTuple t items)
    (k : ∀ h', IsEnum h' (s.heap.objs.size + 1) s.heap.objs.size 0 .none → h'.IsTupleIter s.heap.objs.size t 0 → (∀ b o, s.heap.get? b = some o → h'.get? b = some o) → Q (.ref (s.heap.objs.size + 1)) { s with heap := h' }) :
    wpAny (model prog w) A (call (.type "enumerate") [.ref t]) Q E s := by
  refine callType_new F.called_enumerate (by decide) (F.typeCall_enumerate_1 _) (F.newCall_enumerate_1 _) (fun ob => F.args_object_init_2 ob _) F.entry_enumerate_new (lw_enum_newT t items) ⟨hT, ?_⟩
  have z1 : (s.heap.push { cls := .type "tuple_iterator", data := .fields #[.ref t, .int 0 0] }).objs.size = s.heap.objs.size + 1 := by rw [Heap.size_push]
  have e1 := Heap.get?_push_size (s.heap.push { cls := .type "tuple_iterator", data := .fields #[.ref t, .int 0 0] }) (o := { cls := .type "enumerate", data := .fields #[.none, .bool false, .ref s.heap.objs.size, rawInt 0, .none, .none] }) rfl
  rw [z1] at e1
  show _ ∧ _
  rw [z1]
  refine ⟨⟨_, e1, rfl⟩, k _ e1 ⟨_, Heap.get?_push_of_some _ (Heap.get?_push_size _ rfl), rfl, rfl⟩ ?_⟩
  intro b o x
  exact Heap.get?_push_of_some _ (Heap.get?_push_of_some _ x)
end PySem
namespace LW
open L2 PySem PySem.Spec PyProof.Rows
/-- the tuple at a, each item with its number in a new pair -/
def IteT (K : PySem.W.Frag) (a : Addr) : It :=
  ⟨fun i H => ∃ (xs : List V) (x : V), SqT K H a xs ∧ xs[i]? = some x,
   fun i H v H' => ∃ T x, v = .ref T ∧ H T = none ∧ H' = upd H T (.tup [.int (i : Nat), x]) ∧ ∀ xs, SqT K H a xs → xs[i]? = some x,
   fun i H => ∃ xs : List V, SqT K H a xs ∧ xs.length = i⟩
theorem turn_enumT {P : Program} {w : World} {K : PySem.W.Frag} {elts : List Expr} {kk : Nat} {tpos : Pos} (a e it : Addr) (hne : e ≠ it) (hae : a ≠ e) (hai : a ≠ it) :
    Turn P w K (.Tuple elts kk tpos) (IteT K a) [e, it] e (fun i h => (∃ old, IsEnum h e it ((i : Nat) : Int) old) ∧ h.IsTupleIter it a i) where
  mem := by simp
  obj := fun i h st b hb => by
    obtain ⟨⟨old, he⟩, ⟨o, ho, hc, hd⟩⟩ := st
    rcases (by simpa using hb : b = e ∨ b = it) with z | z
    · rw [z]
      exact ⟨_, he, fun v q => nomatch q⟩
    · rw [z]
      exact ⟨o, ho, fun v q => by rw [hd] at q; cases q⟩
  keep := fun i h h' st k => let ⟨⟨old, he⟩, hi⟩ := st; ⟨⟨old, k e (by simp) _ he⟩, hi.at fun o q => k it (by simp) o q⟩
  item := by
    intro X eP ew eK calm i pins s σ H E I hf st hg
    subst eP ew eK
    obtain ⟨⟨old, he⟩, hit⟩ := st
    obtain ⟨xs, x, hq, hx⟩ := hg
    obtain ⟨its, rvs, p, _⟩ := I.tuple hq
    obtain ⟨u, hu, ru⟩ := rvs.get hx
    have l1 : e < s.heap.objs.size := Heap.lt_size he
    have l2 : it < s.heap.objs.size := by obtain ⟨_, q, _⟩ := hit; exact Heap.lt_size q
    have hi : i < its.toArray.size := by simpa using (List.getElem?_eq_some_iff.mp hu).1
    refine wpAny_pyNext_enum_itemD (Draws.tuple (A := X.A.in1) (show X.A.in1.handled = none from I.ok.hd calm) it a hai its.toArray) he ⟨hit, p⟩ hi hne (by simp [hne, Ne.symm hae]) fun y h' tk hy ho hst hT hsz hk => ?_
    obtain rfl : y = u := by
      have : its.toArray[i]? = some y := hy
      rw [show its.toArray[i]? = some u by simpa using hu] at this
      exact (someI this).symm
    refine ⟨_, rfl, wpAny_letOwnedTupleGo_enum (s := { s with heap := h', toks := tk + 1 }) ho fun h'' he' sb => ?_⟩
    have hT2 : h''.get? s.heap.objs.size = some { cls := .type "tuple", data := .seq #[.int i tk, y] } := (sb.2 _ (Nat.ne_of_gt l1)).trans hT
    have fresh : ObjOk X.prog X.w (upd H s.heap.objs.size (.tup [.int (i : Nat), x])) h'' s.heap.objs.size (.tup [.int (i : Nat), x]) := ⟨by show 2 ≤ sizeLine; decide, [.int i tk, y], .cons ⟨_, rfl⟩ (.cons ru .nil), ⟨_, hT2, rfl, _, rfl⟩⟩
    have J := I.turnedNew (t' := tk + 1) (ch := [e, it]) (h' := h'') (fun b ob hb q => (sb.2 b (fun z => hb (by simp [z]))).trans (hk b ob (fun z => hb (by simp [z])) (fun z => hb (by simp [z])) q)) hf (Nat.le_refl _) fresh
    refine ⟨.ref s.heap.objs.size, _, J, rfl, ⟨_, x, rfl, I.hok.fresh (Nat.le_refl _), rfl, fun ys hy => by rw [I.tuple_inj hy hq]; exact hx⟩, ⟨⟨y, ?_⟩, hst.1.at fun o q => (sb.2 it (Ne.symm hne)).trans q⟩, fun b hb => ?_⟩
    · rw [show ((i + 1 : Nat) : Int) = (i : Int) + 1 by omega]
      exact he'
    · have blt : b < s.heap.objs.size := by
        rcases (by simpa using hb : b = e ∨ b = it) with z | z <;> (rw [z]; assumption)
      rw [upd_ne (Nat.ne_of_lt blt)]
      exact (hf b hb).1
  done := by
    intro X eP ew eK calm i pins s σ H E I hf st hg
    subst eP ew eK
    obtain ⟨⟨old, he⟩, hit⟩ := st
    obtain ⟨xs, hq, hx⟩ := hg
    obtain ⟨its, rvs, p, _⟩ := I.tuple hq
    obtain ⟨w0, w1, _, w3, w4, w5⟩ := hf it (by simp)
    have hl := rvs.length
    subst hx
    refine wpAny_pyNext_enum_endD (n := its.toArray.size) (Draws.tuple (A := X.A.in1) (show X.A.in1.handled = none from I.ok.hd calm) it a hai its.toArray) he (i := (xs.length : Int)) ⟨?_, p⟩ fun h' eb => ⟨rfl, I.turned (t' := s.toks) (fun b o hb q => eb b o hb q) w0 w1 w3 w4 w5⟩
    have : its.toArray.size = xs.length := by simp [hl]
    rw [this]
    exact hit
  self := fun A i s Q E st h => wpAny_pyIter_enum st.1.choose_spec h
def iEnumT (K : PySem.W.Frag) (ta : TA) : TI := fun σ H R => ta σ H fun vs H1 => ∃ a xs, vs = [.ref a] ∧ SqT K H1 a xs ∧ R (IteT K a) H1
theorem pi_enumT {X : Cx} {e : Expr} {ta : TA} {p pos tpos : Pos} {elts : List Expr} {kk : Nat} (hg : Gl X "enumerate") (hm : X.mg "enumerate" = none) (ha : PA X [e] ta) (hs : starEach [e] X.env = [(false, eval e X.env)] := by rfl) :
    PI X (.Tuple elts kk tpos) (.Call (.Name "enumerate" p) [e] [] pos) (iEnumT X.K ta) := by
  refine ⟨fun pins s σ H R I h => Call_ (ld_blt I hg hm boot_enumerate (PyProof.Rows.callWith_type1 (thn (ha.run pos pins s σ H _ I h) fun us s1 ⟨vs, H1, I1, r1, q1⟩ => ?_) hs rfl))⟩
  obtain ⟨a, xs, rfl, hq, q⟩ := q1
  obtain ⟨u, rfl, r⟩ := Vals.one r1
  cases r
  obtain ⟨its, _, p', _⟩ := I1.tuple hq
  have hal : a < s1.heap.objs.size := p'.lt
  refine lw_call_enumT p' fun h' he hit hk => wpAny_pyIter_enum he ?_
  have J2 : Inv X pins σ H1 { s1 with heap := h' } := I1.kept (t' := s1.toks) hk
  refine ⟨s1.heap.objs.size + 1, [s1.heap.objs.size + 1, s1.heap.objs.size], _, _, H1, rfl, J2, turn_enumT a (s1.heap.objs.size + 1) s1.heap.objs.size (Nat.succ_ne_self _) (Nat.ne_of_lt (Nat.lt_succ_of_lt hal)) (Nat.ne_of_lt hal), ⟨⟨.none, he⟩, hit⟩, fun b hb => ?_, q⟩
  have far : s1.heap.objs.size ≤ b := by
    rcases (by simpa using hb : b = s1.heap.objs.size + 1 ∨ b = s1.heap.objs.size) with z | z
    · rw [z]; exact Nat.le_succ _
    · rw [z]; exact Nat.le_refl _
  exact I1.fpOk far (I1.hok.fresh far)
end LW

namespace LW
open L2 PySem PySem.Spec PyProof.Rows
def pairD (x y : PyData) : PyData := .tuple [x, y]
def zipD (xs ys : List PyData) : List PyData := List.zipWith pairD xs ys
def enumD (xs : List PyData) : List PyData := (List.range xs.length).map fun i => pairD (.int ((i : Nat) : Int)) (xs.getD i .none)
theorem zipD_len (xs ys : List PyData) : (zipD xs ys).length = min xs.length ys.length := by unfold zipD; simp
theorem zipD_get {xs ys : List PyData} {i : Nat} {x y : PyData} (h1 : xs[i]? = some x) (h2 : ys[i]? = some y) : (zipD xs ys)[i]? = some (pairD x y) := by
  unfold zipD
  rw [List.getElem?_zipWith, h1, h2]
theorem zipD_at {xs ys : List PyData} {i : Nat} {d : PyData} (h : (zipD xs ys)[i]? = some d) : ∃ x y, xs[i]? = some x ∧ ys[i]? = some y ∧ d = pairD x y := by
  have hi := (List.getElem?_eq_some_iff.mp h).1
  rw [zipD_len] at hi
  have h1 := List.getElem?_eq_getElem (l := xs) (i := i) (by omega)
  have h2 := List.getElem?_eq_getElem (l := ys) (i := i) (by omega)
  rw [zipD_get h1 h2] at h
  exact ⟨_, _, h1, h2, (someI h).symm⟩
theorem enumD_len (xs : List PyData) : (enumD xs).length = xs.length := by unfold enumD; simp
theorem enumD_get {xs : List PyData} {i : Nat} {x : PyData} (h : xs[i]? = some x) : (enumD xs)[i]? = some (pairD (.int ((i : Nat) : Int)) x) := by
  have hi := (List.getElem?_eq_some_iff.mp h).1
  unfold enumD
  rw [List.getElem?_map, List.getElem?_range hi]
  simp [h]
theorem enumD_at {xs : List PyData} {i : Nat} {d : PyData} (h : (enumD xs)[i]? = some d) : ∃ x, xs[i]? = some x ∧ d = pairD (.int ((i : Nat) : Int)) x := by
  have hi := (List.getElem?_eq_some_iff.mp h).1
  rw [enumD_len] at hi
  have h1 := List.getElem?_eq_getElem (l := xs) (i := i) hi
  rw [enumD_get h1] at h
  exact ⟨_, h1, (someI h).symm⟩
section
variable {c : Cf} {M : Mu} {G G' : Env'} {ta tb te : TE} {P P' Pa Pb : AV → Prop} {a b e : AV}
theorem pair_new {M : Mu} {H : Hp} {T : Addr} {x y : V} {d e : PyData} (k : Ok c M H) (nT : H T = none) (h1 : Dp c.K (hid M H) x d) (h2 : Dp c.K (hid M H) y e) :
    Ex c M H (upd H T (.tup [x, y])) ∧ Dp c.K (hid M (upd H T (.tup [x, y]))) (.ref T) (pairD d e) := by
  have ex : Ex c M H (upd H T (.tup [x, y])) := Ex.new nT
  refine ⟨ex, Dp.tup (.inl (.inl (hid_of upd_same (k.fresh nT)))) ?_⟩
  exact .cons (dp_ext ex.hid _ _ h1) (.cons (dp_ext ex.hid _ _ h2) .nil)
theorem wk_zipT {p q : Addr} {xs ys : List V} {ds es : List PyData} (hl : xs.length = ds.length) (hl2 : ys.length = es.length) :
    WkD c (RZ.ItzT c.K p q) (zipD ds es) (fun H => (SqT c.K H p xs ∧ DpAll c.K H xs ds) ∧ SqT c.K H q ys ∧ DpAll c.K H ys es) where
  keep := fun H H' ⟨⟨h1, h2⟩, h3, h4⟩ e => ⟨⟨sqT_ext e h1, dpAll_ext e _ _ h2⟩, sqT_ext e h3, dpAll_ext e _ _ h4⟩
  stop := fun M H ⟨⟨h1, h2⟩, h3, h4⟩ k => ⟨xs, ys, sqT_hid h1, sqT_hid h3, by rw [zipD_len, hl, hl2]; omega⟩
  go := fun M i H hi ⟨⟨h1, h2⟩, h3, h4⟩ k => by
    rw [zipD_len] at hi
    exact ⟨xs, ys, xs[i], ys[i], sqT_hid h1, sqT_hid h3, List.getElem?_eq_getElem (by omega), List.getElem?_eq_getElem (by omega)⟩
  yld := fun M i H v H' hi ⟨⟨h1, h2⟩, h3, h4⟩ k hy => by
    obtain ⟨T, x, y, rfl, nT, rfl, f1, f2⟩ := hy
    obtain ⟨d, e1, r1⟩ := dpAll_at h2 (f1 _ (sqT_hid h1))
    obtain ⟨e, e2, r2⟩ := dpAll_at h4 (f2 _ (sqT_hid h3))
    obtain ⟨ex, r⟩ := pair_new k nT r1 r2
    exact ⟨ex, _, zipD_get e1 e2, r⟩
theorem wk_zipL {p q : Addr} {xs ys : List V} {ds es : List PyData} (hl : xs.length = ds.length) (hl2 : ys.length = es.length) :
    WkD c (Itz c.K p q) (zipD ds es) (fun H => (SqL c.K H p xs ∧ DpAll c.K H xs ds) ∧ SqL c.K H q ys ∧ DpAll c.K H ys es) where
  keep := fun H H' ⟨⟨h1, h2⟩, h3, h4⟩ e => ⟨⟨sqL_ext e h1, dpAll_ext e _ _ h2⟩, sqL_ext e h3, dpAll_ext e _ _ h4⟩
  stop := fun M H ⟨⟨h1, h2⟩, h3, h4⟩ k => ⟨xs, ys, sqL_hid h1, sqL_hid h3, by rw [zipD_len, hl, hl2]; omega⟩
  go := fun M i H hi ⟨⟨h1, h2⟩, h3, h4⟩ k => by
    rw [zipD_len] at hi
    exact ⟨xs, ys, xs[i], ys[i], sqL_hid h1, sqL_hid h3, List.getElem?_eq_getElem (by omega), List.getElem?_eq_getElem (by omega)⟩
  yld := fun M i H v H' hi ⟨⟨h1, h2⟩, h3, h4⟩ k hy => by
    obtain ⟨T, x, y, rfl, nT, rfl, f1, f2⟩ := hy
    obtain ⟨d, e1, r1⟩ := dpAll_at h2 (f1 _ (sqL_hid h1))
    obtain ⟨e, e2, r2⟩ := dpAll_at h4 (f2 _ (sqL_hid h3))
    obtain ⟨ex, r⟩ := pair_new k nT r1 r2
    exact ⟨ex, _, zipD_get e1 e2, r⟩
theorem wk_enumT {p : Addr} {xs : List V} {ds : List PyData} (hl : xs.length = ds.length) : WkD c (IteT c.K p) (enumD ds) (fun H => SqT c.K H p xs ∧ DpAll c.K H xs ds) where
  keep := fun H H' ⟨h1, h2⟩ e => ⟨sqT_ext e h1, dpAll_ext e _ _ h2⟩
  stop := fun M H ⟨h1, h2⟩ k => ⟨xs, sqT_hid h1, by rw [enumD_len, hl]⟩
  go := fun M i H hi ⟨h1, h2⟩ k => by
    rw [enumD_len] at hi
    exact ⟨xs, xs[i], sqT_hid h1, List.getElem?_eq_getElem (by omega)⟩
  yld := fun M i H v H' hi ⟨h1, h2⟩ k hy => by
    obtain ⟨T, x, rfl, nT, rfl, f1⟩ := hy
    obtain ⟨d, e1, r1⟩ := dpAll_at h2 (f1 _ (sqT_hid h1))
    obtain ⟨ex, r⟩ := pair_new k nT (Dp.int ((i : Nat) : Int)) r1
    exact ⟨ex, _, enumD_get e1, r⟩
theorem relAll_two {H : Hp} {vs : List V} {a b : AV} (h : RelAll c M H vs [a, b]) : ∃ v w, vs = [v, w] ∧ Rel c M H v a ∧ Rel c M H w b := by
  match vs, h with
  | [v, w], h => exact ⟨v, w, rfl, h.1, h.2.1⟩
  | [], h => exact h.elim
  | [_], h => exact h.2.elim
  | _ :: _ :: _ :: _, h => exact h.2.2.elim
theorem it_zipT {t : TA} {ds es : List PyData} (h : EvA c M t G [aT ds, aT es]) : ItD c M (RZ.iZipA c.K t) G (zipD ds es) := fun σ H s k R q =>
  h σ H s k _ fun vs H1 as e e1 r => by
    subst e
    obtain ⟨v, w, rfl, r1, r2⟩ := relAll_two r
    obtain ⟨p, xs, rfl, h1, h2⟩ := dp_tup r1
    obtain ⟨p2, ys, rfl, h3, h4⟩ := dp_tup r2
    exact ⟨p, p2, xs, ys, rfl, .inr ⟨sqT_hid h1, sqT_hid h3, q _ H1 _ e1 ⟨⟨h1, h2⟩, h3, h4⟩ (wk_zipT (dpAll_len h2) (dpAll_len h4))⟩⟩
theorem it_zipL {t : TA} {ds es : List PyData} (h : EvA c M t G [aL ds, aL es]) : ItD c M (RZ.iZipA c.K t) G (zipD ds es) := fun σ H s k R q =>
  h σ H s k _ fun vs H1 as e e1 r => by
    subst e
    obtain ⟨v, w, rfl, r1, r2⟩ := relAll_two r
    obtain ⟨p, xs, rfl, h1, h2⟩ := dp_lst r1
    obtain ⟨p2, ys, rfl, h3, h4⟩ := dp_lst r2
    exact ⟨p, p2, xs, ys, rfl, .inl ⟨sqL_hid h1, sqL_hid h3, q _ H1 _ e1 ⟨⟨h1, h2⟩, h3, h4⟩ (wk_zipL (dpAll_len h2) (dpAll_len h4))⟩⟩
theorem it_enumT {t : TA} {ds : List PyData} (h : EvA c M t G [aT ds]) : ItD c M (iEnumT c.K t) G (enumD ds) := fun σ H s k R q =>
  h σ H s k _ fun vs H1 as e e1 r => by
    subst e
    obtain ⟨v, rfl, r1⟩ := relAll_one r
    obtain ⟨p, xs, rfl, h1, h2⟩ := dp_tup r1
    exact ⟨p, xs, rfl, sqT_hid h1, q _ H1 _ e1 ⟨h1, h2⟩ (wk_enumT (dpAll_len h2))⟩
/-! ### isinstance -/
theorem tyx_tup {H : Hp} {v : V} {ds : List PyData} (h : Dp c.K H v (.tuple ds)) : TyX c.K H v (.type "tuple") := by
  obtain ⟨a, xs, rfl, hs, _⟩ := dp_tup h
  rcases hs with (h | ⟨o, h⟩) | ⟨o, its, n, h1, h2, _⟩
  · exact .base (.tup h)
  · exact .fTuple h
  · exact .kTuple h1 h2
theorem kit_tup {K : PySem.W.Frag} : PySem.W.kitAny K (.type "tuple") [.type "tuple", .type "list"] = some true :=
  kitAny_cons (b := true) (kit_ty (by decide +kernel)) (fun z => by cases z) fun _ => rfl
/-- isinstance(t, (tuple, list)) of a tuple -/
theorem ev_isTup {ds : List PyData} (h : EvD c M te G (aT ds)) : EvD c M (tCB (rIsiT c.K) (tCons te (tCons (tTup (tCons (tC (.ty "tuple")) (tCons (tC (.ty "list")) tNil))) tNil))) G (aB true) := fun σ H s k Q q =>
  h σ H s k _ fun v H1 b e e1 r1 => by
    subst e
    refine ⟨by show 2 ≤ sizeLine; decide, fun p np => ?_⟩
    have e2 : Ex c M H1 (upd H1 p (.tup [.ty "tuple", .ty "list"])) := Ex.new np
    have r2 := dp_hid _ _ (Rel.mono (a := aT ds) e2 r1)
    exact ⟨v, p, [.ty "tuple", .ty "list"], .type "tuple", [.type "tuple", .type "list"], true, rfl, upd_same, .cons (.ty _) (.cons (.ty _) .nil), tyx_tup r2, kit_tup, q _ _ (aB true) rfl (e1.trans e2) (Dp.bl true)⟩
/-- isinstance(i, int) of an int -/
theorem ev_isInt {i : Int} (h : EvD c M te G (aI i)) : EvD c M (tCB (rIsi c.K) (tCons te (tCons (tC (.ty "int")) tNil))) G (aB true) := fun σ H s k Q q =>
  h σ H s k _ fun v H1 b e e1 r1 => by
    subst e
    obtain rfl := dp_int r1
    exact ⟨.int i, .ty "int", .type "int", .type "int", true, rfl, .ty _, .base (.int i), kit_ty (by decide +kernel), (q.ex e1).here (a := aB true) rfl (Dp.bl true)⟩
end
/-! ### a zip kept in a name -/
def zO (z TI TO : Addr) : HO := .ext fun h => IsZip h z TI TO .none
def pO (TI i1 i2 : Addr) : HO := .ext fun h => IsPair h TI (.ref i1) (.ref i2)
def qO (TO : Addr) : HO := .ext fun h => ∃ x y, IsPair h TO x y
def jO (i l : Addr) : HO := .ext fun h => h.IsTupleIter i l 0
structure ZipAt (H : Hp) (z TI TO i1 i2 a b : Addr) : Prop where
  ap : ZipApart z TI TO i1 i2 a b
  hz : H z = some (zO z TI TO)
  hI : H TI = some (pO TI i1 i2)
  hO : H TO = some (qO TO)
  h1 : H i1 = some (jO i1 a)
  h2 : H i2 = some (jO i2 b)
def put5 (H : Hp) (z TI TO i1 i2 a b : Addr) : Hp := upd (upd (upd (upd (upd H i1 (jO i1 a)) i2 (jO i2 b)) TI (pO TI i1 i2)) TO (qO TO)) z (zO z TI TO)
def drop5 (H : Hp) (z TI TO i1 i2 : Addr) : Hp := ItX.dropH (ItX.dropH (ItX.dropH (ItX.dropH (ItX.dropH H z) TO) TI) i2) i1
def rZipV (K : PySem.W.Frag) (n : Nat) : List V → Hp → VK → Prop := fun xs H Q => ∃ (a b : Addr) (ys zs : List V), xs = [.ref a, .ref b] ∧ SqT K H a ys ∧ SqT K H b zs ∧
  ∀ z TI TO i1 i2, (∀ x ∈ [z, TI, TO, i1, i2], H x = none ∧ n ≤ x) → ZipApart z TI TO i1 i2 a b → Q (.ref z) (put5 H z TI TO i1 i2 a b)
theorem ext_ok {P : Program} {w : World} {H : Hp} {h : Heap} {a : Addr} {f : Heap → Prop} (h1 : f h) (h2 : ∃ o, h.get? a = some o) (h3 : ∀ x y : Heap, f x → (∀ o, x.get? a = some o → y.get? a = some o) → f y) : ObjOk P w H h a (.ext f) := ⟨h1, h2, h3⟩
theorem zip_ap {N a b : Nat} (la : a < N) (lb : b < N) : ZipApart (N + 4) (N + 2) (N + 3) N (N + 1) a b := by
  constructor <;> (show ((_ : Nat) ≠ (_ : Nat))) <;> omega
theorem addr_cases {P : Nat → Prop} {N x : Nat} (h : x = N + 4 ∨ x = N + 2 ∨ x = N + 3 ∨ x = N ∨ x = N + 1) : N ≤ x := by omega
/-- several new objects laid and told at once -/
theorem inv_laidL {X : Cx} {pins : List (Addr × Obj)} {σ : L2.St} {H H' : Hp} {s : Shared} {h' : Heap} {t' : Nat} (I : L2.Inv X pins σ H s) (k : ∀ b u, s.heap.get? b = some u → h'.get? b = some u)
    (h1 : ∀ b, b < s.heap.objs.size → H' b = H b) (h2 : ∀ b o, s.heap.objs.size ≤ b → H' b = some o → ObjOk X.prog X.w H' h' b o) : L2.Inv X pins σ H' { s with heap := h', toks := t' } := by
  have lt : ∀ b o, H b = some o → H' b = some o := fun b o e => by
    rw [h1 b (I.hok.lt e)]
    exact e
  refine I.un (h' := h') (t' := t') ⟨fun b o e _ _ _ => k b o e, fun b o e _ _ _ => ⟨o.slots, k b o e⟩, fun b o e n _ => ?_, fun b o e _ => ⟨o, k b o e⟩, fun b xs e => lt b _ e, fun b o u e => lt b _ e, fun b ps e => ⟨#[], ?_⟩⟩ fun b o e => ?_
  · rw [h1 b (Heap.lt_size e)]
    exact n
  · rw [lt b _ e]
    simp
  · by_cases hb : b < s.heap.objs.size
    · rw [h1 b hb] at e
      exact (I.hok b o e).stay (fun b u _ q => k b u q) (fun b q => lt b _ q) fun b xs q => lt b _ q
    · exact h2 b o (Nat.le_of_not_lt hb) e
theorem put5_at {H : Hp} {z TI TO i1 i2 a b x : Addr} (h1 : x ≠ z) (h2 : x ≠ TI) (h3 : x ≠ TO) (h4 : x ≠ i1) (h5 : x ≠ i2) : put5 H z TI TO i1 i2 a b x = H x := by
  unfold put5
  rw [upd_ne h1, upd_ne h3, upd_ne h2, upd_ne h5, upd_ne h4]
theorem put5_zip {H : Hp} {z TI TO i1 i2 a b : Addr} (D : ZipApart z TI TO i1 i2 a b) : ZipAt (put5 H z TI TO i1 i2 a b) z TI TO i1 i2 a b := by
  refine ⟨D, ?_, ?_, ?_, ?_, ?_⟩ <;> unfold put5
  · exact upd_same
  · rw [upd_ne D.TIz, upd_ne D.TITO, upd_same]
  · rw [upd_ne D.TOz, upd_same]
  · rw [upd_ne D.i1z, upd_ne (Ne.symm D.TOi1), upd_ne (Ne.symm D.TIi1), upd_ne D.i12, upd_same]
  · rw [upd_ne D.i2z, upd_ne (Ne.symm D.TOi2), upd_ne (Ne.symm D.TIi2), upd_same]
theorem drop_put5 {H : Hp} {z TI TO i1 i2 a b : Addr} (h : ∀ x ∈ [z, TI, TO, i1, i2], H x = none) : drop5 (put5 H z TI TO i1 i2 a b) z TI TO i1 i2 = H := by
  funext x
  unfold drop5 ItX.dropH
  by_cases h5 : x = i1
  · rw [if_pos h5, h5, h i1 (by simp)]
  rw [if_neg h5]
  by_cases h4 : x = i2
  · rw [if_pos h4, h4, h i2 (by simp)]
  rw [if_neg h4]
  by_cases h2 : x = TI
  · rw [if_pos h2, h2, h TI (by simp)]
  rw [if_neg h2]
  by_cases h3 : x = TO
  · rw [if_pos h3, h3, h TO (by simp)]
  rw [if_neg h3]
  by_cases h1 : x = z
  · rw [if_pos h1, h1, h z (by simp)]
  rw [if_neg h1]
  exact put5_at h1 h2 h3 h5 h4
theorem call_zipV {X : Cx} : CallR X (.type "zip") (rZipV X.K X.s_0.heap.objs.size) := by
  rintro pins s σ H xs us Q I r ⟨a, b, ys, zs, rfl, ha, hb, h⟩
  obtain ⟨u, w, rfl, ru, rw'⟩ := Vals.two r
  cases ru
  cases rw'
  obtain ⟨its, _, p, _⟩ := I.tuple ha
  obtain ⟨its2, _, p2, _⟩ := I.tuple hb
  have la : a < s.heap.objs.size := p.lt
  have lb : b < s.heap.objs.size := p2.lt
  refine RZ.call_zipT p p2 fun h' hz hTI hTO j1 j2 hsz hk => ?_
  have sz := I.sz
  have D : ZipApart (s.heap.objs.size + 4) (s.heap.objs.size + 2) (s.heap.objs.size + 3) s.heap.objs.size (s.heap.objs.size + 1) a b := zip_ap la lb
  have Z := put5_zip (H := H) D
  have five : ∀ x ∈ [s.heap.objs.size + 4, s.heap.objs.size + 2, s.heap.objs.size + 3, s.heap.objs.size, s.heap.objs.size + 1], s.heap.objs.size ≤ x := by
    intro x hx
    simp only [List.not_mem_nil, List.mem_cons, or_false] at hx
    exact addr_cases (P := fun _ => True) hx
  have J : L2.Inv X pins σ (put5 H (s.heap.objs.size + 4) (s.heap.objs.size + 2) (s.heap.objs.size + 3) s.heap.objs.size (s.heap.objs.size + 1) a b) { s with heap := h' } := by
    refine inv_laidL (t' := s.toks) I hk (fun x hx => ?_) fun x o hx ho => ?_
    · have ne : ∀ y ∈ [s.heap.objs.size + 4, s.heap.objs.size + 2, s.heap.objs.size + 3, s.heap.objs.size, s.heap.objs.size + 1], x ≠ y := fun y hy z => by
        have := five y hy
        rw [← z] at this
        exact absurd hx (Nat.not_lt.mpr this)
      exact put5_at (ne _ (by simp)) (ne _ (by simp)) (ne _ (by simp)) (ne _ (by simp)) (ne _ (by simp))
    · by_cases h1 : x = s.heap.objs.size + 4
      · rw [h1, Z.hz] at ho
        cases ho
        rw [h1]
        exact ext_ok hz ⟨_, hz⟩ fun x y e k => k _ e
      by_cases h2 : x = s.heap.objs.size + 2
      · rw [h2, Z.hI] at ho
        cases ho
        rw [h2]
        exact ext_ok hTI ⟨_, hTI⟩ fun x y e k => k _ e
      by_cases h3 : x = s.heap.objs.size + 3
      · rw [h3, Z.hO] at ho
        cases ho
        rw [h3]
        exact ext_ok ⟨_, _, hTO⟩ ⟨_, hTO⟩ fun x y ⟨u, v, e⟩ k => ⟨u, v, k _ e⟩
      by_cases h4 : x = s.heap.objs.size
      · rw [h4, Z.h1] at ho
        cases ho
        rw [h4]
        obtain ⟨o, ho, _⟩ := id j1
        exact ext_ok j1 ⟨o, ho⟩ fun x y e k => e.at k
      by_cases h5 : x = s.heap.objs.size + 1
      · rw [h5, Z.h2] at ho
        cases ho
        rw [h5]
        obtain ⟨o, ho, _⟩ := id j2
        exact ext_ok j2 ⟨o, ho⟩ fun x y e k => e.at k
      rw [put5_at h1 h2 h3 h4 h5] at ho
      exact absurd (I.hok.lt ho) (Nat.not_lt.mpr hx)
  exact ⟨.ref (s.heap.objs.size + 4), _, J, rfl, h _ _ _ _ _ (fun x hx => ⟨I.hok.fresh (five x hx), Nat.le_trans sz (five x hx)⟩) D⟩
/-- for .. in rows, rows a name that holds such a zip -/
def iZipV (K : PySem.W.Frag) (n k : Nat) : TI := fun σ H R => ∃ z TI TO i1 i2 a b, σ[k]? = some (some (.ref z)) ∧ ZipAt H z TI TO i1 i2 a b ∧ (∀ x ∈ [z, TI, TO, i1, i2], n ≤ x) ∧ R (RZ.ItzT K a b) (drop5 H z TI TO i1 i2)
theorem drop_none {H : Hp} {a b : Addr} (h : H b = none) : ItX.dropH H a b = none := by
  unfold ItX.dropH
  split
  · rfl
  · exact h
theorem fpOk_drop {X : Cx} {pins : List (Addr × Obj)} {H : Hp} {a b : Addr} (h : FpOk X pins H b) : FpOk X pins (ItX.dropH H a) b := ⟨drop_none h.1, h.2⟩
theorem pi_zipV {X : Cx} {elts : List Expr} {kk : Nat} {tpos p : Pos} {k : Nat} {x : Str} (hN : X.N[k]? = some x) (hv : Vis X.env.scope x) (hd : (x == ("__debug__" : Str)) = false := by decide) (hcd : (x == ("__classdict__" : Str)) = false := by decide) :
    PI X (.Tuple elts kk tpos) (.Name x p) (iZipV X.K X.s_0.heap.objs.size k) := by
  refine ⟨fun pins s σ H R I ⟨z, TI, TO, i1, i2, a, b, hs, Z, hn, q⟩ => ?_⟩
  refine thn ((pe_var (pos := p) (i := k) hN hv hd hcd).run pins s σ H (fun v H1 => v = .ref z ∧ H1 = H) I ⟨.ref z, hs, rfl, rfl⟩) fun u s1 ⟨v, H1, I1, r1, q1⟩ => ?_
  obtain ⟨rfl, rfl⟩ := q1
  cases r1
  have D := Z.ap
  obtain ⟨hz, _, _⟩ := I1.hok z _ Z.hz
  obtain ⟨hTI, _, _⟩ := I1.hok TI _ Z.hI
  obtain ⟨hTO, _, _⟩ := I1.hok TO _ Z.hO
  obtain ⟨j1, _, _⟩ := I1.hok i1 _ Z.h1
  obtain ⟨j2, _, _⟩ := I1.hok i2 _ Z.h2
  have J1 := ItX.inv_drop I1 Z.hz
  have f1 := ItX.inv_fp I1 Z.hz (hn z (by simp))
  have g2 : ItX.dropH H1 z TO = some (qO TO) := by rw [ItX.dropH_ne D.TOz]; exact Z.hO
  have J2 := ItX.inv_drop J1 g2
  have f2 := ItX.inv_fp J1 g2 (hn TO (by simp))
  have g3 : ItX.dropH (ItX.dropH H1 z) TO TI = some (pO TI i1 i2) := by rw [ItX.dropH_ne D.TITO, ItX.dropH_ne D.TIz]; exact Z.hI
  have J3 := ItX.inv_drop J2 g3
  have f3 := ItX.inv_fp J2 g3 (hn TI (by simp))
  have g4 : ItX.dropH (ItX.dropH (ItX.dropH H1 z) TO) TI i2 = some (jO i2 b) := by rw [ItX.dropH_ne (Ne.symm D.TIi2), ItX.dropH_ne (Ne.symm D.TOi2), ItX.dropH_ne D.i2z]; exact Z.h2
  have J4 := ItX.inv_drop J3 g4
  have f4 := ItX.inv_fp J3 g4 (hn i2 (by simp))
  have g5 : ItX.dropH (ItX.dropH (ItX.dropH (ItX.dropH H1 z) TO) TI) i2 i1 = some (jO i1 a) := by rw [ItX.dropH_ne D.i12, ItX.dropH_ne (Ne.symm D.TIi1), ItX.dropH_ne (Ne.symm D.TOi1), ItX.dropH_ne D.i1z]; exact Z.h1
  have J5 := ItX.inv_drop J4 g5
  have f5 := ItX.inv_fp J4 g5 (hn i1 (by simp))
  refine wpAny_pyIter_zip hz ?_
  refine ⟨z, [z, TI, TO, i1, i2], _, _, _, rfl, J5, RZ.turn_zipT D, ⟨hz, hTI, hTO, j1, j2⟩, fun x hx => ?_, q⟩
  simp only [List.not_mem_nil, List.mem_cons, or_false] at hx
  rcases hx with e | e | e | e | e <;> rw [e]
  · exact fpOk_drop (fpOk_drop (fpOk_drop (fpOk_drop f1)))
  · exact fpOk_drop (fpOk_drop f3)
  · exact fpOk_drop (fpOk_drop (fpOk_drop f2))
  · exact f5
  · exact fpOk_drop f4
/-- rows = zip(a, b) ; return f([e for .. in rows]) -/
theorem st_zipret {c : Cf} {M : Mu} {G : Env'} {P : AV → Prop} {PG : Env' → Prop} {ta : TA} {te : TE} {g : TG} {vs : List Nat} {n k : Nat} {ds es fs : List PyData} {R : PR} {E : XK} (h : EvA c M ta G [aT ds, aT es]) (hl : ds.length ≤ 1000) (hk : k < G.length) (hf : fs.length = (zipD ds es).length)
    (he : ∀ (M' : Mu), (∀ p ∈ M, p ∈ M') → ∀ (i : Nat) (d e : PyData), (zipD ds es)[i]? = some d → fs[i]? = some e → ∃ G2 us, TgP c M' g us (.d d) (wipG (G.set k none) vs) G2 ∧ (∀ k ∈ us, k ∈ vs) ∧ EvD c M' te G2 (.d e)) (hr : R M [aL fs] P) :
    StP c M (tSeq (tAsg (tCB (rZipV c.K n) ta) (gName k)) (tRet (tCall (spR c R) [] E (tCons (tLc (iZipV c.K n k) g tYes te vs) tNil)))) G PG P := fun σ H s kH D nx q =>
  h σ H s kH _ fun ws H1 as e e1 r => by
    subst e
    obtain ⟨v, w, rfl, r1, r2⟩ := relAll_two r
    obtain ⟨a, xs, rfl, h1, h2⟩ := dp_tup r1
    obtain ⟨b, ys, rfl, h3, h4⟩ := dp_tup r2
    refine ⟨a, b, xs, ys, rfl, sqT_hid h1, sqT_hid h3, fun z TI TO i1 i2 hz D' => ?_⟩
    refine ⟨z, TI, TO, i1, i2, a, b, ?_, put5_zip D', fun x hx => (hz x hx).2, ?_⟩
    · rw [List.getElem?_set_self (by rw [s.len]; exact hk)]
    rw [drop_put5 fun x hx => (hz x hx).1]
    have k1 := e1.2 kH
    have s1 : Sig c M H1 (σ.set k (some (.ref z))) (G.set k none) := by
      have s0 := s.mono e1
      refine ⟨by rw [List.length_set, List.length_set, s0.len], fun i a hi => ?_⟩
      by_cases ei : k = i
      · subst ei
        rw [List.getElem?_set_self hk] at hi
        cases hi
      · rw [List.getElem?_set_ne ei] at hi
        rw [List.getElem?_set_ne ei]
        exact s0.at_ i a hi
    have hL : (zipD ds es).length ≤ 1000 := by rw [zipD_len]; omega
    refine lc_tail (g := g) (te := te) (vs := vs) (G := G.set k none) (Q := fun v H => spR c R ([v] ++ []) H D.rt E) (Pe := fun i x => fs[i]? = some x) (P := fun x => x = aL fs) hL s1 k1 (Wk := fun H => (SqT c.K H a xs ∧ DpAll c.K H xs ds) ∧ SqT c.K H b ys ∧ DpAll c.K H ys es) ⟨⟨h1, h2⟩, h3, h4⟩ (wk_zipT (dpAll_len h2) (dpAll_len h4)) (fun M' hM i d hd => ?_) (fun gs hg hp => ?_) fun v2 H2 a2 ea e2 rv => ?_
    · have hi : i < fs.length := by
        rw [hf]
        exact (List.getElem?_eq_some_iff.mp hd).1
      obtain ⟨G2, us, t1, t2, t3⟩ := he M' hM i d fs[i] hd (List.getElem?_eq_getElem hi)
      exact ⟨G2, us, t1, t2, t3.mono fun x hx => ⟨_, hx, List.getElem?_eq_getElem hi⟩⟩
    · have : gs = fs := by
        apply List.ext_getElem?
        intro i
        by_cases hi : i < gs.length
        · rw [List.getElem?_eq_getElem hi, hp i _ (List.getElem?_eq_getElem hi)]
        · rw [List.getElem?_eq_none_iff.mpr (by omega), List.getElem?_eq_none_iff.mpr (by omega)]
      rw [this]
    · subst ea
      show spR c R ([v2] ++ []) H2 D.rt E
      exact ⟨M, [aL fs], P, hr, ⟨rv, trivial⟩, e2.2 k1, q.ex (e1.trans e2)⟩
end LW

namespace LW
open L2 PySem PySem.Spec PyProof.Rows
section
variable (P : Program) (w : World) (c : Cf) (mg : Str → Option Value) (base : Heap) (CX : CXT)
/-- a def that keeps its promise, as its callers need it -/
structure Cal (k : Nat) (x : Str) (ps : List Str) (sp : Sp) : Prop where
  ex : ∃ (f : Addr) (fd : FuncData), FnOk P w c.K mg base CX k f fd ps sp ∧ mg x = some (.ref f) ∧ PySem.W.keepIn c.K (.ref f) = true ∧ Binds c.K fd ps []
/-- a method of Plans -/
structure CalM (k : Nat) (m : Str) (ps : List Str) (sp : Sp) : Prop where
  ex : ∃ (f : Addr) (fd : FuncData), FnOk P w c.K mg base CX k f fd ps sp ∧ Meth c.K c.C m f ∧ Binds c.K fd ps []
structure CalI (k : Nat) (ps : List Str) (sp : Sp) : Prop where
  ex : ∃ (f : Addr) (fd : FuncData), FnOk P w c.K mg base CX k f fd ps sp ∧ Mk c.K c.C f ∧ mg "Plans" = some (.ref c.C) ∧ Binds c.K fd ps []
end
/-- a def of the top as it stands behind it; a method of Plans -/
structure Def (c : Cf) (mg : Str → Option Value) (x : Str) (st : Stmt) (dvs : List V) : Prop where
  ex : ∃ (f : Addr) (fd : FuncData), FunD c.K x x (defArgs st) (defBody st) (defScope st) dvs [] f fd ∧ mg x = some (.ref f)
structure DefM (c : Cf) (m q : Str) (st : Stmt) : Prop where
  ex : ∃ (f : Addr) (fd : FuncData), FunD c.K m q (defArgs st) (defBody st) (defScope st) [] [] f fd ∧ Meth c.K c.C m f
structure DefI (c : Cf) (mg : Str → Option Value) (st : Stmt) : Prop where
  ex : ∃ (f : Addr) (fd : FuncData), FunD c.K "__init__" "Plans.__init__" (defArgs st) (defBody st) (defScope st) [] [] f fd ∧ Mk c.K c.C f ∧ mg "Plans" = some (.ref c.C)
section
variable {P : Program} {w : World} {c : Cf} {mg : Str → Option Value} {base : Heap} {CX : CXT} {k j : Nat} {x m : Str} {ps : List Str} {sp sp' : Sp}
theorem Cal.mono (C : Cal P w c mg base CX j x ps sp) (h : j ≤ k) : Cal P w c mg base CX k x ps sp := let ⟨f, fd, F, r⟩ := C.ex; ⟨f, fd, F.mono h, r⟩
theorem CalM.mono (C : CalM P w c mg base CX j m ps sp) (h : j ≤ k) : CalM P w c mg base CX k m ps sp := let ⟨f, fd, F, r⟩ := C.ex; ⟨f, fd, F.mono h, r⟩
theorem CalI.mono (C : CalI P w c mg base CX j ps sp) (h : j ≤ k) : CalI P w c mg base CX k ps sp := let ⟨f, fd, F, r⟩ := C.ex; ⟨f, fd, F.mono h, r⟩
theorem Cal.imp (C : Cal P w c mg base CX k x ps sp) (h : ∀ vs H Q E, sp' vs H Q E → sp vs H Q E) : Cal P w c mg base CX k x ps sp' := let ⟨f, fd, F, r⟩ := C.ex; ⟨f, fd, F.imp h, r⟩
abbrev bindsAs (x q : Str) (st : Stmt) (ps : List Str) : Prop := ∀ (kV doc pm : Value) (an : Option Addr) (cdv ct : Value) (us : List Value), us.length = ps.length →
  bindArgs (PySem.W.fnOf x q (defArgs st) (defBody st) (defScope st) .none kV doc pm an cdv ct) ⟨us, []⟩ = pure (ps.zip us)
/-- what is shown of a body -/
abbrev BodyOk (P : Program) (w : World) (c : Cf) (mg : Str → Option Value) (base : Heap) (CX : CXT) (k : Nat) (q : Str) (st : Stmt) (N : List Str) (sp : Sp) : Prop :=
  ∀ (f : Addr) (cdv : Value) (A : Around) (outer : List Env) (s : Shared) (H : Hp) (E : XK), Room k (A.deeper (envOfC q (defScope st) s.heap.objs.size f cdv)) →
    ∃ t, PSs (cxOf CX P w c.K mg base N q (defScope st) f cdv A outer s H E) (defBody st) t ∧
      ∀ (vs : List V) (Q : VK), sp vs H Q E → t { nx := fun _ H' => Q .non H', rt := Q } (L2.start N vs) H
theorem Def.cal {st : Stmt} {N : List Str} (D : Def c mg x st []) (S : FnScope N ps (defScope st)) (hb : bindsAs x x st ps) (len : ∀ vs H Q E, sp vs H Q E → vs.length = ps.length)
    (body : BodyOk P w c mg base CX k x st N sp) : Cal P w c mg base CX (k + 1) x ps sp := by
  obtain ⟨f, fd, F, e⟩ := D.ex
  refine ⟨f, fd, F.ok S len fun cdv A outer s H vs Q E hr h => ?_, e, F.kp, F.bindsN hb⟩
  obtain ⟨t, h1, h2⟩ := body f cdv A outer s H E hr
  exact ⟨t, h1, h2 vs Q h⟩
theorem DefM.cal {st : Stmt} {q : Str} {N : List Str} (D : DefM c m q st) (S : FnScope N ps (defScope st)) (hb : bindsAs m q st ps) (len : ∀ vs H Q E, sp vs H Q E → vs.length = ps.length)
    (body : BodyOk P w c mg base CX k q st N sp) : CalM P w c mg base CX (k + 1) m ps sp := by
  obtain ⟨f, fd, F, e⟩ := D.ex
  refine ⟨f, fd, F.ok S len fun cdv A outer s H vs Q E hr h => ?_, e, F.bindsN hb⟩
  obtain ⟨t, h1, h2⟩ := body f cdv A outer s H E hr
  exact ⟨t, h1, h2 vs Q h⟩
theorem DefI.cal {st : Stmt} {N : List Str} (D : DefI c mg st) (S : FnScope N ps (defScope st)) (hb : bindsAs "__init__" "Plans.__init__" st ps) (len : ∀ vs H Q E, sp vs H Q E → vs.length = ps.length)
    (body : BodyOk P w c mg base CX k "Plans.__init__" st N sp) : CalI P w c mg base CX (k + 1) ps sp := by
  obtain ⟨f, fd, F, e1, e2⟩ := D.ex
  refine ⟨f, fd, F.ok S len fun cdv A outer s H vs Q E hr h => ?_, e1, e2, F.bindsN hb⟩
  obtain ⟨t, h1, h2⟩ := body f cdv A outer s H E hr
  exact ⟨t, h1, h2 vs Q h⟩
/-- a body told by environments: nothing leaves it -/
theorem bodyR {st : Stmt} {q : Str} {N : List Str} {R : PR}
    (h : ∀ (f : Addr) (cdv : Value) (A : Around) (outer : List Env) (s : Shared) (H : Hp) (E : XK), Room k (A.deeper (envOfC q (defScope st) s.heap.objs.size f cdv)) →
      ∃ t, PSs (cxOf CX P w c.K mg base N q (defScope st) f cdv A outer s H E).nox (defBody st) t ∧ ∀ M as Pv, R M as Pv → StP c M t (startG N.length as) (fun _ => Pv (.d .none)) Pv) :
    BodyOk P w c mg base CX k q st N (spR c R) := fun f cdv A outer s H E hr => by
  obtain ⟨t, h1, h2⟩ := h f cdv A outer s H E hr
  refine ⟨t, h1.nox, fun vs Q ⟨M, as, Pv, r, ra, kH, q⟩ => ?_⟩
  exact h2 M as Pv r (L2.start N vs) H (sig_start ra) kH _ (fun σ' H' G' p e s' => q .non H' (.d .none) p e Dp.non) q
theorem lenR {R : PR} {n : Nat} (h : ∀ M as Pv, R M as Pv → as.length = n) : ∀ vs H Q E, spR c R vs H Q E → vs.length = n := fun vs H Q E ⟨M, as, Pv, r, ra, _⟩ => ra.len.trans (h M as Pv r)
end
section
variable {X : Cx} {c : Cf} {CX : CXT} {k : Nat} {x m : Str} {ps : List Str} {sp : Sp} {E : XK} {p pos apos : Pos} {e o : Expr} {es : List Expr} {t : TA} {ta : TE}
theorem pe_cal (hK : X.K = c.K) (F : Cal X.prog X.w c X.mg X.base CX k x ps sp) (hr : Room k X.A) (hg : Gl X x) (hx : Passes CX X E) (ha : PA X (e :: es) t) (hdb : (x == ("__debug__" : Str)) = false := by decide)
    (he : starEach (e :: es) X.env = (false, eval e X.env) :: starEach es X.env := by rfl) (hpl : (backTo pos (starEach es X.env)).any (·.1) = false := by rfl) : PE X (.Call (.Name x p) (e :: es) [] pos) (tCall sp [] E t) := by
  obtain ⟨f, fd, F, h1, h2, h3⟩ := F.ex
  rw [← hK] at F h2 h3
  exact pe_call F hr hg h1 h2 h3 .nil hx ha hdb he hpl
theorem pe_calM {pl : Sem Bool} (hK : X.K = c.K) (F : CalM X.prog X.w c X.mg X.base CX k m ps sp) (cl : PlTxt c) (he : PE X o ta) (hr : Room k X.A) (hx : Passes CX X E) (ha : PA X (e :: es) t)
    (hst : starEach (e :: es) X.env = (false, eval e X.env) :: starEach es X.env := by rfl)
    (hpl : (backTo pos (starEach es X.env)).any (·.1) = false := by rfl) (ht : eval (.Call (.Attribute o m apos) (e :: es) [] pos) X.env = (do
      let u0 ← eval o X.env
      standAt apos.atName
      let (g0, w0) ← holding [u0] (getMethod u0 m pl)
      callWith pos g0 w0 (backTo pos (starEach (e :: es) X.env)) (backToKw pos (keywordEach [] X.env))) := by rfl) :
    PE X (.Call (.Attribute o m apos) (e :: es) [] pos) (tMeth c.C m sp [] E ta t) := by
  obtain ⟨f, fd, F, h1, h2⟩ := F.ex
  have cl := cl.cl
  rw [← hK] at F h1 h2 cl
  exact pe_meth (pl := pl) he cl h1 F hr h2 .nil hx ha hst hpl ht
theorem pe_calM0 {pl : Sem Bool} (hK : X.K = c.K) (F : CalM X.prog X.w c X.mg X.base CX k m ps sp) (cl : PlTxt c) (he : PE X o ta) (hr : Room k X.A)
    (hx : Passes CX X E) (ht : eval (.Call (.Attribute o m apos) [] [] pos) X.env = (do
      let u0 ← eval o X.env
      standAt apos.atName
      let (g0, w0) ← holding [u0] (getMethod u0 m pl)
      callWith pos g0 w0 (backTo pos (starEach [] X.env)) (backToKw pos (keywordEach [] X.env))) := by rfl) :
    PE X (.Call (.Attribute o m apos) [] [] pos) (tMeth c.C m sp [] E ta tNil) := by
  obtain ⟨f, fd, F, h1, h2⟩ := F.ex
  have cl := cl.cl
  rw [← hK] at F h1 h2 cl
  exact pe_meth0 (pl := pl) he cl h1 F hr h2 .nil hx ht
theorem pe_calI (hK : X.K = c.K) (F : CalI X.prog X.w c X.mg X.base CX k ps sp) (hr : Room (k + 1) X.A) (hg : Gl X "Plans") (hx : Passes CX X E) (ha : PA X (e :: es) t)
    (he : starEach (e :: es) X.env = (false, eval e X.env) :: starEach es X.env := by rfl) (hpl : (backTo pos (starEach es X.env)).any (·.1) = false := by rfl) : PE X (.Call (.Name "Plans" p) (e :: es) [] pos) (tMake c.C sp [] E t) := by
  obtain ⟨f, fd, F, h1, h2, h3⟩ := F.ex
  rw [← hK] at F h1 h3
  exact pe_make h1 F hr hg h2 h3 .nil hx ha (by decide) he hpl
end
/-- names of built-ins that the program leaves as they are -/
structure Bt (mg : Str → Option Value) : Prop where
  len : mg "len" = none
  tuple : mg "tuple" = none
  list : mg "list" = none
  int : mg "int" = none
  abs : mg "abs" = none
  sum : mg "sum" = none
  range : mg "range" = none
  zip : mg "zip" = none
  enumerate : mg "enumerate" = none
  isinstance : mg "isinstance" = none
  any : mg "any" = none
end LW

namespace LW
open L2 PySem PySem.Spec PyProof.Rows
def top (i : Nat) : Stmt := PySem.Challenge.pw_luckwright_k64_whole_plans_at_any_size.main.body.getD i (.Pass ⟨0, 0, 0, 0⟩)
abbrev s_shared : Stmt := top 7
abbrev N_shared : List Str := ["one", "other"]
theorem sc_shared : FnScope N_shared ["one", "other"] (defScope s_shared) := ⟨rfl, rfl, rfl, by decide +kernel, rfl, by decide +kernel, by decide +kernel⟩
theorem bd_shared : bindsAs "shared" "shared" s_shared ["one", "other"] := fun _ _ _ _ _ _ us hl => match us, hl with | [_, _], _ => rfl
abbrev s_part : Stmt := top 8
abbrev N_part : List Str := ["top", "low", "by", "sign"]
theorem sc_part : FnScope N_part ["top", "low"] (defScope s_part) := ⟨rfl, rfl, rfl, by decide +kernel, rfl, by decide +kernel, by decide +kernel⟩
theorem bd_part : bindsAs "part" "part" s_part ["top", "low"] := fun _ _ _ _ _ _ us hl => match us, hl with | [_, _], _ => rfl
abbrev s_plus : Stmt := top 9
abbrev N_plus : List Str := ["one", "other"]
theorem sc_plus : FnScope N_plus ["one", "other"] (defScope s_plus) := ⟨rfl, rfl, rfl, by decide +kernel, rfl, by decide +kernel, by decide +kernel⟩
theorem bd_plus : bindsAs "plus" "plus" s_plus ["one", "other"] := fun _ _ _ _ _ _ us hl => match us, hl with | [_, _], _ => rfl
abbrev s_minus : Stmt := top 10
abbrev N_minus : List Str := ["one", "other"]
theorem sc_minus : FnScope N_minus ["one", "other"] (defScope s_minus) := ⟨rfl, rfl, rfl, by decide +kernel, rfl, by decide +kernel, by decide +kernel⟩
theorem bd_minus : bindsAs "minus" "minus" s_minus ["one", "other"] := fun _ _ _ _ _ _ us hl => match us, hl with | [_, _], _ => rfl
abbrev s_times : Stmt := top 11
abbrev N_times : List Str := ["one", "other"]
theorem sc_times : FnScope N_times ["one", "other"] (defScope s_times) := ⟨rfl, rfl, rfl, by decide +kernel, rfl, by decide +kernel, by decide +kernel⟩
theorem bd_times : bindsAs "times" "times" s_times ["one", "other"] := fun _ _ _ _ _ _ us hl => match us, hl with | [_, _], _ => rfl
abbrev s_over : Stmt := top 12
abbrev N_over : List Str := ["one", "other"]
theorem sc_over : FnScope N_over ["one", "other"] (defScope s_over) := ⟨rfl, rfl, rfl, by decide +kernel, rfl, by decide +kernel, by decide +kernel⟩
theorem bd_over : bindsAs "over" "over" s_over ["one", "other"] := fun _ _ _ _ _ _ us hl => match us, hl with | [_, _], _ => rfl
abbrev s_is_less : Stmt := top 13
abbrev N_is_less : List Str := ["one", "other"]
theorem sc_is_less : FnScope N_is_less ["one", "other"] (defScope s_is_less) := ⟨rfl, rfl, rfl, by decide +kernel, rfl, by decide +kernel, by decide +kernel⟩
theorem bd_is_less : bindsAs "is_less" "is_less" s_is_less ["one", "other"] := fun _ _ _ _ _ _ us hl => match us, hl with | [_, _], _ => rfl
abbrev s_greater : Stmt := top 14
abbrev N_greater : List Str := ["one", "other"]
theorem sc_greater : FnScope N_greater ["one", "other"] (defScope s_greater) := ⟨rfl, rfl, rfl, by decide +kernel, rfl, by decide +kernel, by decide +kernel⟩
theorem bd_greater : bindsAs "greater" "greater" s_greater ["one", "other"] := fun _ _ _ _ _ _ us hl => match us, hl with | [_, _], _ => rfl
abbrev s_total : Stmt := top 15
abbrev N_total : List Str := ["parts", "whole", "one"]
theorem sc_total : FnScope N_total ["parts"] (defScope s_total) := ⟨rfl, rfl, rfl, by decide +kernel, rfl, by decide +kernel, by decide +kernel⟩
theorem bd_total : bindsAs "total" "total" s_total ["parts"] := fun _ _ _ _ _ _ us hl => match us, hl with | [_], _ => rfl
abbrev s_check_chance : Stmt := top 16
abbrev N_check_chance : List Str := ["one", "found"]
theorem sc_check_chance : FnScope N_check_chance ["one"] (defScope s_check_chance) := ⟨rfl, rfl, rfl, by decide +kernel, rfl, by decide +kernel, by decide +kernel⟩
theorem bd_check_chance : bindsAs "check_chance" "check_chance" s_check_chance ["one"] := fun _ _ _ _ _ _ us hl => match us, hl with | [_], _ => rfl
abbrev s_greatest_of : Stmt := top 17
abbrev N_greatest_of : List Str := ["parts", "best", "one"]
theorem sc_greatest_of : FnScope N_greatest_of ["parts"] (defScope s_greatest_of) := ⟨rfl, rfl, rfl, by decide +kernel, rfl, by decide +kernel, by decide +kernel⟩
theorem bd_greatest_of : bindsAs "greatest_of" "greatest_of" s_greatest_of ["parts"] := fun _ _ _ _ _ _ us hl => match us, hl with | [_], _ => rfl
abbrev s_solved : Stmt := top 19
abbrev N_solved : List Str := ["rows", "values", "lines", "row", "value", "many", "used", "column", "place", "number", "by", "one", "much", "a", "b", "line"]
theorem sc_solved : FnScope N_solved ["rows", "values"] (defScope s_solved) := ⟨rfl, rfl, rfl, by decide +kernel, rfl, by decide +kernel, by decide +kernel⟩
theorem bd_solved : bindsAs "solved" "solved" s_solved ["rows", "values"] := fun _ _ _ _ _ _ us hl => match us, hl with | [_, _], _ => rfl
abbrev s_by_row : Stmt := top 20
abbrev N_by_row : List Str := ["row", "values", "a", "b"]
theorem sc_by_row : FnScope N_by_row ["row", "values"] (defScope s_by_row) := ⟨rfl, rfl, rfl, by decide +kernel, rfl, by decide +kernel, by decide +kernel⟩
theorem bd_by_row : bindsAs "by_row" "by_row" s_by_row ["row", "values"] := fun _ _ _ _ _ _ us hl => match us, hl with | [_, _], _ => rfl
abbrev s_P_init : Stmt := inClass (top 22) 0
abbrev N_P_init : List Str := ["self", "places", "later", "pay", "row", "choices", "many", "one"]
theorem sc_P_init : FnScope N_P_init ["self", "places", "later"] (defScope s_P_init) := ⟨rfl, rfl, rfl, by decide +kernel, rfl, by decide +kernel, by decide +kernel⟩
theorem bd_P_init : bindsAs "__init__" "Plans.__init__" s_P_init ["self", "places", "later"] := fun _ _ _ _ _ _ us hl => match us, hl with | [_, _, _], _ => rfl
abbrev s_P_worth_of : Stmt := inClass (top 22) 1
abbrev N_P_worth_of : List Str := ["self", "place", "number", "values", "pay", "row"]
theorem sc_P_worth_of : FnScope N_P_worth_of ["self", "place", "number", "values"] (defScope s_P_worth_of) := ⟨rfl, rfl, rfl, by decide +kernel, rfl, by decide +kernel, by decide +kernel⟩
theorem bd_P_worth_of : bindsAs "worth_of" "Plans.worth_of" s_P_worth_of ["self", "place", "number", "values"] := fun _ _ _ _ _ _ us hl => match us, hl with | [_, _, _, _], _ => rfl
abbrev s_P_for_steps : Stmt := inClass (top 22) 2
abbrev N_P_for_steps : List Str := ["self", "count", "values", "numbers", "turn", "place"]
theorem sc_P_for_steps : FnScope N_P_for_steps ["self", "count"] (defScope s_P_for_steps) := ⟨rfl, rfl, rfl, by decide +kernel, rfl, by decide +kernel, by decide +kernel⟩
theorem bd_P_for_steps : bindsAs "for_steps" "Plans.for_steps" s_P_for_steps ["self", "count"] := fun _ _ _ _ _ _ us hl => match us, hl with | [_, _], _ => rfl
abbrev s_P_best_choice : Stmt := inClass (top 22) 3
abbrev N_P_best_choice : List Str := ["self", "place", "values", "best", "number"]
theorem sc_P_best_choice : FnScope N_P_best_choice ["self", "place", "values"] (defScope s_P_best_choice) := ⟨rfl, rfl, rfl, by decide +kernel, rfl, by decide +kernel, by decide +kernel⟩
theorem bd_P_best_choice : bindsAs "best_choice" "Plans.best_choice" s_P_best_choice ["self", "place", "values"] := fun _ _ _ _ _ _ us hl => match us, hl with | [_, _, _], _ => rfl
abbrev s_P_worth_by : Stmt := inClass (top 22) 4
abbrev N_P_worth_by : List Str := ["self", "numbers", "rows", "values", "place", "number", "pay", "row", "one"]
theorem sc_P_worth_by : FnScope N_P_worth_by ["self", "numbers"] (defScope s_P_worth_by) := ⟨rfl, rfl, rfl, by decide +kernel, rfl, by decide +kernel, by decide +kernel⟩
theorem bd_P_worth_by : bindsAs "worth_by" "Plans.worth_by" s_P_worth_by ["self", "numbers"] := fun _ _ _ _ _ _ us hl => match us, hl with | [_, _], _ => rfl
abbrev s_P_best : Stmt := inClass (top 22) 5
abbrev N_P_best : List Str := ["self", "numbers", "values", "fresh", "place", "better", "here"]
theorem sc_P_best : FnScope N_P_best ["self"] (defScope s_P_best) := ⟨rfl, rfl, rfl, by decide +kernel, rfl, by decide +kernel, by decide +kernel⟩
theorem bd_P_best : bindsAs "best" "Plans.best" s_P_best ["self"] := fun _ _ _ _ _ _ us hl => match us, hl with | [_], _ => rfl
abbrev s_check_best : Stmt := top 23
abbrev N_check_best : List Str := ["plans", "numbers", "values", "place", "number"]
theorem sc_check_best : FnScope N_check_best ["plans", "numbers", "values"] (defScope s_check_best) := ⟨rfl, rfl, rfl, by decide +kernel, rfl, by decide +kernel, by decide +kernel⟩
theorem bd_check_best : bindsAs "check_best" "check_best" s_check_best ["plans", "numbers", "values"] := fun _ _ _ _ _ _ us hl => match us, hl with | [_, _, _], _ => rfl
abbrev s_worth : Stmt := top 25
abbrev N_worth : List Str := ["tree", "inner", "chance"]
theorem sc_worth : FnScope N_worth ["tree"] (defScope s_worth) := ⟨rfl, rfl, rfl, by decide +kernel, rfl, by decide +kernel, by decide +kernel⟩
theorem bd_worth : bindsAs "worth" "worth" s_worth ["tree"] := fun _ _ _ _ _ _ us hl => match us, hl with | [_], _ => rfl
abbrev s_plan : Stmt := top 26
abbrev N_plan : List Str := ["tree", "chance", "inner", "values", "number"]
theorem sc_plan : FnScope N_plan ["tree"] (defScope s_plan) := ⟨rfl, rfl, rfl, by decide +kernel, rfl, by decide +kernel, by decide +kernel⟩
theorem bd_plan : bindsAs "plan" "plan" s_plan ["tree"] := fun _ _ _ _ _ _ us hl => match us, hl with | [_], _ => rfl
abbrev s_worth_by : Stmt := top 27
abbrev N_worth_by : List Str := ["tree", "steps", "rows", "chance", "inner", "step"]
theorem sc_worth_by : FnScope N_worth_by ["tree", "steps"] (defScope s_worth_by) := ⟨rfl, rfl, rfl, by decide +kernel, rfl, by decide +kernel, by decide +kernel⟩
theorem bd_worth_by : bindsAs "worth_by" "worth_by" s_worth_by ["tree", "steps"] := fun _ _ _ _ _ _ us hl => match us, hl with | [_, _], _ => rfl
abbrev s_values_of : Stmt := top 28
abbrev N_values_of : List Str := ["tree", "inner", "one"]
theorem sc_values_of : FnScope N_values_of ["tree"] (defScope s_values_of) := ⟨rfl, rfl, rfl, by decide +kernel, rfl, by decide +kernel, by decide +kernel⟩
theorem bd_values_of : bindsAs "values_of" "values_of" s_values_of ["tree"] := fun _ _ _ _ _ _ us hl => match us, hl with | [_], _ => rfl
abbrev s_inner_trees : Stmt := top 29
abbrev N_inner_trees : List Str := ["tree", "row"]
theorem sc_inner_trees : FnScope N_inner_trees ["tree"] (defScope s_inner_trees) := ⟨rfl, rfl, rfl, by decide +kernel, rfl, by decide +kernel, by decide +kernel⟩
theorem bd_inner_trees : bindsAs "inner_trees" "inner_trees" s_inner_trees ["tree"] := fun _ _ _ _ _ _ us hl => match us, hl with | [_], _ => rfl
abbrev s_check_plan : Stmt := top 30
abbrev N_check_plan : List Str := ["tree", "steps", "paper"]
theorem sc_check_plan : FnScope N_check_plan ["tree", "steps", "paper"] (defScope s_check_plan) := ⟨rfl, rfl, rfl, by decide +kernel, rfl, by decide +kernel, by decide +kernel⟩
theorem bd_check_plan : bindsAs "check_plan" "check_plan" s_check_plan ["tree", "steps", "paper"] := fun _ _ _ _ _ _ us hl => match us, hl with | [_, _, _], _ => rfl
abbrev s_check_values : Stmt := top 31
abbrev N_check_values : List Str := ["tree", "paper", "value", "inner", "one", "more", "least", "row"]
theorem sc_check_values : FnScope N_check_values ["tree", "paper"] (defScope s_check_values) := ⟨rfl, rfl, rfl, by decide +kernel, rfl, by decide +kernel, by decide +kernel⟩
theorem bd_check_values : bindsAs "check_values" "check_values" s_check_values ["tree", "paper"] := fun _ _ _ _ _ _ us hl => match us, hl with | [_, _], _ => rfl
abbrev s_law_dice : Stmt := top 33
abbrev N_law_dice : List Str := ["cell"]
theorem sc_law_dice : FnScope N_law_dice ["cell"] (defScope s_law_dice) := ⟨rfl, rfl, rfl, by decide +kernel, rfl, by decide +kernel, by decide +kernel⟩
theorem bd_law_dice : bindsAs "_law_dice" "_law_dice" s_law_dice ["cell"] := fun _ _ _ _ _ _ us hl => match us, hl with | [_], _ => rfl
abbrev s_law_roll : Stmt := top 34
abbrev N_law_roll : List Str := ["dice", "many", "found"]
theorem sc_law_roll : FnScope N_law_roll ["dice", "many"] (defScope s_law_roll) := ⟨rfl, rfl, rfl, by decide +kernel, rfl, by decide +kernel, by decide +kernel⟩
theorem bd_law_roll : bindsAs "_law_roll" "_law_roll" s_law_roll ["dice", "many"] := fun _ _ _ _ _ _ us hl => match us, hl with | [_, _], _ => rfl
abbrev s_law_rounds : Stmt := top 35
abbrev N_law_rounds : List Str := ["script", "most", "cells", "cell"]
theorem sc_law_rounds : FnScope N_law_rounds ["script", "most"] (defScope s_law_rounds) := ⟨rfl, rfl, rfl, by decide +kernel, rfl, by decide +kernel, by decide +kernel⟩
theorem bd_law_rounds : bindsAs "_law_rounds" "_law_rounds" s_law_rounds ["script", "most"] := fun _ _ _ _ _ _ us hl => match us, hl with | [_, _], _ => rfl
abbrev s_law_row : Stmt := top 36
abbrev N_law_row : List Str := ["dice", "many", "weights", "k", "weight"]
theorem sc_law_row : FnScope N_law_row ["dice", "many"] (defScope s_law_row) := ⟨rfl, rfl, rfl, by decide +kernel, rfl, by decide +kernel, by decide +kernel⟩
theorem bd_law_row : bindsAs "_law_row" "_law_row" s_law_row ["dice", "many"] := fun _ _ _ _ _ _ us hl => match us, hl with | [_, _], _ => rfl
abbrev s_law_taken : Stmt := top 37
abbrev N_law_taken : List Str := ["what"]
theorem sc_law_taken : FnScope N_law_taken ["what"] (defScope s_law_taken) := ⟨rfl, rfl, rfl, by decide +kernel, rfl, by decide +kernel, by decide +kernel⟩
theorem bd_law_taken : bindsAs "_law_taken" "_law_taken" s_law_taken ["what"] := fun _ _ _ _ _ _ us hl => match us, hl with | [_], _ => rfl
abbrev s_law_tree : Stmt := top 38
abbrev N_law_tree : List Str := ["dice", "deep", "kind", "inner", "k", "chances"]
theorem sc_law_tree : FnScope N_law_tree ["dice", "deep"] (defScope s_law_tree) := ⟨rfl, rfl, rfl, by decide +kernel, rfl, by decide +kernel, by decide +kernel⟩
theorem bd_law_tree : bindsAs "_law_tree" "_law_tree" s_law_tree ["dice", "deep"] := fun _ _ _ _ _ _ us hl => match us, hl with | [_, _], _ => rfl
abbrev s_law_worth : Stmt := top 39
abbrev N_law_worth : List Str := ["tree", "one", "whole", "chance"]
theorem sc_law_worth : FnScope N_law_worth ["tree"] (defScope s_law_worth) := ⟨rfl, rfl, rfl, by decide +kernel, rfl, by decide +kernel, by decide +kernel⟩
theorem bd_law_worth : bindsAs "_law_worth" "_law_worth" s_law_worth ["tree"] := fun _ _ _ _ _ _ us hl => match us, hl with | [_], _ => rfl
abbrev s_law_first : Stmt := top 40
abbrev N_law_first : List Str := ["tree", "chance", "one", "worths", "number"]
theorem sc_law_first : FnScope N_law_first ["tree"] (defScope s_law_first) := ⟨rfl, rfl, rfl, by decide +kernel, rfl, by decide +kernel, by decide +kernel⟩
theorem bd_law_first : bindsAs "_law_first" "_law_first" s_law_first ["tree"] := fun _ _ _ _ _ _ us hl => match us, hl with | [_], _ => rfl
abbrev s_law_choice : Stmt := top 41
abbrev N_law_choice : List Str := ["choice", "later", "worths", "whole", "k", "chance"]
theorem sc_law_choice : FnScope N_law_choice ["choice", "later", "worths"] (defScope s_law_choice) := ⟨rfl, rfl, rfl, by decide +kernel, rfl, by decide +kernel, by decide +kernel⟩
theorem bd_law_choice : bindsAs "_law_choice" "_law_choice" s_law_choice ["choice", "later", "worths"] := fun _ _ _ _ _ _ us hl => match us, hl with | [_, _, _], _ => rfl
abbrev s_law_for_ever : Stmt := top 42
abbrev N_law_for_ever : List Str := ["dice", "many", "low", "later", "places", "turn", "k", "made", "values", "numbers", "ways", "choice", "wrong", "worths", "step"]
theorem sc_law_for_ever : FnScope N_law_for_ever ["dice"] (defScope s_law_for_ever) := ⟨rfl, rfl, rfl, by decide +kernel, rfl, by decide +kernel, by decide +kernel⟩
theorem bd_law_for_ever : bindsAs "_law_for_ever" "_law_for_ever" s_law_for_ever ["dice"] := fun _ _ _ _ _ _ us hl => match us, hl with | [_], _ => rfl
abbrev s_law : Stmt := top 43
abbrev N_law : List Str := ["script", "dice", "tree", "best", "paper", "less"]
theorem sc_law : FnScope N_law ["script"] (defScope s_law) := ⟨rfl, rfl, rfl, by decide +kernel, rfl, by decide +kernel, by decide +kernel⟩
theorem bd_law : bindsAs "law" "law" s_law ["script"] := fun _ _ _ _ _ _ us hl => match us, hl with | [_], _ => rfl
end LW

/-! Numbers: a fraction of the program is a Rat; sizes. -/
namespace LW
open PySem
/-- divisors stay below this; factors below that -/
def loB : Nat := 2 ^ 9000
def nB : Nat := 2 ^ 150000
theorem loB_pos : 0 < loB := Nat.pow_pos (by decide)
theorem nB_pos : 0 < nB := Nat.pow_pos (by decide)
theorem lo_div {i j : Int} (h : 0 < j) (hb : j.natAbs < loB) : L2.CDivW i j := L2.wide_div h hb (by decide) (by decide)
theorem lt_mul2 {a b c d : Nat} (h1 : a < c) (h2 : b < d) : a * b < c * d := Nat.mul_lt_mul'' h1 h2
/-- both below nB * nB * 2 -/
def hB : Nat := 2 ^ 300001
theorem hB_eq : hB = nB * nB + nB * nB := by
  unfold hB nB
  rw [← Nat.pow_add, ← Nat.mul_two, ← Nat.pow_succ]
theorem hi_mul {i j : Int} (h1 : i.natAbs < hB) (h2 : j.natAbs < hB) : L2.CMulW i j := L2.wide_mul (a := 300001) (b := 300001) h1 h2 (by decide) (by decide) (by decide)
theorem nB_hB {n : Nat} (h : n < nB) : n < hB := by
  rw [hB_eq]
  have : nB ≤ nB * nB := Nat.le_mul_of_pos_left _ nB_pos
  omega
theorem loB_nB : loB ≤ nB := Nat.pow_le_pow_right (by decide) (by decide)
theorem nn_hB {a b : Nat} (h1 : a < nB) (h2 : b < nB) : a * b < hB := by
  have := lt_mul2 h1 h2
  rw [hB_eq]
  omega
theorem mul_hB {i j : Int} (h1 : i.natAbs < nB) (h2 : j.natAbs < nB) : (i * j).natAbs < hB := by
  rw [Int.natAbs_mul]
  exact nn_hB h1 h2
theorem mul_nn {i j : Int} (h1 : i.natAbs < nB) (h2 : j.natAbs < nB) : (i * j).natAbs < nB * nB := by
  rw [Int.natAbs_mul]
  exact lt_mul2 h1 h2
theorem add_hB {i j : Int} (h1 : i.natAbs < nB * nB) (h2 : j.natAbs < nB * nB) : (i + j).natAbs < hB := by
  rw [hB_eq]
  omega
theorem sub_hB {i j : Int} (h1 : i.natAbs < nB * nB) (h2 : j.natAbs < nB * nB) : (i - j).natAbs < hB := by
  rw [hB_eq]
  omega
/-! ### a fraction made small -/
theorem part_num {t l : Int} (hl : l ≠ 0) : (Rat.divInt t l).num = ((if l > 0 then 1 else -1) * t) / ((Nat.gcd t.natAbs l.natAbs : Nat) : Int) := by
  rw [Rat.num_divInt]
  have hs : l.sign = if l > 0 then 1 else -1 := by
    split
    · exact Int.sign_eq_one_of_pos (by omega)
    · exact Int.sign_eq_neg_one_of_neg (by omega)
  rw [hs, show l.gcd t = Nat.gcd t.natAbs l.natAbs by rw [Int.gcd, Nat.gcd_comm]]
theorem part_den {t l : Int} (hl : l ≠ 0) : (((Rat.divInt t l).den : Nat) : Int) = ((if l > 0 then 1 else -1) * l) / ((Nat.gcd t.natAbs l.natAbs : Nat) : Int) := by
  rw [Rat.den_divInt]
  rw [if_neg hl]
  have : (if l > 0 then (1 : Int) else -1) * l = (l.natAbs : Int) := by
    split <;> omega
  rw [this, show l.gcd t = Nat.gcd t.natAbs l.natAbs by rw [Int.gcd, Nat.gcd_comm]]
  rfl
/-! ### the four operations -/
theorem q_div (t l : Int) : Rat.divInt t l = (t : Rat) / (l : Rat) := Rat.divInt_eq_div t l
theorem q_self (a : Rat) : (a.num : Rat) / ((a.den : Int) : Rat) = a := by
  rw [← q_div]
  exact Rat.num_divInt_den a
theorem den_ne (a : Rat) : ((a.den : Int) : Rat) ≠ 0 := by
  have := a.den_nz
  simp only [Rat.intCast_natCast, ne_eq]
  exact fun h => this (by exact_mod_cast h)
theorem q_num (a : Rat) : (a.num : Rat) = a * ((a.den : Int) : Rat) := by
  have h := q_self a
  have hd := den_ne a
  grind
theorem q_add (a b : Rat) : Rat.divInt (a.num * b.den + b.num * a.den) (a.den * b.den) = a + b := by
  rw [q_div]
  have ha := den_ne a
  have hb := den_ne b
  have e1 := q_num a
  have e2 := q_num b
  rw [Rat.intCast_add, Rat.intCast_mul, Rat.intCast_mul, Rat.intCast_mul, e1, e2]
  grind
theorem q_sub (a b : Rat) : Rat.divInt (a.num * b.den - b.num * a.den) (a.den * b.den) = a - b := by
  rw [q_div]
  have ha := den_ne a
  have hb := den_ne b
  have e1 := q_num a
  have e2 := q_num b
  rw [Rat.intCast_sub, Rat.intCast_mul, Rat.intCast_mul, Rat.intCast_mul, e1, e2]
  grind
theorem q_mul (a b : Rat) : Rat.divInt (a.num * b.num) (a.den * b.den) = a * b := by
  rw [q_div]
  have ha := den_ne a
  have hb := den_ne b
  have e1 := q_num a
  have e2 := q_num b
  rw [Rat.intCast_mul, Rat.intCast_mul, e1, e2]
  grind
theorem q_over (a b : Rat) (h : b ≠ 0) : Rat.divInt (a.num * b.den) (a.den * b.num) = a / b := by
  rw [q_div]
  have ha := den_ne a
  have hb := den_ne b
  have e1 := q_num a
  have e2 := q_num b
  rw [Rat.intCast_mul, Rat.intCast_mul, e1, e2]
  grind
theorem q_lt (a b : Rat) : (a.num * b.den < b.num * a.den) ↔ a < b := (Rat.lt_iff a b).symm
theorem q_eta (a : Rat) : Rat.divInt a.num a.den = a := Rat.num_divInt_den a
end LW

/-! parts.py, def by def. -/
namespace LW
open L2 PySem PySem.Spec PyProof.Rows
/-! ### data -/
def dQ (q : Rat) : PyData := .tuple [.int q.num, .int (q.den : Int)]
abbrev aQ (q : Rat) : AV := .d (dQ q)
theorem shaped_Q (q : Rat) : SeqAt.shaped (dQ q) = true := by rfl
theorem eqv_Q (a b : Rat) : PyData.eqv (dQ a) (dQ b) = decide (a = b) := by
  unfold dQ
  simp only [PyData.eqv, PyData.eqvAll, Bool.and_true]
  by_cases h : a = b
  · subst h
    simp
  · rw [decide_eq_false h]
    rw [Bool.and_eq_false_iff]
    by_cases h1 : a.num = b.num
    · right
      have h2 : a.den ≠ b.den := fun z => h (Rat.ext h1 z)
      simp only [beq_eq_false_iff_ne, ne_eq]
      omega
    · left
      simpa using h1
theorem ev_top {c : Cf} {M : Mu} {te tb : TE} {G : Env'} {q : Rat} (h : EvD c M te G (aQ q)) (hb : EvD c M tb G (aI 0)) : EvD c M (tOp (rIx c.K) te tb) G (aI q.num) := ev_op h hb (rv_ixT (n := 0) rfl)
theorem ev_low {c : Cf} {M : Mu} {te tb : TE} {G : Env'} {q : Rat} (h : EvD c M te G (aQ q)) (hb : EvD c M tb G (aI 1)) : EvD c M (tOp (rIx c.K) te tb) G (aI (q.den : Int)) := ev_op h hb (rv_ixT (n := 1) rfl)
/-- sizes -/
structure Fit (q : Rat) : Prop where
  n : q.num.natAbs < nB
  d : q.den < nB
structure Fit2 (a b : Rat) : Prop where
  l : Fit a
  r : Fit b
  lo : a.den * b.den < loB
/-! ### promises -/
def R_shared : PR := fun _ as P => ∃ a b : Nat, as = [aI (a : Int), aI (b : Int)] ∧ P (aI ((Nat.gcd a b : Nat) : Int))
def R_part : PR := fun _ as P => ∃ t l : Int, as = [aI t, aI l] ∧ l ≠ 0 ∧ l.natAbs < loB ∧ t.natAbs < hB ∧ P (aQ (Rat.divInt t l))
def R_plus : PR := fun _ as P => ∃ a b : Rat, as = [aQ a, aQ b] ∧ Fit2 a b ∧ P (aQ (a + b))
def R_minus : PR := fun _ as P => ∃ a b : Rat, as = [aQ a, aQ b] ∧ Fit2 a b ∧ P (aQ (a - b))
def R_times : PR := fun _ as P => ∃ a b : Rat, as = [aQ a, aQ b] ∧ Fit2 a b ∧ P (aQ (a * b))
def R_over : PR := fun _ as P => ∃ a b : Rat, as = [aQ a, aQ b] ∧ Fit a ∧ Fit b ∧ b ≠ 0 ∧ a.den * b.num.natAbs < loB ∧ P (aQ (a / b))
def R_is_less : PR := fun _ as P => ∃ a b : Rat, as = [aQ a, aQ b] ∧ Fit a ∧ Fit b ∧ P (aB (decide (a < b)))
def gtr (a b : Rat) : Rat := if a < b then b else a
def R_greater : PR := fun _ as P => ∃ a b : Rat, as = [aQ a, aQ b] ∧ Fit a ∧ Fit b ∧ P (aQ (gtr a b))
/-- the sizes of a running sum -/
def SumOk : Rat → List Rat → Prop
  | _, [] => True
  | a, x :: r => Fit2 a x ∧ SumOk (a + x) r
def R_total : PR := fun _ as P => ∃ ws : List Rat, as = [aL (ws.map dQ)] ∧ ws.length ≤ 1000 ∧ SumOk 0 ws ∧ P (aQ (ws.foldl (· + ·) 0))
def R_check_chance : PR := fun _ as P => ∃ a : Rat, as = [aQ a] ∧ Fit a ∧ a.den < loB ∧ 0 ≤ a ∧ a ≤ 1 ∧ P (aQ a)
def maxQ : List Rat → Rat
  | [] => 0
  | x :: r => r.foldl gtr x
def R_greatest_of : PR := fun _ as P => ∃ (x : Rat) (ws : List Rat), as = [aL ((x :: ws).map dQ)] ∧ ws.length ≤ 500 ∧ (∀ y ∈ x :: ws, Fit y) ∧ P (aQ (maxQ (x :: ws)))
section
variable {P : Program} {w : World} {c : Cf} {mg : Str → Option Value} {base : Heap}
theorem ok_shared (B : Bt mg) (D : Def c mg "shared" s_shared []) : Cal P w c mg base CX0 1 "shared" ["one", "other"] (spR c R_shared) := by
  refine D.cal sc_shared bd_shared (lenR fun M as Pv ⟨_, _, e, _⟩ => by rw [e]; rfl) (bodyR fun f cdv A outer s H E hr => ⟨_, (pss_cons (ps_while PassesOwn.never (pt_cmpR op_ne (pv 1) pe_int (nomark _)) (pss_one (ps_par (by rfl) sc_shared.nd (i := 0) (j := 1) rfl rfl (by decide) rfl rfl (pa_cons (pv 1) (pa_cons (pe_op op_mod (pv 0) (pv 1)) pa_nil)) (by rfl))))
      (pss_one (ps_ret (pe_callB call_absQ (by rfl) B.abs (by decide +kernel) (pa_cons (pv 0) pa_nil))))), ?_⟩)
  rintro M as Pv ⟨a, b, rfl, hp⟩
  have ev0 : ∀ {G : Env'} {i : Int}, G[1]? = some (some (aI i)) → EvB c M (tTest (tOp rNe (tVar 1) (tC (.int 0)))) G (!decide (i = 0)) := fun {G i} hg => et_test (ev_op (ev_var hg) ev_int (rv_of fun x y H h1 h2 k Q q => by
    rw [dp_int h1, dp_int h2]
    refine ⟨rfl, ?_⟩
    have e : (!decide (V.int i = V.int 0)) = !decide (i = 0) := by
      congr 1
      exact decide_eq_decide.mpr ⟨V.int.inj, fun z => by rw [z]⟩
    rw [e]
    exact q _ (Dp.bl _)))
  refine st_seq (PG1 := fun G => ∃ x : Nat, x = Nat.gcd a b ∧ G = [some (aI (x : Int)), some (aI 0)]) ?_ ?_
  · refine st_while (W := fun m G => ∃ x y : Nat, m = y ∧ Nat.gcd x y = Nat.gcd a b ∧ G = [some (aI (x : Int)), some (aI (y : Int))]) b ⟨a, b, rfl, rfl, rfl⟩ ?_
    rintro m G ⟨x, y, rfl, hg, rfl⟩
    refine ⟨_, ev0 rfl, fun h => ?_, fun h => ?_⟩
    · have hy : 0 < m := by
        simp only [Bool.not_eq_true', decide_eq_false_iff_not] at h
        omega
      refine st_par (ea_cons (ev_var rfl) (ea_cons (ev_op (ev_var rfl) (ev_var rfl) (rv_I (by omega))) ea_nil)) ⟨x % m, Nat.mod_lt _ hy, m, x % m, rfl, ?_, ?_⟩
      · rw [← hg, Nat.gcd_comm x m, Nat.gcd_rec m x, Nat.gcd_comm]
      · simp [Int.natCast_emod]
    · have hy : m = 0 := by
        simp only [Bool.not_eq_false', decide_eq_true_eq] at h
        omega
      subst hy
      exact ⟨x, by rw [← hg, Nat.gcd_zero_right], rfl⟩
  · rintro G ⟨x, rfl, rfl⟩
    refine st_ret (EvP.of (ev_cb (ea_cons (ev_var rfl) ea_nil) rc_abs) ?_)
    rw [if_neg (by omega)]
    exact hp
theorem ev_neg {M : Mu} {ta : TE} {G : Env'} {i : Int} (ha : EvD c M ta G (aI i)) : EvD c M (tUn (rU fun i => .int (-i)) ta) G (aI (-i)) := fun σ H s k Q q =>
  ha σ H s k _ fun x H1 a e e1 r1 => by
    subst e
    exact ⟨i, dp_int r1, (q.ex e1).here (a := aI (-i)) rfl (Dp.int _)⟩
/-- part(top, low), both written -/
theorem part_cal {N : List Str} {k : Nat} {sp : Sp} (D : Def c mg "part" s_part [.int 1]) (S : FnScope N ["top", "low"] (defScope s_part)) (len : ∀ vs H Q E, sp vs H Q E → vs.length = 2)
    (body : BodyOk P w c mg base CX0 k "part" s_part N sp) : Cal P w c mg base CX0 (k + 1) "part" ["top", "low"] sp := by
  obtain ⟨f, fd, F, e⟩ := D.ex
  have hb : Binds c.K fd ["top", "low"] [] := by
    obtain ⟨ds, h1, h2⟩ := F.binds1 (ps := ["top", "low"]) 2 1 (by simp) rfl fun T kV doc pm an cdv ct us its hu hi => match us, hu, its, hi with | [_, _], _, [_], _ => ⟨_, rfl, rfl⟩
    obtain rfl := Vals.zero h1
    exact h2
  refine ⟨f, fd, F.ok S len fun cdv A outer s H vs Q E hr h => ?_, e, F.kp, hb⟩
  obtain ⟨t, h1, h2⟩ := body f cdv A outer s H E hr
  exact ⟨t, h1, h2 vs Q h⟩
theorem ev_eqI {M : Mu} {ta tb : TE} {G : Env'} {i j : Int} (ha : EvD c M ta G (aI i)) (hb : EvD c M tb G (aI j)) : EvD c M (tOp rEq ta tb) G (aB (decide (i = j))) := ev_op ha hb (rv_of fun x y H h1 h2 k Q q => by
  rw [dp_int h1, dp_int h2]
  refine ⟨rfl, ?_⟩
  have e : decide (V.int i = V.int j) = decide (i = j) := decide_eq_decide.mpr ⟨V.int.inj, fun z => by rw [z]⟩
  rw [e]
  exact q _ (Dp.bl _))
theorem beq_dec (i j : Int) : (i == j) = decide (i = j) := by
  by_cases h : i = j
  · subst h; simp
  · rw [decide_eq_false h]; simpa using h
theorem rv_eqDI {M : Mu} {i j : Int} : RvD c M (rEqD c.K) (aI i) (aI j) (aB (decide (i = j))) := by
  have h := rv_eqD (c := c) (M := M) (x := .int i) (y := .int j) rfl rfl
  rw [show PyData.eqv (.int i) (.int j) = decide (i = j) by simp only [PyData.eqv]; exact beq_dec i j] at h
  exact h
theorem rv_neDI {M : Mu} {i j : Int} : RvD c M (rNeD c.K) (aI i) (aI j) (aB (!decide (i = j))) := by
  have h := rv_neD (c := c) (M := M) (x := .int i) (y := .int j) rfl rfl
  rw [show PyData.eqv (.int i) (.int j) = decide (i = j) by simp only [PyData.eqv]; exact beq_dec i j] at h
  exact h
theorem rv_eqDQ {M : Mu} {a b : Rat} : RvD c M (rEqD c.K) (aQ a) (aQ b) (aB (decide (a = b))) := by
  have h := rv_eqD (c := c) (M := M) (shaped_Q a) (shaped_Q b)
  rw [eqv_Q] at h
  exact h
theorem rv_neDQ {M : Mu} {a b : Rat} : RvD c M (rNeD c.K) (aQ a) (aQ b) (aB (!decide (a = b))) := by
  have h := rv_neD (c := c) (M := M) (shaped_Q a) (shaped_Q b)
  rw [eqv_Q] at h
  exact h
theorem gcd_lt {t l : Int} (hl : l ≠ 0) {n : Nat} (h : l.natAbs < n) : Nat.gcd t.natAbs l.natAbs < n := Nat.lt_of_le_of_lt (Nat.le_of_dvd (by omega) (Nat.gcd_dvd_right _ _)) h
theorem ok_part (B : Bt mg) (D : Def c mg "part" s_part [.int 1]) (c_shared : Cal P w c mg base CX0 1 "shared" ["one", "other"] (spR c R_shared)) : Cal P w c mg base CX0 2 "part" ["top", "low"] (spR c R_part) := by
  refine part_cal D sc_part (lenR fun M as Pv ⟨_, _, e, _⟩ => by rw [e]; rfl) (bodyR fun f cdv A outer s H E hr => ⟨_, (pss_cons (ps_if (pt_cmpR op_eq (pv 1) pe_int (nomark _)) (pss_one ps_never) pss_nil)
      (pss_cons (ps_set (i := 2) sc_part.nd rfl (.inl rfl) (pe_cal rfl (c_shared.mono (by omega)) hr (by rfl) pass0 (pa_cons (pe_callB call_absQ (by rfl) B.abs (by decide +kernel) (pa_cons (pv 0) pa_nil)) (pa_cons (pe_callB call_absQ (by rfl) B.abs (by decide +kernel) (pa_cons (pv 1) pa_nil)) pa_nil))))
      (pss_cons (ps_set (i := 3) sc_part.nd rfl (.inl rfl) (pe_ifExp (pt_cmpR op_gt (pv 1) pe_int (nomark _)) pe_int (pe_un un_neg pe_int)))
      (pss_one (ps_ret (pe_tup (pa_cons (pe_op op_fdivW (pe_op op_mulW (pv 3) (pv 0)) (pv 2)) (pa_cons (pe_op op_fdivW (pe_op op_mulW (pv 3) (pv 1)) (pv 2)) pa_nil)))))))), ?_⟩)
  rintro M as Pv ⟨t, l, rfl, hl, hlo, hhi, hp⟩
  have hab : ∀ i : Int, (if i < 0 then -i else i) = ((i.natAbs : Nat) : Int) := fun i => by split <;> omega
  refine st_seq (PG1 := fun G => G = startG 4 [aI t, aI l]) (st_if (et_test (ev_eqI (ev_var rfl) ev_int)) (fun h => absurd (of_decide_eq_true h) hl) fun _ => st_next rfl) ?_
  rintro G rfl
  refine st_seq (PG1 := fun G => G = [some (aI t), some (aI l), some (aI ((Nat.gcd t.natAbs l.natAbs : Nat) : Int)), none]) (st_asg (ev_call (P := fun a => a = aI ((Nat.gcd t.natAbs l.natAbs : Nat) : Int)) (ea_cons (ev_cb (ea_cons (ev_var rfl) ea_nil) rc_abs) (ea_cons (ev_cb (ea_cons (ev_var rfl) ea_nil) rc_abs) ea_nil)) ⟨t.natAbs, l.natAbs, by rw [hab, hab], rfl⟩) ?_) ?_
  · rintro a rfl
    exact ⟨_, _, tg_name, rfl⟩
  rintro G rfl
  refine st_seq (PG1 := fun G => G = [some (aI t), some (aI l), some (aI ((Nat.gcd t.natAbs l.natAbs : Nat) : Int)), some (aI (if l > 0 then 1 else -1))]) (st_asg (Pa := fun a => a = aI (if l > 0 then 1 else -1)) (ev_if (et_test (ev_op (ev_var rfl) ev_int rv_B0)) (fun h => ?_) fun h => ?_) ?_) ?_
  · have h : l > 0 := of_decide_eq_true h
    rw [if_pos h]
    exact ev_int
  · have h : ¬ l > 0 := of_decide_eq_false h
    rw [if_neg h]
    exact ev_neg ev_int
  · rintro a rfl
    exact ⟨_, _, tg_name, rfl⟩
  rintro G rfl
  have g0 : (0 : Int) < ((Nat.gcd t.natAbs l.natAbs : Nat) : Int) := by
    have := Nat.gcd_pos_of_pos_right t.natAbs (n := l.natAbs) (by omega)
    omega
  have g1 : ((Nat.gcd t.natAbs l.natAbs : Nat) : Int).natAbs < loB := gcd_lt hl hlo
  have hs : (if l > 0 then (1 : Int) else -1).natAbs < hB := by
    have : 1 < hB := by rw [hB_eq]; have := nB_pos; have := Nat.mul_pos this this; omega
    split <;> exact this
  have hl2 : l.natAbs < hB := nB_hB (Nat.lt_of_lt_of_le hlo loB_nB)
  refine st_ret (EvP.of (ev_tup (ds := [.int (((if l > 0 then 1 else -1) * t) / ((Nat.gcd t.natAbs l.natAbs : Nat) : Int)), .int (((if l > 0 then 1 else -1) * l) / ((Nat.gcd t.natAbs l.natAbs : Nat) : Int))]) (ea_cons (ev_op (ev_op (ev_var rfl) (ev_var rfl) (rv_I (hi_mul hs hhi))) (ev_var rfl) (rv_I (lo_div g0 g1))) (ea_cons (ev_op (ev_op (ev_var rfl) (ev_var rfl) (rv_I (hi_mul hs hl2))) (ev_var rfl) (rv_I (lo_div g0 g1))) ea_nil)) (by show 2 ≤ 1000; decide)) ?_)
  have e : dQ (Rat.divInt t l) = .tuple [.int (((if l > 0 then 1 else -1) * t) / ((Nat.gcd t.natAbs l.natAbs : Nat) : Int)), .int (((if l > 0 then 1 else -1) * l) / ((Nat.gcd t.natAbs l.natAbs : Nat) : Int))] := by
    unfold dQ
    rw [part_num hl, part_den hl]
  have hp : Pv (.d (dQ (Rat.divInt t l))) := hp
  rw [e] at hp
  exact hp

abbrev CalPart (P : Program) (w : World) (c : Cf) (mg : Str → Option Value) (base : Heap) : Prop := Cal P w c mg base CX0 2 "part" ["top", "low"] (spR c R_part)
theorem Fit.nat {q : Rat} (h : Fit q) : (q.den : Int).natAbs < nB := h.d
theorem den_pos (q : Rat) : 0 < q.den := Nat.pos_of_ne_zero q.den_nz
theorem den_mul_ne (a b : Rat) : ((a.den : Int) * (b.den : Int)) ≠ 0 := by
  have h1 := den_pos a
  have h2 := den_pos b
  have := Nat.mul_pos h1 h2
  rw [← Int.natCast_mul]
  omega
theorem den_mul_lo {a b : Rat} (h : a.den * b.den < loB) : ((a.den : Int) * (b.den : Int)).natAbs < loB := by
  rw [Int.natAbs_mul]
  exact h
section
variable {M : Mu} {G : Env'} {ta tb tx ty : TE} {a b : Rat}
theorem ev_cross (h : Fit a) (h' : Fit b) (h1 : EvD c M ta G (aQ a)) (h2 : EvD c M tb G (aQ b)) (hx : EvD c M tx G (aI 0)) (hy : EvD c M ty G (aI 1)) :
    EvD c M (tOp (rI L2.CMulW fun i j => .int (i * j)) (tOp (rIx c.K) ta tx) (tOp (rIx c.K) tb ty)) G (aI (a.num * (b.den : Int))) := ev_op (ev_top h1 hx) (ev_low h2 hy) (rv_I (hi_mul (nB_hB h.n) (nB_hB h'.nat)))
theorem ev_dens (h : Fit a) (h' : Fit b) (h1 : EvD c M ta G (aQ a)) (h2 : EvD c M tb G (aQ b)) (hx : EvD c M tx G (aI 1)) (hy : EvD c M ty G (aI 1)) :
    EvD c M (tOp (rI L2.CMulW fun i j => .int (i * j)) (tOp (rIx c.K) ta tx) (tOp (rIx c.K) tb ty)) G (aI ((a.den : Int) * (b.den : Int))) := ev_op (ev_low h1 hx) (ev_low h2 hy) (rv_I (hi_mul (nB_hB h.nat) (nB_hB h'.nat)))
end
theorem ok_plus (D : Def c mg "plus" s_plus []) (c_part : CalPart P w c mg base) : Cal P w c mg base CX0 3 "plus" ["one", "other"] (spR c R_plus) := by
  refine D.cal sc_plus bd_plus (lenR fun M as Pv ⟨_, _, e, _⟩ => by rw [e]; rfl) (bodyR fun f cdv A outer s H E hr => ⟨_, (pss_one (ps_ret (pe_cal rfl (c_part.mono (by omega)) hr (by rfl) pass0 (pa_cons (pe_op op_add (pe_op op_mulW (pe_ix ix_seq (pv 0) pe_int (fun _ _ => rfl)) (pe_ix ix_seq (pv 1) pe_int (fun _ _ => rfl))) (pe_op op_mulW (pe_ix ix_seq (pv 1) pe_int (fun _ _ => rfl)) (pe_ix ix_seq (pv 0) pe_int (fun _ _ => rfl)))) (pa_cons (pe_op op_mulW (pe_ix ix_seq (pv 0) pe_int (fun _ _ => rfl)) (pe_ix ix_seq (pv 1) pe_int (fun _ _ => rfl))) pa_nil))))), ?_⟩)
  rintro M as Pv ⟨a, b, rfl, ⟨h1, h2, h3⟩, hp⟩
  refine st_ret (ev_call (ea_cons (ev_op (ev_cross h1 h2 (ev_var rfl) (ev_var rfl) ev_int ev_int) (ev_cross h2 h1 (ev_var rfl) (ev_var rfl) ev_int ev_int) rv_I0) (ea_cons (ev_dens h1 h2 (ev_var rfl) (ev_var rfl) ev_int ev_int) ea_nil)) ⟨_, _, rfl, den_mul_ne a b, den_mul_lo h3, ?_, ?_⟩)
  · exact add_hB (mul_nn h1.n h2.nat) (mul_nn h2.n h1.nat)
  · rw [q_add]
    exact hp
theorem ok_minus (D : Def c mg "minus" s_minus []) (c_part : CalPart P w c mg base) : Cal P w c mg base CX0 3 "minus" ["one", "other"] (spR c R_minus) := by
  refine D.cal sc_minus bd_minus (lenR fun M as Pv ⟨_, _, e, _⟩ => by rw [e]; rfl) (bodyR fun f cdv A outer s H E hr => ⟨_, (pss_one (ps_ret (pe_cal rfl (c_part.mono (by omega)) hr (by rfl) pass0 (pa_cons (pe_op op_sub (pe_op op_mulW (pe_ix ix_seq (pv 0) pe_int (fun _ _ => rfl)) (pe_ix ix_seq (pv 1) pe_int (fun _ _ => rfl))) (pe_op op_mulW (pe_ix ix_seq (pv 1) pe_int (fun _ _ => rfl)) (pe_ix ix_seq (pv 0) pe_int (fun _ _ => rfl)))) (pa_cons (pe_op op_mulW (pe_ix ix_seq (pv 0) pe_int (fun _ _ => rfl)) (pe_ix ix_seq (pv 1) pe_int (fun _ _ => rfl))) pa_nil))))), ?_⟩)
  rintro M as Pv ⟨a, b, rfl, ⟨h1, h2, h3⟩, hp⟩
  refine st_ret (ev_call (ea_cons (ev_op (ev_cross h1 h2 (ev_var rfl) (ev_var rfl) ev_int ev_int) (ev_cross h2 h1 (ev_var rfl) (ev_var rfl) ev_int ev_int) rv_I0) (ea_cons (ev_dens h1 h2 (ev_var rfl) (ev_var rfl) ev_int ev_int) ea_nil)) ⟨_, _, rfl, den_mul_ne a b, den_mul_lo h3, ?_, ?_⟩)
  · exact sub_hB (mul_nn h1.n h2.nat) (mul_nn h2.n h1.nat)
  · rw [q_sub]
    exact hp
theorem ok_times (D : Def c mg "times" s_times []) (c_part : CalPart P w c mg base) : Cal P w c mg base CX0 3 "times" ["one", "other"] (spR c R_times) := by
  refine D.cal sc_times bd_times (lenR fun M as Pv ⟨_, _, e, _⟩ => by rw [e]; rfl) (bodyR fun f cdv A outer s H E hr => ⟨_, (pss_one (ps_ret (pe_cal rfl (c_part.mono (by omega)) hr (by rfl) pass0 (pa_cons (pe_op op_mulW (pe_ix ix_seq (pv 0) pe_int (fun _ _ => rfl)) (pe_ix ix_seq (pv 1) pe_int (fun _ _ => rfl))) (pa_cons (pe_op op_mulW (pe_ix ix_seq (pv 0) pe_int (fun _ _ => rfl)) (pe_ix ix_seq (pv 1) pe_int (fun _ _ => rfl))) pa_nil))))), ?_⟩)
  rintro M as Pv ⟨a, b, rfl, ⟨h1, h2, h3⟩, hp⟩
  refine st_ret (ev_call (ea_cons (ev_op (ev_top (ev_var rfl) ev_int) (ev_top (ev_var rfl) ev_int) (rv_I (hi_mul (nB_hB h1.n) (nB_hB h2.n)))) (ea_cons (ev_dens h1 h2 (ev_var rfl) (ev_var rfl) ev_int ev_int) ea_nil)) ⟨_, _, rfl, den_mul_ne a b, den_mul_lo h3, mul_hB h1.n h2.n, ?_⟩)
  rw [q_mul]
  exact hp
theorem num_ne {b : Rat} (h : b ≠ 0) : b.num ≠ 0 := fun z => h (Rat.num_eq_zero.mp z)
theorem ok_over (D : Def c mg "over" s_over []) (c_part : CalPart P w c mg base) : Cal P w c mg base CX0 3 "over" ["one", "other"] (spR c R_over) := by
  refine D.cal sc_over bd_over (lenR fun M as Pv ⟨_, _, e, _⟩ => by rw [e]; rfl) (bodyR fun f cdv A outer s H E hr => ⟨_, (pss_one (ps_ret (pe_cal rfl (c_part.mono (by omega)) hr (by rfl) pass0 (pa_cons (pe_op op_mulW (pe_ix ix_seq (pv 0) pe_int (fun _ _ => rfl)) (pe_ix ix_seq (pv 1) pe_int (fun _ _ => rfl))) (pa_cons (pe_op op_mulW (pe_ix ix_seq (pv 0) pe_int (fun _ _ => rfl)) (pe_ix ix_seq (pv 1) pe_int (fun _ _ => rfl))) pa_nil))))), ?_⟩)
  rintro M as Pv ⟨a, b, rfl, h1, h2, h0, h3, hp⟩
  refine st_ret (ev_call (ea_cons (ev_cross h1 h2 (ev_var rfl) (ev_var rfl) ev_int ev_int) (ea_cons (ev_op (ev_low (ev_var rfl) ev_int) (ev_top (ev_var rfl) ev_int) (rv_I (hi_mul (nB_hB h1.nat) (nB_hB h2.n)))) ea_nil)) ⟨_, _, rfl, ?_, ?_, mul_hB h1.n h2.nat, ?_⟩)
  · have d1 := den_pos a
    exact Int.mul_ne_zero (by omega) (num_ne h0)
  · rw [Int.natAbs_mul]
    exact h3
  · rw [q_over a b h0]
    exact hp
theorem ok_is_less (D : Def c mg "is_less" s_is_less []) : Cal P w c mg base CX0 1 "is_less" ["one", "other"] (spR c R_is_less) := by
  refine D.cal sc_is_less bd_is_less (lenR fun M as Pv ⟨_, _, e, _⟩ => by rw [e]; rfl) (bodyR fun f cdv A outer s H E hr => ⟨_, (pss_one (ps_ret (pe_cmpR op_lt (pe_op op_mulW (pe_ix ix_seq (pv 0) pe_int (fun _ _ => rfl)) (pe_ix ix_seq (pv 1) pe_int (fun _ _ => rfl))) (pe_op op_mulW (pe_ix ix_seq (pv 1) pe_int (fun _ _ => rfl)) (pe_ix ix_seq (pv 0) pe_int (fun _ _ => rfl))) (nomark _)))), ?_⟩)
  rintro M as Pv ⟨a, b, rfl, h1, h2, hp⟩
  refine st_ret (EvP.of (ev_op (ev_cross h1 h2 (ev_var rfl) (ev_var rfl) ev_int ev_int) (ev_cross h2 h1 (ev_var rfl) (ev_var rfl) ev_int ev_int) rv_B0) ?_)
  rw [decide_eq_decide.mpr (q_lt a b)]
  exact hp
theorem ok_greater (D : Def c mg "greater" s_greater []) (c_is_less : Cal P w c mg base CX0 1 "is_less" ["one", "other"] (spR c R_is_less)) : Cal P w c mg base CX0 2 "greater" ["one", "other"] (spR c R_greater) := by
  refine D.cal sc_greater bd_greater (lenR fun M as Pv ⟨_, _, e, _⟩ => by rw [e]; rfl) (bodyR fun f cdv A outer s H E hr => ⟨_, (pss_one (ps_ret (pe_ifExp (pt_val (pe_cal rfl (c_is_less.mono (by omega)) hr (by rfl) pass0 (pa_cons (pv 0) (pa_cons (pv 1) pa_nil)))) (pv 1) (pv 0)))), ?_⟩)
  rintro M as Pv ⟨a, b, rfl, h1, h2, hp⟩
  refine st_ret (ev_if (et_B (ev_call (P := fun x => x = aB (decide (a < b))) (ea_cons (ev_var rfl) (ea_cons (ev_var rfl) ea_nil)) ⟨a, b, rfl, h1, h2, rfl⟩)) (fun h => EvP.of (ev_var rfl) ?_) fun h => EvP.of (ev_var rfl) ?_)
  · unfold gtr at hp
    rw [if_pos (of_decide_eq_true h)] at hp
    exact hp
  · unfold gtr at hp
    rw [if_neg (of_decide_eq_false h)] at hp
    exact hp
theorem sum_fold : ∀ (ws : List Rat) (a x : Rat), (ws ++ [x]).foldl (· + ·) a = ws.foldl (· + ·) a + x := fun ws a x => by rw [List.foldl_append]; rfl
theorem sumOk_at : ∀ (ws : List Rat) (a : Rat) (i : Nat) (x : Rat), SumOk a ws → ws[i]? = some x → Fit2 ((ws.take i).foldl (· + ·) a) x
  | y :: r, a, 0, x, h, e => by
    obtain rfl : y = x := someI e
    exact h.1
  | y :: r, a, i + 1, x, h, e => sumOk_at r (a + y) i x h.2 e
theorem take_fold {α β : Type} (f : β → α → β) (ws : List α) (a : β) (i : Nat) (x : α) (h : ws[i]? = some x) : (ws.take (i + 1)).foldl f a = f ((ws.take i).foldl f a) x := by
  rw [List.take_add_one, List.foldl_append, h]
  rfl
theorem map_at {α β : Type} {f : α → β} {l : List α} {i : Nat} {d : β} (h : (l.map f)[i]? = some d) : ∃ x, l[i]? = some x ∧ d = f x := by
  rw [List.getElem?_map] at h
  cases e : l[i]? with
  | none => exact absurd (e ▸ h) (by simp)
  | some x => rw [e] at h; exact ⟨x, rfl, (someI h).symm⟩
theorem dQ_zero : (.tuple [.int 0, .int 1] : PyData) = dQ 0 := rfl
theorem ok_total (D : Def c mg "total" s_total []) (gN : ∃ a, mg "NOUGHT" = some (.ref a) ∧ ∀ H, SqT c.K H a [.int 0, .int 1]) (c_plus : Cal P w c mg base CX0 3 "plus" ["one", "other"] (spR c R_plus)) :
    Cal P w c mg base CX0 4 "total" ["parts"] (spR c R_total) := by
  obtain ⟨aN, gN, sN⟩ := gN
  refine D.cal sc_total bd_total (lenR fun M as Pv ⟨_, e, _⟩ => by rw [e]; rfl) (bodyR fun f cdv A outer s H E hr => ⟨_, (pss_cons (ps_set (i := 1) sc_total.nd rfl (.inl rfl) (pe_glob (v := .ref aN) (by rfl) gN rfl))
      (pss_cons (ps_for PassesOwn.never rfl (pi_list (pv 0)) (pg_name (i := 2) sc_total.nd rfl (.inl rfl)) (pss_one (ps_set (i := 1) sc_total.nd rfl (.inl rfl) (pe_cal rfl (c_plus.mono (by omega)) hr (by rfl) pass0 (pa_cons (pv 1) (pa_cons (pv 2) pa_nil))))))
      (pss_one (ps_ret (pv 1))))), ?_⟩)
  rintro M as Pv ⟨ws, rfl, hl, hs, hp⟩
  refine st_seq (PG1 := fun G => G = [some (aL (ws.map dQ)), some (aQ 0), none]) (st_set (a := aQ 0) (fun σ H s k Q q => q.here (a := aQ 0) rfl (Dp.tup (sN _) (.cons (.int 0) (.cons (.int 1) .nil)))) rfl) ?_
  rintro G rfl
  refine st_seq (PG1 := fun G => ∃ z, G = [some (aL (ws.map dQ)), some (aQ (ws.foldl (· + ·) 0)), z]) (st_for (it_list (ev_var rfl)) (fun i G => ∃ z, G = [some (aL (ws.map dQ)), some (aQ ((ws.take i).foldl (· + ·) 0)), z]) ⟨none, rfl⟩ ?_ ?_) ?_
  · rintro i d G hd ⟨z, rfl⟩
    obtain ⟨x, hx, rfl⟩ := map_at hd
    refine ⟨_, _, tg_name, st_asg (Pa := fun a => a = aQ ((ws.take i).foldl (· + ·) 0 + x)) (ev_call (ea_cons (ev_var rfl) (ea_cons (ev_var rfl) ea_nil)) ⟨_, _, rfl, sumOk_at ws 0 i x hs hx, rfl⟩) ?_⟩
    rintro a rfl
    refine ⟨_, _, tg_name, some (aQ x), ?_⟩
    rw [take_fold _ ws 0 i x hx]
    rfl
  · rintro G ⟨z, rfl⟩
    refine ⟨z, ?_⟩
    rw [List.length_map (f := dQ), List.take_length]
  · rintro G ⟨z, rfl⟩
    exact st_ret (EvP.of (ev_var rfl) hp)
theorem chance_num {a : Rat} (h0 : 0 ≤ a) : ¬ a.num < 0 := by
  have := Rat.num_nonneg.mpr h0
  omega
theorem chance_le {a : Rat} (h : a ≤ 1) : ¬ a.num > (a.den : Int) := by
  have h1 := (Rat.le_iff a 1).mp h
  simp at h1
  omega
theorem Fit.hi {q : Rat} (h : Fit q) : q.num.natAbs < hB := nB_hB h.n
theorem ok_check_chance (D : Def c mg "check_chance" s_check_chance []) (c_part : CalPart P w c mg base) : Cal P w c mg base CX0 3 "check_chance" ["one"] (spR c R_check_chance) := by
  refine D.cal sc_check_chance bd_check_chance (lenR fun M as Pv ⟨_, e, _⟩ => by rw [e]; rfl) (bodyR fun f cdv A outer s H E hr => ⟨_, (pss_cons (ps_set (i := 1) sc_check_chance.nd rfl (.inl rfl) (pe_cal rfl (c_part.mono (by omega)) hr (by rfl) pass0 (pa_cons (pe_ix ix_seq (pv 0) pe_int (fun _ _ => rfl)) (pa_cons (pe_ix ix_seq (pv 0) pe_int (fun _ _ => rfl)) pa_nil))))
      (pss_cons (ps_if (PW.pt (pw_or (pt_cmpR op_lt (pe_ix ix_seq (pv 1) pe_int (fun _ _ => rfl)) pe_int (nomark _)) (pw_or1 (pt_cmpR op_gt (pe_ix ix_seq (pv 1) pe_int (fun _ _ => rfl)) (pe_ix ix_seq (pv 1) pe_int (fun _ _ => rfl)) (nomark _))))) (pss_one ps_never) pss_nil)
      (pss_one (ps_ret (pv 1))))), ?_⟩)
  rintro M as Pv ⟨a, rfl, hf, hlo, h0, h1, hp⟩
  have hd := den_pos a
  refine st_seq (PG1 := fun G => G = [some (aQ a), some (aQ a)]) (st_asg (Pa := fun x => x = aQ a) (ev_call (ea_cons (ev_top (ev_var rfl) ev_int) (ea_cons (ev_low (ev_var rfl) ev_int) ea_nil)) ⟨_, _, rfl, by omega, hlo, hf.hi, by rw [q_eta]⟩) fun b e => by subst e; exact ⟨_, _, tg_name, rfl⟩) ?_
  rintro G rfl
  refine st_seq (PG1 := fun G => G = [some (aQ a), some (aQ a)]) (st_if (b := false) (et_is (et_or (et_test (ev_op (ev_top (ev_var rfl) ev_int) ev_int rv_B0)) fun _ => et_test (ev_op (ev_top (ev_var rfl) ev_int) (ev_low (ev_var rfl) ev_int) rv_B0)) ?_) (fun h => by cases h) fun _ => st_next rfl) ?_
  · rw [decide_eq_false (chance_num h0), decide_eq_false (chance_le h1)]
    rfl
  · rintro G rfl
    exact st_ret (EvP.of (ev_var rfl) hp)
theorem gtr_in (a b : Rat) : gtr a b = a ∨ gtr a b = b := by
  unfold gtr
  split
  · exact .inr rfl
  · exact .inl rfl
theorem fold_in : ∀ (ws : List Rat) (a : Rat), ws.foldl gtr a ∈ a :: ws
  | [], a => List.mem_cons_self
  | x :: r, a => by
    have h := fold_in r (gtr a x)
    show r.foldl gtr (gtr a x) ∈ a :: x :: r
    rcases memC h with e | e
    · rw [e]
      rcases gtr_in a x with e | e <;> rw [e] <;> simp
    · exact List.mem_cons_of_mem _ (List.mem_cons_of_mem _ e)
theorem ok_greatest_of (B : Bt mg) (D : Def c mg "greatest_of" s_greatest_of []) (c_greater : Cal P w c mg base CX0 2 "greater" ["one", "other"] (spR c R_greater)) : Cal P w c mg base CX0 3 "greatest_of" ["parts"] (spR c R_greatest_of) := by
  refine D.cal sc_greatest_of bd_greatest_of (lenR fun M as Pv ⟨_, _, e, _⟩ => by rw [e]; rfl) (bodyR fun f cdv A outer s H E hr => ⟨_, (pss_cons (ps_if (pt_cmpR (op_eqD hr.units) (pe_callB call_lenQ (by rfl) B.len PySem.boot_len (pa_cons (pv 0) pa_nil)) pe_int (nomark _)) (pss_one ps_never) pss_nil)
      (pss_cons (ps_set (i := 1) sc_greatest_of.nd rfl (.inl rfl) (pe_ix ix_seq (pv 0) pe_int (fun _ _ => rfl)))
      (pss_cons (ps_for PassesOwn.never rfl (pi_list (pv 0)) (pg_name (i := 2) sc_greatest_of.nd rfl (.inl rfl)) (pss_one (ps_set (i := 1) sc_greatest_of.nd rfl (.inl rfl) (pe_cal rfl (c_greater.mono (by omega)) hr (by rfl) pass0 (pa_cons (pv 1) (pa_cons (pv 2) pa_nil))))))
      (pss_one (ps_ret (pv 1)))))), ?_⟩)
  rintro M as Pv ⟨x, ws, rfl, hl, hf, hp⟩
  have hne : ¬ ((((x :: ws).map dQ).length : Nat) : Int) = 0 := by simp; omega
  refine st_seq (PG1 := fun G => G = [some (aL ((x :: ws).map dQ)), none, none]) (st_if (et_test (ev_op (ev_cb (ea_cons (ev_var rfl) ea_nil) rc_lenL) ev_int rv_eqDI)) (fun h => absurd (of_decide_eq_true h) hne) fun _ => st_next rfl) ?_
  rintro G rfl
  refine st_seq (PG1 := fun G => G = [some (aL ((x :: ws).map dQ)), some (aQ x), none]) (st_set (ev_op (ev_var rfl) ev_int (rv_ixL (n := 0) (d := dQ x) rfl)) rfl) ?_
  rintro G rfl
  refine st_seq (PG1 := fun G => ∃ z, G = [some (aL ((x :: ws).map dQ)), some (aQ (maxQ (x :: ws))), z]) (st_for (it_list (ev_var rfl)) (fun i G => ∃ z, G = [some (aL ((x :: ws).map dQ)), some (aQ (((x :: ws).take i).foldl gtr x)), z]) ⟨none, rfl⟩ ?_ ?_) ?_
  · rintro i d G hd ⟨z, rfl⟩
    obtain ⟨y, hy, rfl⟩ := map_at hd
    have f1 : Fit (((x :: ws).take i).foldl gtr x) := by
      rcases memC (fold_in ((x :: ws).take i) x) with e | e
      · rw [e]
        exact hf x List.mem_cons_self
      · exact hf _ (List.mem_of_mem_take e)
    have f2 : Fit y := hf y (List.mem_of_getElem? hy)
    refine ⟨_, _, tg_name, st_asg (Pa := fun a => a = aQ (gtr (((x :: ws).take i).foldl gtr x) y)) (ev_call (ea_cons (ev_var rfl) (ea_cons (ev_var rfl) ea_nil)) ⟨_, _, rfl, f1, f2, rfl⟩) ?_⟩
    rintro a rfl
    refine ⟨_, _, tg_name, some (aQ y), ?_⟩
    rw [take_fold _ (x :: ws) x i y hy]
    rfl
  · rintro G ⟨z, rfl⟩
    refine ⟨z, ?_⟩
    rw [List.length_map (f := dQ), List.take_length]
    have : (x :: ws).foldl gtr x = maxQ (x :: ws) := by
      show ws.foldl gtr (gtr x x) = ws.foldl gtr x
      have : gtr x x = x := by rcases gtr_in x x with e | e <;> exact e
      rw [this]
    rw [this]
  · rintro G ⟨z, rfl⟩
    exact st_ret (EvP.of (ev_var rfl) hp)
end
end LW

/-! Trees as data: height, worth, first best plan, paper; the sizes of the worths. -/
namespace LW
open L2 PySem PySem.Spec PyProof.Rows
/-! ### sizes -/
structure Bd (A N : Nat) (q : Rat) : Prop where
  n : q.num.natAbs ≤ A
  d : q.den ≤ N
theorem Bd.mono {A N A' N' : Nat} {q : Rat} (h : Bd A N q) (h1 : A ≤ A') (h2 : N ≤ N') : Bd A' N' q := ⟨Nat.le_trans h.n h1, Nat.le_trans h.d h2⟩
theorem den_dvd_le {a : Nat} {b : Nat} (h : a ∣ b) (hb : 0 < b) : a ≤ b := Nat.le_of_dvd hb h
/-- a fraction made small is no greater -/
theorem small_num {t l : Int} (hl : l ≠ 0) : (Rat.divInt t l).num.natAbs ≤ t.natAbs := by
  rw [part_num hl]
  have hg : 0 < Nat.gcd t.natAbs l.natAbs := Nat.gcd_pos_of_pos_right _ (by omega)
  have h1 : ((if l > 0 then 1 else -1) * t : Int).natAbs = t.natAbs := by split <;> simp
  rw [Int.natAbs_ediv_of_dvd, h1]
  · exact Nat.div_le_self _ _
  · rw [← Int.natAbs_dvd_natAbs, h1]
    exact Nat.gcd_dvd_left _ _
theorem small_den {t l : Int} (hl : l ≠ 0) : (Rat.divInt t l).den ≤ l.natAbs := by
  have h := part_den (t := t) hl
  have h1 : ((if l > 0 then 1 else -1) * l : Int) = (l.natAbs : Int) := by split <;> omega
  rw [h1, ← Int.natCast_ediv] at h
  have : (Rat.divInt t l).den = l.natAbs / Nat.gcd t.natAbs l.natAbs := by omega
  rw [this]
  exact Nat.div_le_self _ _
theorem den_i_ne (a b : Rat) : ((a.den : Int) * (b.den : Int)) ≠ 0 := den_mul_ne a b
theorem add_den (a b : Rat) : (a + b).den ≤ a.den * b.den := by
  rw [← q_add]
  have h := small_den (t := a.num * b.den + b.num * a.den) (den_mul_ne a b)
  rw [Int.natAbs_mul] at h
  exact h
theorem add_num (a b : Rat) : (a + b).num.natAbs ≤ a.num.natAbs * b.den + b.num.natAbs * a.den := by
  rw [← q_add]
  refine Nat.le_trans (small_num (den_mul_ne a b)) (Nat.le_trans (Int.natAbs_add_le _ _) ?_)
  rw [Int.natAbs_mul, Int.natAbs_mul]
  exact Nat.le_refl _
theorem sub_den (a b : Rat) : (a - b).den ≤ a.den * b.den := by
  rw [← q_sub]
  have h := small_den (t := a.num * b.den - b.num * a.den) (den_mul_ne a b)
  rw [Int.natAbs_mul] at h
  exact h
theorem sub_num (a b : Rat) : (a - b).num.natAbs ≤ a.num.natAbs * b.den + b.num.natAbs * a.den := by
  rw [← q_sub]
  refine Nat.le_trans (small_num (den_mul_ne a b)) ?_
  have := Int.natAbs_sub_le (a.num * b.den) (b.num * a.den)
  rw [Int.natAbs_mul, Int.natAbs_mul] at this
  exact this
theorem mul_den (a b : Rat) : (a * b).den ≤ a.den * b.den := by
  rw [← q_mul]
  have h := small_den (t := a.num * b.num) (den_mul_ne a b)
  rw [Int.natAbs_mul] at h
  exact h
theorem mul_num (a b : Rat) : (a * b).num.natAbs ≤ a.num.natAbs * b.num.natAbs := by
  rw [← q_mul]
  refine Nat.le_trans (small_num (den_mul_ne a b)) ?_
  rw [Int.natAbs_mul]
  exact Nat.le_refl _
theorem Bd.mul {A N B K : Nat} {a b : Rat} (h : Bd A N a) (h' : Bd B K b) : Bd (A * B) (N * K) (a * b) :=
  ⟨Nat.le_trans (mul_num a b) (Nat.mul_le_mul h.n h'.n), Nat.le_trans (mul_den a b) (Nat.mul_le_mul h.d h'.d)⟩
theorem Bd.add {A N B K : Nat} {a b : Rat} (h : Bd A N a) (h' : Bd B K b) : Bd (A * K + B * N) (N * K) (a + b) :=
  ⟨Nat.le_trans (add_num a b) (Nat.add_le_add (Nat.mul_le_mul h.n h'.d) (Nat.mul_le_mul h'.n h.d)), Nat.le_trans (add_den a b) (Nat.mul_le_mul h.d h'.d)⟩
theorem Bd.sub {A N B K : Nat} {a b : Rat} (h : Bd A N a) (h' : Bd B K b) : Bd (A * K + B * N) (N * K) (a - b) :=
  ⟨Nat.le_trans (sub_num a b) (Nat.add_le_add (Nat.mul_le_mul h.n h'.d) (Nat.mul_le_mul h'.n h.d)), Nat.le_trans (sub_den a b) (Nat.mul_le_mul h.d h'.d)⟩
theorem Bd.fit {A N : Nat} {q : Rat} (h : Bd A N q) (h1 : A < nB) (h2 : N < nB) : Fit q := ⟨Nat.lt_of_le_of_lt h.n h1, Nat.lt_of_le_of_lt h.d h2⟩
theorem Bd.fit2 {A N B K : Nat} {a b : Rat} (h : Bd A N a) (h' : Bd B K b) (h1 : A < nB) (h2 : B < nB) (h3 : N * K < loB) : Fit2 a b := by
  have l1 := Nat.lt_of_le_of_lt (Nat.mul_le_mul h.d h'.d) h3
  have d1 := den_pos a
  have d2 := den_pos b
  have x1 : a.den ≤ a.den * b.den := Nat.le_mul_of_pos_right _ d2
  have x2 : b.den ≤ a.den * b.den := Nat.le_mul_of_pos_left _ d1
  exact ⟨⟨Nat.lt_of_le_of_lt h.n h1, Nat.lt_of_le_of_lt x1 (Nat.lt_of_lt_of_le l1 loB_nB)⟩, ⟨Nat.lt_of_le_of_lt h'.n h2, Nat.lt_of_le_of_lt x2 (Nat.lt_of_lt_of_le l1 loB_nB)⟩, l1⟩
/-- so many terms of one size, added -/
theorem sum_bd {a b : Nat} (hb : 0 < b) : ∀ (ws : List Rat) (x : Rat) (i : Nat), Bd (i * a * b ^ i) (b ^ i) x → (∀ w ∈ ws, Bd a b w) → Bd ((i + ws.length) * a * b ^ (i + ws.length)) (b ^ (i + ws.length)) (ws.foldl (· + ·) x)
  | [], x, i, h, _ => h
  | w :: r, x, i, h, hw => by
    have h1 : Bd ((i + 1) * a * b ^ (i + 1)) (b ^ (i + 1)) (x + w) := by
      refine (h.add (hw w List.mem_cons_self)).mono ?_ (by rw [Nat.pow_succ]; exact Nat.le_refl _)
      have e1 : b ^ i ≤ b ^ (i + 1) := Nat.pow_le_pow_right hb (by omega)
      have e2 : a * b ^ i ≤ a * b ^ (i + 1) := Nat.mul_le_mul_left _ e1
      have e3 : i * a * b ^ i * b = i * a * b ^ (i + 1) := by rw [Nat.pow_succ, Nat.mul_assoc]
      have e4 : (i + 1) * a * b ^ (i + 1) = i * a * b ^ (i + 1) + a * b ^ (i + 1) := by rw [Nat.add_mul, Nat.add_mul, Nat.one_mul]
      omega
    have := sum_bd hb r (x + w) (i + 1) h1 fun y hy => hw y (List.mem_cons_of_mem _ hy)
    rw [show i + (w :: r).length = i + 1 + r.length by simp only [List.length_cons]; omega]
    exact this
/-- .. and the running sum fits -/
theorem sum_ok {a b m : Nat} (hb : 0 < b) (ha : m * a * b ^ m < nB) (ha2 : a < nB) (hm : b ^ m < loB) : ∀ (ws : List Rat) (x : Rat) (i : Nat), i + ws.length ≤ m → Bd (i * a * b ^ i) (b ^ i) x → (∀ w ∈ ws, Bd a b w) → SumOk x ws
  | [], _, _, _, _, _ => trivial
  | w :: r, x, i, hl, h, hw => by
    have hl' : i + 1 + r.length ≤ m := by simp only [List.length_cons] at hl; omega
    have h1 := sum_bd hb [w] x i h fun y hy => hw y (by simp at hy; simp [hy])
    refine ⟨h.fit2 (hw w List.mem_cons_self) ?_ ha2 ?_, sum_ok hb ha ha2 hm r (x + w) (i + 1) hl' h1 fun y hy => hw y (List.mem_cons_of_mem _ hy)⟩
    · refine Nat.lt_of_le_of_lt ?_ ha
      exact Nat.mul_le_mul (Nat.mul_le_mul_right _ (by omega)) (Nat.pow_le_pow_right hb (by omega))
    · rw [← Nat.pow_succ]
      exact Nat.lt_of_le_of_lt (Nat.pow_le_pow_right hb (by omega)) hm
theorem bd_zero {a b : Nat} : Bd (0 * a * b ^ 0) (b ^ 0) 0 := ⟨by simp, by simp⟩
/-! ### the sizes of a tree's worth by its height -/
def TN : Nat → Nat
  | 0 => 9
  | n + 1 => (33 * TN n) ^ 3
def TAn : Nat → Nat
  | 0 => 10000
  | n + 1 => 3 * (33 * TAn n) * (33 * TN n) ^ 3
abbrev BdT (n : Nat) (q : Rat) : Prop := Bd (TAn n) (TN n) q
theorem TN_pos : ∀ n, 0 < TN n
  | 0 => by decide
  | n + 1 => Nat.pow_pos (Nat.mul_pos (by decide) (TN_pos n))
theorem TN_le (n : Nat) : TN n ≤ TN (n + 1) := by
  have h := TN_pos n
  have h1 : TN n ≤ 33 * TN n := by omega
  exact Nat.le_trans h1 (Nat.le_self_pow (by decide) _)
theorem TA_le (n : Nat) : TAn n ≤ TAn (n + 1) := by
  have h : 0 < (33 * TN n) ^ 3 := Nat.pow_pos (Nat.mul_pos (by decide) (TN_pos n))
  have h1 : 3 * (33 * TAn n) ≤ 3 * (33 * TAn n) * (33 * TN n) ^ 3 := Nat.le_mul_of_pos_right _ h
  show TAn n ≤ 3 * (33 * TAn n) * (33 * TN n) ^ 3
  omega
theorem TN_mono {n m : Nat} (h : n ≤ m) : TN n ≤ TN m := by
  induction h with
  | refl => exact Nat.le_refl _
  | step _ ih => exact Nat.le_trans ih (TN_le _)
theorem TA_mono {n m : Nat} (h : n ≤ m) : TAn n ≤ TAn m := by
  induction h with
  | refl => exact Nat.le_refl _
  | step _ ih => exact Nat.le_trans ih (TA_le _)
theorem BdT.up {n m : Nat} {q : Rat} (h : BdT n q) (hm : n ≤ m) : BdT m q := h.mono (TA_mono hm) (TN_mono hm)
theorem TN_six : 7 * TN 6 < loB := by decide +kernel
theorem TA_six : TAn 6 < nB := by decide +kernel
theorem TN_lo {n : Nat} (h : n ≤ 6) : TN n < loB := Nat.lt_of_le_of_lt (TN_mono h) (by have := TN_six; omega)
theorem TA_nB {n : Nat} (h : n ≤ 6) : TAn n < nB := Nat.lt_of_le_of_lt (TA_mono h) TA_six
theorem BdT.fit {n : Nat} {q : Rat} (h : BdT n q) (hn : n ≤ 6) : Fit q := Bd.fit h (TA_nB hn) (Nat.lt_of_lt_of_le (TN_lo hn) loB_nB)
/-- a chance of a tree -/
abbrev ChT (q : Rat) : Prop := Bd 33 33 q
theorem cht_mul {n : Nat} {p q : Rat} (h : ChT p) (h' : BdT n q) : Bd (33 * TAn n) (33 * TN n) (p * q) := Bd.mul h h'
theorem cht_fit2 {n : Nat} {p q : Rat} (hn : n + 1 ≤ 6) (h : ChT p) (h' : BdT n q) : Fit2 p q := by
  have e : 33 * TN n ≤ TN (n + 1) := Nat.le_self_pow (by decide) _
  refine Bd.fit2 h h' ?_ (TA_nB (by omega)) (Nat.lt_of_le_of_lt e (TN_lo hn))
  exact Nat.lt_of_lt_of_le (by decide +kernel) (Nat.le_of_lt TA_six)
theorem luck_ok {n : Nat} (hn : n + 1 ≤ 6) {ws : List Rat} (hl : ws.length ≤ 3) (h : ∀ w ∈ ws, Bd (33 * TAn n) (33 * TN n) w) : SumOk 0 ws ∧ BdT (n + 1) (ws.foldl (· + ·) 0) := by
  have hp : 0 < 33 * TN n := Nat.mul_pos (by decide) (TN_pos n)
  have h1 : 33 * TAn n < nB := by
    refine Nat.lt_of_le_of_lt ?_ (TA_nB hn)
    have h : 0 < (33 * TN n) ^ 3 := Nat.pow_pos hp
    have h1 : 3 * (33 * TAn n) ≤ 3 * (33 * TAn n) * (33 * TN n) ^ 3 := Nat.le_mul_of_pos_right _ h
    show 33 * TAn n ≤ 3 * (33 * TAn n) * (33 * TN n) ^ 3
    omega
  refine ⟨sum_ok (m := 3) hp (TA_nB hn) h1 (TN_lo hn) ws 0 0 (by omega) bd_zero h, ?_⟩
  refine (sum_bd hp ws 0 0 bd_zero h).mono ?_ ?_
  · rw [Nat.zero_add]
    exact Nat.mul_le_mul (Nat.mul_le_mul_right _ hl) (Nat.pow_le_pow_right hp hl)
  · rw [Nat.zero_add]
    exact Nat.pow_le_pow_right hp hl
/-! ### trees -/
structure Nd where
  d : PyData
  w : Rat
  p : PyData
  pp : PyData
def dEnd (q : Rat) : PyData := .tuple [.str "end", dQ q]
def dChoose (ds : List PyData) : PyData := .tuple [.str "choose", .tuple ds]
def dLuck (ds : List PyData) : PyData := .tuple [.str "luck", .tuple ds]
def dPap (q : Rat) (ds : List PyData) : PyData := .tuple [dQ q, .tuple ds]
def lkD (t : Rat × Nd) : PyData := .tuple [dQ t.1, t.2.d]
def lkW (t : Rat × Nd) : Rat := t.1 * t.2.w
def sumQ (ws : List Rat) : Rat := ws.foldl (· + ·) 0
/-- no greater is ahead: the first best one -/
def FirstBest (ws : List Rat) (j : Nat) : Prop := ws[j]? = some (maxQ ws) ∧ ∀ m x, m < j → ws[m]? = some x → x ≠ maxQ ws
inductive TreeD : Nat → Nd → Prop
  | ends (n : Nat) (q : Rat) (hb : BdT n q) : TreeD (n + 1) ⟨dEnd q, q, .tuple [], dPap q []⟩
  | choose (n : Nat) (ts : List Nd) (h0 : ts ≠ []) (hl : ts.length ≤ 3) (h : ∀ t ∈ ts, TreeD n t) (j : Nat) (t : Nd) (hj : ts[j]? = some t) (hf : FirstBest (ts.map (·.w)) j) (hb : BdT n (maxQ (ts.map (·.w)))) :
      TreeD (n + 1) ⟨dChoose (ts.map (·.d)), maxQ (ts.map (·.w)), .tuple [.int (j : Int), t.p], dPap (maxQ (ts.map (·.w))) (ts.map (·.pp))⟩
  | luck (n : Nat) (cs : List (Rat × Nd)) (h0 : cs ≠ []) (hl : cs.length ≤ 3) (h : ∀ t ∈ cs, TreeD n t.2) (hc : ∀ t ∈ cs, ChT t.1) (hb : BdT n (sumQ (cs.map lkW))) :
      TreeD (n + 1) ⟨dLuck (cs.map lkD), sumQ (cs.map lkW), .tuple (cs.map (·.2.p)), dPap (sumQ (cs.map lkW)) (cs.map (·.2.pp))⟩
theorem TreeD.bd {n : Nat} {t : Nd} (h : TreeD n t) : ∃ m, n = m + 1 ∧ BdT m t.w := by
  cases h with
  | ends n q hb => exact ⟨n, rfl, hb⟩
  | choose n ts h0 hl h j t hj hf hb => exact ⟨n, rfl, hb⟩
  | luck n cs h0 hl h hc hb => exact ⟨n, rfl, hb⟩
theorem TreeD.bd' {n : Nat} {t : Nd} (h : TreeD n t) : BdT (n - 1) t.w := by
  obtain ⟨m, rfl, hb⟩ := h.bd
  exact hb
theorem TreeD.fit {n : Nat} {t : Nd} (h : TreeD n t) (hn : n ≤ 7) : Fit t.w := by
  obtain ⟨m, rfl, hb⟩ := h.bd
  exact hb.fit (by omega)
end LW

/-! trees.py, first part: worth, plan, what lies within. -/
namespace LW
open L2 PySem PySem.Spec PyProof.Rows
section
variable {P : Program} {w : World} {c : Cf} {mg : Str → Option Value} {base : Heap}
/-- a promise that nothing claims -/
theorem Cal.none {CX : CXT} {k : Nat} {x : Str} {ps N : List Str} {sp : Sp} {st : Stmt} {dvs : List V} (D : Def c mg x st []) (S : FnScope N ps (defScope st)) (hb : bindsAs x x st ps) (h : ∀ vs H Q E, ¬ sp vs H Q E) : Cal P w c mg base CX (k + 1) x ps sp := by
  obtain ⟨f, fd, F, e⟩ := D.ex
  exact ⟨f, fd, F.ok S (fun vs H Q E z => absurd z (h vs H Q E)) fun cdv A outer s H vs Q E hr z => absurd z (h vs H Q E), e, F.kp, F.bindsN hb⟩
theorem spR_none {R : PR} (h : ∀ M as Pv, ¬ R M as Pv) : ∀ vs H Q E, ¬ spR c R vs H Q E := fun vs H Q E ⟨M, as, Pv, r, _⟩ => h M as Pv r
theorem cal_rec {CX : CXT} {x : Str} {ps N : List Str} {st : Stmt} {R : Nat → PR} (L : Nat) (D : Def c mg x st []) (S : FnScope N ps (defScope st)) (hb : bindsAs x x st ps) (h0 : ∀ M as Pv, ¬ R 0 M as Pv)
    (step : ∀ n, Cal P w c mg base CX (L + 1 + n) x ps (spR c (R n)) → Cal P w c mg base CX (L + 1 + n + 1) x ps (spR c (R (n + 1)))) : ∀ n, Cal P w c mg base CX (L + 1 + n) x ps (spR c (R n))
  | 0 => Cal.none (dvs := []) D S hb (spR_none h0)
  | n + 1 => step n (cal_rec L D S hb h0 step n)
theorem TreeD.none {t : Nd} (h : TreeD 0 t) : False := by
  obtain ⟨m, e, _⟩ := h.bd
  omega
def R_worth (n : Nat) : PR := fun _ as P => ∃ t, TreeD n t ∧ n ≤ 7 ∧ as = [.d t.d] ∧ P (aQ t.w)
def R_plan (n : Nat) : PR := fun _ as P => ∃ t, TreeD n t ∧ n ≤ 7 ∧ as = [.d t.d] ∧ P (.d t.p)
section
variable {M : Mu} {G : Env'} {te tb ts : TE}
theorem ev_kind {ds : List PyData} {s z : Str} {b : Bool} (e : PyData.eqv (.str s) (.str z) = b ∧ SeqAt.shaped (.str s) = true ∧ SeqAt.shaped (.str z) = true) (h : EvD c M te G (aT (.str s :: ds))) (hb : EvD c M tb G (aI 0)) (hs : EvD c M ts G (.d (.str z))) : EvB c M (tTest (tOp (rEqD c.K) (tOp (rIx c.K) te tb) ts)) G b :=
  et_test (ev_op (ev_op h hb (rv_ixT (n := 0) rfl)) hs (e.1 ▸ rv_eqD e.2.1 e.2.2))
theorem ev_kids {ds : List PyData} {x d : PyData} (h : EvD c M te G (aT [x, d])) (hb : EvD c M tb G (aI 1)) : EvD c M (tOp (rIx c.K) te tb) G (.d d) := ev_op h hb (rv_ixT (n := 1) rfl)
end
theorem map2_at {α : Type} {f g : α → PyData} {l : List α} {i : Nat} {d e : PyData} (h : (l.map f)[i]? = some d) (h' : (l.map g)[i]? = some e) : ∃ x, l[i]? = some x ∧ d = f x ∧ e = g x := by
  obtain ⟨x, h1, h2⟩ := map_at h
  rw [List.getElem?_map, h1] at h'
  exact ⟨x, h1, h2, (someI h').symm⟩
abbrev CalGr (P : Program) (w : World) (c : Cf) (mg : Str → Option Value) (base : Heap) : Prop := Cal P w c mg base CX0 3 "greatest_of" ["parts"] (spR c R_greatest_of)
abbrev CalTo (P : Program) (w : World) (c : Cf) (mg : Str → Option Value) (base : Heap) : Prop := Cal P w c mg base CX0 4 "total" ["parts"] (spR c R_total)
abbrev CalPl (P : Program) (w : World) (c : Cf) (mg : Str → Option Value) (base : Heap) : Prop := Cal P w c mg base CX0 3 "plus" ["one", "other"] (spR c R_plus)
abbrev CalTi (P : Program) (w : World) (c : Cf) (mg : Str → Option Value) (base : Heap) : Prop := Cal P w c mg base CX0 3 "times" ["one", "other"] (spR c R_times)
abbrev CalLe (P : Program) (w : World) (c : Cf) (mg : Str → Option Value) (base : Heap) : Prop := Cal P w c mg base CX0 1 "is_less" ["one", "other"] (spR c R_is_less)
theorem kids_fit {n : Nat} (hn : n ≤ 7) {ts : List Nd} (h : ∀ t ∈ ts, TreeD n t) : ∀ y ∈ ts.map (·.w), Fit y := fun y hy => by
  obtain ⟨t, ht, rfl⟩ := List.mem_map.mp hy
  exact (h t ht).fit hn
theorem luck_sum {n : Nat} (hn : n + 1 ≤ 7) {cs : List (Rat × Nd)} (hl : cs.length ≤ 3) (h : ∀ t ∈ cs, TreeD n t.2) (hc : ∀ t ∈ cs, ChT t.1) : SumOk 0 (cs.map lkW) := by
  cases cs with
  | nil => trivial
  | cons t0 r =>
    obtain ⟨m, rfl, _⟩ := (h t0 List.mem_cons_self).bd
    refine (luck_ok (n := m) (by omega) (by simpa using hl) fun x hx => ?_).1
    obtain ⟨t, ht, rfl⟩ := List.mem_map.mp hx
    exact cht_mul (hc t ht) (h t ht).bd'
theorem luck_fit2 {n : Nat} (hn : n + 1 ≤ 7) {t : Rat × Nd} (h : TreeD n t.2) (hc : ChT t.1) : Fit2 t.1 t.2.w := by
  obtain ⟨m, rfl, hb⟩ := h.bd
  exact cht_fit2 (by omega) hc hb
theorem ok_worth (D : Def c mg "worth" s_worth []) (c_greatest_of : CalGr P w c mg base) (c_total : CalTo P w c mg base) (c_times : CalTi P w c mg base) : ∀ n, Cal P w c mg base CX0 (4 + 1 + n) "worth" ["tree"] (spR c (R_worth n)) :=
  cal_rec 4 D sc_worth bd_worth (fun _ _ _ ⟨t, h, _⟩ => h.none) fun n c_worth => by
  refine D.cal sc_worth bd_worth (lenR fun M as Pv ⟨_, _, _, e, _⟩ => by rw [e]; rfl) (bodyR fun f cdv A outer s H E hr => ⟨_, (pss_cons (ps_if (pt_cmpR (op_eqD hr.units) (pe_ix ix_seq (pv 0) pe_int (fun _ _ => rfl)) pe_str (nomark _)) (pss_one (ps_ret (pe_ix ix_seq (pv 0) pe_int (fun _ _ => rfl)))) pss_nil)
      (pss_cons (ps_if (pt_cmpR (op_eqD hr.units) (pe_ix ix_seq (pv 0) pe_int (fun _ _ => rfl)) pe_str (nomark _)) (pss_one (ps_ret (pe_cal rfl (c_greatest_of.mono (by omega)) hr (by rfl) pass0 (pa_cons (pe_lc (own := [("inner", 1)]) (g := (gName 1)) (tt := tYes) rfl sc_worth.nd (pi_tup (pe_ix ix_seq (pv 0) pe_int (fun _ _ => rfl))) (blkOk_by (N := N_worth) (sc := defScope s_worth) (by decide +kernel)) (fun _ _ _ _ _ => (pg_name (i := 1) sc_worth.nd rfl (.inl rfl))) (fun _ _ _ _ _ => pts_nil) (fun _ _ _ _ _ => (pe_cal rfl (c_worth.mono (by omega)) hr (by rfl) pass0 (pa_cons (pv 1) pa_nil)))) pa_nil)))) pss_nil)
      (pss_one (ps_ret (pe_cal rfl (c_total.mono (by omega)) hr (by rfl) pass0 (pa_cons (pe_lc (own := [("chance", 2), ("inner", 1)]) (g := (gTup c.K 2 (gCons (gName 2) (gCons (gName 1) gNil)))) (tt := tYes) rfl sc_worth.nd (pi_tup (pe_ix ix_seq (pv 0) pe_int (fun _ _ => rfl))) (blkOk_by (N := N_worth) (sc := defScope s_worth) (by decide +kernel)) (fun _ _ _ _ _ => (pg_tup rfl (pgs_cons (pg_name (i := 2) sc_worth.nd rfl (.inl rfl)) (pgs_cons (pg_name (i := 1) sc_worth.nd rfl (.inl rfl)) pgs_nil)))) (fun _ _ _ _ _ => pts_nil) (fun _ _ _ _ _ => (pe_cal rfl (c_times.mono (by omega)) hr (by rfl) pass0 (pa_cons (pv 2) (pa_cons (pe_cal rfl (c_worth.mono (by omega)) hr (by rfl) pass0 (pa_cons (pv 1) pa_nil)) pa_nil))))) pa_nil)))))), ?_⟩)
  rintro M as Pv ⟨t, ht, hn, rfl, hp⟩
  cases ht with
  | ends n q hb =>
    exact st_seq (PG1 := fun _ => False) (st_if (ev_kind (b := true) (by decide +kernel) (ev_var rfl) ev_int ev_str) (fun _ => st_ret (EvP.of (ev_kids (ds := []) (ev_var rfl) ev_int) hp)) fun h => absurd h (by simp)) fun _ h => h.elim
  | choose n ts h0 hl h j t hj hf hb =>
    refine st_seq (PG1 := fun G => G = startG 3 [.d (dChoose (ts.map (·.d)))]) (st_if (ev_kind (b := false) (by decide +kernel) (ev_var rfl) ev_int ev_str) (fun h => absurd h (by simp)) fun _ => st_next rfl) ?_
    rintro G rfl
    refine st_seq (PG1 := fun _ => False) (st_if (ev_kind (b := true) (by decide +kernel) (ev_var rfl) ev_int ev_str) (fun _ => st_ret ?_) fun h => absurd h (by simp)) fun _ h => h.elim
    obtain ⟨t0, r, rfl⟩ := List.exists_cons_of_ne_nil h0
    refine ev_call (ea_cons (ev_lc (es := ((t0 :: r).map (·.w)).map dQ) (it_tup (ev_kids (ds := []) (ev_var rfl) ev_int)) (by rw [List.length_map]; omega) (by simp) ?_) ea_nil) ⟨t0.w, r.map (fun t : Nd => t.w), rfl, ?_, kids_fit (by omega) h, hp⟩
    · intro M' hM i d e hd he
      rw [List.map_map] at he
      obtain ⟨t, ht, rfl, rfl⟩ := map2_at hd he
      exact ⟨_, _, tg_name, by simp, ev_call (ea_cons (ev_var rfl) ea_nil) ⟨t, h t (List.mem_of_getElem? ht), by omega, rfl, rfl⟩⟩
    · simp only [List.length_cons] at hl
      rw [List.length_map]
      omega
  | luck n cs h0 hl h hc hb =>
    refine st_seq (PG1 := fun G => G = startG 3 [.d (dLuck (cs.map lkD))]) (st_if (ev_kind (b := false) (by decide +kernel) (ev_var rfl) ev_int ev_str) (fun h => absurd h (by simp)) fun _ => st_next rfl) ?_
    rintro G rfl
    refine st_seq (PG1 := fun G => G = startG 3 [.d (dLuck (cs.map lkD))]) (st_if (ev_kind (b := false) (by decide +kernel) (ev_var rfl) ev_int ev_str) (fun h => absurd h (by simp)) fun _ => st_next rfl) ?_
    rintro G rfl
    refine st_ret (ev_call (ea_cons (ev_lc (es := (cs.map lkW).map dQ) (it_tup (ev_kids (ds := []) (ev_var rfl) ev_int)) (by rw [List.length_map]; omega) (by simp) ?_) ea_nil) ⟨cs.map lkW, rfl, by rw [List.length_map]; omega, luck_sum (by omega) hl h hc, hp⟩)
    intro M' hM i d e hd he
    rw [List.map_map] at he
    obtain ⟨t, ht, rfl, rfl⟩ := map2_at hd he
    have hm := List.mem_of_getElem? ht
    refine ⟨_, _, tg_tup2 tg_name tg_name, by simp, ?_⟩
    exact ev_call (ea_cons (ev_var rfl) (ea_cons (ev_call (P := fun x => x = aQ t.2.w) (ea_cons (ev_var rfl) ea_nil) ⟨t.2, h t hm, by omega, rfl, rfl⟩) ea_nil)) ⟨t.1, t.2.w, rfl, luck_fit2 (by omega) (h t hm) (hc t hm), rfl⟩
end
end LW

/-! Defs that may raise one class: promises, blocks. -/
namespace LW
open L2 PySem PySem.Spec PyProof.Rows
theorem PS.quiet {X : Cx} {st : Stmt} {t : TS} (h : PS X.nox st t) : PS X st t := ⟨fun pins s σ H D I hw =>
  wpAny_mono (h.run pins s σ H D (I.wish _) hw) (fun _ _ q => q.unwish) (fun _ _ z => z.elim)⟩
/-- an own exception class without own __init__, as it stands behind its name -/
structure BadP (c : Cf) (mg : Str → Option Value) (x : Str) (b : Addr) : Prop where
  g : mg x = some (.ref b)
  kp : PySem.W.keepIn c.K (.ref b) = true
  ex : ∃ (B newId initId : String) (bm : List Value), ExcBaseFacts B newId initId bm ∧ PySem.W.excIn c.K b bm newId = true
  sub : PySem.W.subIn c.K (.ref b) (.type "BaseException") = some true
  ty : PySem.W.typeIn c.K (.ref b) = some (.type "type")
/-- Mu, arguments, does it raise, what it hands back else -/
abbrev PRX := Mu → List AV → Prop → (AV → Prop) → Prop
def spX (c : Cf) (cls : Value) (R : PRX) : Sp := fun vs H Q E => ∃ (M : Mu) (as : List AV) (B : Prop) (P : AV → Prop), R M as B P ∧ RelAll c M H vs as ∧ Ok c M H ∧ (¬ B → Kp c M H P Q) ∧ (B → ∀ d H', Ex c M H H' → E cls d H')
/-- a block that may raise cls, where B -/
def StX (c : Cf) (M : Mu) (E : XK) (cls : Value) (B : Prop) (ts : TS) (G : Env') (PG : Env' → Prop) (P : AV → Prop) : Prop := ∀ σ H, Sig c M H σ G → Ok c M H → ∀ D : Ends,
  (∀ σ' H' G', PG G' → Ex c M H H' → Sig c M H' σ' G' → D.nx σ' H') → Kp c M H P D.rt → (B → ∀ d H', Ex c M H H' → E cls d H') → ts D σ H
section
variable {c : Cf} {M : Mu} {G : Env'} {E : XK} {cls : Value} {B : Prop} {t1 t2 : TS} {PG PG1 : Env' → Prop} {P : AV → Prop} {t : TT} {te : TE}
theorem StP.x (h : StP c M t1 G PG P) : StX c M E cls B t1 G PG P := fun σ H s k D n q _ => h σ H s k D n q
theorem sx_seq (h1 : StX c M E cls B t1 G PG1 P) (h2 : ∀ G', PG1 G' → StX c M E cls B t2 G' PG P) : StX c M E cls B (tSeq t1 t2) G PG P := fun σ H s k D n q x =>
  h1 σ H s k { D with nx := t2 D } (fun σ' H' G' p e s' => h2 G' p σ' H' s' (e.2 k) D (fun σ2 H2 G2 p2 e2 s2 => n σ2 H2 G2 p2 (e.trans e2) s2) (q.ex e) fun b d H2 e2 => x b d H2 (e.trans e2)) q x
theorem sx_if {b : Bool} (h : EvB c M t G b) (h1 : b = true → StX c M E cls B t1 G PG P) (h2 : b = false → StX c M E cls B t2 G PG P) : StX c M E cls B (tIfS t t1 t2) G PG P := fun σ H s k D n q z =>
  h σ H s k _ fun x H1 e e1 => by
    subst e
    cases x with
    | true => exact h1 rfl σ H1 (s.mono e1) (e1.2 k) D (fun σ' H' G' p e s' => n σ' H' G' p (e1.trans e) s') (q.ex e1) fun b d H2 e2 => z b d H2 (e1.trans e2)
    | false => exact h2 rfl σ H1 (s.mono e1) (e1.2 k) D (fun σ' H' G' p e s' => n σ' H' G' p (e1.trans e) s') (q.ex e1) fun b d H2 e2 => z b d H2 (e1.trans e2)
theorem sx_raise (b : B) : StX c M E cls B (fun _ _ H => E cls none H) G PG P := fun σ H s k D n q x => x b none H (Ex.refl H)
/-- a call that raises where B -/
theorem sx_drop {R : PRX} {ta : TA} {as : List AV} {Pa : AV → Prop} (h : EvA c M ta G as) (hr : R M as B Pa) (hg : ¬ B → PG G) : StX c M E cls B (tDrop (tCall (spX c cls R) [] E ta)) G PG P := fun σ H s k D n q x =>
  h σ H s k _ fun vs H1 p e e1 r1 => by
    subst e
    rw [List.append_nil]
    exact ⟨M, p, B, Pa, hr, r1, e1.2 k, fun nb v H2 a pa e2 r2 => n σ H2 G (hg nb) (e1.trans e2) (s.mono (e1.trans e2)), fun b d H2 e2 => x b d H2 (e1.trans e2)⟩
theorem ev_callX {R : PRX} {ta : TA} {as : List AV} {E' : XK} (h : EvA c M ta G as) (hr : R M as False P) : EvP c M (tCall (spX c cls R) [] E' ta) G P := fun σ H s k Q q =>
  h σ H s k _ fun vs H1 p e e1 r1 => by
    subst e
    rw [List.append_nil]
    exact ⟨M, p, False, P, hr, r1, e1.2 k, fun _ => q.ex e1, fun b => b.elim⟩
end
/-- what is never wished passes everywhere -/
theorem pass_never {X : Cx} : Passes (L2.CX X.prog X.w) X (fun _ _ _ => False) := fun pins σ H s e s' I ⟨_, _, _, _, _, _, _, _, _, _, _, _, z⟩ => z.elim
theorem lenX {c : Cf} {cls : Value} {R : PRX} {n : Nat} (h : ∀ M as B Pv, R M as B Pv → as.length = n) : ∀ vs H Q E, spX c cls R vs H Q E → vs.length = n := fun vs H Q E ⟨M, as, B, Pv, r, ra, _⟩ => ra.len.trans (h M as B Pv r)
theorem spX_none {c : Cf} {cls : Value} {R : PRX} (h : ∀ M as B Pv, ¬ R M as B Pv) : ∀ vs H Q E, ¬ spX c cls R vs H Q E := fun vs H Q E ⟨M, as, B, Pv, r, _⟩ => h M as B Pv r
section
variable {P : Program} {w : World} {c : Cf} {mg : Str → Option Value} {base : Heap} {k : Nat} {cls : Value}
theorem bodyX {st : Stmt} {q : Str} {N : List Str} {R : PRX}
    (h : ∀ (f : Addr) (cdv : Value) (A : Around) (outer : List Env) (s : Shared) (H : Hp) (E : XK), Room k (A.deeper (envOfC q (defScope st) s.heap.objs.size f cdv)) →
      ∃ t, PSs (cxOf (L2.CX P w) P w c.K mg base N q (defScope st) f cdv A outer s H E) (defBody st) t ∧ ∀ M as B Pv, R M as B Pv → StX c M E cls B t (startG N.length as) (fun _ => ¬ B ∧ Pv (.d .none)) (fun a => ¬ B ∧ Pv a)) :
    BodyOk P w c mg base (L2.CX P w) k q st N (spX c cls R) := fun f cdv A outer s H E hr => by
  obtain ⟨t, h1, h2⟩ := h f cdv A outer s H E hr
  refine ⟨t, h1, fun vs Q ⟨M, as, B, Pv, r, ra, kH, q, x⟩ => ?_⟩
  exact h2 M as B Pv r (L2.start N vs) H (sig_start ra) kH _ (fun σ' H' G' ⟨nb, p⟩ e s' => q nb .non H' (.d .none) p e Dp.non) (fun v H' a ⟨nb, p⟩ e r => q nb v H' a p e r) x
/-- raise X('..') -/
theorem ps_bad {x : Str} {b : Addr} {q : Str} {N : List Str} {sc : Scope} {f : Addr} {cdv : Value} {A : Around} {outer : List Env} {s : Shared} {H : Hp} {E : XK} {m : Str} {j : Nat} {p p2 pos pos' : Pos} (b_ : BadP c mg x b)
    (hg : Gl (cxOf (L2.CX P w) P w c.K mg base N q sc f cdv A outer s H E) x) (hdb : (x == ("__debug__" : Str)) = false := by decide) :
    PS (cxOf (L2.CX P w) P w c.K mg base N q sc f cdv A outer s H E) (.Raise (some (.Call (.Name x p) [.Constant (.str m) j p2] [] pos)) none pos') (fun _ _ H => E (.ref b) none H) := by
  obtain ⟨B, n1, n2, bm, F, e⟩ := b_.ex
  exact ps_raise rfl (takes_of rfl rfl rfl rfl) (pmk_own F e b_.g b_.kp (raises_own b_.sub b_.ty) hg hdb)
end
end LW

/-! trees.py and the law's own going up: plan, papers, checks. -/
namespace LW
open L2 PySem PySem.Spec PyProof.Rows
/-! ### shapes -/
theorem lay_listQ : ∀ ws : List Rat, PyData.canLayAll0 (ws.map dQ) = true
  | [] => by simp only [List.map_nil, PyData.canLayAll0]
  | q :: r => by
    have h1 : (dQ q).canLay0 = true := by simp [dQ, PyData.canLay0, PyData.canLayAll0]
    simp [PyData.canLayAll0, h1, lay_listQ r]
theorem deep_listQ : ∀ ws : List Rat, PyData.depthAll (ws.map dQ) ≤ 1
  | [] => by simp only [List.map_nil, PyData.depthAll]; omega
  | q :: r => by
    have h1 : (dQ q).depth = 1 := by simp [dQ, PyData.depth, PyData.depthAll]
    have h2 := deep_listQ r
    simp only [PyData.depthAll, List.map_cons]
    omega
theorem shaped_listQ (ws : List Rat) : SeqAt.shaped (.list (ws.map dQ)) = true := by
  have h1 := deep_listQ ws
  have h2 : PyData.depth (.list (ws.map dQ)) ≤ 64 := by
    simp only [PyData.depth]
    omega
  unfold SeqAt.shaped
  rw [Bool.and_eq_true]
  exact ⟨by simp only [PyData.canLay0]; exact lay_listQ ws, decide_eq_true h2⟩
theorem units1 {k : Nat} {A : Around} (r : Room k A) : A.units + 65 < cLine := by
  have := r.un
  omega
section
variable {P : Program} {w : World} {c : Cf} {mg : Str → Option Value} {base : Heap}
section
variable {M : Mu} {G : Env'} {te t : TE}
/-- where the best one stands -/
theorem ev_best {ws : List Rat} {j : Nat} (hf : FirstBest ws j) (h : EvD c M te G (aL (ws.map dQ))) (ha : EvD c M t G (aQ (maxQ ws))) : EvD c M (tBM c.K "list" (rIndexD c.K) te (tCons t tNil)) G (aI (j : Int)) := by
  refine ev_index (d := dQ (maxQ ws)) (z := dQ (maxQ ws)) h ha (shaped_listQ ws) (shaped_Q _) ?_ ?_ fun m z' hm hz => ?_
  · rw [List.getElem?_map, hf.1]
    rfl
  · rw [eqv_Q]
    exact decide_eq_true rfl
  · obtain ⟨x, hx, rfl⟩ := map_at hz
    rw [eqv_Q]
    exact decide_eq_false (hf.2 m x hm hx)
end
abbrev CalWo (P : Program) (w : World) (c : Cf) (mg : Str → Option Value) (base : Heap) : Prop := ∀ n, Cal P w c mg base CX0 (4 + 1 + n) "worth" ["tree"] (spR c (R_worth n))
theorem ok_plan (B : Bt mg) (D : Def c mg "plan" s_plan []) (c_greatest_of : CalGr P w c mg base) (hw : CalWo P w c mg base) : ∀ n, Cal P w c mg base CX0 (5 + 1 + n) "plan" ["tree"] (spR c (R_plan n)) :=
  cal_rec 5 D sc_plan bd_plan (fun _ _ _ ⟨t, h, _⟩ => h.none) fun n c_plan => by
  have c_worth := hw n
  refine D.cal sc_plan bd_plan (lenR fun M as Pv ⟨_, _, _, e, _⟩ => by rw [e]; rfl) (bodyR fun f cdv A outer s H E hr => ⟨_, (pss_cons (ps_if (pt_cmpR (op_eqD hr.units) (pe_ix ix_seq (pv 0) pe_int (fun _ _ => rfl)) pe_str (nomark _)) (pss_one (ps_ret (pe_tup pa_nil))) pss_nil)
      (pss_cons (ps_if (pt_cmpR (op_eqD hr.units) (pe_ix ix_seq (pv 0) pe_int (fun _ _ => rfl)) pe_str (nomark _)) (pss_one (ps_ret (pe_callTy call_tupQ (by rfl) B.tuple (by decide +kernel) (pa_cons (pe_lc (own := [("chance", 1), ("inner", 2)]) (g := (gTup c.K 2 (gCons (gName 1) (gCons (gName 2) gNil)))) (tt := tYes) rfl sc_plan.nd (pi_tup (pe_ix ix_seq (pv 0) pe_int (fun _ _ => rfl))) (blkOk_by (N := N_plan) (sc := defScope s_plan) (by decide +kernel)) (fun _ _ _ _ _ => (pg_tup rfl (pgs_cons (pg_name (i := 1) sc_plan.nd rfl (.inl rfl)) (pgs_cons (pg_name (i := 2) sc_plan.nd rfl (.inl rfl)) pgs_nil)))) (fun _ _ _ _ _ => pts_nil) (fun _ _ _ _ _ => (pe_cal rfl (c_plan.mono (by omega)) hr (by rfl) pass0 (pa_cons (pv 2) pa_nil)))) pa_nil)))) pss_nil)
      (pss_cons (ps_setLc (i := 3) (own := [("inner", 2)]) (g := (gName 2)) (tt := tYes) rfl sc_plan.nd rfl rfl (sw_true rfl rfl rfl (by decide +kernel)) (pi_tup (pe_ix ix_seq (pv 0) pe_int (fun _ _ => rfl))) (blkOk_by (N := N_plan) (sc := defScope s_plan) (by decide +kernel)) (fun _ _ _ _ _ => (pg_name (i := 2) sc_plan.nd rfl (.inl rfl))) (fun _ _ _ _ _ => pts_nil) (fun _ _ _ _ _ => (pe_cal rfl (c_worth.mono (by omega)) hr (by rfl) pass0 (pa_cons (pv 2) pa_nil))))
      (pss_cons (ps_set (i := 4) sc_plan.nd rfl (.inl rfl) (pe_bm PySem.F.plainAttrs_list PySem.F.slot_list_index PySem.F.type_list_index (mt_indexD (units1 hr)) (pv 3) (pa_cons (pe_cal rfl (c_greatest_of.mono (by omega)) hr (by rfl) pass0 (pa_cons (pv 3) pa_nil)) pa_nil)))
      (pss_one (ps_ret (pe_tup (pa_cons (pv 4) (pa_cons (pe_cal rfl (c_plan.mono (by omega)) hr (by rfl) pass0 (pa_cons (pe_ix ix_seq (pe_ix ix_seq (pv 0) pe_int (fun _ _ => rfl)) (pv 4) (fun _ _ => rfl)) pa_nil)) pa_nil))))))))), ?_⟩)
  rintro M as Pv ⟨t, ht, hn, rfl, hp⟩
  cases ht with
  | ends n q hb =>
    exact st_seq (PG1 := fun _ => False) (st_if (ev_kind (b := true) (by decide +kernel) (ev_var rfl) ev_int ev_str) (fun _ => st_ret (EvP.of (ev_tup (ds := []) ea_nil (by decide)) hp)) fun h => absurd h (by simp)) fun _ h => h.elim
  | luck n cs h0 hl h hc hb =>
    refine st_seq (PG1 := fun G => G = startG 5 [.d (dLuck (cs.map lkD))]) (st_if (ev_kind (b := false) (by decide +kernel) (ev_var rfl) ev_int ev_str) (fun h => absurd h (by simp)) fun _ => st_next rfl) ?_
    rintro G rfl
    refine st_seq (PG1 := fun _ => False) (st_if (ev_kind (b := true) (by decide +kernel) (ev_var rfl) ev_int ev_str) (fun _ => st_ret (EvP.of (ev_cb (ea_cons (ev_lc (es := cs.map (·.2.p)) (it_tup (ev_kids (ds := []) (ev_var rfl) ev_int)) (by rw [List.length_map]; omega) (by simp) ?_) ea_nil) rc_tupL) hp)) fun h => absurd h (by simp)) fun _ h => h.elim
    intro M' hM i d e hd he
    obtain ⟨t, ht, rfl, rfl⟩ := map2_at hd he
    exact ⟨_, _, tg_tup2 tg_name tg_name, by simp, ev_call (ea_cons (ev_var rfl) ea_nil) ⟨t.2, h t (List.mem_of_getElem? ht), by omega, rfl, rfl⟩⟩
  | choose n ts h0 hl h j t hj hf hb =>
    refine st_seq (PG1 := fun G => G = startG 5 [.d (dChoose (ts.map (·.d)))]) (st_if (ev_kind (b := false) (by decide +kernel) (ev_var rfl) ev_int ev_str) (fun h => absurd h (by simp)) fun _ => st_next rfl) ?_
    rintro G rfl
    refine st_seq (PG1 := fun G => G = startG 5 [.d (dChoose (ts.map (·.d)))]) (st_if (ev_kind (b := false) (by decide +kernel) (ev_var rfl) ev_int ev_str) (fun h => absurd h (by simp)) fun _ => st_next rfl) ?_
    rintro G rfl
    obtain ⟨t0, r, rfl⟩ := List.exists_cons_of_ne_nil h0
    refine st_seq (PG1 := fun G => G = [some (.d (dChoose ((t0 :: r).map (·.d)))), none, none, some (aL (((t0 :: r).map (·.w)).map dQ)), none]) (st_set (ev_lc (es := ((t0 :: r).map (·.w)).map dQ) (it_tup (ev_kids (ds := []) (ev_var rfl) ev_int)) (by rw [List.length_map]; omega) (by simp) ?_) rfl) ?_
    · intro M' hM i d e hd he
      rw [List.map_map] at he
      obtain ⟨t, ht, rfl, rfl⟩ := map2_at hd he
      exact ⟨_, _, tg_name, by simp, ev_call (ea_cons (ev_var rfl) ea_nil) ⟨t, h t (List.mem_of_getElem? ht), by omega, rfl, rfl⟩⟩
    rintro G rfl
    refine st_seq (PG1 := fun G => G = [some (.d (dChoose ((t0 :: r).map (·.d)))), none, none, some (aL (((t0 :: r).map (·.w)).map dQ)), some (aI (j : Int))]) (st_set (ev_best hf (ev_var rfl) (ev_call (ea_cons (ev_var rfl) ea_nil) ⟨t0.w, r.map (fun t : Nd => t.w), rfl, ?_, kids_fit (by omega) h, rfl⟩)) rfl) ?_
    · simp only [List.length_cons] at hl
      rw [List.length_map]
      omega
    rintro G rfl
    have hd : ((t0 :: r).map (·.d))[j]? = some t.d := by rw [List.getElem?_map, hj]; rfl
    exact st_ret (EvP.of (ev_tup (ds := [.int (j : Int), t.p]) (ea_cons (ev_var rfl) (ea_cons (ev_call (P := fun x => x = .d t.p) (ea_cons (ev_op (ev_kids (ds := []) (ev_var rfl) ev_int) (ev_var rfl) (rv_ixT hd)) ea_nil) ⟨t, h t (List.mem_of_getElem? hj), by omega, rfl, rfl⟩) ea_nil)) (by show 2 ≤ 1000; decide)) hp)
/-! ### what lies within -/
def R_inner : PR := fun _ as P => (∃ q, as = [.d (dEnd q)] ∧ P (aT [])) ∨ (∃ ds, as = [.d (dChoose ds)] ∧ P (aT ds)) ∨ ∃ cs : List (Rat × Nd), as = [.d (dLuck (cs.map lkD))] ∧ cs.length ≤ 1000 ∧ P (aT (cs.map (·.2.d)))
theorem ok_inner_trees (B : Bt mg) (D : Def c mg "inner_trees" s_inner_trees []) : Cal P w c mg base CX0 1 "inner_trees" ["tree"] (spR c R_inner) := by
  refine D.cal sc_inner_trees bd_inner_trees (lenR fun M as Pv h => by rcases h with ⟨_, e, _⟩ | ⟨_, e, _⟩ | ⟨_, e, _⟩ <;> rw [e] <;> rfl) (bodyR fun f cdv A outer s H E hr => ⟨_, (pss_cons (ps_if (pt_cmpR (op_eqD hr.units) (pe_ix ix_seq (pv 0) pe_int (fun _ _ => rfl)) pe_str (nomark _)) (pss_one (ps_ret (pe_tup pa_nil))) pss_nil)
      (pss_one (ps_ret (pe_ifExp (pt_cmpR (op_eqD hr.units) (pe_ix ix_seq (pv 0) pe_int (fun _ _ => rfl)) pe_str (nomark _)) (pe_callTy call_tupQ (by rfl) B.tuple (by decide +kernel) (pa_cons (pe_lc (own := [("row", 1)]) (g := (gName 1)) (tt := tYes) rfl sc_inner_trees.nd (pi_tup (pe_ix ix_seq (pv 0) pe_int (fun _ _ => rfl))) (blkOk_by (N := N_inner_trees) (sc := defScope s_inner_trees) (by decide +kernel)) (fun _ _ _ _ _ => (pg_name (i := 1) sc_inner_trees.nd rfl (.inl rfl))) (fun _ _ _ _ _ => pts_nil) (fun _ _ _ _ _ => (pe_ix (r := rIx c.K) ix_seq (pv 1) pe_int (fun _ _ => rfl)))) pa_nil)) (pe_callTy call_tupQ (by rfl) B.tuple (by decide +kernel) (pa_cons (pe_ix ix_seq (pv 0) pe_int (fun _ _ => rfl)) pa_nil)))))), ?_⟩)
  rintro M as Pv (⟨q, rfl, hp⟩ | ⟨ds, rfl, hp⟩ | ⟨cs, rfl, hl, hp⟩)
  · exact st_seq (PG1 := fun _ => False) (st_if (ev_kind (b := true) (by decide +kernel) (ev_var rfl) ev_int ev_str) (fun _ => st_ret (EvP.of (ev_tup (ds := []) ea_nil (by decide)) hp)) fun h => absurd h (by simp)) fun _ h => h.elim
  · refine st_seq (PG1 := fun G => G = startG 2 [.d (dChoose ds)]) (st_if (ev_kind (b := false) (by decide +kernel) (ev_var rfl) ev_int ev_str) (fun h => absurd h (by simp)) fun _ => st_next rfl) ?_
    rintro G rfl
    exact st_ret (ev_if (ev_kind (b := false) (by decide +kernel) (ev_var rfl) ev_int ev_str) (fun h => absurd h (by simp)) fun _ => EvP.of (ev_cb (ea_cons (ev_kids (ds := []) (ev_var rfl) ev_int) ea_nil) rc_tupT) hp)
  · refine st_seq (PG1 := fun G => G = startG 2 [.d (dLuck (cs.map lkD))]) (st_if (ev_kind (b := false) (by decide +kernel) (ev_var rfl) ev_int ev_str) (fun h => absurd h (by simp)) fun _ => st_next rfl) ?_
    rintro G rfl
    refine st_ret (ev_if (ev_kind (b := true) (by decide +kernel) (ev_var rfl) ev_int ev_str) (fun _ => EvP.of (ev_cb (ea_cons (ev_lc (es := cs.map (·.2.d)) (it_tup (ev_kids (ds := []) (ev_var rfl) ev_int)) (by rw [List.length_map]; omega) (by simp) ?_) ea_nil) rc_tupL) hp) fun h => absurd h (by simp))
    intro M' hM i d e hd he
    obtain ⟨t, ht, rfl, rfl⟩ := map2_at hd he
    exact ⟨_, _, tg_name, by simp, ev_op (ev_var rfl) ev_int (rv_ixT (n := 1) rfl)⟩
abbrev CalIn (P : Program) (w : World) (c : Cf) (mg : Str → Option Value) (base : Heap) : Prop := Cal P w c mg base CX0 1 "inner_trees" ["tree"] (spR c R_inner)
def R_vo (n : Nat) : PR := fun _ as P => ∃ t, TreeD n t ∧ n ≤ 7 ∧ as = [.d t.d] ∧ P (.d t.pp)
theorem ok_values_of (B : Bt mg) (D : Def c mg "values_of" s_values_of []) (c_inner_trees : CalIn P w c mg base) (hw : CalWo P w c mg base) : ∀ n, Cal P w c mg base CX0 (6 + 1 + n) "values_of" ["tree"] (spR c (R_vo n)) :=
  cal_rec 6 D sc_values_of bd_values_of (fun _ _ _ ⟨t, h, _⟩ => h.none) fun n c_values_of => by
  have c_worth := hw (n + 1)
  refine D.cal sc_values_of bd_values_of (lenR fun M as Pv ⟨_, _, _, e, _⟩ => by rw [e]; rfl) (bodyR fun f cdv A outer s H E hr => ⟨_, (pss_cons (ps_set (i := 1) sc_values_of.nd rfl (.inl rfl) (pe_ifExp (pt_cmpR (op_eqD hr.units) (pe_ix ix_seq (pv 0) pe_int (fun _ _ => rfl)) pe_str (nomark _)) (pe_tup pa_nil) (pe_callTy call_tupQ (by rfl) B.tuple (by decide +kernel) (pa_cons (pe_lc (own := [("one", 2)]) (g := (gName 2)) (tt := tYes) rfl sc_values_of.nd (pi_tup (pe_cal rfl (c_inner_trees.mono (by omega)) hr (by rfl) pass0 (pa_cons (pv 0) pa_nil))) (blkOk_by (N := N_values_of) (sc := defScope s_values_of) (by decide +kernel)) (fun _ _ _ _ _ => (pg_name (i := 2) sc_values_of.nd rfl (.inl rfl))) (fun _ _ _ _ _ => pts_nil) (fun _ _ _ _ _ => (pe_cal rfl (c_values_of.mono (by omega)) hr (by rfl) pass0 (pa_cons (pv 2) pa_nil)))) pa_nil))))
      (pss_one (ps_ret (pe_tup (pa_cons (pe_cal rfl (c_worth.mono (by omega)) hr (by rfl) pass0 (pa_cons (pv 0) pa_nil)) (pa_cons (pv 1) pa_nil)))))), ?_⟩)
  rintro M as Pv ⟨t, ht, hn, rfl, hp⟩
  obtain ⟨ps, hps, hev⟩ : ∃ ps, t.pp = dPap t.w ps ∧ ∀ {tx : TS} {g : TS}, True := by
    cases ht with
    | ends n q hb => exact ⟨_, rfl, trivial⟩
    | luck n cs h0 hl h hc hb => exact ⟨_, rfl, trivial⟩
    | choose n ts h0 hl h j t hj hf hb => exact ⟨_, rfl, trivial⟩
  refine st_seq (PG1 := fun G => ∃ z, G = [some (.d t.d), some (aT ps), z]) (st_asg (Pa := fun a => a = aT ps) ?_ ?_) ?_
  · cases ht with
    | ends n q hb =>
      obtain rfl : ps = [] := by have : dPap q [] = dPap q ps := hps; unfold dPap at this; simpa using this.symm
      exact ev_if (ev_kind (b := true) (by decide +kernel) (ev_var rfl) ev_int ev_str) (fun _ => ev_tup (ds := []) ea_nil (by decide)) fun h => absurd h (by simp)
    | luck n cs h0 hl h hc hb =>
      obtain rfl : ps = cs.map (·.2.pp) := by unfold dPap at hps; simpa using hps.symm
      refine ev_if (ev_kind (b := false) (by decide +kernel) (ev_var rfl) ev_int ev_str) (fun h => absurd h (by simp)) fun _ => ev_cb (ea_cons (ev_lc (es := cs.map (·.2.pp)) (it_tup (ev_call (ea_cons (ev_var rfl) ea_nil) (.inr (.inr ⟨cs, rfl, by omega, rfl⟩)))) (by rw [List.length_map]; omega) (by simp) ?_) ea_nil) rc_tupL
      intro M' hM i d e hd he
      obtain ⟨t, ht, rfl, rfl⟩ := map2_at hd he
      exact ⟨_, _, tg_name, by simp, ev_call (ea_cons (ev_var rfl) ea_nil) ⟨t.2, h t (List.mem_of_getElem? ht), by omega, rfl, rfl⟩⟩
    | choose n ts h0 hl h j t hj hf hb =>
      obtain rfl : ps = ts.map (·.pp) := by unfold dPap at hps; simpa using hps.symm
      refine ev_if (ev_kind (b := false) (by decide +kernel) (ev_var rfl) ev_int ev_str) (fun h => absurd h (by simp)) fun _ => ev_cb (ea_cons (ev_lc (es := ts.map (·.pp)) (it_tup (ev_call (ea_cons (ev_var rfl) ea_nil) (.inr (.inl ⟨_, rfl, rfl⟩)))) (by rw [List.length_map]; omega) (by simp) ?_) ea_nil) rc_tupL
      intro M' hM i d e hd he
      obtain ⟨t, ht, rfl, rfl⟩ := map2_at hd he
      exact ⟨_, _, tg_name, by simp, ev_call (ea_cons (ev_var rfl) ea_nil) ⟨t, h t (List.mem_of_getElem? ht), by omega, rfl, rfl⟩⟩
  · rintro a rfl
    exact ⟨_, _, tg_name, none, rfl⟩
  · rintro G ⟨z, rfl⟩
    rw [hps] at hp
    exact st_ret (EvP.of (ev_tup (ds := [dQ t.w, .tuple ps]) (ea_cons (ev_call (P := fun x => x = aQ t.w) (ea_cons (ev_var rfl) ea_nil) ⟨t, ht, hn, rfl, rfl⟩) (ea_cons (ev_var rfl) ea_nil)) (by show 2 ≤ 1000; decide)) hp)
end
end LW

/-! trees.py: worth_by, check_values, check_plan; the law's own worth and plan. -/
namespace LW
open L2 PySem PySem.Spec PyProof.Rows
section
variable {P : Program} {w : World} {c : Cf} {mg : Str → Option Value} {base : Heap}
/-! ### the law's own going up -/
theorem ok_law_worth (B : Bt mg) (D : Def c mg "_law_worth" s_law_worth []) (c_greatest_of : CalGr P w c mg base) (c_plus : CalPl P w c mg base) (c_times : CalTi P w c mg base) : ∀ n, Cal P w c mg base CX0 (4 + 1 + n) "_law_worth" ["tree"] (spR c (R_worth n)) :=
  cal_rec 4 D sc_law_worth bd_law_worth (fun _ _ _ ⟨t, h, _⟩ => h.none) fun n c_law_worth => by
  refine D.cal sc_law_worth bd_law_worth (lenR fun M as Pv ⟨_, _, _, e, _⟩ => by rw [e]; rfl) (bodyR fun f cdv A outer s H E hr => ⟨_, (pss_cons (ps_if (pt_cmpR (op_eqD hr.units) (pe_ix ix_seq (pv 0) pe_int (fun _ _ => rfl)) pe_str (nomark _)) (pss_one (ps_ret (pe_ix ix_seq (pv 0) pe_int (fun _ _ => rfl)))) pss_nil)
      (pss_cons (ps_if (pt_cmpR (op_eqD hr.units) (pe_ix ix_seq (pv 0) pe_int (fun _ _ => rfl)) pe_str (nomark _)) (pss_one (ps_ret (pe_cal rfl (c_greatest_of.mono (by omega)) hr (by rfl) pass0 (pa_cons (pe_lc (own := [("one", 1)]) (g := (gName 1)) (tt := tYes) rfl sc_law_worth.nd (pi_tup (pe_ix ix_seq (pv 0) pe_int (fun _ _ => rfl))) (blkOk_by (N := N_law_worth) (sc := defScope s_law_worth) (by decide +kernel)) (fun _ _ _ _ _ => (pg_name (i := 1) sc_law_worth.nd rfl (.inl rfl))) (fun _ _ _ _ _ => pts_nil) (fun _ _ _ _ _ => (pe_cal rfl (c_law_worth.mono (by omega)) hr (by rfl) pass0 (pa_cons (pv 1) pa_nil)))) pa_nil)))) pss_nil)
      (pss_cons (ps_set (i := 2) sc_law_worth.nd rfl (.inl rfl) (pe_tup (pa_cons pe_int (pa_cons pe_int pa_nil))))
      (pss_cons (ps_for PassesOwn.never rfl (pi_tup (pe_ix ix_seq (pv 0) pe_int (fun _ _ => rfl))) (pg_tup rfl (pgs_cons (pg_name (i := 3) sc_law_worth.nd rfl (.inl rfl)) (pgs_cons (pg_name (i := 1) sc_law_worth.nd rfl (.inl rfl)) pgs_nil))) (pss_one (ps_set (i := 2) sc_law_worth.nd rfl (.inl rfl) (pe_cal rfl (c_plus.mono (by omega)) hr (by rfl) pass0 (pa_cons (pv 2) (pa_cons (pe_cal rfl (c_times.mono (by omega)) hr (by rfl) pass0 (pa_cons (pv 3) (pa_cons (pe_cal rfl (c_law_worth.mono (by omega)) hr (by rfl) pass0 (pa_cons (pv 1) pa_nil)) pa_nil))) pa_nil))))))
      (pss_one (ps_ret (pv 2))))))), ?_⟩)
  rintro M as Pv ⟨t, ht, hn, rfl, hp⟩
  cases ht with
  | ends n q hb =>
    exact st_seq (PG1 := fun _ => False) (st_if (ev_kind (b := true) (by decide +kernel) (ev_var rfl) ev_int ev_str) (fun _ => st_ret (EvP.of (ev_kids (ds := []) (ev_var rfl) ev_int) hp)) fun h => absurd h (by simp)) fun _ h => h.elim
  | choose n ts h0 hl h j t hj hf hb =>
    refine st_seq (PG1 := fun G => G = startG 4 [.d (dChoose (ts.map (·.d)))]) (st_if (ev_kind (b := false) (by decide +kernel) (ev_var rfl) ev_int ev_str) (fun h => absurd h (by simp)) fun _ => st_next rfl) ?_
    rintro G rfl
    refine st_seq (PG1 := fun _ => False) (st_if (ev_kind (b := true) (by decide +kernel) (ev_var rfl) ev_int ev_str) (fun _ => st_ret ?_) fun h => absurd h (by simp)) fun _ h => h.elim
    obtain ⟨t0, r, rfl⟩ := List.exists_cons_of_ne_nil h0
    refine ev_call (ea_cons (ev_lc (es := ((t0 :: r).map (·.w)).map dQ) (it_tup (ev_kids (ds := []) (ev_var rfl) ev_int)) (by rw [List.length_map]; omega) (by simp) ?_) ea_nil) ⟨t0.w, r.map (fun t : Nd => t.w), rfl, ?_, kids_fit (by omega) h, hp⟩
    · intro M' hM i d e hd he
      rw [List.map_map] at he
      obtain ⟨t, ht, rfl, rfl⟩ := map2_at hd he
      exact ⟨_, _, tg_name, by simp, ev_call (ea_cons (ev_var rfl) ea_nil) ⟨t, h t (List.mem_of_getElem? ht), by omega, rfl, rfl⟩⟩
    · simp only [List.length_cons] at hl
      rw [List.length_map]
      omega
  | luck n cs h0 hl h hc hb =>
    refine st_seq (PG1 := fun G => G = startG 4 [.d (dLuck (cs.map lkD))]) (st_if (ev_kind (b := false) (by decide +kernel) (ev_var rfl) ev_int ev_str) (fun h => absurd h (by simp)) fun _ => st_next rfl) ?_
    rintro G rfl
    refine st_seq (PG1 := fun G => G = startG 4 [.d (dLuck (cs.map lkD))]) (st_if (ev_kind (b := false) (by decide +kernel) (ev_var rfl) ev_int ev_str) (fun h => absurd h (by simp)) fun _ => st_next rfl) ?_
    rintro G rfl
    refine st_seq (PG1 := fun G => G = [some (.d (dLuck (cs.map lkD))), none, some (aQ 0), none]) (st_set (ev_tup (ds := [.int 0, .int 1]) (ea_cons ev_int (ea_cons ev_int ea_nil)) (by show 2 ≤ 1000; decide)) rfl) ?_
    rintro G rfl
    refine st_seq (PG1 := fun G => ∃ y z, G = [some (.d (dLuck (cs.map lkD))), y, some (aQ (sumQ (cs.map lkW))), z]) (st_for (it_tup (ev_kids (ds := []) (ev_var rfl) ev_int)) (fun i G => ∃ y z, G = [some (.d (dLuck (cs.map lkD))), y, some (aQ (((cs.map lkW).take i).foldl (· + ·) 0)), z]) ⟨none, none, rfl⟩ ?_ ?_) ?_
    · rintro i d G hd ⟨y, z, rfl⟩
      obtain ⟨t, hx, rfl⟩ := map_at hd
      have hm := List.mem_of_getElem? hx
      have hw : (cs.map lkW)[i]? = some (lkW t) := by rw [List.getElem?_map, hx]; rfl
      refine ⟨_, _, tg_tup2 tg_name tg_name, st_asg (Pa := fun a => a = aQ (((cs.map lkW).take i).foldl (· + ·) 0 + lkW t)) ?_ ?_⟩
      · refine ev_call (ea_cons (ev_var rfl) (ea_cons (ev_call (P := fun x => x = aQ (lkW t)) (ea_cons (ev_var rfl) (ea_cons (ev_call (P := fun x => x = aQ t.2.w) (ea_cons (ev_var rfl) ea_nil) ⟨t.2, h t hm, by omega, rfl, rfl⟩) ea_nil)) ⟨t.1, t.2.w, rfl, luck_fit2 (by omega) (h t hm) (hc t hm), rfl⟩) ea_nil)) ⟨_, _, rfl, sumOk_at _ 0 i _ (luck_sum (by omega) hl h hc) hw, rfl⟩
      · rintro a rfl
        refine ⟨_, _, tg_name, some (.d t.2.d), some (aQ t.1), ?_⟩
        rw [take_fold _ (cs.map lkW) 0 i _ hw]
        rfl
    · rintro G ⟨y, z, rfl⟩
      refine ⟨y, z, ?_⟩
      rw [List.length_map, ← List.length_map (f := lkW), List.take_length]
      rfl
    · rintro G ⟨y, z, rfl⟩
      exact st_ret (EvP.of (ev_var rfl) hp)
abbrev CalLw (P : Program) (w : World) (c : Cf) (mg : Str → Option Value) (base : Heap) : Prop := ∀ n, Cal P w c mg base CX0 (4 + 1 + n) "_law_worth" ["tree"] (spR c (R_worth n))
theorem ok_law_first (B : Bt mg) (D : Def c mg "_law_first" s_law_first []) (c_greatest_of : CalGr P w c mg base) (hw : CalLw P w c mg base) : ∀ n, Cal P w c mg base CX0 (5 + 1 + n) "_law_first" ["tree"] (spR c (R_plan n)) :=
  cal_rec 5 D sc_law_first bd_law_first (fun _ _ _ ⟨t, h, _⟩ => h.none) fun n c_law_first => by
  have c_law_worth := hw n
  refine D.cal sc_law_first bd_law_first (lenR fun M as Pv ⟨_, _, _, e, _⟩ => by rw [e]; rfl) (bodyR fun f cdv A outer s H E hr => ⟨_, (pss_cons (ps_if (pt_cmpR (op_eqD hr.units) (pe_ix ix_seq (pv 0) pe_int (fun _ _ => rfl)) pe_str (nomark _)) (pss_one (ps_ret (pe_tup pa_nil))) pss_nil)
      (pss_cons (ps_if (pt_cmpR (op_eqD hr.units) (pe_ix ix_seq (pv 0) pe_int (fun _ _ => rfl)) pe_str (nomark _)) (pss_one (ps_ret (pe_callTy call_tupQ (by rfl) B.tuple (by decide +kernel) (pa_cons (pe_lc (own := [("chance", 1), ("one", 2)]) (g := (gTup c.K 2 (gCons (gName 1) (gCons (gName 2) gNil)))) (tt := tYes) rfl sc_law_first.nd (pi_tup (pe_ix ix_seq (pv 0) pe_int (fun _ _ => rfl))) (blkOk_by (N := N_law_first) (sc := defScope s_law_first) (by decide +kernel)) (fun _ _ _ _ _ => (pg_tup rfl (pgs_cons (pg_name (i := 1) sc_law_first.nd rfl (.inl rfl)) (pgs_cons (pg_name (i := 2) sc_law_first.nd rfl (.inl rfl)) pgs_nil)))) (fun _ _ _ _ _ => pts_nil) (fun _ _ _ _ _ => (pe_cal rfl (c_law_first.mono (by omega)) hr (by rfl) pass0 (pa_cons (pv 2) pa_nil)))) pa_nil)))) pss_nil)
      (pss_cons (ps_setLc (i := 3) (own := [("one", 2)]) (g := (gName 2)) (tt := tYes) rfl sc_law_first.nd rfl rfl (sw_true rfl rfl rfl (by decide +kernel)) (pi_tup (pe_ix ix_seq (pv 0) pe_int (fun _ _ => rfl))) (blkOk_by (N := N_law_first) (sc := defScope s_law_first) (by decide +kernel)) (fun _ _ _ _ _ => (pg_name (i := 2) sc_law_first.nd rfl (.inl rfl))) (fun _ _ _ _ _ => pts_nil) (fun _ _ _ _ _ => (pe_cal rfl (c_law_worth.mono (by omega)) hr (by rfl) pass0 (pa_cons (pv 2) pa_nil))))
      (pss_cons (ps_set (i := 4) sc_law_first.nd rfl (.inl rfl) (pe_bm PySem.F.plainAttrs_list PySem.F.slot_list_index PySem.F.type_list_index (mt_indexD (units1 hr)) (pv 3) (pa_cons (pe_cal rfl (c_greatest_of.mono (by omega)) hr (by rfl) pass0 (pa_cons (pv 3) pa_nil)) pa_nil)))
      (pss_one (ps_ret (pe_tup (pa_cons (pv 4) (pa_cons (pe_cal rfl (c_law_first.mono (by omega)) hr (by rfl) pass0 (pa_cons (pe_ix ix_seq (pe_ix ix_seq (pv 0) pe_int (fun _ _ => rfl)) (pv 4) (fun _ _ => rfl)) pa_nil)) pa_nil))))))))), ?_⟩)
  rintro M as Pv ⟨t, ht, hn, rfl, hp⟩
  cases ht with
  | ends n q hb =>
    exact st_seq (PG1 := fun _ => False) (st_if (ev_kind (b := true) (by decide +kernel) (ev_var rfl) ev_int ev_str) (fun _ => st_ret (EvP.of (ev_tup (ds := []) ea_nil (by decide)) hp)) fun h => absurd h (by simp)) fun _ h => h.elim
  | luck n cs h0 hl h hc hb =>
    refine st_seq (PG1 := fun G => G = startG 5 [.d (dLuck (cs.map lkD))]) (st_if (ev_kind (b := false) (by decide +kernel) (ev_var rfl) ev_int ev_str) (fun h => absurd h (by simp)) fun _ => st_next rfl) ?_
    rintro G rfl
    refine st_seq (PG1 := fun _ => False) (st_if (ev_kind (b := true) (by decide +kernel) (ev_var rfl) ev_int ev_str) (fun _ => st_ret (EvP.of (ev_cb (ea_cons (ev_lc (es := cs.map (·.2.p)) (it_tup (ev_kids (ds := []) (ev_var rfl) ev_int)) (by rw [List.length_map]; omega) (by simp) ?_) ea_nil) rc_tupL) hp)) fun h => absurd h (by simp)) fun _ h => h.elim
    intro M' hM i d e hd he
    obtain ⟨t, ht, rfl, rfl⟩ := map2_at hd he
    exact ⟨_, _, tg_tup2 tg_name tg_name, by simp, ev_call (ea_cons (ev_var rfl) ea_nil) ⟨t.2, h t (List.mem_of_getElem? ht), by omega, rfl, rfl⟩⟩
  | choose n ts h0 hl h j t hj hf hb =>
    refine st_seq (PG1 := fun G => G = startG 5 [.d (dChoose (ts.map (·.d)))]) (st_if (ev_kind (b := false) (by decide +kernel) (ev_var rfl) ev_int ev_str) (fun h => absurd h (by simp)) fun _ => st_next rfl) ?_
    rintro G rfl
    refine st_seq (PG1 := fun G => G = startG 5 [.d (dChoose (ts.map (·.d)))]) (st_if (ev_kind (b := false) (by decide +kernel) (ev_var rfl) ev_int ev_str) (fun h => absurd h (by simp)) fun _ => st_next rfl) ?_
    rintro G rfl
    obtain ⟨t0, r, rfl⟩ := List.exists_cons_of_ne_nil h0
    refine st_seq (PG1 := fun G => G = [some (.d (dChoose ((t0 :: r).map (·.d)))), none, none, some (aL (((t0 :: r).map (·.w)).map dQ)), none]) (st_set (ev_lc (es := ((t0 :: r).map (·.w)).map dQ) (it_tup (ev_kids (ds := []) (ev_var rfl) ev_int)) (by rw [List.length_map]; omega) (by simp) ?_) rfl) ?_
    · intro M' hM i d e hd he
      rw [List.map_map] at he
      obtain ⟨t, ht, rfl, rfl⟩ := map2_at hd he
      exact ⟨_, _, tg_name, by simp, ev_call (ea_cons (ev_var rfl) ea_nil) ⟨t, h t (List.mem_of_getElem? ht), by omega, rfl, rfl⟩⟩
    rintro G rfl
    refine st_seq (PG1 := fun G => G = [some (.d (dChoose ((t0 :: r).map (·.d)))), none, none, some (aL (((t0 :: r).map (·.w)).map dQ)), some (aI (j : Int))]) (st_set (ev_best hf (ev_var rfl) (ev_call (ea_cons (ev_var rfl) ea_nil) ⟨t0.w, r.map (fun t : Nd => t.w), rfl, ?_, kids_fit (by omega) h, rfl⟩)) rfl) ?_
    · simp only [List.length_cons] at hl
      rw [List.length_map]
      omega
    rintro G rfl
    have hd : ((t0 :: r).map (·.d))[j]? = some t.d := by rw [List.getElem?_map, hj]; rfl
    exact st_ret (EvP.of (ev_tup (ds := [.int (j : Int), t.p]) (ea_cons (ev_var rfl) (ea_cons (ev_call (P := fun x => x = .d t.p) (ea_cons (ev_op (ev_kids (ds := []) (ev_var rfl) ev_int) (ev_var rfl) (rv_ixT hd)) ea_nil) ⟨t, h t (List.mem_of_getElem? hj), by omega, rfl, rfl⟩) ea_nil)) (by show 2 ≤ 1000; decide)) hp)
/-! ### a plan's worth -/
def R_wb (n : Nat) : PR := fun _ as P => ∃ t, TreeD n t ∧ n ≤ 7 ∧ as = [.d t.d, .d t.p] ∧ P (aQ t.w)
theorem TreeD.plan_tup {n : Nat} {t : Nd} (h : TreeD n t) : ∃ ps, t.p = .tuple ps := by
  cases h with
  | ends n q hb => exact ⟨_, rfl⟩
  | luck n cs h0 hl h hc hb => exact ⟨_, rfl⟩
  | choose n ts h0 hl h j t hj hf hb => exact ⟨_, rfl⟩
theorem ok_worth_by (B : Bt mg) (D : Def c mg "worth_by" s_worth_by []) (c_total : CalTo P w c mg base) (c_times : CalTi P w c mg base) : ∀ n, Cal P w c mg base CX0 (4 + 1 + n) "worth_by" ["tree", "steps"] (spR c (R_wb n)) :=
  cal_rec 4 D sc_worth_by bd_worth_by (fun _ _ _ ⟨t, h, _⟩ => h.none) fun n c_worth_by => by
  refine D.cal sc_worth_by bd_worth_by (lenR fun M as Pv ⟨_, _, _, e, _⟩ => by rw [e]; rfl) (bodyR fun f cdv A outer s H E hr => ⟨_, (pss_cons (ps_if (pt_not (pt_val (pe_callB call_isiT (by rfl) B.isinstance (by decide +kernel) (pa_cons (pv 1) (pa_cons (pe_tup (pa_cons (pe_bltn (v := .ty "tuple") (by rfl) B.tuple (by decide +kernel) rfl) (pa_cons (pe_bltn (v := .ty "list") (by rfl) B.list (by decide +kernel) rfl) pa_nil))) pa_nil))))) (pss_one ps_never) pss_nil)
      (pss_cons (ps_if (pt_cmpR (op_eqD hr.units) (pe_ix ix_seq (pv 0) pe_int (fun _ _ => rfl)) pe_str (nomark _)) (pss_cons (ps_if (pt_cmpR (op_neD hr.units) (pe_callB call_lenQ (by rfl) B.len PySem.boot_len (pa_cons (pv 1) pa_nil)) pe_int (nomark _)) (pss_one ps_never) pss_nil)
      (pss_one (ps_ret (pe_ix ix_seq (pv 0) pe_int (fun _ _ => rfl))))) pss_nil)
      (pss_cons (ps_if (pt_cmpR (op_eqD hr.units) (pe_ix ix_seq (pv 0) pe_int (fun _ _ => rfl)) pe_str (nomark _)) (pss_cons (ps_if (pt_cmpR (op_neD hr.units) (pe_callB call_lenQ (by rfl) B.len PySem.boot_len (pa_cons (pv 1) pa_nil)) (pe_callB call_lenQ (by rfl) B.len PySem.boot_len (pa_cons (pe_ix ix_seq (pv 0) pe_int (fun _ _ => rfl)) pa_nil)) (nomark _)) (pss_one ps_never) pss_nil)
      (pss_cons (ps_set (i := 2) sc_worth_by.nd rfl (.inl rfl) (pe_callTy call_zipV (by rfl) B.zip (by decide +kernel) (pa_cons (pe_ix ix_seq (pv 0) pe_int (fun _ _ => rfl)) (pa_cons (pv 1) pa_nil))))
      (pss_one (ps_ret (pe_cal rfl (c_total.mono (by omega)) hr (by rfl) pass0 (pa_cons (pe_lc (own := [("chance", 3), ("inner", 4), ("step", 5)]) (g := (gTup c.K 2 (gCons (gTup c.K 2 (gCons (gName 3) (gCons (gName 4) gNil))) (gCons (gName 5) gNil)))) (tt := tYes) rfl sc_worth_by.nd (pi_zipV (k := 2) rfl (Or.inl rfl)) (blkOk_by (N := N_worth_by) (sc := defScope s_worth_by) (by decide +kernel)) (fun _ _ _ _ _ => (pg_tup rfl (pgs_cons (pg_tup rfl (pgs_cons (pg_name (i := 3) sc_worth_by.nd rfl (.inl rfl)) (pgs_cons (pg_name (i := 4) sc_worth_by.nd rfl (.inl rfl)) pgs_nil))) (pgs_cons (pg_name (i := 5) sc_worth_by.nd rfl (.inl rfl)) pgs_nil)))) (fun _ _ _ _ _ => pts_nil) (fun _ _ _ _ _ => (pe_cal rfl (c_times.mono (by omega)) hr (by rfl) pass0 (pa_cons (pv 3) (pa_cons (pe_cal rfl (c_worth_by.mono (by omega)) hr (by rfl) pass0 (pa_cons (pv 4) (pa_cons (pv 5) pa_nil))) pa_nil))))) pa_nil)))))) pss_nil)
      (pss_cons (ps_if (PW.pt (pw_or (pt_cmpR (op_neD hr.units) (pe_callB call_lenQ (by rfl) B.len PySem.boot_len (pa_cons (pv 1) pa_nil)) pe_int (nomark _)) (pw_or (pt_not (pt_val (pe_callB call_isi (by rfl) B.isinstance (by decide +kernel) (pa_cons (pe_ix ix_seq (pv 1) pe_int (fun _ _ => rfl)) (pa_cons (pe_bltn (v := .ty "int") (by rfl) B.int (by decide +kernel) rfl) pa_nil))))) (pw_or1 (pt_not (pt_chain op_le op_lt pe_int (pe_ix ix_seq (pv 1) pe_int (fun _ _ => rfl)) (pe_callB call_lenQ (by rfl) B.len PySem.boot_len (pa_cons (pe_ix ix_seq (pv 0) pe_int (fun _ _ => rfl)) pa_nil)))))))) (pss_one ps_never) pss_nil)
      (pss_one (ps_ret (pe_cal rfl (c_worth_by.mono (by omega)) hr (by rfl) pass0 (pa_cons (pe_ix ix_seq (pe_ix ix_seq (pv 0) pe_int (fun _ _ => rfl)) (pe_ix ix_seq (pv 1) pe_int (fun _ _ => rfl)) (fun _ _ => rfl)) (pa_cons (pe_ix ix_seq (pv 1) pe_int (fun _ _ => rfl)) pa_nil))))))))), ?_⟩)
  rintro M as Pv ⟨t, ht, hn, rfl, hp⟩
  refine st_seq (PG1 := fun G => G = startG 6 [.d t.d, .d t.p]) (st_if (b := false) ?_ (fun h => absurd h (by simp)) fun _ => st_next rfl) ?_
  · obtain ⟨ps, e⟩ := ht.plan_tup
    rw [e]
    exact et_not (et_B (ev_isTup (ev_var rfl)))
  rintro G rfl
  cases ht with
  | ends n q hb =>
    refine st_seq (PG1 := fun _ => False) (st_if (ev_kind (b := true) (by decide +kernel) (ev_var rfl) ev_int ev_str) (fun _ => ?_) fun h => absurd h (by simp)) fun _ h => h.elim
    refine st_seq (PG1 := fun G => G = startG 6 [.d (dEnd q), .d (.tuple [])]) (st_if (b := false) (et_test (ev_op (ev_cb (ea_cons (ev_var rfl) ea_nil) rc_lenT) ev_int rv_neDI)) (fun h => absurd h (by simp)) fun _ => st_next rfl) ?_
    rintro G rfl
    exact st_ret (EvP.of (ev_kids (ds := []) (ev_var rfl) ev_int) hp)
  | luck n cs h0 hl h hc hb =>
    refine st_seq (PG1 := fun G => G = startG 6 [.d (dLuck (cs.map lkD)), .d (.tuple (cs.map (·.2.p)))]) (st_if (ev_kind (b := false) (by decide +kernel) (ev_var rfl) ev_int ev_str) (fun h => absurd h (by simp)) fun _ => st_next rfl) ?_
    rintro G rfl
    refine st_seq (PG1 := fun _ => False) (st_if (ev_kind (b := true) (by decide +kernel) (ev_var rfl) ev_int ev_str) (fun _ => ?_) fun h => absurd h (by simp)) fun _ h => h.elim
    refine st_seq (PG1 := fun G => G = startG 6 [.d (dLuck (cs.map lkD)), .d (.tuple (cs.map (·.2.p)))]) (st_if (b := false) (et_is (et_test (ev_op (ev_cb (ea_cons (ev_var rfl) ea_nil) rc_lenT) (ev_cb (ea_cons (ev_kids (ds := []) (ev_var rfl) ev_int) ea_nil) rc_lenT) rv_neDI)) (by simp)) (fun h => absurd h (by simp)) fun _ => st_next rfl) ?_
    rintro G rfl
    refine st_zipret (fs := (cs.map lkW).map dQ) (ea_cons (ev_kids (ds := []) (ev_var rfl) ev_int) (ea_cons (ev_var rfl) ea_nil)) (by rw [List.length_map]; omega) (by show 2 < 6; decide) (by rw [zipD_len]; simp) ?_ ⟨cs.map lkW, rfl, by rw [List.length_map]; omega, luck_sum (by omega) hl h hc, hp⟩
    intro M' hM i d e hd he
    obtain ⟨x, y, hx, hy, rfl⟩ := zipD_at hd
    rw [List.map_map] at he
    obtain ⟨t, ht, rfl, rfl⟩ := map2_at hx he
    rw [List.getElem?_map, ht] at hy
    obtain rfl := someI hy
    have hm := List.mem_of_getElem? ht
    refine ⟨_, _, tg_tup2 (tg_tup2 tg_name tg_name) tg_name, by simp, ?_⟩
    exact ev_call (ea_cons (ev_var rfl) (ea_cons (ev_call (P := fun x => x = aQ t.2.w) (ea_cons (ev_var rfl) (ea_cons (ev_var rfl) ea_nil)) ⟨t.2, h t hm, by omega, rfl, rfl⟩) ea_nil)) ⟨t.1, t.2.w, rfl, luck_fit2 (by omega) (h t hm) (hc t hm), rfl⟩
  | choose n ts h0 hl h j t hj hf hb =>
    refine st_seq (PG1 := fun G => G = startG 6 [.d (dChoose (ts.map (·.d))), .d (.tuple [.int (j : Int), t.p])]) (st_if (ev_kind (b := false) (by decide +kernel) (ev_var rfl) ev_int ev_str) (fun h => absurd h (by simp)) fun _ => st_next rfl) ?_
    rintro G rfl
    refine st_seq (PG1 := fun G => G = startG 6 [.d (dChoose (ts.map (·.d))), .d (.tuple [.int (j : Int), t.p])]) (st_if (ev_kind (b := false) (by decide +kernel) (ev_var rfl) ev_int ev_str) (fun h => absurd h (by simp)) fun _ => st_next rfl) ?_
    rintro G rfl
    have hlt : j < ts.length := (List.getElem?_eq_some_iff.mp hj).1
    refine st_seq (PG1 := fun G => G = startG 6 [.d (dChoose (ts.map (·.d))), .d (.tuple [.int (j : Int), t.p])]) (st_if (b := false) (et_is (et_or (et_test (ev_op (ev_cb (ea_cons (ev_var rfl) ea_nil) rc_lenT) ev_int rv_neDI)) fun _ => et_or (et_not (et_B (ev_isInt (ev_op (ev_var rfl) ev_int (rv_ixT (n := 0) rfl))))) fun _ => et_not (et_test (ev_chain (y := aI (j : Int)) ev_int (ev_op (ev_var rfl) ev_int (rv_ixT (n := 0) rfl)) rv_B0 (fun _ => ev_cb (ea_cons (ev_kids (ds := []) (ev_var rfl) ev_int) ea_nil) rc_lenT) fun _ => rv_B0))) ?_) (fun h => absurd h (by simp)) fun _ => st_next rfl) ?_
    · simp
      omega
    rintro G rfl
    have hd : (ts.map (·.d))[j]? = some t.d := by rw [List.getElem?_map, hj]; rfl
    have hw : maxQ (ts.map (·.w)) = t.w := by
      have := hf.1
      rw [List.getElem?_map, hj] at this
      exact (someI this).symm
    have hp : Pv (aQ (maxQ (ts.map (·.w)))) := hp
    rw [hw] at hp
    exact st_ret (ev_call (ea_cons (ev_op (ev_kids (ds := []) (ev_var rfl) ev_int) (ev_op (ev_var rfl) ev_int (rv_ixT (n := 0) rfl)) (rv_ixT hd)) (ea_cons (ev_op (ev_var rfl) ev_int (rv_ixT (n := 1) rfl)) ea_nil)) ⟨t, h t (List.mem_of_getElem? hj), by omega, rfl, hp⟩)
end
end LW

/-! trees.py: papers and what they show; they may be refused. -/
namespace LW
open L2 PySem PySem.Spec PyProof.Rows
section
variable {P : Program} {w : World} {c : Cf} {mg : Str → Option Value} {base : Heap} {bp : Addr}
theorem CalX.none {CX : CXT} {x : Str} {ps N : List Str} {st : Stmt} {R : Nat → PRX} {cls : Value} (L : Nat) (D : Def c mg x st []) (S : FnScope N ps (defScope st)) (hb : bindsAs x x st ps) (h0 : ∀ M as B Pv, ¬ R 0 M as B Pv)
    (step : ∀ n, Cal P w c mg base CX (L + 1 + n) x ps (spX c cls (R n)) → Cal P w c mg base CX (L + 1 + n + 1) x ps (spX c cls (R (n + 1)))) : ∀ n, Cal P w c mg base CX (L + 1 + n) x ps (spX c cls (R n))
  | 0 => Cal.none (dvs := []) D S hb (spX_none h0)
  | n + 1 => step n (CalX.none L D S hb h0 step n)
/-- a paper of a tree: its worth v ahead of the papers within; refused where v is less -/
def R_cv (n : Nat) : PRX := fun _ as B P => ∃ t v ps, TreeD n t ∧ n ≤ 7 ∧ t.pp = dPap t.w ps ∧ Fit v ∧ (B ↔ v < t.w) ∧ as = [.d t.d, .d (dPap v ps)] ∧ P (.d .none)
theorem TreeD.paper {n : Nat} {t : Nd} (h : TreeD n t) : ∃ ps, t.pp = dPap t.w ps := by
  cases h with
  | ends n q hb => exact ⟨_, rfl⟩
  | luck n cs h0 hl h hc hb => exact ⟨_, rfl⟩
  | choose n ts h0 hl h j t hj hf hb => exact ⟨_, rfl⟩
theorem pap_inj {a : Rat} {ps qs : List PyData} (h : dPap a ps = dPap a qs) : ps = qs := by
  unfold dPap at h
  simpa using h
theorem maxQ_in {t0 : Rat} {r : List Rat} : maxQ (t0 :: r) ∈ t0 :: r := fold_in r t0
/-- the trees within, in order -/
structure Kids (n : Nat) (t : Nd) (ds : List Nd) : Prop where
  pp : t.pp = dPap t.w (ds.map (·.pp))
  tr : ∀ x ∈ ds, TreeD n x
  le : ds.length ≤ 3
  inn : ∀ M P, P (aT (ds.map (·.d))) → R_inner M [.d t.d] P
  kind : (t.d = dEnd t.w ∧ ds = []) ∨ (∃ cs : List (Rat × Nd), t.d = dLuck (cs.map lkD) ∧ ds = cs.map (·.2) ∧ t.w = sumQ (cs.map lkW) ∧ cs.length ≤ 3 ∧ (∀ x ∈ cs, ChT x.1)) ∨ (t.d = dChoose (ds.map (·.d)) ∧ ds ≠ [] ∧ t.w = maxQ (ds.map (·.w)))
theorem TreeD.kids {n : Nat} {t : Nd} (ht : TreeD (n + 1) t) : ∃ ds : List Nd, Kids n t ds := by
  cases ht with
  | ends n q hb => exact ⟨[], rfl, by simp, by simp, fun M P h => .inl ⟨_, rfl, h⟩, .inl ⟨rfl, rfl⟩⟩
  | luck n cs h0 hl h' hc hb =>
    refine ⟨cs.map (·.2), ?_, fun x hx => ?_, by rw [List.length_map]; omega, fun M P h => .inr (.inr ⟨cs, rfl, by omega, ?_⟩), .inr (.inl ⟨cs, rfl, rfl, rfl, hl, hc⟩)⟩
    · rw [List.map_map]
      rfl
    · obtain ⟨y, hy, rfl⟩ := List.mem_map.mp hx
      exact h' y hy
    · rw [List.map_map] at h
      exact h
  | choose n ts h0 hl h' j t hj hf hb =>
    exact ⟨ts, rfl, h', hl, fun M P h => .inr (.inl ⟨_, rfl, h⟩), .inr (.inr ⟨rfl, h0, rfl⟩)⟩
theorem pp_ix {n : Nat} {x : Nd} (h : TreeD n x) : ∃ r, x.pp = .tuple (dQ x.w :: r) := by
  obtain ⟨ps, e⟩ := h.paper
  exact ⟨[.tuple ps], e⟩
theorem rv_ppw {M : Mu} {n : Nat} {x : Nd} (h : TreeD n x) : RvD c M (rIx c.K) (.d x.pp) (aI (0 : Nat)) (aQ x.w) := by
  obtain ⟨r, e⟩ := pp_ix h
  rw [e]
  exact rv_ixT rfl
theorem ok_check_values (B : Bt mg) (bP : BadP c mg "BadPaper" bp) (D : Def c mg "check_values" s_check_values []) (c_inner_trees : CalIn P w c mg base) (c_total : CalTo P w c mg base) (c_times : CalTi P w c mg base) (c_greatest_of : CalGr P w c mg base) :
    ∀ n, Cal P w c mg base (L2.CX P w) (4 + 1 + n) "check_values" ["tree", "paper"] (spX c (.ref bp) (R_cv n)) :=
  CalX.none 4 D sc_check_values bd_check_values (fun _ _ _ _ ⟨t, _, _, h, _⟩ => h.none) fun n c_check_values => by
  refine D.cal sc_check_values bd_check_values (lenX fun M as B Pv ⟨_, _, _, _, _, _, _, _, e, _⟩ => by rw [e]; rfl) (bodyX fun f cdv A outer s H E hr => ⟨_, (pss_cons (PS.quiet (ps_asg (pv 1) (pg_tup rfl (pgs_cons (pg_name (i := 2) sc_check_values.nd rfl (.inl rfl)) (pgs_cons (pg_name (i := 3) sc_check_values.nd rfl (.inl rfl)) pgs_nil)))))
      (pss_cons (PS.quiet (ps_if (pt_cmpR (op_neD hr.units) (pe_callB call_lenQ (by rfl) B.len PySem.boot_len (pa_cons (pv 3) pa_nil)) (pe_callB call_lenQ (by rfl) B.len PySem.boot_len (pa_cons (pe_cal rfl (c_inner_trees.mono (by omega)) hr (by rfl) pass0 (pa_cons (pv 0) pa_nil)) pa_nil)) (nomark _)) (pss_one ps_never) pss_nil))
      (pss_cons (PS.quiet (ps_for PassesOwn.never rfl (RZ.pi_zipA (by rfl) B.zip (pa_cons (pe_cal rfl (c_inner_trees.mono (by omega)) hr (by rfl) pass0 (pa_cons (pv 0) pa_nil)) (pa_cons (pv 3) pa_nil))) (pg_tup rfl (pgs_cons (pg_name (i := 4) sc_check_values.nd rfl (.inl rfl)) (pgs_cons (pg_name (i := 5) sc_check_values.nd rfl (.inl rfl)) pgs_nil))) (pss_one (ps_expr (pe_cal rfl (c_check_values.mono (by omega)) hr (by rfl) pass_never (pa_cons (pv 4) (pa_cons (pv 5) pa_nil)))))))
      (pss_cons (PS.quiet (ps_if (pt_cmpR (op_eqD hr.units) (pe_ix ix_seq (pv 0) pe_int (fun _ _ => rfl)) pe_str (nomark _)) (pss_one (ps_set (i := 6) sc_check_values.nd rfl (.inl rfl) (pe_ix ix_seq (pv 0) pe_int (fun _ _ => rfl)))) (pss_one (ps_if (pt_cmpR (op_eqD hr.units) (pe_ix ix_seq (pv 0) pe_int (fun _ _ => rfl)) pe_str (nomark _)) (pss_one (ps_set (i := 6) sc_check_values.nd rfl (.inl rfl) (pe_cal rfl (c_total.mono (by omega)) hr (by rfl) pass0 (pa_cons (pe_lc (own := [("row", 7), ("more", 5)]) (g := (gTup c.K 2 (gCons (gName 7) (gCons (gName 5) gNil)))) (tt := tYes) rfl sc_check_values.nd (RZ.pi_zipA (by rfl) B.zip (pa_cons (pe_ix ix_seq (pv 0) pe_int (fun _ _ => rfl)) (pa_cons (pv 3) pa_nil))) (blkOk_by (N := N_check_values) (sc := defScope s_check_values) (by decide +kernel)) (fun _ _ _ _ _ => (pg_tup rfl (pgs_cons (pg_name (i := 7) sc_check_values.nd rfl (.inl rfl)) (pgs_cons (pg_name (i := 5) sc_check_values.nd rfl (.inl rfl)) pgs_nil)))) (fun _ _ _ _ _ => pts_nil) (fun _ _ _ _ _ => (pe_cal rfl (c_times.mono (by omega)) hr (by rfl) pass0 (pa_cons (pe_ix (r := rIx c.K) ix_seq (pv 7) pe_int (fun _ _ => rfl)) (pa_cons (pe_ix (r := rIx c.K) ix_seq (pv 5) pe_int (fun _ _ => rfl)) pa_nil))))) pa_nil)))) (pss_one (ps_set (i := 6) sc_check_values.nd rfl (.inl rfl) (pe_cal rfl (c_greatest_of.mono (by omega)) hr (by rfl) pass0 (pa_cons (pe_lc (own := [("more", 5)]) (g := (gName 5)) (tt := tYes) rfl sc_check_values.nd (pi_tup (pv 3)) (blkOk_by (N := N_check_values) (sc := defScope s_check_values) (by decide +kernel)) (fun _ _ _ _ _ => (pg_name (i := 5) sc_check_values.nd rfl (.inl rfl))) (fun _ _ _ _ _ => pts_nil) (fun _ _ _ _ _ => (pe_ix (r := rIx c.K) ix_seq (pv 5) pe_int (fun _ _ => rfl)))) pa_nil))))))))
      (pss_one (ps_if (pt_cmpR op_lt (pe_op op_mulW (pe_ix ix_seq (pv 2) pe_int (fun _ _ => rfl)) (pe_ix ix_seq (pv 6) pe_int (fun _ _ => rfl))) (pe_op op_mulW (pe_ix ix_seq (pv 6) pe_int (fun _ _ => rfl)) (pe_ix ix_seq (pv 2) pe_int (fun _ _ => rfl))) (nomark _)) (pss_one (ps_bad bP (by rfl))) pss_nil)))))), ?_⟩)
  rintro M as B Pv ⟨t, v, ps, ht, hn, hpp, hv, hB, rfl, hp⟩
  refine sx_seq (PG1 := fun G => G = [some (.d t.d), some (.d (dPap v ps)), some (aQ v), some (aT ps), none, none, none, none]) (StP.x (st_asg (ev_var rfl) fun a e => ?_)) ?_
  · subst e
    exact ⟨_, _, tg_tup2 tg_name tg_name, rfl⟩
  rintro G rfl
  obtain ⟨ds, K⟩ := ht.kids
  obtain rfl : ps = ds.map (·.pp) := pap_inj (hpp.symm.trans K.pp)
  have hin : ∀ {te : TE} {M : Mu} {G : Env'} {E : XK}, EvD c M te G (.d t.d) → EvD c M (tCall (spR c R_inner) [] E (tCons te tNil)) G (aT (ds.map (·.d))) := fun {te M G E} h => ev_call (ea_cons h ea_nil) (K.inn M _ rfl)
  refine sx_seq (PG1 := fun G => G = [some (.d t.d), some (.d (dPap v (ds.map (·.pp)))), some (aQ v), some (aT (ds.map (·.pp))), none, none, none, none]) (StP.x (st_if (b := false) (et_is (et_test (ev_op (ev_cb (ea_cons (ev_var rfl) ea_nil) rc_lenT) (ev_cb (ea_cons (hin (ev_var rfl)) ea_nil) rc_lenT) rv_neDI)) (by simp)) (fun h => absurd h (by simp)) fun _ => st_next rfl)) ?_
  rintro G rfl
  refine sx_seq (PG1 := fun G => ∃ y z, G = [some (.d t.d), some (.d (dPap v (ds.map (·.pp)))), some (aQ v), some (aT (ds.map (·.pp))), y, z, none, none]) (StP.x (st_for (it_zipT (ea_cons (hin (ev_var rfl)) (ea_cons (ev_var rfl) ea_nil))) (fun _ G => ∃ y z, G = [some (.d t.d), some (.d (dPap v (ds.map (·.pp)))), some (aQ v), some (aT (ds.map (·.pp))), y, z, none, none]) ⟨none, none, rfl⟩ ?_ fun G h => h)) ?_
  · rintro i d G hd ⟨y, z, rfl⟩
    obtain ⟨x1, x2, hx, hy, rfl⟩ := zipD_at hd
    obtain ⟨x, e, rfl⟩ := map_at hx
    rw [List.getElem?_map, e] at hy
    obtain rfl := someI hy
    have hm := K.tr x (List.mem_of_getElem? e)
    obtain ⟨qs, hq⟩ := hm.paper
    refine ⟨_, _, tg_tup2 tg_name tg_name, st_drop (Pa := fun _ => True) (ev_callX (ea_cons (ev_var rfl) (ea_cons (ev_var rfl) ea_nil)) ⟨x, x.w, qs, hm, by omega, hq, hm.fit (by omega), ⟨False.elim, fun h => absurd h (Rat.lt_irrefl)⟩, by rw [← hq], trivial⟩) ⟨_, _, rfl⟩⟩
  rintro G ⟨y, z, rfl⟩
  refine sx_seq (PG1 := fun G => ∃ u, G = [some (.d t.d), some (.d (dPap v (ds.map (·.pp)))), some (aQ v), some (aT (ds.map (·.pp))), y, z, some (aQ t.w), u]) (StP.x ?_) ?_
  · rcases K.kind with ⟨e, rfl⟩ | ⟨cs, e, rfl, ew, hl, hc⟩ | ⟨e, h0, ew⟩
    · rw [e]
      exact st_if (ev_kind (b := true) (by decide +kernel) (ev_var rfl) ev_int ev_str) (fun _ => st_set (ev_kids (ds := []) (ev_var rfl) ev_int) ⟨_, rfl⟩) fun h => absurd h (by simp)
    · rw [e]
      refine st_if (ev_kind (b := false) (by decide +kernel) (ev_var rfl) ev_int ev_str) (fun h => absurd h (by simp)) fun _ => st_if (ev_kind (b := true) (by decide +kernel) (ev_var rfl) ev_int ev_str) (fun _ => st_set (a := aQ t.w) (ev_call (ea_cons (ev_lc (es := (cs.map lkW).map dQ) (it_zipT (ea_cons (ev_kids (ds := []) (ev_var rfl) ev_int) (ea_cons (ev_var rfl) ea_nil))) (by rw [zipD_len]; simp; omega) (by rw [zipD_len]; simp) ?_) ea_nil) ⟨cs.map lkW, rfl, by rw [List.length_map]; omega, luck_sum (by omega) hl (fun x hx => K.tr _ (List.mem_map.mpr ⟨x, hx, rfl⟩)) hc, by rw [ew]; rfl⟩) ⟨_, rfl⟩) fun h => absurd h (by simp)
      intro M' hM i d e hd he
      obtain ⟨x1, x2, hx, hy, rfl⟩ := zipD_at hd
      rw [List.map_map] at he hy
      obtain ⟨x, hx3, rfl, rfl⟩ := map2_at hx he
      rw [List.getElem?_map, hx3] at hy
      obtain rfl := someI hy
      have hm := List.mem_of_getElem? hx3
      have ht2 := K.tr x.2 (List.mem_map.mpr ⟨x, hm, rfl⟩)
      refine ⟨_, _, tg_tup2 tg_name tg_name, by simp, ?_⟩
      exact ev_call (ea_cons (ev_op (ev_var rfl) ev_int (rv_ixT (n := 0) rfl)) (ea_cons (ev_op (ev_var rfl) ev_int (rv_ppw ht2)) ea_nil)) ⟨x.1, x.2.w, rfl, luck_fit2 (by omega) ht2 (hc x hm), rfl⟩
    · rw [e]
      obtain ⟨x0, r, rfl⟩ := List.exists_cons_of_ne_nil h0
      refine st_if (ev_kind (b := false) (by decide +kernel) (ev_var rfl) ev_int ev_str) (fun h => absurd h (by simp)) fun _ => st_if (ev_kind (b := false) (by decide +kernel) (ev_var rfl) ev_int ev_str) (fun h => absurd h (by simp)) fun _ => st_set (a := aQ t.w) (ev_call (ea_cons (ev_lc (es := ((x0 :: r).map (·.w)).map dQ) (it_tup (ev_var rfl)) (by have := K.le; rw [List.length_map]; omega) (by simp) ?_) ea_nil) ⟨x0.w, r.map (fun t : Nd => t.w), rfl, ?_, kids_fit (by omega) K.tr, by rw [ew]; rfl⟩) ⟨_, rfl⟩
      · intro M' hM i d e hd he
        rw [List.map_map] at he
        obtain ⟨x, hx, rfl, rfl⟩ := map2_at hd he
        exact ⟨_, _, tg_name, by simp, ev_op (ev_var rfl) ev_int (rv_ppw (K.tr x (List.mem_of_getElem? hx)))⟩
      · have := K.le
        rw [List.length_cons] at this
        rw [List.length_map]
        omega
  rintro G ⟨u, rfl⟩
  have hw := ht.fit hn
  refine sx_if (b := decide (v < t.w)) (et_is (et_test (ev_op (ev_cross hv hw (ev_var rfl) (ev_var rfl) ev_int ev_int) (ev_cross hw hv (ev_var rfl) (ev_var rfl) ev_int ev_int) rv_B0)) (decide_eq_decide.mpr (q_lt v t.w))) (fun h => sx_raise (hB.mpr (of_decide_eq_true h))) fun h => StP.x (st_next ⟨fun b => of_decide_eq_false h (hB.mp b), hp⟩)
abbrev CalCv (P : Program) (w : World) (c : Cf) (mg : Str → Option Value) (base : Heap) (bp : Addr) : Prop := ∀ n, Cal P w c mg base (L2.CX P w) (4 + 1 + n) "check_values" ["tree", "paper"] (spX c (.ref bp) (R_cv n))
abbrev CalWb (P : Program) (w : World) (c : Cf) (mg : Str → Option Value) (base : Heap) : Prop := ∀ n, Cal P w c mg base CX0 (4 + 1 + n) "worth_by" ["tree", "steps"] (spR c (R_wb n))
def R_cp (n : Nat) : PRX := fun _ as B P => ∃ t v ps, TreeD n t ∧ n ≤ 7 ∧ t.pp = dPap t.w ps ∧ Fit v ∧ (B ↔ v < t.w) ∧ (¬ B → v = t.w) ∧ as = [.d t.d, .d t.p, .d (dPap v ps)] ∧ P (aQ t.w)
theorem ok_check_plan (D : Def c mg "check_plan" s_check_plan []) (n : Nat) (hcv : CalCv P w c mg base bp) (hwb : CalWb P w c mg base) :
    Cal P w c mg base (L2.CX P w) (6 + n) "check_plan" ["tree", "steps", "paper"] (spX c (.ref bp) (R_cp n)) := by
  have c_check_values := hcv n
  have c_worth_by := hwb n
  refine Cal.mono (j := 4 + 1 + n + 1) (D.cal sc_check_plan bd_check_plan (lenX fun M as B Pv ⟨_, _, _, _, _, _, _, _, _, e, _⟩ => by rw [e]; rfl) (bodyX fun f cdv A outer s H E hr => ⟨_, (pss_cons (ps_expr (pe_cal rfl (c_check_values.mono (by omega)) hr (by rfl) (passes_call (takes_of rfl rfl rfl rfl) (fun _ _ _ _ h => h)) (pa_cons (pv 0) (pa_cons (pv 2) pa_nil))))
      (pss_cons (PS.quiet (ps_if (pt_cmpR (op_neD hr.units) (pe_cal rfl (c_worth_by.mono (by omega)) hr (by rfl) pass0 (pa_cons (pv 0) (pa_cons (pv 1) pa_nil))) (pe_ix ix_seq (pv 2) pe_int (fun _ _ => rfl)) (nomark _)) (pss_one ps_never) pss_nil))
      (pss_one (PS.quiet (ps_ret (pe_ix ix_seq (pv 2) pe_int (fun _ _ => rfl))))))), ?_⟩)) (by omega)
  rintro M as B Pv ⟨t, v, ps, ht, hn, hpp, hv, hB, he, rfl, hp⟩
  refine sx_seq (PG1 := fun G => ¬ B ∧ G = startG 3 [.d t.d, .d t.p, .d (dPap v ps)]) (sx_drop (Pa := fun _ => True) (ea_cons (ev_var rfl) (ea_cons (ev_var rfl) ea_nil)) ⟨t, v, ps, ht, hn, hpp, hv, hB, rfl, trivial⟩ fun nb => ⟨nb, rfl⟩) ?_
  rintro G ⟨nb, rfl⟩
  obtain rfl := he nb
  refine sx_seq (PG1 := fun G => G = startG 3 [.d t.d, .d t.p, .d (dPap t.w ps)]) (StP.x (st_if (b := false) (et_is (et_test (ev_op (ev_call (P := fun x => x = aQ t.w) (ea_cons (ev_var rfl) (ea_cons (ev_var rfl) ea_nil)) ⟨t, ht, hn, rfl, rfl⟩) (ev_op (ev_var rfl) ev_int (rv_ixT (n := 0) rfl)) rv_neDQ)) (by simp)) (fun h => absurd h (by simp)) fun _ => st_next rfl)) ?_
  rintro G rfl
  exact StP.x (st_ret (EvP.of (a := aQ t.w) (ev_op (ev_var rfl) ev_int (rv_ixT (n := 0) rfl)) ⟨nb, hp⟩))
end
end LW

/-! Judgements whose hidden lists change: the words at the end are others than at the start. -/
namespace LW
open L2 PySem PySem.Spec PyProof.Rows
structure Step (c : Cf) (M M' : Mu) (H H' : Hp) : Prop where
  sub : ∀ b ∈ M'.map (·.1), b ∈ M.map (·.1)
  keep : ∀ b o, H b = some o → (∀ ps, o ≠ .tbl ps) → b ∉ M.map (·.1) → H' b = some o
  ok : Ok c M' H'
  dom : ∀ b, H' b = none → H b = none
section
variable {c : Cf} {M M1 M2 M' : Mu} {H H1 H2 H' : Hp}
theorem Step.of_ex (e : Ex c M H H') (k : Ok c M H) : Step c M M H H' := ⟨fun _ h => h, e.1, e.2 k, e.3⟩
theorem Step.refl (k : Ok c M H) : Step c M M H H := Step.of_ex (Ex.refl H) k
theorem Step.trans (a : Step c M M1 H H1) (b : Step c M1 M2 H1 H2) : Step c M M2 H H2 :=
  ⟨fun x h => a.sub x (b.sub x h), fun x o e n m => b.keep x o (a.keep x o e n m) n fun z => m (a.sub x z), b.ok, fun x h => a.dom x (b.dom x h)⟩
theorem Step.hid (e : Step c M M' H H') : LamX.ExtN (hid M H) (hid M' H') := fun b o h n => by
  obtain ⟨h1, h2⟩ := hid_some h
  exact hid_of (e.keep b o h1 n h2) fun z => h2 (e.sub b z)
theorem Rel.step {v : V} {a : AV} (e : Step c M M' H H') (h : Rel c M H v a) : Rel c M' H' v a := by
  cases a with
  | d x => exact dp_ext e.hid x v h
  | «at» b => exact h
  | mls b xs ds => exact ⟨h.1, dpAll_ext e.hid ds xs h.2⟩
  | inst p l =>
    obtain ⟨b, dx, vp, vl, e1, e2, e3, e4⟩ := h
    exact ⟨b, dx, vp, vl, e1, e.hid _ _ e2 (fun _ q => nomatch q), dp_ext e.hid _ _ e3, dp_ext e.hid _ _ e4⟩
theorem Sig.step {σ : L2.St} {G : Env'} (e : Step c M M' H H') (s : Sig c M H σ G) : Sig c M' H' σ G :=
  ⟨s.len, fun i a h => let ⟨v, h1, h2⟩ := s.at_ i a h; ⟨v, h1, h2.step e⟩⟩
theorem RelAll.step (e : Step c M M' H H') : ∀ {vs : List V} {as : List AV}, RelAll c M H vs as → RelAll c M' H' vs as
  | [], [], _ => trivial
  | _ :: _, _ :: _, h => ⟨h.1.step e, RelAll.step e h.2⟩
  | [], _ :: _, h => h.elim
  | _ :: _, [], h => h.elim
/-- what follows -/
def KM (c : Cf) (M : Mu) (H : Hp) (PP : Mu → AV → Prop) (Q : VK) : Prop := ∀ v H' M' a, PP M' a → Step c M M' H H' → Rel c M' H' v a → Q v H'
def EvM (c : Cf) (M : Mu) (te : TE) (G : Env') (PP : Mu → AV → Prop) : Prop := ∀ σ H, Sig c M H σ G → Ok c M H → ∀ Q : VK, KM c M H PP Q → te σ H Q
def EvAM (c : Cf) (M : Mu) (ta : TA) (G : Env') (PP : Mu → List AV → Prop) : Prop := ∀ σ H, Sig c M H σ G → Ok c M H → ∀ Q : List V → Hp → Prop, (∀ vs H' M' as, PP M' as → Step c M M' H H' → RelAll c M' H' vs as → Q vs H') → ta σ H Q
def EvBM (c : Cf) (M : Mu) (tt : TT) (G : Env') (PP : Mu → Bool → Prop) : Prop := ∀ σ H, Sig c M H σ G → Ok c M H → ∀ Q : Bool → Hp → Prop, (∀ b H' M', PP M' b → Step c M M' H H' → Q b H') → tt σ H Q
def StM (c : Cf) (M : Mu) (ts : TS) (G : Env') (PG : Mu → Env' → Prop) (PP : Mu → AV → Prop) : Prop := ∀ σ H, Sig c M H σ G → Ok c M H → ∀ D : Ends,
  (∀ σ' H' M' G', PG M' G' → Step c M M' H H' → Sig c M' H' σ' G' → D.nx σ' H') → KM c M H PP D.rt → ts D σ H
def ItM (c : Cf) (M : Mu) (wi : TI) (G : Env') (PP : Mu → List PyData → Prop) : Prop := ∀ σ H, Sig c M H σ G → Ok c M H → ∀ R : It → Hp → Prop, (∀ J H' M' ds W, PP M' ds → Step c M M' H H' → W (LW.hid M' H') → WkD c J ds W → R J H') → wi σ H R
theorem KM.step {PP : Mu → AV → Prop} {Q : VK} (e : Step c M M1 H H1) (k : KM c M H PP Q) : KM c M1 H1 PP Q := fun v H2 M2 a h1 h2 h3 => k v H2 M2 a h1 (e.trans h2) h3
section
variable {G G' : Env'} {ta tb te : TE} {t : TT} {r : R2} {P Pa : AV → Prop} {PP PA PB : Mu → AV → Prop} {PL PL' : Mu → List AV → Prop} {as : List AV} {tr tl : TA} {PG PG1 PG2 : Mu → Env' → Prop} {t1 t2 : TS} {g : TG}
theorem EvP.m (h : EvP c M te G P) (hp : ∀ a, P a → PP M a) : EvM c M te G PP := fun σ H s k Q q => h σ H s k Q fun v H' a p e r => q v H' M a (hp a p) (Step.of_ex e k) r
theorem EvM.mono (h : EvM c M te G PA) (hp : ∀ M' a, PA M' a → PB M' a) : EvM c M te G PB := fun σ H s k Q q => h σ H s k Q fun v H' M' a p e r => q v H' M' a (hp M' a p) e r
theorem EvAM.mono (h : EvAM c M tl G PL) (hp : ∀ M' a, PL M' a → PL' M' a) : EvAM c M tl G PL' := fun σ H s k Q q => h σ H s k Q fun v H' M' a p e r => q v H' M' a (hp M' a p) e r
theorem em_op (ha : EvM c M ta G PA) (hb : ∀ M1 a, PA M1 a → EvM c M1 tb G fun M2 b => RvP c M2 r a b (PP M2)) : EvM c M (tOp r ta tb) G PP := fun σ H s k Q q =>
  ha σ H s k _ fun x H1 M1 a pa e1 r1 => hb M1 a pa σ H1 (s.step e1) e1.ok _ fun y H2 M2 b pb e2 r2 =>
    pb x y H2 (r1.step e2) r2 e2.ok Q fun v H3 d pd e3 r3 => q v H3 M2 d pd ((e1.trans e2).trans (Step.of_ex e3 e2.ok)) r3
theorem eam_nil (h : PL M []) : EvAM c M tNil G PL := fun σ H s k Q q => q [] H M [] h (Step.refl k) trivial
theorem eam_cons (h : EvM c M te G PA) (hr : ∀ M1 a, PA M1 a → EvAM c M1 tr G fun M2 as => PL M2 (a :: as)) : EvAM c M (tCons te tr) G PL := fun σ H s k Q q =>
  h σ H s k _ fun x H1 M1 a pa e1 r1 => hr M1 a pa σ H1 (s.step e1) e1.ok _ fun xs H2 M2 as pas e2 r2 => q (x :: xs) H2 M2 (a :: as) pas (e1.trans e2) ⟨r1.step e2, r2⟩
theorem EvA.m (h : EvA c M tl G as) (hp : PL M as) : EvAM c M tl G PL := fun σ H s k Q q => h σ H s k _ fun v H' a p e r => by
  subst p
  exact q v H' M a hp (Step.of_ex e k) r
theorem em_tup (h : EvAM c M tl G fun M' as => ∃ ds : List PyData, as = ds.map AV.d ∧ ds.length ≤ 1000 ∧ PP M' (aT ds)) : EvM c M (tTup tl) G PP := fun σ H s k Q q =>
  h σ H s k _ fun vs H1 M1 as ⟨ds, e, hl, hp⟩ e1 r1 => by
    subst e
    have hd := relAll_d r1
    refine ⟨by rw [dpAll_len hd]; exact Nat.le_of_lt (small1000 hl), ?_⟩
    exact Kp.newT (P := fun b => b = aT ds) e1.ok hd rfl fun v H2 a ea e2 r2 => by
      subst ea
      exact q v H2 M1 _ hp (e1.trans (Step.of_ex e2 e1.ok)) r2
theorem em_cb {rr : List V → Hp → VK → Prop} (h : EvAM c M tl G fun M' as => RcP c M' rr as (PP M')) : EvM c M (tCB rr tl) G PP := fun σ H s k Q q =>
  h σ H s k _ fun vs H1 M1 as p e1 r1 => p vs H1 r1 e1.ok Q fun v H2 a pa e2 r2 => q v H2 M1 a pa (e1.trans (Step.of_ex e2 e1.ok)) r2
theorem em_call {R : PR} {E : XK} (h : EvAM c M tl G fun M' as => R M' as (PP M')) : EvM c M (tCall (spR c R) [] E tl) G PP := fun σ H s k Q q =>
  h σ H s k _ fun vs H1 M1 as p e1 r1 => by
    rw [List.append_nil]
    exact ⟨M1, as, PP M1, p, r1, e1.ok, fun v H2 a pa e2 r2 => q v H2 M1 a pa (e1.trans (Step.of_ex e2 e1.ok)) r2⟩
/-- a promise that changes words -/
abbrev PRM := Mu → List AV → (Mu → AV → Prop) → Prop
def spM (c : Cf) (R : PRM) : Sp := fun vs H Q _ => ∃ (M : Mu) (as : List AV) (PP : Mu → AV → Prop), R M as PP ∧ RelAll c M H vs as ∧ Ok c M H ∧ KM c M H PP Q
theorem em_callM {R : PRM} {E : XK} (h : EvAM c M tl G fun M' as => R M' as PP) : EvM c M (tCall (spM c R) [] E tl) G PP := fun σ H s k Q q =>
  h σ H s k _ fun vs H1 M1 as p e1 r1 => by
    rw [List.append_nil]
    exact ⟨M1, as, PP, p, r1, e1.ok, q.step e1⟩
theorem em_if {b : Bool} (h : EvB c M t G b) (h1 : b = true → EvM c M ta G PP) (h2 : b = false → EvM c M tb G PP) : EvM c M (tIf t ta tb) G PP := fun σ H s k Q q =>
  h σ H s k _ fun x H1 e e1 => by
    subst e
    have st := Step.of_ex e1 k
    cases x with
    | true => exact h1 rfl σ H1 (s.mono e1) (e1.2 k) Q (q.step st)
    | false => exact h2 rfl σ H1 (s.mono e1) (e1.2 k) Q (q.step st)
/-! ### statements -/
theorem StP.m {PG' : Env' → Prop} (h : StP c M t1 G PG' P) (hg : ∀ G', PG' G' → PG M G') (hp : ∀ a, P a → PP M a) : StM c M t1 G PG PP := fun σ H s k D n q =>
  h σ H s k D (fun σ' H' G' p e s' => n σ' H' M G' (hg G' p) (Step.of_ex e k) s') fun v H' a p e r => q v H' M a (hp a p) (Step.of_ex e k) r
theorem sm_seq (h1 : StM c M t1 G PG1 PP) (h2 : ∀ M1 G1, PG1 M1 G1 → StM c M1 t2 G1 PG PP) : StM c M (tSeq t1 t2) G PG PP := fun σ H s k D n q =>
  h1 σ H s k { D with nx := t2 D } (fun σ' H' M1 G' p e s' => h2 M1 G' p σ' H' s' e.ok D (fun σ2 H2 M2 G2 p2 e2 s2 => n σ2 H2 M2 G2 p2 (e.trans e2) s2) (q.step e)) q
theorem sm_ret (h : EvM c M te G PP) : StM c M (tRet te) G PG PP := fun σ H s k D n q => h σ H s k D.rt q
theorem sm_set {i : Nat} (h : EvM c M te G fun M' a => PG M' (G.set i (some a))) : StM c M (tAsg te (gName i)) G PG PP := fun σ H s k D n q =>
  h σ H s k _ fun v H1 M1 a p e1 r1 => n _ H1 M1 _ p e1 ((s.step e1).set r1)
theorem sm_asg (h : EvM c M te G PA) (hg : ∀ M1 a, PA M1 a → ∃ G' vs, TgP c M1 g vs a G G' ∧ PG M1 G') : StM c M (tAsg te g) G PG PP := fun σ H s k D n q =>
  h σ H s k _ fun v H1 M1 a p e1 r1 => by
    obtain ⟨G', vs, tg, pg⟩ := hg M1 a p
    exact tg σ H1 v (s.step e1) e1.ok r1 _ fun σ' s' _ _ => n σ' H1 M1 G' pg e1 s'
theorem sm_if {b : Bool} (h : EvB c M t G b) (h1 : b = true → StM c M t1 G PG PP) (h2 : b = false → StM c M t2 G PG PP) : StM c M (tIfS t t1 t2) G PG PP := fun σ H s k D n q =>
  h σ H s k _ fun x H1 e e1 => by
    subst e
    have st := Step.of_ex e1 k
    cases x with
    | true => exact h1 rfl σ H1 (s.mono e1) (e1.2 k) D (fun σ' H' M' G' p e s' => n σ' H' M' G' p (st.trans e) s') (q.step st)
    | false => exact h2 rfl σ H1 (s.mono e1) (e1.2 k) D (fun σ' H' M' G' p e s' => n σ' H' M' G' p (st.trans e) s') (q.step st)
theorem sm_ifP {PB1 : Bool → Prop} (h : EvBP c M t G PB1) (h1 : PB1 true → StM c M t1 G PG PP) (h2 : PB1 false → StM c M t2 G PG PP) : StM c M (tIfS t t1 t2) G PG PP := fun σ H s k D n q =>
  h σ H s k _ fun x H1 e e1 => by
    have st := Step.of_ex e1 k
    cases x with
    | true => exact h1 e σ H1 (s.mono e1) (e1.2 k) D (fun σ' H' M' G' p e s' => n σ' H' M' G' p (st.trans e) s') (q.step st)
    | false => exact h2 e σ H1 (s.mono e1) (e1.2 k) D (fun σ' H' M' G' p e s' => n σ' H' M' G' p (st.trans e) s') (q.step st)
theorem sm_drop (h : EvM c M te G fun M' _ => PG M' G) : StM c M (tDrop te) G PG PP := fun σ H s k D n q => h σ H s k _ fun v H1 M1 a p e1 r1 => n σ H1 M1 G p e1 (s.step e1)
theorem sm_next (h : PG M G) : StM c M tNext G PG PP := fun σ H s k D n q => n σ H M G h (Step.refl k) s
theorem sm_par {i j : Nat} (h : EvAM c M tl G fun M' as => ∃ x y, as = [x, y] ∧ PG M' ((G.set i (some x)).set j (some y))) : StM c M (tPar i j tl) G PG PP := fun σ H s k D n q =>
  h σ H s k _ fun vs H1 M1 as ⟨x, y, e, hp⟩ e1 r1 => by
    subst e
    obtain ⟨v, w, rfl, h1, h2⟩ : ∃ v w, vs = [v, w] ∧ Rel c M1 H1 v x ∧ Rel c M1 H1 w y := by
      match vs, r1 with
      | [v, w], r1 => exact ⟨v, w, rfl, r1.1, r1.2.1⟩
      | [], r1 => exact r1.elim
      | [_], r1 => exact r1.2.elim
      | _ :: _ :: _ :: _, r1 => exact r1.2.2.elim
    exact ⟨v, w, rfl, n _ H1 M1 _ hp e1 (((s.step e1).set h1).set h2)⟩
/-! ### what is walked -/
theorem ItD.m {wi : TI} {ds : List PyData} {PI : Mu → List PyData → Prop} (h : ItD c M wi G ds) (hp : PI M ds) : ItM c M wi G PI := fun σ H s k R q => h σ H s k R fun J H' W e w wk => q J H' M ds W hp (Step.of_ex e k) w wk
theorem im_range1 {PI : Mu → List PyData → Prop} (h : EvAM c M tl G fun M' as => ∃ n : Nat, as = [aI (n : Int)] ∧ n ≤ 1000000 ∧ PI M' (rngD 0 n)) : ItM c M (iRng1 tl) G PI := fun σ H s k R q =>
  h σ H s k _ fun vs H1 M1 as ⟨n, e, hn, hp⟩ e1 r1 => by
    subst e
    obtain ⟨v, rfl, r2⟩ := relAll_one r1
    obtain rfl := dp_int r2
    refine ⟨(n : Int), rfl, by omega, by omega, q _ H1 M1 _ (fun _ => True) hp e1 trivial ?_⟩
    have := wk_range (c := c) (lo := 0) (n := n)
    rw [show ((n : Int)).toNat = n by omega]
    exact this
theorem sm_for {wi : TI} {PI : Mu → List PyData → Prop} (h : ItM c M wi G PI)
    (hs : ∀ M1 ds, PI M1 ds → ∃ W : Nat → Mu → Env' → Prop, W 0 M1 G ∧ (∀ i d M2 G', ds[i]? = some d → W i M2 G' → ∃ G2 vs, TgP c M2 g vs (.d d) G' G2 ∧ StM c M2 t1 G2 (W (i + 1)) PP) ∧ ∀ M2 G', W ds.length M2 G' → PG M2 G') : StM c M (tFor wi g t1) G PG PP := fun σ H s k D n q =>
  h σ H s k _ fun J H1 M1 ds Wk p1 e1 w1 wk => by
    obtain ⟨W, h0, hb, hd⟩ := hs M1 ds p1
    refine Exists.intro (fun (i m : Nat) (σ' : L2.St) (H' : Hp) => ∃ M2 G', i + m = ds.length ∧ W i M2 G' ∧ Step c M M2 H H' ∧ Sig c M2 H' σ' G' ∧ Wk (LW.hid M2 H')) ?_
    refine ⟨⟨ds.length, M1, G, Nat.zero_add _, h0, e1, s.step e1, w1⟩, ?_⟩
    rintro i m σ' H' ⟨M2, G2, em, hw, eH, sg, wH⟩
    have kH := eH.ok
    by_cases hi : i < ds.length
    · refine .inr ⟨wk.go M2 i H' hi wH kH, fun σ2 H2 => ∃ M3 G3, W (i + 1) M3 G3 ∧ Step c M M3 H H2 ∧ Sig c M3 H2 σ2 G3 ∧ Wk (LW.hid M3 H2), fun σ2 H2 ⟨M3, G3, w3, e3, s3, wk3⟩ => ⟨m - 1, by omega, M3, G3, by omega, w3, e3, s3, wk3⟩, fun x H2 hy => ?_⟩
      obtain ⟨e2, d, hd2, rd⟩ := wk.yld M2 i H' x H2 hi wH kH hy
      obtain ⟨G3, us, tg, st⟩ := hb i d M2 G2 hd2 hw
      have k2 := e2.2 kH
      have st2 := Step.of_ex e2 kH
      have wH2 : Wk (LW.hid M2 H2) := wk.keep _ _ wH e2.hid
      refine tg σ' H2 x (sg.mono e2) k2 rd _ fun σ3 s3 _ _ => ?_
      exact st σ3 H2 s3 k2 _ (fun σ4 H4 M4 G4 p4 e4 s4 => ⟨M4, G4, p4, (eH.trans st2).trans e4, s4, wk.keep _ _ wH2 e4.hid⟩) (q.step (eH.trans st2))
    · have : i = ds.length := by omega
      subst this
      exact .inl ⟨wk.stop M2 H' wH kH, n σ' H' M2 G2 (hd M2 G2 hw) eH sg⟩
/-- while -/
theorem sm_while {W : Nat → Mu → Env' → Prop} (m0 : Nat) (h0 : W m0 M G)
    (hs : ∀ m M1 G', W m M1 G' → ∃ b, EvB c M1 t G' b ∧ (b = true → StM c M1 t1 G' (fun M2 G2 => ∃ m', m' < m ∧ W m' M2 G2) PP) ∧ (b = false → PG M1 G')) : StM c M (tWhile t t1) G PG PP := fun σ H s k D n q => by
  refine ⟨fun m σ' H' => ∃ M1 G', W m M1 G' ∧ Step c M M1 H H' ∧ Sig c M1 H' σ' G', ⟨m0, M, G, h0, Step.refl k, s⟩, fun m σ' H' ⟨M1, G', w, e, sg⟩ => ?_⟩
  obtain ⟨b, hb, h1, h2⟩ := hs m M1 G' w
  refine hb σ' H' sg e.ok _ fun x H1 ex e1 => ?_
  subst ex
  have st := e.trans (Step.of_ex e1 e.ok)
  cases x with
  | true =>
    refine ⟨fun σ2 H2 => ∃ m', m' < m ∧ ∃ M2 G2, W m' M2 G2 ∧ Step c M M2 H H2 ∧ Sig c M2 H2 σ2 G2, fun σ2 H2 ⟨m', hm, M2, G2, w2, e2, s2⟩ => ⟨m', hm, M2, G2, w2, e2, s2⟩, ?_⟩
    exact h1 rfl σ' H1 (sg.mono e1) st.ok _ (fun σ2 H2 M2 G2 ⟨m', hm, w2⟩ e2 s2 => ⟨m', hm, M2, G2, w2, st.trans e2, s2⟩) (q.step st)
  | false => exact n σ' H1 M1 G' (h2 rfl) st (sg.mono e1)
/-! ### new lists -/
abbrev isL (xs : List V) : HO → Prop := fun o => o = .lst xs
/-- te makes a new list -/
def EvNM (c : Cf) (M : Mu) (te : TE) (G : Env') (PN : Mu → List PyData → Prop) : Prop := ∀ σ H, Sig c M H σ G → Ok c M H → ∀ Q : VK, (∀ l H' M' xs ds, PN M' ds → H l = none → Step c M M' H H' → H' l = some (.lst xs) → DpAll c.K (LW.hid ((l, isL xs) :: M') H') xs ds → Q (.ref l) H') → te σ H Q
theorem not_in {l : Addr} (k : Ok c M H) (h : H l = none) (st : Step c M M' H H') : l ∉ M'.map (·.1) := fun z => k.fresh h (st.sub l z)
theorem EvNM.ev {PN : Mu → List PyData → Prop} (h : EvNM c M te G PN) (hp : ∀ M' ds, PN M' ds → PP M' (aL ds)) : EvM c M te G PP := fun σ H s k Q q => h σ H s k Q fun l H' M' xs ds p nl st hl hd =>
  q _ H' M' _ (hp M' ds p) st (Dp.lst (.inl (.inl (hid_of hl (not_in k nl st)))) (dpAll_ext hid_more _ _ hd))
theorem EvN.m {ds : List PyData} {PN : Mu → List PyData → Prop} (h : EvN c M te G ds) (hp : PN M ds) (hh : ∀ σ H, Sig c M H σ G → Ok c M H → ∀ Q : VK, (∀ l H' xs, H l = none → Ex c M H H' → H' l = some (.lst xs) → DpAll c.K (LW.hid ((l, isL xs) :: M) H') xs ds → Q (.ref l) H') → te σ H Q) : EvNM c M te G PN := fun σ H s k Q q =>
  hh σ H s k Q fun l H' xs nl e hl hd => q l H' M xs ds hp nl (Step.of_ex e k) hl hd
/-- [] and the like: a list written out -/
theorem en_new {ds : List PyData} {PN : Mu → List PyData → Prop} (h : EvA c M tl G (ds.map AV.d)) (hl : ds.length ≤ 1000) (hp : PN M ds) : EvNM c M (tLst tl) G PN := fun σ H s k Q q =>
  h σ H s k _ fun vs H1 as e e1 r1 => by
    subst e
    have hd := relAll_d r1
    refine ⟨by rw [dpAll_len hd]; exact Nat.le_of_lt (small1000 hl), fun p np => ?_⟩
    have e2 : Ex c M H1 (upd H1 p (.lst vs)) := Ex.new np
    refine q p _ M vs ds hp (e1.3 p np) (Step.of_ex (e1.trans e2) k) upd_same ?_
    rw [hid_upd_in, hid_fresh np]
    exact hd
/-- a list comprehension: its list is new; words change as it goes -/
theorem em_lc {wi : TI} {vs : List Nat} {PI : Mu → List PyData → Prop} {PN : Mu → List PyData → Prop} (h : ItM c M wi G PI)
    (he : ∀ M1 ds, PI M1 ds → ds.length ≤ 1000 ∧ ∃ (PMi : Nat → Mu → Prop) (Pe : Nat → PyData → Prop), PMi 0 M1 ∧ (∀ i M2, PMi i M2 → M2.map (·.1) = M1.map (·.1)) ∧
      (∀ (N : Addr × (HO → Prop)) i d M2, N.1 ∉ M2.map (·.1) → ds[i]? = some d → PMi i M2 → ∃ G2 us, TgP c (N :: M2) g us (.d d) (wipG G vs) G2 ∧ (∀ k ∈ us, k ∈ vs) ∧ EvM c (N :: M2) te G2 (fun M' x => ∃ M3, M' = N :: M3 ∧ PMi (i + 1) M3 ∧ ∃ e, x = .d e ∧ Pe i e)) ∧
      (∀ M2 es, es.length = ds.length → (∀ (i : Nat) (e : PyData), es[i]? = some e → Pe i e) → PMi ds.length M2 → PN M2 es)) : EvNM c M (tLc wi g tYes te vs) G PN := fun σ H s k Q q =>
  h σ H s k _ fun J H1 M1 ds Wk p1 e1 w1 wk => by
    obtain ⟨hl, PMi, Pe, m0, hsub, hb, hd⟩ := he M1 ds p1
    intro D nD
    have nDM : D ∉ M1.map (·.1) := e1.ok.fresh nD
    have sD : ∀ w, Sig c ((D, w) :: M1) H1 σ G := fun w => (s.step e1).fresh nD
    refine ⟨fun i m H' => i + m = ds.length ∧ ∃ M2 ys es, PMi i M2 ∧ Step c M1 M2 H1 H' ∧ H' D = some (.lst ys) ∧ DpAll c.K (LW.hid ((D, isL ys) :: M2) H') ys es ∧ es.length = i ∧ ∀ (j : Nat) (e : PyData), es[j]? = some e → Pe j e, ⟨ds.length, by omega, M1, [], [], m0, Step.of_ex (Ex.new nD) e1.ok, upd_same, .nil, rfl, fun j e he => by simp at he⟩, fun i m H' ⟨em, M2, ys, es, pm, st, hD, hda, hle, hpe⟩ => ?_⟩
    have nD2 : D ∉ M2.map (·.1) := fun z => nDM (st.sub D z)
    have kM : Ok c ((D, isL ys) :: M2) H' := st.ok.push hD rfl
    have st' : Step c ((D, isL ys) :: M1) ((D, isL ys) :: M2) H1 H' := ⟨fun b hb => by
      rcases memC hb with z | z
      · rw [z]; exact List.mem_cons_self
      · exact List.mem_cons_of_mem _ (st.sub b z), fun b o h1 h2 h3 => st.keep b o h1 h2 fun z => h3 (List.mem_cons_of_mem _ z), kM, st.dom⟩
    have wH : Wk (LW.hid ((D, isL ys) :: M2) H') := wk.keep _ _ (by rw [hid_fresh nD]; exact w1) st'.hid
    by_cases hi : i < ds.length
    · refine .inr ⟨wk.go ((D, isL ys) :: M2) i H' hi wH kM, fun H2 => ∃ M2 ys es, PMi (i + 1) M2 ∧ Step c M1 M2 H1 H2 ∧ H2 D = some (.lst ys) ∧ DpAll c.K (LW.hid ((D, isL ys) :: M2) H2) ys es ∧ es.length = i + 1 ∧ ∀ (j : Nat) (e : PyData), es[j]? = some e → Pe j e, fun H2 a => ⟨m - 1, by omega, by omega, a⟩, fun x H2 hy => ?_⟩
      obtain ⟨e2, a, ha, ra⟩ := wk.yld ((D, isL ys) :: M2) i H' x H2 hi wH kM hy
      have s2 := Step.of_ex e2 kM
      obtain ⟨G2, us, tg, hus, hev⟩ := hb (D, isL ys) i a M2 nD2 ha pm
      refine tg (L2.wipe σ vs) H2 x (((sD (isL ys)).step (st'.trans s2)).wipe vs) s2.ok ra _ fun σ2 s2' kk ll => ⟨?_, ?_⟩
      · rw [wipe_eq ll kk hus, wipe_wipe]
      · show te σ2 H2 _
        refine hev σ2 H2 s2' s2.ok _ fun y H3 M' b ⟨M3, eM, pm3, d, eb, pe⟩ e3 r3 => ?_
        subst eM eb
        obtain ⟨zs, hz1, hz2⟩ := e3.ok.m _ List.mem_cons_self
        obtain rfl : zs = ys := HO.lst.inj hz2
        have hz1 : H3 D = some (.lst zs) := hz1
        have sall := (st'.trans s2).trans e3
        have sub3 : ∀ b ∈ M3.map (·.1), b ∈ M1.map (·.1) := fun b hb => by
          rw [← hsub (i + 1) M3 pm3]
          exact hb
        have nD3 : D ∉ M3.map (·.1) := fun z => nDM (sub3 D z)
        refine ⟨zs, hz1, by rw [dpAll_len hda, hle]; exact small1000 (by omega), M3, zs ++ [y], es ++ [d], pm3, ⟨sub3, fun b o h1 h2 h3 => ?_, e3.ok.pop.upd nD3 hz1, fun b hb => ?_⟩, upd_same, ?_, by simp [hle], fun j e hj => ?_⟩
        · have nb : b ≠ D := ne_of_none h1 nD
          rw [upd_ne nb]
          refine sall.keep b o h1 h2 fun z => ?_
          rcases memC z with z | z
          · exact nb z
          · exact h3 z
        · by_cases hbD : b = D
          · rw [hbD]
            exact nD
          · rw [upd_ne hbD] at hb
            exact sall.dom b hb
        · rw [hid_upd_in]
          exact dpAll_app (dpAll_ext (s2.trans e3).hid _ _ hda) (dpAll_one r3)
        · by_cases hj2 : j < es.length
          · rw [List.getElem?_append_left hj2] at hj
            exact hpe j e hj
          · rw [List.getElem?_append_right (by omega)] at hj
            have : j - es.length = 0 := by
              have := (List.getElem?_eq_some_iff.mp hj).1
              simp at this
              omega
            rw [this] at hj
            obtain rfl : d = e := by simpa using hj
            rw [show j = i by omega]
            exact pe
    · have : i = ds.length := by omega
      subst this
      refine .inl ⟨wk.stop ((D, isL ys) :: M2) H' wH kM, ?_⟩
      refine q D H' M2 ys es (hd M2 es hle hpe pm) (e1.dom D nD) (e1.trans st) hD hda
/-! ### a local list: new, read, written, frozen -/
theorem mem_adr {l : Addr} {w : HO → Prop} {N1 N2 : Mu} : l ∈ (N1 ++ (l, w) :: N2).map (·.1) := by simp
theorem hid_upd_mem {l : Addr} {o : HO} (h : l ∈ M.map (·.1)) : LW.hid M (upd H l o) = LW.hid M H := by
  funext b
  unfold LW.hid
  by_cases hb : b ∈ M.map (·.1)
  · rw [if_pos hb, if_pos hb]
  · rw [if_neg hb, if_neg hb, upd_ne (fun z => hb (by rw [z]; exact h))]
theorem Ok.word {l : Addr} {xs : List V} (k : Ok c M H) (h : (l, isL xs) ∈ M) : H l = some (.lst xs) := by
  obtain ⟨ys, h1, h2⟩ := k.m _ h
  obtain rfl : ys = xs := HO.lst.inj h2
  exact h1
/-- a new list at l behind the word -/
theorem Step.put {l : Addr} {w w' : HO → Prop} {ys zs : List V} {N1 N2 : Mu} (k : Ok c (N1 ++ (l, w) :: N2) H) (hl : H l = some (.lst zs)) (hw : w' (.lst ys)) (h1 : l ∉ N1.map (·.1)) (h2 : l ∉ N2.map (·.1)) :
    Step c (N1 ++ (l, w) :: N2) (N1 ++ (l, w') :: N2) H (upd H l (.lst ys)) := by
  have ne : ∀ {b : Addr} {o : HO}, H b = some o → (∀ us, o ≠ .lst us) → upd H l (.lst ys) b = some o := fun {b o} e n => by
    rw [upd_ne (fun z => ?_)]
    · exact e
    · rw [z, hl] at e
      exact n zs (someI e).symm
  refine ⟨fun b hb => by simpa using hb, fun b o e n m => ?_, ⟨fun P hP => ?_, fun p hp => ?_, fun p hp => ?_⟩, fun b hb => ?_⟩
  · rw [upd_ne (fun z => m (by rw [z]; exact mem_adr))]
    exact e
  · obtain ⟨ps, e1, e2⟩ := k.g P hP
    exact ⟨ps, ne e1 (fun _ q => nomatch q), e2⟩
  · obtain ⟨ps, e1, e2, e3⟩ := k.l p hp
    refine ⟨ps, ne e1 (fun _ q => nomatch q), e2, fun pos cv e => ?_⟩
    obtain ⟨c', x1, x2⟩ := e3 pos cv e
    exact ⟨c', x1, ne x2 (fun zs q => by unfold LamX.CodeO at q; cases q)⟩
  · by_cases e : p.1 = l
    · have : p = (l, w') := by
        rcases memA hp with z | z
        · exact absurd (List.mem_map.mpr ⟨p, z, e⟩) h1
        · rcases memC z with z | z
          · exact z
          · exact absurd (List.mem_map.mpr ⟨p, z, e⟩) h2
      subst this
      exact ⟨ys, upd_same, hw⟩
    · have hp' : p ∈ N1 ++ (l, w) :: N2 := by
        rcases memA hp with z | z
        · exact List.mem_append.mpr (.inl z)
        · rcases memC z with z | z
          · exact absurd (by rw [z]) e
          · exact List.mem_append_right _ (List.mem_cons_of_mem _ z)
      obtain ⟨us, e1, e2⟩ := k.m p hp'
      exact ⟨us, by rw [upd_ne e]; exact e1, e2⟩
  · by_cases e : b = l
    · rw [e, upd_same] at hb
      cases hb
    · rw [upd_ne e] at hb
      exact hb
theorem Sig.know {σ : L2.St} {i : Nat} {v : V} {a : AV} (s : Sig c M H σ G) (h : σ[i]? = some (some v)) (r : Rel c M H v a) : Sig c M H σ (G.set i (some a)) := by
  refine ⟨by rw [List.length_set, s.len], fun j b hj => ?_⟩
  by_cases e : i = j
  · subst e
    by_cases hl : i < G.length
    · rw [List.getElem?_set_self hl] at hj
      cases hj
      exact ⟨v, h, r⟩
    · rw [List.getElem?_eq_none_iff.mpr (by rw [List.length_set]; omega)] at hj
      cases hj
  · rw [List.getElem?_set_ne e] at hj
    exact s.at_ j b hj
/-- a new local list -/
theorem sm_new {i : Nat} {PN : Mu → List PyData → Prop} (h : EvNM c M te G PN)
    (hr : ∀ l M1 xs ds, PN M1 ds → l ∉ M1.map (·.1) → xs.length = ds.length → StM c ((l, isL xs) :: M1) t2 (G.set i (some (.mls l xs ds))) (fun M' G' => l ∉ M'.map (·.1) ∧ PG M' G') (fun M' a => l ∉ M'.map (·.1) ∧ PP M' a)) :
    StM c M (tSeq (tAsg te (gName i)) t2) G PG PP := fun σ H s k D n q =>
  h σ H s k _ fun l H1 M1 xs ds pn nl e1 hl hd => by
    have k1 : Ok c ((l, isL xs) :: M1) H1 := e1.ok.push hl rfl
    have st : Step c ((l, isL xs) :: M) ((l, isL xs) :: M1) H H1 := ⟨fun b hb => by
      rcases memC hb with z | z
      · rw [z]; exact List.mem_cons_self
      · exact List.mem_cons_of_mem _ (e1.sub b z), fun b o h1 h2 h3 => e1.keep b o h1 h2 fun z => h3 (List.mem_cons_of_mem _ z), k1, e1.dom⟩
    have s1 : Sig c ((l, isL xs) :: M1) H1 σ G := (s.fresh nl).step st
    have back : ∀ {M' : Mu} {H' : Hp}, l ∉ M'.map (·.1) → Step c ((l, isL xs) :: M1) M' H1 H' → Step c M M' H H' := fun {M' H'} nM e => ⟨fun b hb => by
      rcases memC (e.sub b hb) with z | z
      · exact absurd ((show b = l from z) ▸ hb) nM
      · exact e1.sub b z, fun b o h1 h2 h3 => e.keep b o (e1.keep b o h1 h2 h3) h2 fun z => by
      rcases memC z with z | z
      · exact ne_of_none h1 nl z
      · exact h3 (e1.sub b z), e.ok, fun b hb => e1.dom b (e.dom b hb)⟩
    refine hr l M1 xs ds pn (not_in k nl e1) (dpAll_len hd) (σ.set i (some (.ref l))) H1 (s1.set ⟨rfl, hd⟩) k1 D (fun σ2 H2 M2 G2 ⟨nM, p2⟩ e2 s2 => n σ2 H2 M2 G2 p2 (back nM e2) s2) fun v H2 M2 a ⟨nM, p2⟩ e2 r2 => q v H2 M2 a p2 (back nM e2) r2
/-- from now on data -/
theorem sm_freeze {i : Nat} {l : Addr} {xs : List V} {ds : List PyData} (hg : G[i]? = some (some (.mls l xs ds))) (hn : l ∉ M.map (·.1)) (h : StM c M t2 (G.set i (some (aL ds))) PG PP) : StM c ((l, isL xs) :: M) t2 G PG PP := fun σ H s k D n q => by
  obtain ⟨v, h1, rfl, h2⟩ := s.at_ i _ hg
  have hl : H l = some (.lst xs) := k.word List.mem_cons_self
  have st : Step c ((l, isL xs) :: M) M H H := ⟨fun b hb => List.mem_cons_of_mem _ hb, fun b o e _ _ => e, k.pop, fun _ h => h⟩
  have s' : Sig c M H σ (G.set i (some (aL ds))) := (s.step st).know h1 (Dp.lst (.inl (.inl (hid_of hl hn))) (dpAll_ext st.hid _ _ h2))
  exact h σ H s' k.pop D (fun σ' H' M' G' p e s2 => n σ' H' M' G' p (st.trans e) s2) (q.step st)
/-- xs[n] of a local list -/
theorem rv_ixM {l : Addr} {xs : List V} {ds : List PyData} {d : PyData} {n : Nat} (hm : (l, isL xs) ∈ M) (h : ds[n]? = some d) : RvD c M (rIx c.K) (.mls l xs ds) (aI (n : Int)) (.d d) := rv_of fun x y H h1 h2 k Q q => by
  obtain ⟨rfl, hd⟩ := h1
  obtain ⟨v, e1, e2⟩ := dpAll_get hd h
  exact .inl ⟨l, xs, (n : Int), v, rfl, dp_int h2, .inl (.inl (k.word hm)), atI_nat e1, q v e2⟩
theorem rc_lenM {l : Addr} {xs : List V} {ds : List PyData} (hm : (l, isL xs) ∈ M) : RcD c M (rLenQ c.K) [.mls l xs ds] (aI (ds.length : Int)) := fun vs H r k Q q => by
  obtain ⟨v, rfl, r1⟩ := relAll_one r
  obtain ⟨rfl, hd⟩ := r1
  refine ⟨l, xs, rfl, .inl (.inl (.inl (k.word hm))), ?_⟩
  rw [dpAll_len hd]
  exact q.here (a := aI (ds.length : Int)) rfl (Dp.int _)
/-- a target that writes -/
def TgM (c : Cf) (M : Mu) (g : TG) (G : Env') (a : AV) (PG : Mu → Env' → Prop) : Prop := ∀ σ H v, Sig c M H σ G → Ok c M H → Rel c M H v a → ∀ Q : L2.St → Hp → Prop, (∀ σ' H' M' G', PG M' G' → Step c M M' H H' → Sig c M' H' σ' G' → Q σ' H') → g v σ H Q
theorem sm_asgM (h : EvM c M te G PA) (hg : ∀ M1 a, PA M1 a → TgM c M1 g G a PG) : StM c M (tAsg te g) G PG PP := fun σ H s k D n q =>
  h σ H s k _ fun v H1 M1 a p e1 r1 => hg M1 a p σ H1 v (s.step e1) e1.ok r1 _ fun σ' H' M' G' pg e2 s2 => n σ' H' M' G' pg (e1.trans e2) s2
theorem tgm_tup2 {g1 g2 : TG} {d1 d2 : PyData} (h1 : TgM c M g1 G (.d d1) PG1) (h2 : ∀ M1 G1, PG1 M1 G1 → TgM c M1 g2 G1 (.d d2) PG) : TgM c M (gTup c.K 2 (gCons g1 (gCons g2 gNil))) G (aT [d1, d2]) PG := fun σ H v s k r Q q => by
  obtain ⟨a, xs, rfl, hs, hd⟩ := dp_tup r
  obtain ⟨x, y, rfl, r1, r2⟩ := dpAll_two hd
  refine ⟨a, [x, y], rfl, sqT_hid hs, rfl, x, [y], rfl, ?_⟩
  refine h1 σ H x s k r1 _ fun σ1 H1 M1 G1 p1 e1 s1 => ⟨y, [], rfl, ?_⟩
  refine h2 M1 G1 p1 σ1 H1 y s1 e1.ok (Rel.step (a := .d d2) e1 r2) _ fun σ2 H2 M2 G2 p2 e2 s2 => ⟨rfl, q σ2 H2 M2 G2 p2 (e1.trans e2) s2⟩
/-- xs[n] = d -/
theorem tgm_sub {i : Nat} {l : Addr} {xs : List V} {ds : List PyData} {d : PyData} (hg : G[i]? = some (some (.mls l xs ds))) (hi : EvM c M te G PA)
    (hp : ∀ M1 b, PA M1 b → ∃ n N1 N2, b = aI ((n : Nat) : Int) ∧ n < ds.length ∧ M1 = N1 ++ (l, isL xs) :: N2 ∧ l ∉ N1.map (·.1) ∧ l ∉ N2.map (·.1) ∧ ∀ v, PG (N1 ++ (l, isL (xs.set n v)) :: N2) (G.set i (some (.mls l (xs.set n v) (ds.set n d))))) :
    TgM c M (gSub (tVar i) te rSetL) G (.d d) PG := fun σ H v s k r Q q => by
  obtain ⟨lv, h1, rfl, h2⟩ := s.at_ i _ hg
  refine ⟨.ref l, h1, ?_⟩
  refine hi σ H s k _ fun y H1 M1 b pb e1 r1 => ?_
  obtain ⟨n, N1, N2, rfl, hn, rfl, hn1, hn2, hq⟩ := hp M1 b pb
  have hl : H1 l = some (.lst xs) := e1.ok.word (by simp)
  have hx : xs.length = ds.length := dpAll_len h2
  have st := Step.put (w' := isL (xs.set n v)) e1.ok hl rfl hn1 hn2
  refine ⟨l, xs, (n : Int), n, rfl, dp_int r1, hl, by unfold ixN; rw [if_pos (by omega), if_pos (by omega)]; rfl, ?_⟩
  have e12 := e1.trans st
  have s2 := s.step e12
  have hv : Dp c.K (LW.hid (N1 ++ (l, isL (xs.set n v)) :: N2) (upd H1 l (.lst (xs.set n v)))) v d := Rel.step (a := .d d) e12 r
  refine q σ _ _ _ (hq v) e12 (s2.know h1 ⟨rfl, ?_⟩)
  have h2' := dpAll_ext e12.hid _ _ h2
  refine dpAll_of (by rw [List.length_set, List.length_set, hx]) fun j a b ha hb => ?_
  by_cases e : n = j
  · subst e
    rw [List.getElem?_set_self (by omega)] at ha hb
    obtain rfl := someI ha
    obtain rfl := someI hb
    exact hv
  · rw [List.getElem?_set_ne e] at ha hb
    obtain ⟨b', hb', r'⟩ := dpAll_at h2' ha
    rw [hb] at hb'
    obtain rfl := someI hb'
    exact r'
/-- xs.append(d) -/
theorem sm_append {i : Nat} {l : Addr} {xs : List V} {ds : List PyData} (hg : G[i]? = some (some (.mls l xs ds))) (hm : (l, isL xs) ∈ M) (hl : ds.length < 1000) (h : EvM c M te G PA)
    (hp : ∀ M1 a, PA M1 a → ∃ d N1 N2, a = .d d ∧ M1 = N1 ++ (l, isL xs) :: N2 ∧ l ∉ N1.map (·.1) ∧ l ∉ N2.map (·.1) ∧ ∀ v, PG (N1 ++ (l, isL (xs ++ [v])) :: N2) (G.set i (some (.mls l (xs ++ [v]) (ds ++ [d]))))) :
    StM c M (tDrop (tBM c.K "list" rAppend (tVar i) (tCons te tNil))) G PG PP := fun σ H s k D n q => by
  obtain ⟨lv, h1, rfl, h2⟩ := s.at_ i _ hg
  refine ⟨.ref l, h1, .inl ⟨rfl, xs, .inl (.inl (k.word hm))⟩, ?_⟩
  refine h σ H s k _ fun y H1 M1 b pb e1 r1 => ?_
  obtain ⟨d, N1, N2, rfl, rfl, hn1, hn2, hq⟩ := hp M1 b pb
  have hl1 : H1 l = some (.lst xs) := e1.ok.word (by simp)
  have hx : xs.length = ds.length := dpAll_len h2
  have st := Step.put (w' := isL (xs ++ [y])) e1.ok hl1 rfl hn1 hn2
  have e12 := e1.trans st
  refine ⟨l, xs, y, rfl, rfl, hl1, by rw [hx]; exact small1000 (by omega), ?_⟩
  refine n σ _ _ _ (hq y) e12 ((s.step e12).know h1 ⟨rfl, ?_⟩)
  exact dpAll_app (dpAll_ext e12.hid _ _ h2) (dpAll_one (Rel.step (a := .d d) st r1))
/-- x += k -/
theorem st_aug {PG : Env' → Prop} {i : Nat} {a b : Int} (hg : G[i]? = some (some (aI a))) (h : EvD c M te G (aI b)) (hp : PG (G.set i (some (aI (a + b))))) : StP c M (tAug i te (ipI fun i j => i + j)) G PG P := fun σ H s k D n q => by
  obtain ⟨v, h1, h2⟩ := s.at_ i _ hg
  obtain rfl := dp_int h2
  refine ⟨_, h1, h σ H s k _ fun w H1 x ex e1 r1 => ?_⟩
  subst ex
  exact ⟨a, b, rfl, dp_int r1, n _ H1 _ hp e1 ((s.mono e1).set (a := aI (a + b)) (Dp.int _))⟩
end
end
/-! ### bodies -/
theorem bodyM {P : Program} {w : World} {c : Cf} {mg : Str → Option Value} {base : Heap} {CX : CXT} {k : Nat} {st : Stmt} {q : Str} {N : List Str} {R : PRM}
    (h : ∀ (f : Addr) (cdv : Value) (A : Around) (outer : List Env) (s : Shared) (H : Hp) (E : XK), Room k (A.deeper (envOfC q (defScope st) s.heap.objs.size f cdv)) →
      ∃ t, PSs (cxOf CX P w c.K mg base N q (defScope st) f cdv A outer s H E).nox (defBody st) t ∧ ∀ M as PP, R M as PP → StM c M t (startG N.length as) (fun M' _ => PP M' (.d .none)) PP) :
    BodyOk P w c mg base CX k q st N (spM c R) := fun f cdv A outer s H E hr => by
  obtain ⟨t, h1, h2⟩ := h f cdv A outer s H E hr
  refine ⟨t, h1.nox, fun vs Q ⟨M, as, PP, r, ra, kH, q⟩ => ?_⟩
  exact h2 M as PP r (L2.start N vs) H (sig_start ra) kH _ (fun σ' H' M' G' p e s' => q .non H' M' (.d .none) p e Dp.non) q
theorem lenM {c : Cf} {R : PRM} {n : Nat} (h : ∀ M as PP, R M as PP → as.length = n) : ∀ vs H Q E, spM c R vs H Q E → vs.length = n := fun vs H Q E ⟨M, as, PP, r, ra, _⟩ => ra.len.trans (h M as PP r)
theorem spM_none {c : Cf} {R : PRM} (h : ∀ M as PP, ¬ R M as PP) : ∀ vs H Q E, ¬ spM c R vs H Q E := fun vs H Q E ⟨M, as, PP, r, _⟩ => h M as PP r
/-- a body that changes lists of its own alone -/
theorem StM.p {c : Cf} {M : Mu} {t : TS} {G : Env'} {PG : Env' → Prop} {P : AV → Prop} (h : StM c M t G (fun M' G' => M' = M ∧ PG G') (fun M' a => M' = M ∧ P a)) : StP c M t G PG P := fun σ H s k D n q =>
  h σ H s k D (fun σ' H' M' G' ⟨eM, p⟩ e s' => by subst eM; exact n σ' H' G' p ⟨e.keep, fun _ => e.ok, e.dom⟩ s') fun v H' M' a ⟨eM, p⟩ e r => by subst eM; exact q v H' a p ⟨e.keep, fun _ => e.ok, e.dom⟩ r
/-- the same, told amid a def -/
theorem bodyMx {c : Cf} {X : Cx} {b : List Stmt} {t : TS} {N : List Str} {R : PRM} {E : XK} {H : Hp} (hb : PSs X.nox b t) (h : ∀ M as PP, R M as PP → StM c M t (startG N.length as) (fun M' _ => PP M' (.d .none)) PP)
    (vs : List V) (Q : VK) (hs : spM c R vs H Q E) : ∃ t, PSs X b t ∧ t { nx := fun _ H' => Q .non H', rt := Q } (L2.start N vs) H := by
  obtain ⟨M, as, PP, r, ra, kH, q⟩ := hs
  exact ⟨t, hb.nox, h M as PP r (L2.start N vs) H (sig_start ra) kH _ (fun σ' H' M' G' p e s' => q .non H' M' (.d .none) p e Dp.non) q⟩
end LW

/-! The law's own dice: a list of three whole numbers that each roll changes; how many rolls there may be is told by its word. -/
namespace LW
open L2 PySem PySem.Spec PyProof.Rows
def xB : Nat := 2 ^ 1048600
def yB : Int := 1000000000000
def IsDice (n : Nat) : HO → Prop := fun o => ∃ x y z : Int, o = .lst [.int x, .int y, .int z] ∧ x.natAbs < xB ∧ 0 ≤ y ∧ y + (n : Int) ≤ yB
theorem op_mulX {X : Cx} : OpR X (binaryOp .Mult) (rI IntMulOk fun i j => .int (i * j)) := opI fun _ _ _ _ _ _ _ hc q => mul_int q hc
theorem mulX {i j : Int} (hi : i.natAbs < 2 ^ 1048600) (hj : j.natAbs < 2 ^ 1048600) : IntMulOk i j := by
  have b : ∀ x : Int, x.natAbs < 2 ^ 1048600 → Builtin.Int.intBits x ≤ 1048601 := fun x hx => by
    have h := PySem.Flt.log2_lt_of (show 0 < 1048600 by decide) hx
    unfold Builtin.Int.intBits
    split <;> omega
  have h1 := b i hi
  have h2 := b j hj
  have eb : bitsLine = 134217728 := by decide
  unfold IntMulOk
  intro z
  rw [Bool.and_eq_true] at z
  have big := z.2
  unfold Builtin.Int.intTooBig at big
  have big2 := of_decide_eq_true big
  rw [eb] at big2
  omega
theorem xB_big {n : Nat} (h : n < 2 ^ 60) : n < xB := Nat.lt_of_lt_of_le h (Nat.pow_le_pow_right (by decide) (by decide))
section
variable {c : Cf} {M : Mu} {G : Env'} {ta tb te : TE} {t u : TT}
theorem et_orP {P : Bool → Prop} (h1 : EvBP c M t G fun _ => True) (h2 : EvBP c M u G fun _ => True) : EvBP c M (tOr t u) G fun _ => True := fun σ H s k Q q =>
  h1 σ H s k _ fun x H1 _ e1 => by
    cases x with
    | false => exact h2 σ H1 (s.mono e1) (e1.2 k) Q fun y H2 _ e2 => q y H2 trivial (e1.trans e2)
    | true => exact q true H1 trivial e1
theorem et_andP {P : Bool → Prop} (h1 : EvBP c M t G fun _ => True) (h2 : EvBP c M u G fun _ => True) : EvBP c M (tAnd t u) G fun _ => True := fun σ H s k Q q =>
  h1 σ H s k _ fun x H1 _ e1 => by
    cases x with
    | true => exact h2 σ H1 (s.mono e1) (e1.2 k) Q fun y H2 _ e2 => q y H2 trivial (e1.trans e2)
    | false => exact q false H1 trivial e1
theorem RvP_of {r : R2} {a b e : AV} {P : AV → Prop} (h : RvD c M r a b e) (hp : ∀ x, x = e → P x) : RvP c M r a b P := fun x y H h1 h2 k Q q => h x y H h1 h2 k Q fun v H' a p e1 r1 => q v H' a (hp a p) e1 r1
theorem RcP_of {rr : List V → Hp → VK → Prop} {as : List AV} {e : AV} {P : AV → Prop} (h : RcD c M rr as e) (hp : ∀ x, x = e → P x) : RcP c M rr as P := fun vs H h1 k Q q => h vs H h1 k Q fun v H' a p e1 r1 => q v H' a (hp a p) e1 r1
theorem Ok.dice {H : Hp} {a : Addr} {n : Nat} (k : Ok c M H) (h : (a, IsDice n) ∈ M) : ∃ x y z : Int, H a = some (.lst [.int x, .int y, .int z]) ∧ x.natAbs < xB ∧ 0 ≤ y ∧ y + (n : Int) ≤ yB := by
  obtain ⟨xs, h1, x, y, z, e, h2⟩ := k.m _ h
  rw [e] at h1
  exact ⟨x, y, z, h1, h2⟩
def diceP (n : Nat) : Nat → AV → Prop
  | 0 => fun v => ∃ x : Int, v = aI x ∧ x.natAbs < xB
  | 1 => fun v => ∃ y : Int, v = aI y ∧ 0 ≤ y ∧ y + (n : Int) ≤ yB
  | _ => fun v => ∃ z : Int, v = aI z
theorem rv_dice {a : Addr} {n j : Nat} (hm : (a, IsDice n) ∈ M) (hj : j < 3) : RvP c M (rIx c.K) (.at a) (aI (j : Int)) (diceP n j) := fun v w H h1 h2 k Q q => by
  obtain ⟨x, y, z, e, hx, hy, hn⟩ := k.dice hm
  obtain rfl := h1
  obtain rfl := dp_int h2
  match j, hj with
  | 0, _ => exact .inl ⟨a, [.int x, .int y, .int z], ((0 : Nat) : Int), .int x, rfl, rfl, .inl (.inl e), atI_nat rfl, q.here (a := aI x) ⟨x, rfl, hx⟩ (Dp.int _)⟩
  | 1, _ => exact .inl ⟨a, [.int x, .int y, .int z], ((1 : Nat) : Int), .int y, rfl, rfl, .inl (.inl e), atI_nat rfl, q.here (a := aI y) ⟨y, rfl, hy, hn⟩ (Dp.int _)⟩
  | 2, _ => exact .inl ⟨a, [.int x, .int y, .int z], ((2 : Nat) : Int), .int z, rfl, rfl, .inl (.inl e), atI_nat rfl, q.here (a := aI z) ⟨z, rfl⟩ (Dp.int _)⟩
theorem ev_dice {a : Addr} {n j : Nat} {i : Nat} (hg : G[i]? = some (some (.at a))) (hm : (a, IsDice n) ∈ M) (hj : j < 3) (hb : EvD c M tb G (aI (j : Int))) : EvP c M (tOp (rIx c.K) (tVar i) tb) G (diceP n j) := ev_op (ev_var hg) hb (rv_dice hm hj)
/-- dice[j] = v -/
theorem tgm_dice {a : Addr} {i j n m : Nat} {v : Int} {N1 N2 : Mu} {PG : Mu → Env' → Prop} (hg : G[i]? = some (some (.at a))) (h1 : a ∉ N1.map (·.1)) (h2 : a ∉ N2.map (·.1)) (hj : j < 3) (hb : EvD c (N1 ++ (a, IsDice n) :: N2) tb G (aI (j : Int)))
    (hv : ∀ x y z : Int, x.natAbs < xB → 0 ≤ y → y + (n : Int) ≤ yB → IsDice m (.lst ([V.int x, V.int y, V.int z].set j (.int v)))) (hp : PG (N1 ++ (a, IsDice m) :: N2) G) : TgM c (N1 ++ (a, IsDice n) :: N2) (gSub (tVar i) tb rSetL) G (aI v) PG := fun σ H w s k r Q q => by
  obtain ⟨lv, e1, rfl⟩ := s.at_ i _ hg
  obtain rfl := dp_int r
  refine ⟨.ref a, e1, hb σ H s k _ fun y H1 b eb ex ry => ?_⟩
  subst eb
  obtain rfl := dp_int ry
  have k1 := ex.2 k
  obtain ⟨x, y, z, e, hx, hy, hn⟩ := k1.dice (a := a) (n := n) (by simp)
  have st := Step.put (w' := IsDice m) k1 e (hv x y z hx hy hn) h1 h2
  refine ⟨a, _, (j : Int), j, rfl, rfl, e, by unfold ixN; rw [if_pos (by omega), if_pos (by simp; omega)]; rfl, ?_⟩
  have e12 := (Step.of_ex ex k).trans st
  exact q σ _ _ _ hp e12 (s.step e12)
end
/-! ### a roll -/
def R_roll : PRM := fun M as PP => ∃ (N1 N2 : Mu) (a : Addr) (n many : Nat), M = N1 ++ (a, IsDice (n + 1)) :: N2 ∧ a ∉ N1.map (·.1) ∧ a ∉ N2.map (·.1) ∧ as = [.at a, aI (many : Int)] ∧ 0 < many ∧ many ≤ 30000 ∧ ∀ r : Nat, r < many → PP (N1 ++ (a, IsDice n) :: N2) (aI (r : Int))
section
variable {P : Program} {w : World} {c : Cf} {mg : Str → Option Value} {base : Heap}
theorem mod_nat {x : Int} {m : Nat} (h : 0 < m) : ∃ r : Nat, r < m ∧ x % (m : Int) = (r : Int) := by
  have h1 := Int.emod_nonneg x (b := (m : Int)) (by omega)
  have h2 := Int.emod_lt_of_pos x (b := (m : Int)) (by omega)
  exact ⟨(x % (m : Int)).toNat, by omega, by omega⟩
theorem div_small {x m : Int} (h : x.natAbs < xB) : (x / m).natAbs < xB := Nat.lt_of_le_of_lt (Int.natAbs_ediv_le_natAbs x m) h
theorem lo_small {m : Nat} (h0 : 0 < m) (h : m ≤ 30000) {i : Int} : L2.CDivW i (m : Int) := wide_div (b := 15) (by omega) (by simp; omega) (by decide) (by decide)
theorem ok_law_roll (B : Bt mg) (D : Def c mg "_law_roll" s_law_roll []) : Cal P w c mg base CX0 1 "_law_roll" ["dice", "many"] (spM c R_roll) := by
  refine D.cal sc_law_roll bd_law_roll (lenM fun M as PP ⟨_, _, _, _, _, _, _, _, e, _⟩ => by rw [e]; rfl) (bodyM fun f cdv A outer s H E hr => ⟨_, (pss_cons (ps_if (PW.pt (pw_or (pt_cmpR (op_eqD hr.units) (pe_ix ix_seq (pv 0) pe_int (fun _ _ => rfl)) pe_int (nomark _)) (pw_or1 (PW.pt (pw_and (pt_cmpR (op_eqD hr.units) (pe_ix ix_seq (pv 0) pe_int (fun _ _ => rfl)) pe_int (nomark _)) (pw_and1 (pt_cmpR op_gt (pe_ix ix_seq (pv 0) pe_int (fun _ _ => rfl)) pe_int (nomark _)))))))) (pss_cons (ps_set (i := 2) sc_law_roll.nd rfl (.inl rfl) (pe_op op_mod (pe_callTy call_intQ (by rfl) B.int (by decide +kernel) (pa_cons (pe_ix ix_seq (pv 0) pe_int (fun _ _ => rfl)) pa_nil)) (pv 1)))
      (pss_cons (ps_asg (pe_op op_fdivW (pe_ix ix_seq (pv 0) pe_int (fun _ _ => rfl)) (pv 1)) (pg_sub (pv 0) pe_int set_list))
      (pss_one (ps_ret (pv 2))))) pss_nil)
      (pss_cons (ps_asg pe_int (pg_sub (pv 0) pe_int set_list))
      (pss_cons (ps_asg (pe_op op_mod (pe_callTy call_intQ (by rfl) B.int (by decide +kernel) (pa_cons (pe_op op_add (pe_op op_add (pe_op op_mulX (pe_ix ix_seq (pv 0) pe_int (fun _ _ => rfl)) pe_int) (pe_op op_mulX (pe_ix ix_seq (pv 0) pe_int (fun _ _ => rfl)) pe_int)) pe_int) pa_nil)) pe_int) (pg_sub (pv 0) pe_int set_list))
      (pss_cons (ps_asg (pe_op op_add (pe_ix ix_seq (pv 0) pe_int (fun _ _ => rfl)) pe_int) (pg_sub (pv 0) pe_int set_list))
      (pss_one (ps_ret (pe_op op_mod (pe_callTy call_intQ (by rfl) B.int (by decide +kernel) (pa_cons (pe_op op_add (pe_op op_fdivW (pe_ix ix_seq (pv 0) pe_int (fun _ _ => rfl)) pe_int) (pe_ix ix_seq (pv 0) pe_int (fun _ _ => rfl))) pa_nil)) (pv 1)))))))), ?_⟩)
  rintro M as PP ⟨N1, N2, a, n, many, rfl, h1, h2, rfl, h0, hm, hp⟩
  have mem : ∀ {k : Nat}, (a, IsDice k) ∈ N1 ++ (a, IsDice k) :: N2 := by simp
  refine sm_seq (PG1 := fun M' G => M' = N1 ++ (a, IsDice (n + 1)) :: N2 ∧ G = startG 3 [.at a, aI (many : Int)]) (sm_ifP (PB1 := fun _ => True) (et_orP (P := fun _ => True) (et_testP (ev_opP (ev_dice (j := 2) rfl mem (by decide) ev_int) (ev_int (i := 2)) fun x y hx hy => ?_)) (et_andP (P := fun _ => True) (et_testP (ev_opP (ev_dice (j := 2) rfl mem (by decide) ev_int) (ev_int (i := 1)) fun x y hx hy => ?_)) (et_testP (ev_opP (ev_dice (j := 0) rfl mem (by decide) ev_int) (ev_int (i := 0)) fun x y hx hy => ?_)))) (fun _ => ?_) fun _ => sm_next ⟨rfl, rfl⟩) ?_
  · obtain ⟨z, rfl⟩ := hx
    subst hy
    exact RvP_of rv_eqDI fun b e => ⟨_, e, trivial⟩
  · obtain ⟨z, rfl⟩ := hx
    subst hy
    exact RvP_of rv_eqDI fun b e => ⟨_, e, trivial⟩
  · obtain ⟨z, rfl, _⟩ := hx
    subst hy
    exact RvP_of rv_B0 fun b e => ⟨_, e, trivial⟩
  · refine sm_seq (PG1 := fun M' G => M' = N1 ++ (a, IsDice (n + 1)) :: N2 ∧ ∃ r : Nat, r < many ∧ G = [some (.at a), some (aI (many : Int)), some (aI (r : Int))]) (sm_set (EvP.m (P := fun v => ∃ r : Nat, r < many ∧ v = aI (r : Int)) (ev_opP (Pb := fun v => v = aI (many : Int)) (ev_cbP (ea_consP (ev_dice (j := 0) rfl mem (by decide) ev_int) ea_nil) (P := fun v => ∃ x : Int, v = aI x) ?_) (ev_var rfl) ?_) ?_)) ?_
    · rintro as ⟨v, vs, rfl, ⟨x, rfl, hx⟩, rfl⟩
      exact RcP_of rc_int fun b e => ⟨x, e⟩
    · rintro v w ⟨x, rfl⟩ rfl
      obtain ⟨r, hr1, hr2⟩ := mod_nat (x := x) h0
      exact RvP_of (rv_I (by omega)) fun b e => ⟨r, hr1, by rw [e, hr2]⟩
    · rintro v ⟨r, hr, rfl⟩
      exact ⟨rfl, r, hr, rfl⟩
    · rintro M' G ⟨rfl, r, hr, rfl⟩
      refine sm_seq (PG1 := fun M' G => M' = N1 ++ (a, IsDice n) :: N2 ∧ G = [some (.at a), some (aI (many : Int)), some (aI (r : Int))]) (sm_asgM (PA := fun M' v => M' = N1 ++ (a, IsDice (n + 1)) :: N2 ∧ ∃ x : Int, v = aI x ∧ x.natAbs < xB) (EvP.m (P := fun v => ∃ x : Int, v = aI x ∧ x.natAbs < xB) (ev_opP (Pb := fun v => v = aI (many : Int)) (ev_dice (j := 0) rfl mem (by decide) ev_int) (ev_var rfl) ?_) fun v hv => ⟨rfl, hv⟩) ?_) ?_
      · rintro v w ⟨x, rfl, hx⟩ rfl
        exact RvP_of (rv_I (lo_small h0 hm)) fun b e => ⟨_, e, div_small hx⟩
      · rintro M' v ⟨rfl, x, rfl, hx⟩
        exact tgm_dice (j := 0) rfl h1 h2 (by decide) ev_int (fun x' y z hx' hy hn => ⟨x, y, z, rfl, hx, hy, by omega⟩) ⟨rfl, rfl⟩
      · rintro M' G ⟨rfl, rfl⟩
        exact sm_ret (EvP.m (ev_var rfl) fun b e => by subst e; exact hp r hr)
  rintro M' G ⟨rfl, rfl⟩
  refine sm_seq (PG1 := fun M' G => M' = N1 ++ (a, IsDice (n + 1)) :: N2 ∧ G = startG 3 [.at a, aI (many : Int)]) (sm_asgM (PA := fun M' v => M' = N1 ++ (a, IsDice (n + 1)) :: N2 ∧ v = aI 0) (EvP.m ev_int fun v hv => ⟨rfl, hv⟩) ?_) ?_
  · rintro M' v ⟨rfl, rfl⟩
    exact tgm_dice (j := 2) rfl h1 h2 (by decide) ev_int (fun x' y z hx' hy hn => ⟨x', y, 0, rfl, hx', hy, hn⟩) ⟨rfl, rfl⟩
  rintro M' G ⟨rfl, rfl⟩
  refine sm_seq (PG1 := fun M' G => M' = N1 ++ (a, IsDice (n + 1)) :: N2 ∧ G = startG 3 [.at a, aI (many : Int)]) (sm_asgM (PA := fun M' v => M' = N1 ++ (a, IsDice (n + 1)) :: N2 ∧ ∃ x : Int, v = aI x ∧ x.natAbs < xB) (EvP.m (P := fun v => ∃ x : Int, v = aI x ∧ x.natAbs < xB) (ev_opP (Pb := fun v => v = aI 2147483647) (ev_cbP (P := fun v => ∃ x : Int, v = aI x) (ea_consP (P := fun v => ∃ x : Int, v = aI x) (ev_opP (Pb := fun v => v = aI 11) (ev_opP (Pa := fun v => ∃ x : Int, v = aI x) (Pb := fun v => ∃ x : Int, v = aI x) (ev_opP (Pb := fun v => v = aI 48271) (ev_dice (j := 0) rfl mem (by decide) ev_int) ev_int ?_) (ev_opP (Pb := fun v => v = aI 69621) (ev_dice (j := 1) rfl mem (by decide) ev_int) ev_int ?_) (P := fun v => ∃ x : Int, v = aI x) ?_) ev_int ?_) ea_nil) ?_) ev_int ?_) fun v hv => ⟨rfl, hv⟩) ?_) ?_
  · rintro v w ⟨x, rfl, hx⟩ rfl
    exact RvP_of (rv_I (mulX hx (xB_big (by decide)))) fun b e => ⟨_, e⟩
  · rintro v w ⟨x, rfl, hx, hy⟩ rfl
    exact RvP_of (rv_I (mulX (xB_big (by unfold yB at hy; omega)) (xB_big (by decide)))) fun b e => ⟨_, e⟩
  · rintro v w ⟨x, rfl⟩ ⟨y, rfl⟩
    exact RvP_of rv_I0 fun b e => ⟨_, e⟩
  · rintro v w ⟨x, rfl⟩ rfl
    exact RvP_of rv_I0 fun b e => ⟨_, e⟩
  · rintro as ⟨v, vs, rfl, ⟨x, rfl⟩, rfl⟩
    exact RcP_of rc_int fun b e => ⟨x, e⟩
  · rintro v w ⟨x, rfl⟩ rfl
    obtain ⟨r, hr1, hr2⟩ := mod_nat (x := x) (m := 2147483647) (by decide)
    exact RvP_of (rv_I (by decide)) fun b e => ⟨(r : Int), by rw [e]; exact congrArg _ hr2, xB_big (by simp; omega)⟩
  · rintro M' v ⟨rfl, x, rfl, hx⟩
    exact tgm_dice (j := 0) rfl h1 h2 (by decide) ev_int (fun x' y z hx' hy hn => ⟨x, y, z, rfl, hx, hy, hn⟩) ⟨rfl, rfl⟩
  rintro M' G ⟨rfl, rfl⟩
  refine sm_seq (PG1 := fun M' G => M' = N1 ++ (a, IsDice n) :: N2 ∧ G = startG 3 [.at a, aI (many : Int)]) (sm_asgM (PA := fun M' v => M' = N1 ++ (a, IsDice (n + 1)) :: N2 ∧ ∃ y : Int, v = aI y ∧ 0 ≤ y ∧ y + (n : Int) ≤ yB) (EvP.m (P := fun v => ∃ y : Int, v = aI y ∧ 0 ≤ y ∧ y + (n : Int) ≤ yB) (ev_opP (Pb := fun v => v = aI 1) (ev_dice (j := 1) rfl mem (by decide) ev_int) ev_int ?_) fun v hv => ⟨rfl, hv⟩) ?_) ?_
  · rintro v w ⟨y, rfl, hy, hn⟩ rfl
    exact RvP_of rv_I0 fun b e => ⟨_, e, by omega, by omega⟩
  · rintro M' v ⟨rfl, y, rfl, hy, hn⟩
    exact tgm_dice (j := 1) rfl h1 h2 (by decide) ev_int (fun x' y' z hx' hy' hn' => ⟨x', y, z, rfl, hx', hy, hn⟩) ⟨rfl, rfl⟩
  rintro M' G ⟨rfl, rfl⟩
  refine sm_ret (EvP.m (P := fun v => ∃ r : Nat, r < many ∧ v = aI (r : Int)) (ev_opP (Pa := fun v => ∃ x : Int, v = aI x) (Pb := fun v => v = aI (many : Int)) (ev_cbP (ea_consP (P := fun v => ∃ x : Int, v = aI x) (ev_opP (Pa := fun v => ∃ x : Int, v = aI x) (Pb := fun v => ∃ x : Int, v = aI x) (ev_opP (Pb := fun v => v = aI 7) (ev_dice (j := 0) rfl mem (by decide) ev_int) ev_int ?_) ((ev_dice (j := 0) rfl mem (by decide) ev_int).mono fun v ⟨x, h, _⟩ => ⟨x, h⟩) ?_) ea_nil) ?_) (ev_var rfl) ?_) ?_)
  · rintro v w ⟨x, rfl, hx⟩ rfl
    exact RvP_of (rv_I (lo_small (m := 7) (by decide) (by decide))) fun b e => ⟨_, e⟩
  · rintro v w ⟨x, rfl⟩ ⟨y, rfl⟩
    exact RvP_of rv_I0 fun b e => ⟨_, e⟩
  · rintro as ⟨v, vs, rfl, ⟨x, rfl⟩, rfl⟩
    exact RcP_of rc_int fun b e => ⟨x, e⟩
  · rintro v w ⟨x, rfl⟩ rfl
    obtain ⟨r, hr1, hr2⟩ := mod_nat (x := x) h0
    exact RvP_of (rv_I (by omega)) fun b e => ⟨r, hr1, by rw [e, hr2]⟩
  · rintro v ⟨r, hr, rfl⟩
    exact hp r hr
end
end LW

/-! The law's rows of chances and its trees. -/
namespace LW
open L2 PySem PySem.Spec PyProof.Rows
theorem pick_list {α : Type} {f : α → PyData} {Q : α → Prop} : ∀ {es : List PyData}, (∀ (i : Nat) (e : PyData), es[i]? = some e → ∃ x, Q x ∧ e = f x) → ∃ xs : List α, es = xs.map f ∧ ∀ x ∈ xs, Q x
  | [], _ => ⟨[], rfl, by simp⟩
  | e :: es, h => by
    obtain ⟨x, hx, rfl⟩ := h 0 e rfl
    obtain ⟨xs, rfl, hq⟩ := pick_list (es := es) fun i d hd => h (i + 1) d (by simpa using hd)
    exact ⟨x :: xs, rfl, fun y hy => by
      rcases memC hy with z | z
      · rw [z]; exact hx
      · exact hq y z⟩
/-- chances as the law rolls them -/
structure RowOk (many : Nat) (row : List Rat) : Prop where
  ex : ∃ ns : List Int, ns.length = many ∧ (∀ k ∈ ns, 0 ≤ k ∧ k ≤ 11) ∧ 0 < ns.sum ∧ row = ns.map fun k => Rat.divInt k ns.sum
theorem sum_le : ∀ {ns : List Int}, (∀ k ∈ ns, 0 ≤ k ∧ k ≤ 11) → 0 ≤ ns.sum ∧ ns.sum ≤ 11 * (ns.length : Int)
  | [], _ => by simp
  | k :: r, h => by
    have h1 := sum_le (ns := r) fun x hx => h x (List.mem_cons_of_mem _ hx)
    have h2 := h k List.mem_cons_self
    simp only [List.length_cons, List.sum_cons]
    omega
theorem sum_pos : ∀ {ns : List Int} {j : Nat} {v : Int}, (∀ k ∈ ns, 0 ≤ k ∧ k ≤ 11) → ns[j]? = some v → 1 ≤ v → 0 < ns.sum
  | k :: r, 0, v, h, e, hv => by
    obtain rfl : k = v := by simpa using e
    have h1 := sum_le (ns := r) fun x hx => h x (List.mem_cons_of_mem _ hx)
    simp only [List.sum_cons]
    omega
  | k :: r, j + 1, v, h, e, hv => by
    have h1 := sum_pos (ns := r) (j := j) (fun x hx => h x (List.mem_cons_of_mem _ hx)) (by simpa using e) hv
    have h2 := h k List.mem_cons_self
    simp only [List.sum_cons]
    omega
theorem RowOk.len {many : Nat} {row : List Rat} (h : RowOk many row) : row.length = many := by
  obtain ⟨ns, h1, h2, h3, rfl⟩ := h.ex
  simp [h1]
theorem RowOk.bd {many B : Nat} {row : List Rat} (h : RowOk many row) (hB : 11 * many ≤ B) (h0 : 11 ≤ B) : ∀ q ∈ row, Bd B B q := fun q hq => by
  obtain ⟨ns, h1, h2, h3, rfl⟩ := h.ex
  obtain ⟨k, hk, rfl⟩ := List.mem_map.mp hq
  have hs := sum_le h2
  have hk2 := h2 k hk
  refine ⟨Nat.le_trans (small_num (by omega)) (by omega), Nat.le_trans (small_den (by omega)) (by omega)⟩
theorem least_ex {p : Nat → Prop} (h : ∃ n, p n) : ∃ n, p n ∧ ∀ m, m < n → ¬ p m := by
  obtain ⟨n, hn⟩ := h
  refine Nat.strongRecOn (motive := fun n => p n → ∃ n, p n ∧ ∀ m, m < n → ¬ p m) n (fun n ih hn => ?_) hn
  by_cases hm : ∃ m, m < n ∧ p m
  · obtain ⟨m, h1, h2⟩ := hm
    exact ih m h1 h2
  · exact ⟨n, hn, fun m h1 h2 => hm ⟨m, h1, h2⟩⟩
theorem firstBest_ex : ∀ (ws : List Rat), ws ≠ [] → ∃ j, FirstBest ws j := fun ws h => by
  obtain ⟨x, r, rfl⟩ := List.exists_cons_of_ne_nil h
  have hm : maxQ (x :: r) ∈ x :: r := maxQ_in
  obtain ⟨i, hi, he⟩ := List.getElem_of_mem hm
  have hex : ∃ j, (x :: r)[j]? = some (maxQ (x :: r)) := ⟨i, by rw [List.getElem?_eq_getElem hi, he]⟩
  obtain ⟨j, h1, h2⟩ := least_ex hex
  exact ⟨j, h1, fun m y hm hy e => h2 m hm (by rw [hy, e])⟩
theorem maxQ_mem {ws : List Rat} (h : ws ≠ []) : maxQ ws ∈ ws := by
  obtain ⟨x, r, rfl⟩ := List.exists_cons_of_ne_nil h
  exact maxQ_in
section
variable {P : Program} {w : World} {c : Cf} {mg : Str → Option Value} {base : Heap}
theorem cal_recS {CX : CXT} {x : Str} {ps N : List Str} {st : Stmt} {sp : Nat → Sp} (L : Nat) (D : Def c mg x st []) (S : FnScope N ps (defScope st)) (hb : bindsAs x x st ps) (h0 : ∀ vs H Q E, ¬ sp 0 vs H Q E)
    (step : ∀ n, Cal P w c mg base CX (L + 1 + n) x ps (sp n) → Cal P w c mg base CX (L + 1 + n + 1) x ps (sp (n + 1))) : ∀ n, Cal P w c mg base CX (L + 1 + n) x ps (sp n)
  | 0 => Cal.none (dvs := []) D S hb h0
  | n + 1 => step n (cal_recS L D S hb h0 step n)
/-- f(dice, m) -/
theorem em_roll {M : Mu} {G : Env'} {E : XK} {N1 N2 : Mu} {a : Addr} {n many i : Nat} {te : TE} (hM : M = N1 ++ (a, IsDice (n + 1)) :: N2) (h1 : a ∉ N1.map (·.1)) (h2 : a ∉ N2.map (·.1)) (hg : G[i]? = some (some (.at a))) (hm : EvD c M te G (aI (many : Int))) (h0 : 0 < many) (hl : many ≤ 30000) :
    EvM c M (tCall (spM c R_roll) [] E (tCons (tVar i) (tCons te tNil))) G fun M' v => M' = N1 ++ (a, IsDice n) :: N2 ∧ ∃ r : Nat, r < many ∧ v = aI (r : Int) := by
  refine em_callM (EvA.m (ea_cons (ev_var hg) (ea_cons hm ea_nil)) ?_)
  exact ⟨N1, N2, a, n, many, hM, h1, h2, rfl, h0, hl, fun r hr => ⟨rfl, r, hr, rfl⟩⟩
abbrev CalRoll (P : Program) (w : World) (c : Cf) (mg : Str → Option Value) (base : Heap) : Prop := Cal P w c mg base CX0 1 "_law_roll" ["dice", "many"] (spM c R_roll)
def R_row : PRM := fun M as PP => ∃ (N1 N2 : Mu) (a : Addr) (n many : Nat), M = N1 ++ (a, IsDice (n + 2 + many)) :: N2 ∧ a ∉ N1.map (·.1) ∧ a ∉ N2.map (·.1) ∧ as = [.at a, aI (many : Int)] ∧ 0 < many ∧ many ≤ 6 ∧ ∀ row, RowOk many row → PP (N1 ++ (a, IsDice n) :: N2) (aT (row.map dQ))
theorem divInt_lo {s : Int} (h0 : 0 < s) (h : s ≤ 66) : s ≠ 0 ∧ s.natAbs < loB := ⟨by omega, Nat.lt_of_lt_of_le (show s.natAbs < 2 ^ 7 by omega) (Nat.pow_le_pow_right (by decide) (by decide))⟩
theorem small_hB {n : Nat} (h : n < 2 ^ 30) : n < hB := Nat.lt_of_lt_of_le h (Nat.pow_le_pow_right (by decide) (by decide))
theorem ok_law_row (B : Bt mg) (D : Def c mg "_law_row" s_law_row []) (c_law_roll : CalRoll P w c mg base) (c_part : CalPart P w c mg base) : Cal P w c mg base CX0 3 "_law_row" ["dice", "many"] (spM c R_row) := by
  refine D.cal sc_law_row bd_law_row (lenM fun M as PP ⟨_, _, _, _, _, _, _, _, e, _⟩ => by rw [e]; rfl) (bodyM fun f cdv A outer s H E hr => ⟨_, (pss_cons (ps_set (i := 2) sc_law_row.nd rfl (.inr rfl) (pe_lc (own := [("k", 3)]) (g := (gName 3)) (tt := tYes) rfl sc_law_row.nd (pi_range1 (by rfl) B.range (pa_cons (pv 1) pa_nil)) (blkOk_by (N := N_law_row) (sc := defScope s_law_row) (by decide +kernel)) (fun _ _ _ _ _ => (pg_name (i := 3) sc_law_row.nd rfl (.inl rfl))) (fun _ _ _ _ _ => pts_nil) (fun _ _ _ _ _ => (pe_cal rfl (c_law_roll.mono (by omega)) hr (by rfl) pass0 (pa_cons (pv 0) (pa_cons pe_int pa_nil))))))
      (pss_cons (ps_asg (pe_op op_add pe_int (pe_cal rfl (c_law_roll.mono (by omega)) hr (by rfl) pass0 (pa_cons (pv 0) (pa_cons pe_int pa_nil)))) (pg_sub (pv 2) (pe_cal rfl (c_law_roll.mono (by omega)) hr (by rfl) pass0 (pa_cons (pv 0) (pa_cons (pv 1) pa_nil))) set_list))
      (pss_one (ps_ret (pe_callTy call_tupQ (by rfl) B.tuple (by decide +kernel) (pa_cons (pe_lc (own := [("weight", 4)]) (g := (gName 4)) (tt := tYes) rfl sc_law_row.nd (pi_list (pv 2)) (blkOk_by (N := N_law_row) (sc := defScope s_law_row) (by decide +kernel)) (fun _ _ _ _ _ => (pg_name (i := 4) sc_law_row.nd rfl (.inl rfl))) (fun _ _ _ _ _ => pts_nil) (fun _ _ _ _ _ => (pe_cal rfl (c_part.mono (by omega)) hr (by rfl) pass0 (pa_cons (pv 4) (pa_cons (pe_callB (id := "sum") (r := rSum c.K) (cr_sum rfl) (by rfl) B.sum (by decide +kernel) (pa_cons (pv 2) pa_nil)) pa_nil))))) pa_nil)))))), ?_⟩)
  rintro M as PP ⟨N1, N2, a, n, many, rfl, h1, h2, rfl, h0, hm, hp⟩
  refine sm_new (PN := fun M' es => M' = N1 ++ (a, IsDice (n + 2)) :: N2 ∧ ∃ ns : List Int, es = ns.map PyData.int ∧ ns.length = many ∧ ∀ k ∈ ns, 0 ≤ k ∧ k ≤ 11) (em_lc (PI := fun M' ds => M' = N1 ++ (a, IsDice (n + 2 + many)) :: N2 ∧ ds = rngD 0 many) (ItD.m (it_range1 (ea_cons (ev_var rfl) ea_nil) (by omega)) ⟨rfl, rfl⟩) ?_) ?_
  · rintro M1 ds ⟨rfl, rfl⟩
    refine ⟨by rw [rngD_len]; omega, fun i M2 => i ≤ many ∧ M2 = N1 ++ (a, IsDice (n + 2 + (many - i))) :: N2, fun _ e => ∃ k : Int, (0 ≤ k ∧ k ≤ 11) ∧ e = .int k, ⟨Nat.zero_le _, rfl⟩, ?_, ?_, ?_⟩
    · rintro i M2 ⟨_, rfl⟩
      simp
    · rintro N i d M2 hN hd ⟨hi, rfl⟩
      obtain ⟨hi2, rfl⟩ := rngD_at hd
      refine ⟨_, _, tg_name, by simp, ?_⟩
      refine EvM.mono (em_roll (N1 := N :: N1) (N2 := N2) (a := a) (n := n + 2 + (many - (i + 1))) (many := 12) (i := 0) ?_ ?_ h2 rfl ev_int (by decide) (by decide)) ?_
      · rw [show n + 2 + (many - i) = n + 2 + (many - (i + 1)) + 1 by omega]
        rfl
      · intro z
        rcases memC z with z | z
        · exact hN (by rw [← (show a = N.1 from z)]; simp)
        · exact h1 z
      · rintro M' v ⟨rfl, r, hr, rfl⟩
        exact ⟨_, rfl, ⟨by omega, rfl⟩, _, rfl, (r : Int), by omega, rfl⟩
    · rintro M2 es hl he ⟨_, rfl⟩
      rw [rngD_len] at hl
      obtain ⟨ns, rfl, hn⟩ := pick_list he
      refine ⟨?_, ns, rfl, by simpa using hl, hn⟩
      rw [rngD_len, Nat.sub_self]
  rintro l M1 xs ds ⟨rfl, ns, rfl, hln, hns⟩ hl hxs
  have hla : l ≠ a := fun z => hl (by rw [z]; simp)
  refine sm_seq (PG1 := fun M' G => ∃ (xs : List V) (ns : List Int), M' = (l, isL xs) :: (N1 ++ (a, IsDice n) :: N2) ∧ G = [some (.at a), some (aI (many : Int)), some (.mls l xs (ns.map PyData.int)), none, none] ∧ ns.length = many ∧ (∀ k ∈ ns, 0 ≤ k ∧ k ≤ 11) ∧ 0 < ns.sum)
    (sm_asgM (PA := fun M' v => M' = (l, isL xs) :: (N1 ++ (a, IsDice (n + 1)) :: N2) ∧ ∃ k : Int, v = aI k ∧ 1 ≤ k ∧ k ≤ 11) (em_op (PA := fun M' v => M' = (l, isL xs) :: (N1 ++ (a, IsDice (n + 2)) :: N2) ∧ v = aI 1) (EvP.m ev_int fun v e => ⟨rfl, e⟩) ?_) ?_) ?_
  · rintro M' v ⟨rfl, rfl⟩
    refine EvM.mono (em_roll (N1 := (l, isL xs) :: N1) (N2 := N2) (a := a) (n := n + 1) (many := 11) (i := 0) rfl ?_ h2 rfl ev_int (by decide) (by decide)) ?_
    · intro z
      rcases memC z with z | z
      · exact hla z.symm
      · exact h1 z
    · rintro M' v ⟨rfl, r, hr, rfl⟩
      exact RvP_of rv_I0 fun b e => ⟨rfl, _, e, by omega, by omega⟩
  · rintro M' v ⟨rfl, k, rfl, hk1, hk2⟩
    refine tgm_sub (i := 2) (l := l) (xs := xs) (ds := ns.map PyData.int) rfl (em_roll (N1 := (l, isL xs) :: N1) (N2 := N2) (a := a) (n := n) (many := many) (i := 0) rfl ?_ h2 rfl (ev_var rfl) h0 (by omega)) ?_
    · intro z
      rcases memC z with z | z
      · exact hla z.symm
      · exact h1 z
    · rintro M' v ⟨rfl, r, hr, rfl⟩
      refine ⟨r, [], N1 ++ (a, IsDice n) :: N2, rfl, by rw [List.length_map]; omega, rfl, by simp, ?_, fun v => ?_⟩
      · intro z
        exact hl (by simpa using z)
      · have hs : ∀ y ∈ ns.set r k, 0 ≤ y ∧ y ≤ 11 := fun y hy => by
          rcases List.mem_or_eq_of_mem_set hy with z | z
          · exact hns y z
          · rw [z]
            omega
        refine ⟨xs.set r v, ns.set r k, rfl, ?_, by rw [List.length_set]; exact hln, hs, sum_pos hs (List.getElem?_set_self (by omega)) hk1⟩
        rw [List.map_set]
        rfl
  rintro M' G ⟨xs, ns, rfl, rfl, hln, hns, hpos⟩
  refine sm_freeze (i := 2) rfl (fun z => hl (by simpa using z)) ?_
  have hsum := sum_le hns
  refine StP.m (st_ret (EvP.of (a := aT ((ns.map fun k => Rat.divInt k ns.sum).map dQ)) (P := fun v => v = aT ((ns.map fun k => Rat.divInt k ns.sum).map dQ)) (ev_cb (ea_cons (ev_lc (es := (ns.map fun k => Rat.divInt k ns.sum).map dQ) (it_list (ev_var rfl)) (by rw [List.length_map]; omega) (by simp) ?_) ea_nil) rc_tupL) rfl)) (fun G' (h : False) => h.elim) ?_
  · intro M' hM i d e hd he
    rw [List.map_map] at he
    obtain ⟨k, hk, rfl, rfl⟩ := map2_at hd he
    have hk2 := hns k (List.mem_of_getElem? hk)
    obtain ⟨d1, d2⟩ := divInt_lo (s := ns.sum) hpos (by omega)
    exact ⟨_, _, tg_name, by simp, ev_call (ea_cons (ev_var rfl) (ea_cons (ev_cb (ea_cons (ev_var rfl) ea_nil) rc_sum) ea_nil)) ⟨k, ns.sum, rfl, d1, d2, small_hB (by omega), rfl⟩⟩
  · rintro v rfl
    exact ⟨fun z => hl (by simpa using z), hp _ ⟨ns, hln, hns, hpos, rfl⟩⟩
end
end LW

/-! The law's trees. -/
namespace LW
open L2 PySem PySem.Spec PyProof.Rows
/-- so many rolls for a tree -/
def TC : Nat → Nat
  | 0 => 2
  | d + 1 => 10 + 3 * TC d
theorem TC_pos : ∀ d, 2 ≤ TC d
  | 0 => Nat.le_refl _
  | d + 1 => by unfold TC; omega
def R_tree (m : Nat) : PRM := fun M as PP => ∃ (N1 N2 : Mu) (a : Addr) (n d : Nat), d + 1 ≤ m ∧ d ≤ 6 ∧ M = N1 ++ (a, IsDice (n + TC d)) :: N2 ∧ a ∉ N1.map (·.1) ∧ a ∉ N2.map (·.1) ∧ as = [.at a, aI (d : Int)] ∧ ∀ t, TreeD (d + 1) t → ∀ n', n ≤ n' → PP (N1 ++ (a, IsDice n') :: N2) (.d t.d)
theorem end_bd {x r : Nat} (hx : x < 20001) (hr : r < 9) : BdT 0 (Rat.divInt ((x : Int) - 10000) (1 + (r : Int))) := by
  have h0 : (1 + (r : Int)) ≠ 0 := by omega
  exact ⟨Nat.le_trans (small_num h0) (by show _ ≤ 10000; omega), Nat.le_trans (small_den h0) (by show _ ≤ 9; omega)⟩
theorem tree_choose {d : Nat} {ts : List Nd} (h0 : ts ≠ []) (hl : ts.length ≤ 3) (h : ∀ t ∈ ts, TreeD (d + 1) t) : ∃ t, TreeD (d + 2) t ∧ t.d = dChoose (ts.map (·.d)) := by
  have hw : ts.map (·.w) ≠ [] := by simpa using h0
  obtain ⟨j, hj⟩ := firstBest_ex _ hw
  have h1 := hj.1
  rw [List.getElem?_map] at h1
  cases e : ts[j]? with
  | none => rw [e] at h1; cases h1
  | some t =>
    have hb : BdT (d + 1) (maxQ (ts.map (·.w))) := by
      obtain ⟨t', ht', e'⟩ := List.mem_map.mp (maxQ_mem hw)
      rw [← e']
      exact ((h t' ht').bd').up (by omega)
    exact ⟨_, TreeD.choose (d + 1) ts h0 hl h j t e hj hb, rfl⟩
theorem tree_luck {d : Nat} (hd : d + 1 ≤ 6) {ts : List Nd} {row : List Rat} (h0 : ts ≠ []) (hl : ts.length ≤ 3) (h : ∀ t ∈ ts, TreeD (d + 1) t) (hr : RowOk ts.length row) : ∃ t, TreeD (d + 2) t ∧ t.d = dLuck ((row.zip ts).map lkD) := by
  have hlen : (row.zip ts).length = ts.length := by rw [List.length_zip, hr.len]; exact Nat.min_self _
  have hz : row.zip ts ≠ [] := fun z => h0 (List.length_eq_zero_iff.mp (by rw [← hlen, z]; rfl))
  have hc : ∀ t ∈ row.zip ts, ChT t.1 := fun t ht => hr.bd (B := 33) (by omega) (by decide) t.1 (List.of_mem_zip ht).1
  have ht2 : ∀ t ∈ row.zip ts, TreeD (d + 1) t.2 := fun t ht => h t.2 (List.of_mem_zip ht).2
  refine ⟨_, TreeD.luck (d + 1) (row.zip ts) hz (by omega) ht2 hc ?_, rfl⟩
  refine (luck_ok (n := d) hd (by rw [List.length_map]; omega) fun x hx => ?_).2
  obtain ⟨t, ht, rfl⟩ := List.mem_map.mp hx
  exact cht_mul (hc t ht) (ht2 t ht).bd'
section
variable {P : Program} {w : World} {c : Cf} {mg : Str → Option Value} {base : Heap}
theorem not_cons {a : Addr} {N : Addr × (HO → Prop)} {N1 : Mu} (h : N.1 ≠ a) (h1 : a ∉ N1.map (·.1)) : a ∉ (N :: N1).map (·.1) := fun z => by
  rcases memC z with z | z
  · exact h z.symm
  · exact h1 z
theorem ok_law_tree (B : Bt mg) (D : Def c mg "_law_tree" s_law_tree []) (c_law_roll : CalRoll P w c mg base) (c_part : CalPart P w c mg base) (c_law_row : Cal P w c mg base CX0 3 "_law_row" ["dice", "many"] (spM c R_row)) :
    ∀ n, Cal P w c mg base CX0 (3 + 1 + n) "_law_tree" ["dice", "deep"] (spM c (R_tree n)) :=
  cal_recS 3 D sc_law_tree bd_law_tree (spM_none fun M as PP ⟨_, _, _, _, _, e, _⟩ => by omega) fun mm c_law_tree => by
  refine D.cal sc_law_tree bd_law_tree (lenM fun M as PP ⟨_, _, _, _, _, _, _, _, _, _, e, _⟩ => by rw [e]; rfl) (bodyM fun f cdv A outer s H E hr => ⟨_, (pss_cons (ps_set (i := 2) sc_law_tree.nd rfl (.inl rfl) (pe_ifExp (pt_cmpR (op_eqD hr.units) (pv 1) pe_int (nomark _)) pe_int (pe_cal rfl (c_law_roll.mono (by omega)) hr (by rfl) pass0 (pa_cons (pv 0) (pa_cons pe_int pa_nil)))))
      (pss_cons (ps_if (pt_cmpR (op_eqD hr.units) (pv 2) pe_int (nomark _)) (pss_one (ps_ret (pe_tup (pa_cons pe_str (pa_cons (pe_cal rfl (c_part.mono (by omega)) hr (by rfl) pass0 (pa_cons (pe_op op_sub (pe_cal rfl (c_law_roll.mono (by omega)) hr (by rfl) pass0 (pa_cons (pv 0) (pa_cons pe_int pa_nil))) pe_int) (pa_cons (pe_op op_add pe_int (pe_cal rfl (c_law_roll.mono (by omega)) hr (by rfl) pass0 (pa_cons (pv 0) (pa_cons pe_int pa_nil)))) pa_nil))) pa_nil))))) pss_nil)
      (pss_cons (ps_set (i := 3) sc_law_tree.nd rfl (.inr rfl) (pe_lc (own := [("k", 4)]) (g := (gName 4)) (tt := tYes) rfl sc_law_tree.nd (pi_range1 (by rfl) B.range (pa_cons (pe_op op_add pe_int (pe_cal rfl (c_law_roll.mono (by omega)) hr (by rfl) pass0 (pa_cons (pv 0) (pa_cons pe_int pa_nil)))) pa_nil)) (blkOk_by (N := N_law_tree) (sc := defScope s_law_tree) (by decide +kernel)) (fun _ _ _ _ _ => (pg_name (i := 4) sc_law_tree.nd rfl (.inl rfl))) (fun _ _ _ _ _ => pts_nil) (fun _ _ _ _ _ => (pe_cal rfl (c_law_tree.mono (by omega)) hr (by rfl) pass0 (pa_cons (pv 0) (pa_cons (pe_op op_sub (pv 1) pe_int) pa_nil))))))
      (pss_cons (ps_if (pt_cmpR op_lt (pv 2) pe_int (nomark _)) (pss_one (ps_ret (pe_tup (pa_cons pe_str (pa_cons (pe_callTy call_tupQ (by rfl) B.tuple (by decide +kernel) (pa_cons (pv 3) pa_nil)) pa_nil))))) pss_nil)
      (pss_cons (ps_set (i := 5) sc_law_tree.nd rfl (.inr rfl) (pe_cal rfl (c_law_row.mono (by omega)) hr (by rfl) pass0 (pa_cons (pv 0) (pa_cons (pe_callB call_lenQ (by rfl) B.len PySem.boot_len (pa_cons (pv 3) pa_nil)) pa_nil))))
      (pss_one (ps_ret (pe_tup (pa_cons pe_str (pa_cons (pe_callTy call_tupQ (by rfl) B.tuple (by decide +kernel) (pa_cons (pe_lc (own := [("k", 4)]) (g := (gName 4)) (tt := tYes) rfl sc_law_tree.nd (pi_range1 (by rfl) B.range (pa_cons (pe_callB call_lenQ (by rfl) B.len PySem.boot_len (pa_cons (pv 3) pa_nil)) pa_nil)) (blkOk_by (N := N_law_tree) (sc := defScope s_law_tree) (by decide +kernel)) (fun _ _ _ _ _ => (pg_name (i := 4) sc_law_tree.nd rfl (.inl rfl))) (fun _ _ _ _ _ => pts_nil) (fun _ _ _ _ _ => (pe_tup (pa_cons (pe_ix (r := rIx c.K) ix_seq (pv 5) (pv 4) (fun _ _ => rfl)) (pa_cons (pe_ix (r := rIx c.K) ix_seq (pv 3) (pv 4) (fun _ _ => rfl)) pa_nil))))) pa_nil)) pa_nil)))))))))), ?_⟩)
  rintro M as PP ⟨N1, N2, a, n, m, hmd, hd6, rfl, h1, h2, rfl, hp⟩
  have hTC := TC_pos m
  refine sm_seq (PG1 := fun M' G => ∃ (r k : Nat), k < 5 ∧ (m = 0 → k = 0) ∧ r + 1 ≥ n + TC m ∧ (k = 0 → r ≥ n + 2) ∧ M' = N1 ++ (a, IsDice r) :: N2 ∧ G = [some (.at a), some (aI (m : Int)), some (aI (k : Int)), none, none, none]) (sm_set (em_if (b := decide (m = 0)) (et_is (et_test (ev_op (ev_var rfl) ev_int rv_eqDI)) (by simp)) (fun h => ?_) fun h => ?_)) ?_
  · have h : m = 0 := of_decide_eq_true h
    exact EvP.m ev_int fun v e => ⟨n + TC m, 0, by decide, fun _ => rfl, by omega, fun _ => by omega, rfl, by subst e; rfl⟩
  · have h : m ≠ 0 := of_decide_eq_false h
    obtain ⟨m', rfl⟩ : ∃ m', m = m' + 1 := ⟨m - 1, by omega⟩
    refine EvM.mono (em_roll (N1 := N1) (N2 := N2) (a := a) (n := n + TC (m' + 1) - 1) (many := 5) (i := 0) (by rw [show n + TC (m' + 1) - 1 + 1 = n + TC (m' + 1) by omega]) h1 h2 rfl ev_int (by decide) (by decide)) ?_
    rintro M' v ⟨rfl, k, hk, rfl⟩
    have : TC (m' + 1) = 10 + 3 * TC m' := rfl
    exact ⟨_, k, hk, fun z => absurd z h, by omega, fun _ => by omega, rfl, rfl⟩
  rintro M' G ⟨r, k, hk, hk0, hr1, hr2, rfl, rfl⟩
  refine sm_seq (PG1 := fun M' G => k ≠ 0 ∧ M' = N1 ++ (a, IsDice r) :: N2 ∧ G = [some (.at a), some (aI (m : Int)), some (aI (k : Int)), none, none, none]) (sm_if (b := decide (k = 0)) (et_is (et_test (ev_op (ev_var rfl) ev_int rv_eqDI)) (by simp)) (fun h => ?_) fun h => sm_next ⟨of_decide_eq_false h, rfl, rfl⟩) ?_
  · have h : k = 0 := of_decide_eq_true h
    have hr2 := hr2 h
    refine sm_ret (em_tup (eam_cons (PA := fun M' v => M' = N1 ++ (a, IsDice r) :: N2 ∧ v = .d (.str "end")) (EvP.m ev_str fun v e => ⟨rfl, e⟩) ?_))
    rintro M' v ⟨rfl, rfl⟩
    refine eam_cons (PA := fun M' v => ∃ q, BdT 0 q ∧ M' = N1 ++ (a, IsDice (r - 2)) :: N2 ∧ v = aQ q) (em_call (eam_cons (PA := fun M' v => ∃ x : Nat, x < 20001 ∧ M' = N1 ++ (a, IsDice (r - 1)) :: N2 ∧ v = aI ((x : Int) - 10000)) (em_op (em_roll (N1 := N1) (N2 := N2) (a := a) (n := r - 1) (many := 20001) (i := 0) (by rw [show r - 1 + 1 = r by omega]) h1 h2 rfl ev_int (by decide) (by decide)) ?_) ?_)) ?_
    · rintro M1 v ⟨rfl, x, hx, rfl⟩
      exact EvP.m (P := fun v => v = aI 10000) ev_int fun b e => by
        subst e
        exact RvP_of rv_I0 fun b e => ⟨x, hx, rfl, e⟩
    · rintro M1 v ⟨x, hx, rfl, rfl⟩
      refine eam_cons (PA := fun M' v => ∃ y : Nat, y < 9 ∧ M' = N1 ++ (a, IsDice (r - 2)) :: N2 ∧ v = aI (1 + (y : Int))) (em_op (PA := fun M' v => M' = N1 ++ (a, IsDice (r - 1)) :: N2 ∧ v = aI 1) (EvP.m ev_int fun v e => ⟨rfl, e⟩) ?_) ?_
      · rintro M1 v ⟨rfl, rfl⟩
        refine EvM.mono (em_roll (N1 := N1) (N2 := N2) (a := a) (n := r - 2) (many := 9) (i := 0) (by rw [show r - 2 + 1 = r - 1 by omega]) h1 h2 rfl ev_int (by decide) (by decide)) ?_
        rintro M1 v ⟨rfl, y, hy, rfl⟩
        exact RvP_of rv_I0 fun b e => ⟨y, hy, rfl, e⟩
      · rintro M1 v ⟨y, hy, rfl, rfl⟩
        refine eam_nil ?_
        obtain ⟨d1, d2⟩ := divInt_lo (s := 1 + (y : Int)) (by omega) (by omega)
        exact ⟨_, _, rfl, d1, d2, small_hB (by omega), _, end_bd hx hy, rfl, rfl⟩
    · rintro M1 v ⟨q, hq, rfl, rfl⟩
      refine eam_nil ⟨[.str "end", dQ q], rfl, by show 2 ≤ 1000; decide, ?_⟩
      exact hp ⟨dEnd q, q, .tuple [], dPap q []⟩ (TreeD.ends m q (hq.up (Nat.zero_le _))) (r - 2) (by omega)
  rintro M' G ⟨hk1, rfl, rfl⟩
  have hm0 : m ≠ 0 := fun z => hk1 (hk0 z)
  obtain ⟨m', rfl⟩ : ∃ m', m = m' + 1 := ⟨m - 1, by omega⟩
  have hTC2 : TC (m' + 1) = 10 + 3 * TC m' := rfl
  refine sm_seq (PG1 := fun M' G => ∃ (r : Nat) (ts : List Nd), r ≥ n + 8 ∧ M' = N1 ++ (a, IsDice r) :: N2 ∧ ts ≠ [] ∧ ts.length ≤ 3 ∧ (∀ t ∈ ts, TreeD (m' + 1) t) ∧ G = [some (.at a), some (aI ((m' + 1 : Nat) : Int)), some (aI (k : Int)), some (aL (ts.map (·.d))), none, none]) (sm_set (EvNM.ev (PN := fun M' es => ∃ (r : Nat) (ts : List Nd), r ≥ n + 8 ∧ M' = N1 ++ (a, IsDice r) :: N2 ∧ ts ≠ [] ∧ ts.length ≤ 3 ∧ (∀ t ∈ ts, TreeD (m' + 1) t) ∧ es = ts.map (·.d)) (em_lc (PI := fun M' ds => ∃ y : Nat, 0 < y ∧ y ≤ 3 ∧ M' = N1 ++ (a, IsDice (r - 1)) :: N2 ∧ ds = rngD 0 y) (im_range1 (eam_cons (PA := fun M' v => ∃ y : Nat, 0 < y ∧ y ≤ 3 ∧ M' = N1 ++ (a, IsDice (r - 1)) :: N2 ∧ v = aI (y : Int)) (em_op (PA := fun M' v => M' = N1 ++ (a, IsDice r) :: N2 ∧ v = aI 1) (EvP.m ev_int fun v e => ⟨rfl, e⟩) ?_) ?_)) ?_) ?_)) ?_
  · rintro M1 v ⟨rfl, rfl⟩
    refine EvM.mono (em_roll (N1 := N1) (N2 := N2) (a := a) (n := r - 1) (many := 3) (i := 0) (by rw [show r - 1 + 1 = r by omega]) h1 h2 rfl ev_int (by decide) (by decide)) ?_
    rintro M1 v ⟨rfl, y, hy, rfl⟩
    exact RvP_of rv_I0 fun b e => ⟨y + 1, by omega, by omega, rfl, by rw [e]; congr 2; omega⟩
  · rintro M1 v ⟨y, hy0, hy3, rfl, rfl⟩
    exact eam_nil ⟨y, rfl, by omega, y, hy0, hy3, rfl, rfl⟩
  · rintro M1 ds ⟨y, hy0, hy3, rfl, rfl⟩
    refine ⟨by rw [rngD_len]; omega, fun i M2 => i ≤ y ∧ ∃ r', r' + i * TC m' ≥ r - 1 ∧ M2 = N1 ++ (a, IsDice r') :: N2, fun _ e => ∃ t : Nd, TreeD (m' + 1) t ∧ e = t.d, ⟨Nat.zero_le _, r - 1, by omega, rfl⟩, ?_, ?_, ?_⟩
    · rintro i M2 ⟨_, r', _, rfl⟩
      simp
    · rintro N i d M2 hN hd ⟨hi, r', hr', rfl⟩
      obtain ⟨hi2, rfl⟩ := rngD_at hd
      have hNa : N.1 ≠ a := fun z => hN (by rw [z]; simp)
      have hi3 : i * TC m' ≤ 2 * TC m' := Nat.mul_le_mul_right _ (by omega)
      have hi4 : (i + 1) * TC m' = i * TC m' + TC m' := by rw [Nat.add_mul, Nat.one_mul]
      refine ⟨_, _, tg_name, by simp, em_callM (EvA.m (as := [.at a, aI (m' : Int)]) (ea_cons (ev_var rfl) (ea_cons (ev_op (ev_var rfl) ev_int (RvP_of rv_I0 fun b e => by rw [e]; congr 2; omega)) ea_nil)) ?_)⟩
      refine ⟨N :: N1, N2, a, r' - TC m', m', by omega, by omega, ?_, not_cons hNa h1, h2, rfl, fun t ht n' hn' => ⟨_, rfl, ⟨by omega, n', ?_, rfl⟩, _, rfl, t, ht, rfl⟩⟩
      · rw [show r' - TC m' + TC m' = r' by omega]
        rfl
      · omega
    · rintro M2 es hl he ⟨_, r', hr', rfl⟩
      rw [rngD_len] at hl hr'
      obtain ⟨ts, rfl, ht⟩ := pick_list he
      have hl : ts.length = y := by simpa using hl
      have hy4 : y * TC m' ≤ 3 * TC m' := Nat.mul_le_mul_right _ hy3
      exact ⟨r', ts, by omega, rfl, fun z => by rw [z] at hl; simp at hl; omega, by omega, ht, rfl⟩
  · rintro M' ds ⟨r', ts, h3, rfl, h4, h5, h6, rfl⟩
    exact ⟨r', ts, h3, rfl, h4, h5, h6, rfl⟩
  rintro M' G ⟨r', ts, hr', rfl, hts, hl, ht, rfl⟩
  refine sm_seq (PG1 := fun M' G => M' = N1 ++ (a, IsDice r') :: N2 ∧ G = [some (.at a), some (aI ((m' + 1 : Nat) : Int)), some (aI (k : Int)), some (aL (ts.map (·.d))), none, none]) (sm_if (b := decide ((k : Int) < 3)) (et_test (ev_op (ev_var rfl) ev_int rv_B0)) (fun h => ?_) fun h => sm_next ⟨rfl, rfl⟩) ?_
  · obtain ⟨t, ht1, ht2⟩ := tree_choose hts hl ht
    refine StP.m (st_ret (EvP.of (P := fun v => v = .d t.d) (ev_tup (ds := [.str "choose", .tuple (ts.map (·.d))]) (ea_cons ev_str (ea_cons (ev_cb (ea_cons (ev_var rfl) ea_nil) rc_tupL) ea_nil)) (by show 2 ≤ 1000; decide)) (by rw [ht2]; rfl))) (fun G' (h : False) => h.elim) ?_
    rintro v rfl
    exact hp t ht1 r' (by omega)
  rintro M' G ⟨rfl, rfl⟩
  have hl0 : 0 < ts.length := List.length_pos_iff.mpr hts
  refine sm_seq (PG1 := fun M' G => ∃ row, RowOk ts.length row ∧ M' = N1 ++ (a, IsDice (r' - 2 - ts.length)) :: N2 ∧ G = [some (.at a), some (aI ((m' + 1 : Nat) : Int)), some (aI (k : Int)), some (aL (ts.map (·.d))), none, some (aT (row.map dQ))]) (sm_set (em_callM (EvA.m (as := [.at a, aI (ts.length : Int)]) (ea_cons (ev_var rfl) (ea_cons (ev_is (ev_cb (ea_cons (ev_var rfl) ea_nil) rc_lenL) (by rw [List.length_map])) ea_nil)) ?_))) ?_
  · exact ⟨N1, N2, a, r' - 2 - ts.length, ts.length, by rw [show r' - 2 - ts.length + 2 + ts.length = r' by omega], h1, h2, rfl, hl0, by omega, fun row hrow => ⟨row, hrow, rfl, rfl⟩⟩
  rintro M' G ⟨row, hrow, rfl, rfl⟩
  obtain ⟨t, ht1, ht2⟩ := tree_luck (by omega) hts hl ht hrow
  have hlen : (row.zip ts).length = ts.length := by rw [List.length_zip, hrow.len]; exact Nat.min_self _
  refine StP.m (st_ret (EvP.of (P := fun v => v = .d t.d) (ev_tup (ds := [.str "luck", .tuple ((row.zip ts).map lkD)]) (ea_cons ev_str (ea_cons (ev_cb (ea_cons (ev_lc (es := (row.zip ts).map lkD) (it_range1 (n := ts.length) (ea_cons (ev_is (ev_cb (ea_cons (ev_var rfl) ea_nil) rc_lenL) (by rw [List.length_map])) ea_nil) (by omega)) (by rw [rngD_len]; omega) (by rw [rngD_len, List.length_map, hlen]) ?_) ea_nil) rc_tupL) ea_nil)) (by show 2 ≤ 1000; decide)) (by rw [ht2]; rfl))) (fun G' (h : False) => h.elim) ?_
  · intro M' hM i d e hd he
    obtain ⟨hi, rfl⟩ := rngD_at hd
    obtain ⟨x, hx, rfl⟩ := map_at he
    obtain ⟨hx1, hx2⟩ := List.getElem?_zip_eq_some.mp hx
    refine ⟨_, _, tg_name, by simp, ev_tup (ds := [dQ x.1, x.2.d]) (ea_cons (ev_op (b := aI (i : Int)) (ev_var rfl) (ev_is (ev_var rfl) (by congr 2; omega)) (rv_ixT ?_)) (ea_cons (ev_op (b := aI (i : Int)) (ev_var rfl) (ev_is (ev_var rfl) (by congr 2; omega)) (rv_ixL ?_)) ea_nil)) (by show 2 ≤ 1000; decide)⟩
    · rw [List.getElem?_map, hx1]
      rfl
    · rw [List.getElem?_map, hx2]
      rfl
  · rintro v rfl
    exact hp t ht1 _ (by omega)
end
theorem TreeD.up {n : Nat} {t : Nd} (h : TreeD n t) : TreeD (n + 1) t := by
  induction h with
  | ends n q hb => exact TreeD.ends (n + 1) q (hb.up (by omega))
  | choose n ts h0 hl h j t hj hf hb ih => exact TreeD.choose (n + 1) ts h0 hl ih j t hj hf (hb.up (by omega))
  | luck n cs h0 hl h hc hb ih => exact TreeD.luck (n + 1) cs h0 hl ih hc (hb.up (by omega))
theorem TreeD.le {n m : Nat} {t : Nd} (h : TreeD n t) (hm : n ≤ m) : TreeD m t := by
  induction hm with
  | refl => exact h
  | step _ ih => exact ih.up
end LW

/-! Plain law: sums, rows of chances, what a policy is worth. -/
namespace LW
def sumN : Nat → (Nat → Rat) → Rat
  | 0, _ => 0
  | n + 1, f => sumN n f + f n
theorem sumN_congr {n : Nat} {f g : Nat → Rat} (h : ∀ i, i < n → f i = g i) : sumN n f = sumN n g := by
  induction n with
  | zero => rfl
  | succ n ih =>
    show sumN n f + f n = sumN n g + g n
    rw [ih fun i hi => h i (by omega), h n (by omega)]
theorem sumN_zero {n : Nat} {f : Nat → Rat} (h : ∀ i, i < n → f i = 0) : sumN n f = 0 := by
  induction n with
  | zero => rfl
  | succ n ih =>
    show sumN n f + f n = 0
    rw [ih fun i hi => h i (by omega), h n (by omega)]
    grind
theorem sumN_add (n : Nat) (f g : Nat → Rat) : sumN n (fun i => f i + g i) = sumN n f + sumN n g := by
  induction n with
  | zero => show (0 : Rat) = 0 + 0; grind
  | succ n ih =>
    show sumN n (fun i => f i + g i) + (f n + g n) = (sumN n f + f n) + (sumN n g + g n)
    rw [ih]
    grind
theorem sumN_mul (n : Nat) (k : Rat) (f : Nat → Rat) : sumN n (fun i => k * f i) = k * sumN n f := by
  induction n with
  | zero => show (0 : Rat) = k * 0; grind
  | succ n ih =>
    show sumN n (fun i => k * f i) + k * f n = k * (sumN n f + f n)
    rw [ih]
    grind
theorem sumN_le {n : Nat} {f g : Nat → Rat} (h : ∀ i, i < n → f i ≤ g i) : sumN n f ≤ sumN n g := by
  induction n with
  | zero => exact Rat.le_refl
  | succ n ih =>
    have h1 := ih fun i hi => h i (by omega)
    have h2 := h n (by omega)
    show sumN n f + f n ≤ sumN n g + g n
    grind
theorem sumN_lt {n : Nat} {f g : Nat → Rat} (h : ∀ i, i < n → f i ≤ g i) {j : Nat} (hj : j < n) (hs : f j < g j) : sumN n f < sumN n g := by
  induction n with
  | zero => omega
  | succ n ih =>
    show sumN n f + f n < sumN n g + g n
    by_cases e : j = n
    · subst e
      have h1 := sumN_le (n := j) (f := f) (g := g) fun i hi => h i (by omega)
      grind
    · have h1 := ih (fun i hi => h i (by omega)) (by omega)
      have h2 := h n (by omega)
      grind
theorem sumN_one {n a : Nat} {f : Nat → Rat} (ha : a < n) (h : ∀ i, i < n → i ≠ a → f i = 0) : sumN n f = f a := by
  induction n with
  | zero => omega
  | succ n ih =>
    show sumN n f + f n = f a
    by_cases e : a = n
    · subst e
      rw [sumN_zero fun i hi => h i (by omega) (by omega)]
      grind
    · rw [ih (by omega) fun i hi => h i (by omega), h n (by omega) (by omega)]
      grind
theorem sumN_two {n a b : Nat} {f : Nat → Rat} (hab : a ≠ b) (ha : a < n) (hb : b < n) (h : ∀ i, i < n → i ≠ a → i ≠ b → f i = 0) : sumN n f = f a + f b := by
  induction n with
  | zero => omega
  | succ n ih =>
    show sumN n f + f n = f a + f b
    by_cases e : a = n
    · subst e
      rw [sumN_one (a := b) (by omega) fun i hi hn => h i (by omega) (by omega) hn]
      grind
    · by_cases e2 : b = n
      · subst e2
        rw [sumN_one (a := a) (by omega) fun i hi hn => h i (by omega) hn (by omega)]
      · rw [ih (by omega) (by omega) fun i hi => h i (by omega), h n (by omega) (by omega) (by omega)]
        grind
/-- the entry of a list -/
def at0 (r : List Rat) (j : Nat) : Rat := r.getD j 0
theorem at0_lt {r : List Rat} {j : Nat} {q : Rat} (h : r[j]? = some q) : at0 r j = q := by
  unfold at0
  rw [getDq, h]
  rfl
/-- a row by a vector -/
def dotF (row : List Rat) (f : Nat → Rat) : Rat := sumN row.length fun j => at0 row j * f j
theorem at0_map {f : Rat → Rat} (h0 : f 0 = 0) (r : List Rat) (j : Nat) : at0 (r.map f) j = f (at0 r j) := by
  unfold at0
  rw [getDq, getDq, List.getElem?_map]
  cases r[j]? with
  | none => exact h0.symm
  | some q => rfl
theorem sumQ_app (ws : List Rat) (x : Rat) : sumQ (ws ++ [x]) = sumQ ws + x := sum_fold ws 0 x
theorem at0_app {ws : List Rat} {x : Rat} {j : Nat} (h : j < ws.length) : at0 (ws ++ [x]) j = at0 ws j := by
  unfold at0
  rw [getDq, getDq, List.getElem?_append_left h]
theorem at0_end {ws : List Rat} {x : Rat} : at0 (ws ++ [x]) ws.length = x := by
  unfold at0
  rw [getDq, List.getElem?_append_right (Nat.le_refl _)]
  simp
theorem rev_ind {α : Type} {p : List α → Prop} (h0 : p []) (h1 : ∀ l x, p l → p (l ++ [x])) (l : List α) : p l := by
  have key : ∀ (n : Nat) (l : List α), l.length = n → p l := by
    intro n
    induction n with
    | zero =>
      intro l hl
      rw [List.length_eq_zero_iff.mp hl]
      exact h0
    | succ n ih =>
      intro l hl
      have hne : l ≠ [] := fun z => by rw [z] at hl; simp at hl
      have := h1 l.dropLast (l.getLast hne) (ih _ (by rw [List.length_dropLast]; omega))
      rwa [List.dropLast_concat_getLast] at this
  exact key l.length l rfl
theorem sumQ_N (ws : List Rat) : sumQ ws = sumN ws.length (at0 ws) := by
  refine rev_ind (p := fun ws => sumQ ws = sumN ws.length (at0 ws)) rfl (fun l x ih => ?_) ws
  rw [sumQ_app, List.length_append]
  show sumQ l + x = sumN l.length (at0 (l ++ [x])) + at0 (l ++ [x]) l.length
  rw [at0_end, sumN_congr fun i hi => at0_app hi, ih]
/-- the program's sum: the terms one behind another -/
def dotQ (row vs : List Rat) : Rat := sumQ (List.zipWith (· * ·) row vs)
theorem dotQ_F {row vs : List Rat} (h : row.length = vs.length) : dotQ row vs = dotF row (at0 vs) := by
  unfold dotQ dotF
  rw [sumQ_N, List.length_zipWith, ← h, Nat.min_self]
  refine sumN_congr fun i hi => ?_
  unfold at0
  rw [getDq, getDq, getDq, List.getElem?_zipWith, List.getElem?_eq_getElem hi, List.getElem?_eq_getElem (by omega)]
  rfl
/-- a row of chances -/
structure Ch (m : Nat) (row : List Rat) : Prop where
  len : row.length = m
  nn : ∀ j, 0 ≤ at0 row j
  one : sumN m (at0 row) = 1
theorem divInt_nn {k s : Int} (hk : 0 ≤ k) (hs : 0 < s) : 0 ≤ Rat.divInt k s := Rat.divInt_nonneg hk (by omega)
theorem divInt_add {a b s : Int} (hs : s ≠ 0) : Rat.divInt a s + Rat.divInt b s = Rat.divInt (a + b) s := by
  rw [q_div, q_div, q_div, Rat.intCast_add]
  have : (s : Rat) ≠ 0 := by exact_mod_cast hs
  grind
theorem divInt_self {s : Int} (hs : s ≠ 0) : Rat.divInt s s = 1 := by
  rw [q_div]
  have : (s : Rat) ≠ 0 := by exact_mod_cast hs
  grind
theorem divInt_sum {s : Int} (hs : s ≠ 0) : ∀ (ns : List Int) (x : Int), (ns.map fun k => Rat.divInt k s).foldl (· + ·) (Rat.divInt x s) = Rat.divInt (x + ns.sum) s
  | [], x => by simp
  | k :: r, x => by
    show (r.map fun k => Rat.divInt k s).foldl (· + ·) (Rat.divInt x s + Rat.divInt k s) = _
    rw [divInt_add hs, divInt_sum hs r (x + k), List.sum_cons, Int.add_assoc]
theorem RowOk.ch {m : Nat} {row : List Rat} (h : RowOk m row) : Ch m row := by
  have hl := h.len
  obtain ⟨ns, h1, h2, h3, rfl⟩ := h.ex
  refine ⟨hl, fun j => ?_, ?_⟩
  · unfold at0
    rw [getDq]
    cases e : (ns.map fun k => Rat.divInt k ns.sum)[j]? with
    | none => exact Rat.le_refl
    | some q =>
      obtain ⟨k, hk, rfl⟩ := List.mem_map.mp (List.mem_of_getElem? e)
      exact divInt_nn (h2 k hk).1 h3
  · have := sumQ_N (ns.map fun k => Rat.divInt k ns.sum)
    rw [hl] at this
    rw [← this]
    show (ns.map fun k => Rat.divInt k ns.sum).foldl (· + ·) 0 = 1
    have hz : (0 : Rat) = Rat.divInt 0 ns.sum := by rw [q_div]; grind
    rw [hz, divInt_sum (by omega), Int.zero_add, divInt_self (by omega)]
theorem dotF_sub (row : List Rat) (f g : Nat → Rat) : dotF row (fun i => f i - g i) = dotF row f - dotF row g := by
  unfold dotF
  have h := sumN_add row.length (fun j => at0 row j * (f j - g j)) (fun j => at0 row j * g j)
  have e : sumN row.length (fun j => at0 row j * (f j - g j) + at0 row j * g j) = sumN row.length (fun j => at0 row j * f j) := sumN_congr fun i _ => by grind
  rw [e] at h
  grind
theorem dotF_neg (row : List Rat) (f : Nat → Rat) : dotF row (fun i => - f i) = - dotF row f := by
  unfold dotF
  have h := sumN_mul row.length (-1) (fun j => at0 row j * f j)
  have e : sumN row.length (fun j => at0 row j * (- f j)) = sumN row.length (fun j => (-1) * (at0 row j * f j)) := sumN_congr fun i _ => by grind
  rw [e, h]
  grind
theorem Ch.least {m : Nat} {row : List Rat} (h : Ch m row) {f : Nat → Rat} {k : Rat} (hf : ∀ i, i < m → k ≤ f i) : k ≤ dotF row f := by
  unfold dotF
  rw [h.len]
  have h1 : sumN m (fun j => k * at0 row j) ≤ sumN m (fun j => at0 row j * f j) := sumN_le fun i hi => by
    have a := h.nn i
    have b := hf i hi
    have := Rat.mul_le_mul_of_nonneg_left b a
    grind
  rw [sumN_mul, h.one] at h1
  grind
theorem least_of {m : Nat} (hm : 0 < m) (f : Nat → Rat) : ∃ i, i < m ∧ ∀ j, j < m → f i ≤ f j := by
  induction m with
  | zero => omega
  | succ n ih =>
    by_cases h0 : n = 0
    · subst h0
      exact ⟨0, by omega, fun j hj => by rw [show j = 0 by omega]; exact Rat.le_refl⟩
    · obtain ⟨i, hi, h⟩ := ih (by omega)
      by_cases hc : f n < f i
      · exact ⟨n, by omega, fun j hj => by
          by_cases e : j = n
          · rw [e]; exact Rat.le_refl
          · have := h j (by omega)
            grind⟩
      · exact ⟨i, by omega, fun j hj => by
          by_cases e : j = n
          · rw [e]; grind
          · exact h j (by omega)⟩
/-- what is at least l times its own mean is not below nought -/
theorem rise {m : Nat} {l : Rat} (h0 : 0 ≤ l) (h1 : l < 1) {row : Nat → List Rat} (hr : ∀ i, i < m → Ch m (row i)) {d : Nat → Rat} (hd : ∀ i, i < m → l * dotF (row i) d ≤ d i) : ∀ i, i < m → 0 ≤ d i := fun i hi => by
  obtain ⟨j, hj, hl⟩ := least_of (by omega : 0 < m) d
  have a := (hr j hj).least (f := d) (k := d j) fun k hk => hl k hk
  have b := hd j hj
  have e := Rat.mul_le_mul_of_nonneg_left a h0
  have g : 0 ≤ d j := by
    by_cases hn : 0 ≤ d j
    · exact hn
    · exfalso
      have p : 0 < (1 - l) * (- d j) := Rat.mul_pos (by grind) (by grind)
      grind
  have := hl i hi
  grind
theorem still {m : Nat} {l : Rat} (h0 : 0 ≤ l) (h1 : l < 1) {row : Nat → List Rat} (hr : ∀ i, i < m → Ch m (row i)) {d : Nat → Rat} (hd : ∀ i, i < m → d i = l * dotF (row i) d) : ∀ i, i < m → d i = 0 := fun i hi => by
  have a := rise h0 h1 hr (d := d) (fun i hi => by rw [← hd i hi]; exact Rat.le_refl) i hi
  have b := rise h0 h1 hr (d := fun i => - d i) (fun i hi => by rw [dotF_neg]; have := hd i hi; grind) i hi
  grind
end LW

/-! Plain law: lines made to unit columns; there is always a pivot; what is left solves. -/
namespace LW
abbrev Mx := List (List Rat)
def row0 (L : Mx) (i : Nat) : List Rat := L.getD i []
def ent (L : Mx) (i j : Nat) : Rat := at0 (row0 L i) j
def Sol (L : Mx) (x : Nat → Rat) : Prop := ∀ i, i < L.length → dotF (row0 L i) x = 0
theorem row0_of {L : Mx} {i : Nat} {r : List Rat} (h : L[i]? = some r) : row0 L i = r := by
  unfold row0
  rw [getDq, h]
  rfl
theorem row0_at {L : Mx} {i : Nat} (h : i < L.length) : L[i]? = some (row0 L i) := by
  unfold row0
  rw [getDq, List.getElem?_eq_getElem h]
  rfl
theorem row0_set {L : Mx} {i j : Nat} {r : List Rat} (h : i < L.length) : row0 (L.set i r) j = if j = i then r else row0 L j := by
  unfold row0
  rw [getDq, getDq]
  by_cases e : j = i
  · rw [if_pos e, e, List.getElem?_set_self h]
    rfl
  · rw [if_neg e, List.getElem?_set_ne (fun z => e z.symm)]
/-- a size for a row: one denominator -/
def RB (B : Nat) (r : List Rat) : Prop := ∃ D : Nat, 0 < D ∧ D ≤ B ∧ ∀ q ∈ r, ∃ n : Int, q = Rat.divInt n D ∧ n.natAbs ≤ B
/-- the columns ahead of u are unit ones; what solves these solves those -/
structure GInv (m u : Nat) (B : Nat) (L0 L : Mx) : Prop where
  len : L.length = m
  row : ∀ i, i < m → (row0 L i).length = m + 1
  unit : ∀ i j, i < m → j < u → ent L i j = if i = j then 1 else 0
  sol : ∀ x, Sol L x → Sol L0 x
  bd : ∀ i, i < m → RB B (row0 L i)
theorem dotF_ent {L : Mx} {m i : Nat} {x : Nat → Rat} (h : (row0 L i).length = m + 1) : dotF (row0 L i) x = sumN (m + 1) fun j => ent L i j * x j := by
  unfold dotF
  rw [h]
  rfl
/-- nothing but nought makes nought of L0 with nothing behind -/
def Thin (m : Nat) (L0 : Mx) : Prop := ∀ x, Sol L0 x → x m = 0 → ∀ i, i < m → x i = 0
theorem GInv.pivot {m u B : Nat} {L0 L : Mx} (g : GInv m u B L0 L) (hu : u < m) (ht : Thin m L0) : ∃ i, u ≤ i ∧ i < m ∧ ent L i u ≠ 0 := by
  refine byC fun hn => ?_
  have hz : ∀ i, u ≤ i → i < m → ent L i u = 0 := fun i h1 h2 => byC fun h => hn ⟨i, h1, h2, h⟩
  let x : Nat → Rat := fun j => if j < u then - ent L j u else if j = u then 1 else 0
  have xs : ∀ j, j < u → x j = - ent L j u := fun j hj => if_pos hj
  have xu : x u = 1 := by show (if u < u then _ else if u = u then (1 : Rat) else 0) = 1; rw [if_neg (by omega), if_pos rfl]
  have xb : ∀ j, u < j → x j = 0 := fun j hj => by show (if j < u then _ else if j = u then (1 : Rat) else 0) = 0; rw [if_neg (by omega), if_neg (by omega)]
  have hs : Sol L x := fun i hi => by
    rw [g.len] at hi
    rw [dotF_ent (g.row i hi)]
    by_cases hiu : i < u
    · rw [sumN_two (a := i) (b := u) (by omega) (by omega) (by omega) fun j hj h1 h2 => ?_]
      · rw [g.unit i i hi hiu, if_pos rfl, xs i hiu, xu]
        grind
      · by_cases hju : j < u
        · rw [g.unit i j hi hju, if_neg (by omega)]
          grind
        · rw [xb j (by omega)]
          grind
    · refine sumN_zero fun j hj => ?_
      by_cases hju : j < u
      · rw [g.unit i j hi hju, if_neg (by omega)]
        grind
      · by_cases e : j = u
        · rw [e, hz i (by omega) hi]
          grind
        · rw [xb j (by omega)]
          grind
  have := ht x (g.sol x hs) (xb m (by omega)) u hu
  rw [xu] at this
  exact absurd this (by grind)
/-- rows exchanged -/
theorem GInv.swap {m u B p : Nat} {L0 L : Mx} (g : GInv m u B L0 L) (hu : u < m) (hp1 : u ≤ p) (hp2 : p < m) : GInv m u B L0 ((L.set u (row0 L p)).set p (row0 L u)) := by
  have hr : ∀ i, i < m → ∃ k, k < m ∧ row0 ((L.set u (row0 L p)).set p (row0 L u)) i = row0 L k ∧ (i < u → k = i) ∧ (u ≤ i → u ≤ k) := fun i hi => by
    rw [row0_set (by rw [List.length_set, g.len]; exact hp2), row0_set (by rw [g.len]; exact hu)]
    by_cases e : i = p
    · rw [if_pos e]
      exact ⟨u, hu, rfl, fun h => by omega, fun _ => by omega⟩
    · rw [if_neg e]
      by_cases e2 : i = u
      · rw [if_pos e2]
        exact ⟨p, hp2, rfl, fun h => by omega, fun _ => by omega⟩
      · rw [if_neg e2]
        exact ⟨i, hi, rfl, fun _ => rfl, fun h => h⟩
  refine ⟨by rw [List.length_set, List.length_set, g.len], fun i hi => ?_, fun i j hi hj => ?_, fun x hx => g.sol x fun i hi => ?_, fun i hi => ?_⟩
  · obtain ⟨k, hk, e, _⟩ := hr i hi
    rw [e]
    exact g.row k hk
  · obtain ⟨k, hk, e, h1, h2⟩ := hr i hi
    unfold ent
    rw [e]
    have := g.unit k j hk hj
    unfold ent at this
    rw [this]
    by_cases hiu : i < u
    · rw [h1 hiu]
    · rw [if_neg (by have := h2 (by omega); omega), if_neg (by omega)]
  · rw [g.len] at hi
    have hx' : ∀ k, k < m → dotF (row0 ((L.set u (row0 L p)).set p (row0 L u)) k) x = 0 := fun k hk => hx k (by rw [List.length_set, List.length_set, g.len]; exact hk)
    have e1 : row0 ((L.set u (row0 L p)).set p (row0 L u)) p = row0 L u := by
      rw [row0_set (by rw [List.length_set, g.len]; exact hp2), if_pos rfl]
    have e2 : ∀ k, k ≠ p → row0 ((L.set u (row0 L p)).set p (row0 L u)) k = if k = u then row0 L p else row0 L k := fun k hk => by
      rw [row0_set (by rw [List.length_set, g.len]; exact hp2), if_neg hk, row0_set (by rw [g.len]; exact hu)]
    by_cases ei : i = u
    · rw [ei, ← e1]
      exact hx' p hp2
    · by_cases ei2 : i = p
      · have h3 := hx' u hu
        by_cases eup : u = p
        · omega
        · rw [e2 u eup, if_pos rfl] at h3
          rw [ei2]
          exact h3
      · have h3 := hx' i hi
        rw [e2 i ei2, if_neg ei] at h3
        exact h3
  · obtain ⟨k, hk, e, _⟩ := hr i hi
    rw [e]
    exact g.bd k hk
theorem dotF_div (r : List Rat) (k : Rat) (x : Nat → Rat) (hk : k ≠ 0) : dotF (r.map (· / k)) x = dotF r x / k := by
  unfold dotF
  rw [List.length_map]
  have e : sumN r.length (fun j => at0 (r.map (· / k)) j * x j) = sumN r.length (fun j => k⁻¹ * (at0 r j * x j)) := sumN_congr fun i _ => by
    rw [at0_map (by grind)]
    grind
  rw [e, sumN_mul]
  grind
theorem divInt_div {a b D : Int} (hb : b ≠ 0) (hD : D ≠ 0) : Rat.divInt a D / Rat.divInt b D = Rat.divInt a b := by
  rw [q_div, q_div, q_div]
  have h1 : (b : Rat) ≠ 0 := by exact_mod_cast hb
  have h2 : (D : Rat) ≠ 0 := by exact_mod_cast hD
  grind
theorem divInt_neg2 (a b : Int) : Rat.divInt (-a) (-b) = Rat.divInt a b := by
  rw [q_div, q_div, Rat.intCast_neg, Rat.intCast_neg]
  by_cases h : (b : Rat) = 0
  · rw [h]
    grind
  · grind
theorem RB.scale {B : Nat} {r : List Rat} {k : Rat} (h : RB B r) (hk : k ∈ r) (h0 : k ≠ 0) : RB B (r.map (· / k)) := by
  obtain ⟨D, d1, d2, hq⟩ := h
  obtain ⟨b, rfl, hb⟩ := hq k hk
  have hb0 : b ≠ 0 := fun z => h0 (by rw [z, q_div]; grind)
  refine ⟨b.natAbs, by omega, hb, fun q hq' => ?_⟩
  obtain ⟨q0, hq0, rfl⟩ := List.mem_map.mp hq'
  obtain ⟨a, rfl, ha⟩ := hq q0 hq0
  by_cases hs : 0 < b
  · refine ⟨a, ?_, ha⟩
    rw [divInt_div hb0 (by omega), show ((b.natAbs : Nat) : Int) = b by omega]
  · refine ⟨-a, ?_, by omega⟩
    rw [divInt_div hb0 (by omega), show ((b.natAbs : Nat) : Int) = -b by omega, divInt_neg2]
/-- the row by its pivot -/
theorem GInv.scale {m u B : Nat} {L0 L : Mx} (g : GInv m u B L0 L) (hu : u < m) (h0 : ent L u u ≠ 0) : GInv m u B L0 (L.set u ((row0 L u).map (· / ent L u u))) := by
  have hl : u < L.length := by rw [g.len]; exact hu
  have hmem : ent L u u ∈ row0 L u := by
    have hlt : u < (row0 L u).length := by rw [g.row u hu]; omega
    have e : (row0 L u)[u]? = some (ent L u u) := by
      unfold ent at0
      rw [getDq, List.getElem?_eq_getElem hlt]
      rfl
    exact List.mem_of_getElem? e
  refine ⟨by rw [List.length_set, g.len], fun i hi => ?_, fun i j hi hj => ?_, fun x hx => g.sol x fun i hi => ?_, fun i hi => ?_⟩
  · rw [row0_set hl]
    split
    · rw [List.length_map]
      exact g.row u hu
    · exact g.row i hi
  · unfold ent
    rw [row0_set hl]
    split
    · rename_i e
      rw [at0_map (by grind)]
      have := g.unit u j hu hj
      rw [if_neg (by omega)] at this
      unfold ent at this
      rw [this, if_neg (by omega)]
      grind
    · exact g.unit i j hi hj
  · have h1 := hx i (by rw [List.length_set]; exact hi)
    rw [row0_set hl] at h1
    split at h1
    · rename_i e
      rw [dotF_div _ _ _ h0] at h1
      rw [e]
      grind
    · exact h1
  · rw [row0_set hl]
    split
    · exact (g.bd u hu).scale hmem h0
    · exact g.bd i hi
theorem GInv.scale_at {m u B : Nat} {L0 L : Mx} (g : GInv m u B L0 L) (hu : u < m) (h0 : ent L u u ≠ 0) : ent (L.set u ((row0 L u).map (· / ent L u u))) u u = 1 := by
  unfold ent
  rw [row0_set (by rw [g.len]; exact hu), if_pos rfl, at0_map (by grind)]
  unfold ent at h0
  grind
/-- a row less so much of another -/
def lessR (r p : List Rat) (k : Rat) : List Rat := List.zipWith (fun a b => a - k * b) r p
theorem at0_less {r p : List Rat} {k : Rat} (h : r.length = p.length) (j : Nat) : at0 (lessR r p k) j = at0 r j - k * at0 p j := by
  unfold lessR at0
  rw [getDq, getDq, getDq, List.getElem?_zipWith]
  by_cases hj : j < r.length
  · rw [List.getElem?_eq_getElem hj, List.getElem?_eq_getElem (by omega)]
    rfl
  · rw [List.getElem?_eq_none_iff.mpr (by omega), List.getElem?_eq_none_iff.mpr (by omega)]
    show (0 : Rat) = 0 - k * 0
    grind
theorem less_len {r p : List Rat} {k : Rat} (h : r.length = p.length) : (lessR r p k).length = r.length := by
  unfold lessR
  rw [List.length_zipWith, ← h, Nat.min_self]
theorem dotF_less {r p : List Rat} {k : Rat} (h : r.length = p.length) (x : Nat → Rat) : dotF (lessR r p k) x = dotF r x - k * dotF p x := by
  unfold dotF
  rw [less_len h, ← h]
  have h1 := sumN_add r.length (fun j => at0 (lessR r p k) j * x j) (fun j => k * (at0 p j * x j))
  have e : sumN r.length (fun j => at0 (lessR r p k) j * x j + k * (at0 p j * x j)) = sumN r.length (fun j => at0 r j * x j) := sumN_congr fun i _ => by
    rw [at0_less h]
    grind
  rw [e, sumN_mul] at h1
  grind
theorem q_less {a D b p E : Int} (hD : D ≠ 0) (hE : E ≠ 0) : Rat.divInt a D - Rat.divInt b D * Rat.divInt p E = Rat.divInt (a * E - b * p) (D * E) := by
  rw [q_div, q_div, q_div, q_div, Rat.intCast_sub, Rat.intCast_mul, Rat.intCast_mul, Rat.intCast_mul]
  have h1 : (D : Rat) ≠ 0 := by exact_mod_cast hD
  have h2 : (E : Rat) ≠ 0 := by exact_mod_cast hE
  grind
theorem RB.less {B : Nat} {r p : List Rat} {k : Rat} (hr : RB B r) (hp : RB B p) (hk : k ∈ r) : RB (2 * B ^ 2) (lessR r p k) := by
  obtain ⟨D, d1, d2, hq⟩ := hr
  obtain ⟨E, e1, e2, hq2⟩ := hp
  obtain ⟨b, rfl, hb⟩ := hq k hk
  have hDE : D * E ≤ B * B := Nat.mul_le_mul d2 e2
  refine ⟨D * E, Nat.mul_pos d1 e1, by rw [Nat.pow_two]; omega, fun q hq' => ?_⟩
  unfold lessR at hq'
  obtain ⟨i, hi⟩ := memG hq'
  rw [List.getElem?_zipWith] at hi
  cases ha : r[i]? with
  | none => rw [ha] at hi; cases hi
  | some a0 =>
    cases hb0 : p[i]? with
    | none => rw [ha, hb0] at hi; cases hi
    | some b0 =>
      rw [ha, hb0] at hi
      obtain ⟨n, rfl, hn⟩ := hq a0 (List.mem_of_getElem? ha)
      obtain ⟨s, rfl, hs⟩ := hq2 b0 (List.mem_of_getElem? hb0)
      have hi : Rat.divInt n D - Rat.divInt b D * Rat.divInt s E = q := someI hi
      refine ⟨n * E - b * s, ?_, ?_⟩
      · rw [← hi, q_less (by omega) (by omega)]
        congr 1
      · have h1 : (n * (E : Int)).natAbs ≤ B * B := by rw [Int.natAbs_mul]; exact Nat.mul_le_mul hn (by simpa using e2)
        have h2 : (b * s).natAbs ≤ B * B := by rw [Int.natAbs_mul]; exact Nat.mul_le_mul hb hs
        rw [Nat.pow_two]
        omega
/-- sizes by columns -/
def GB : Nat → Nat
  | 0 => 660000
  | u + 1 => 2 * GB u ^ 2
theorem GB_le (u : Nat) : GB u ≤ GB (u + 1) := by
  show GB u ≤ 2 * GB u ^ 2
  have := Nat.le_self_pow (n := 2) (by decide) (GB u)
  omega
theorem RB.mono {B B' : Nat} {r : List Rat} (h : RB B r) (hB : B ≤ B') : RB B' r := by
  obtain ⟨D, d1, d2, hq⟩ := h
  exact ⟨D, d1, Nat.le_trans d2 hB, fun q hq' => let ⟨n, e, hn⟩ := hq q hq'; ⟨n, e, Nat.le_trans hn hB⟩⟩
/-- amid a column: the rows ahead of k (but the pivot's) have nought in it; those behind are of the size before -/
structure GMid (m u k : Nat) (L0 L : Mx) : Prop where
  len : L.length = m
  row : ∀ i, i < m → (row0 L i).length = m + 1
  unit : ∀ i j, i < m → j < u → ent L i j = if i = j then 1 else 0
  piv : ent L u u = 1
  done : ∀ i, i < m → i < k → i ≠ u → ent L i u = 0
  sol : ∀ x, Sol L x → Sol L0 x
  bd : ∀ i, i < m → RB (GB (u + 1)) (row0 L i)
  bdk : ∀ i, i < m → k ≤ i → RB (GB u) (row0 L i)
  bdu : RB (GB u) (row0 L u)
theorem GInv.mid {m u : Nat} {L0 L : Mx} (g : GInv m u (GB u) L0 L) (hu : u < m) (h1 : ent L u u = 1) : GMid m u 0 L0 L :=
  ⟨g.len, g.row, g.unit, h1, fun i _ h => by omega, g.sol, fun i hi => (g.bd i hi).mono (GB_le u), fun i hi _ => g.bd i hi, g.bd u hu⟩
theorem GMid.skip {m u k : Nat} {L0 L : Mx} (g : GMid m u k L0 L) (h : k = u ∨ ent L k u = 0) : GMid m u (k + 1) L0 L :=
  ⟨g.len, g.row, g.unit, g.piv, fun i hi hk hn => by
    by_cases e : i = k
    · subst e
      rcases h with h | h
      · exact absurd h hn
      · exact h
    · exact g.done i hi (by omega) hn, g.sol, g.bd, fun i hi hk => g.bdk i hi (by omega), g.bdu⟩
theorem GMid.next {m u k : Nat} {L0 L : Mx} (g : GMid m u k L0 L) (hu : u < m) (hk : k < m) (hn : k ≠ u) : GMid m u (k + 1) L0 (L.set k (lessR (row0 L k) (row0 L u) (ent L k u))) := by
  have hl : k < L.length := by rw [g.len]; exact hk
  have hlen : (row0 L k).length = (row0 L u).length := by rw [g.row k hk, g.row u hu]
  have hmem : ent L k u ∈ row0 L k := by
    have hlt : u < (row0 L k).length := by rw [g.row k hk]; omega
    have e : (row0 L k)[u]? = some (ent L k u) := by
      unfold ent at0
      rw [getDq, List.getElem?_eq_getElem hlt]
      rfl
    exact List.mem_of_getElem? e
  have hent : ∀ i j, ent (L.set k (lessR (row0 L k) (row0 L u) (ent L k u))) i j = if i = k then ent L k j - ent L k u * ent L u j else ent L i j := fun i j => by
    unfold ent
    rw [row0_set hl]
    split
    · rw [at0_less hlen]
    · rfl
  refine ⟨by rw [List.length_set, g.len], fun i hi => ?_, fun i j hi hj => ?_, ?_, fun i hi h1 h2 => ?_, fun x hx => g.sol x fun i hi => ?_, fun i hi => ?_, fun i hi h1 => ?_, ?_⟩
  · rw [row0_set hl]
    split
    · rw [less_len hlen]
      exact g.row k hk
    · exact g.row i hi
  · rw [hent]
    split
    · rename_i e
      rw [g.unit k j hk hj, g.unit u j hu hj, if_neg (by omega : ¬ u = j), e]
      grind
    · exact g.unit i j hi hj
  · rw [hent, if_neg (by omega)]
    exact g.piv
  · rw [hent]
    split
    · rename_i e
      rw [g.piv]
      grind
    · exact g.done i hi (by omega) h2
  · have hx' : ∀ j, j < m → dotF (row0 (L.set k (lessR (row0 L k) (row0 L u) (ent L k u))) j) x = 0 := fun j hj => hx j (by rw [List.length_set, g.len]; exact hj)
    rw [g.len] at hi
    have h1 := hx' i hi
    rw [row0_set hl] at h1
    split at h1
    · rename_i e
      have h2 := hx' u hu
      rw [row0_set hl, if_neg (by omega)] at h2
      rw [dotF_less hlen, h2] at h1
      rw [e]
      grind
    · exact h1
  · rw [row0_set hl]
    split
    · exact (g.bdk k hk (Nat.le_refl _)).less g.bdu hmem
    · exact g.bd i hi
  · rw [row0_set hl, if_neg (by omega)]
    exact g.bdk i hi (by omega)
  · rw [row0_set hl, if_neg (by omega)]
    exact g.bdu
theorem GMid.done_col {m u : Nat} {L0 L : Mx} (g : GMid m u m L0 L) (hu : u < m) : GInv m (u + 1) (GB (u + 1)) L0 L :=
  ⟨g.len, g.row, fun i j hi hj => by
    by_cases e : j = u
    · subst e
      by_cases e2 : i = j
      · rw [e2, if_pos rfl]
        exact g.piv
      · rw [if_neg e2]
        exact g.done i hi hi e2
    · exact g.unit i j hi (by omega), g.sol, g.bd⟩
/-- the last column solves -/
theorem GInv.solves {m B : Nat} {L0 L : Mx} (g : GInv m m B L0 L) : Sol L0 fun j => if j < m then ent L j m else -1 := by
  refine g.sol _ fun i hi => ?_
  rw [g.len] at hi
  rw [dotF_ent (g.row i hi), sumN_two (a := i) (b := m) (by omega) (by omega) (by omega) fun j hj h1 h2 => ?_]
  · rw [g.unit i i hi hi, if_pos rfl, if_pos hi, if_neg (by omega)]
    grind
  · rw [g.unit i j hi (by omega), if_neg (by omega)]
    grind
end LW

/-! Plain law: plans for ever: a policy's worths, bettering, sizes. -/
namespace LW
abbrev Chc := Rat × List Rat
structure PlanOk (m : Nat) (ps : List (List Chc)) (l : Rat) : Prop where
  m1 : 1 ≤ m
  m6 : m ≤ 6
  len : ps.length = m
  ne : ∀ chs ∈ ps, chs ≠ []
  le : ∀ chs ∈ ps, chs.length ≤ 4
  row : ∀ chs ∈ ps, ∀ h ∈ chs, RowOk m h.2
  pay : ∀ chs ∈ ps, ∀ h ∈ chs, Bd 1000 6 h.1
  l0 : 0 ≤ l
  l1 : l < 1
  lb : Bd 10 10 l
def wof (l : Rat) (h : Chc) (vs : List Rat) : Rat := h.1 + l * dotQ h.2 vs
def chs0 (ps : List (List Chc)) (i : Nat) : List Chc := ps.getD i []
def cho (ps : List (List Chc)) (ns : List Nat) (i : Nat) : Chc := (chs0 ps i).getD (ns.getD i 0) (0, [])
structure Valid (m : Nat) (ps : List (List Chc)) (ns : List Nat) : Prop where
  len : ns.length = m
  at_ : ∀ i, i < m → ns.getD i 0 < (chs0 ps i).length
structure Solves (m : Nat) (ps : List (List Chc)) (l : Rat) (ns : List Nat) (vs : List Rat) : Prop where
  len : vs.length = m
  at_ : ∀ i, i < m → at0 vs i = wof l (cho ps ns i) vs
section
variable {m : Nat} {ps : List (List Chc)} {l : Rat} {ns ns' : List Nat} {vs vs' : List Rat}
theorem chs0_mem (h : PlanOk m ps l) {i : Nat} (hi : i < m) : chs0 ps i ∈ ps := by
  have hl : i < ps.length := by rw [h.len]; exact hi
  unfold chs0
  rw [getDq, List.getElem?_eq_getElem hl]
  exact List.getElem_mem hl
theorem chs0_at (h : PlanOk m ps l) {i : Nat} (hi : i < m) : ps[i]? = some (chs0 ps i) := by
  have hl : i < ps.length := by rw [h.len]; exact hi
  unfold chs0
  rw [getDq, List.getElem?_eq_getElem hl]
  rfl
theorem cho_at (v : Valid m ps ns) {i : Nat} (hi : i < m) : (chs0 ps i)[ns.getD i 0]? = some (cho ps ns i) := by
  have := v.at_ i hi
  unfold cho
  rw [getDq (l := chs0 ps i), List.getElem?_eq_getElem this]
  rfl
theorem cho_mem (v : Valid m ps ns) {i : Nat} (hi : i < m) : cho ps ns i ∈ chs0 ps i := List.mem_of_getElem? (cho_at v hi)
theorem cho_ch (h : PlanOk m ps l) (v : Valid m ps ns) {i : Nat} (hi : i < m) : Ch m (cho ps ns i).2 := (h.row _ (chs0_mem h hi) _ (cho_mem v hi)).ch
theorem wof_F {h : Chc} (hh : Ch m h.2) (hl : vs.length = m) : wof l h vs = h.1 + l * dotF h.2 (at0 vs) := by
  unfold wof
  rw [dotQ_F (by rw [hh.len, hl])]
/-- a better policy is worth at least as much -/
theorem better (h : PlanOk m ps l) (v' : Valid m ps ns') (hl : vs.length = m) (s' : Solves m ps l ns' vs') (hb : ∀ i, i < m → at0 vs i ≤ wof l (cho ps ns' i) vs) : ∀ i, i < m → wof l (cho ps ns' i) vs ≤ at0 vs' i := by
  have key : ∀ i, i < m → at0 vs' i - wof l (cho ps ns' i) vs = l * dotF (cho ps ns' i).2 (fun j => at0 vs' j - at0 vs j) := fun i hi => by
    rw [s'.at_ i hi, wof_F (cho_ch h v' hi) s'.len, wof_F (cho_ch h v' hi) hl, dotF_sub]
    grind
  have r := rise h.l0 h.l1 (row := fun i => (cho ps ns' i).2) (fun i hi => cho_ch h v' hi) (d := fun j => at0 vs' j - at0 vs j) (fun i hi => by
    have a := key i hi
    have b := hb i hi
    grind)
  intro i hi
  have a := key i hi
  have b := (cho_ch h v' hi).least (f := fun j => at0 vs' j - at0 vs j) (k := 0) r
  have d := Rat.mul_nonneg h.l0 b
  grind
theorem Solves.unique (h : PlanOk m ps l) (v : Valid m ps ns) (s : Solves m ps l ns vs) (s' : Solves m ps l ns vs') : vs = vs' := by
  have a := better h v s.len s' fun i hi => by rw [← s.at_ i hi]; exact Rat.le_refl
  have b := better h v s'.len s fun i hi => by rw [← s'.at_ i hi]; exact Rat.le_refl
  apply List.ext_getElem?
  intro i
  by_cases hi : i < m
  · have h1 := a i hi
    have h2 := b i hi
    rw [← s.at_ i hi] at h1
    rw [← s'.at_ i hi] at h2
    have e : at0 vs i = at0 vs' i := by grind
    unfold at0 at e
    rw [getDq, getDq, List.getElem?_eq_getElem (by rw [s.len]; exact hi), List.getElem?_eq_getElem (by rw [s'.len]; exact hi)] at e
    rw [List.getElem?_eq_getElem (by rw [s.len]; exact hi), List.getElem?_eq_getElem (by rw [s'.len]; exact hi)]
    exact congrArg some e
  · rw [List.getElem?_eq_none_iff.mpr (by rw [s.len]; omega), List.getElem?_eq_none_iff.mpr (by rw [s'.len]; omega)]
/-- all of a policy's worths together -/
noncomputable def val (m : Nat) (ps : List (List Chc)) (l : Rat) (ns : List Nat) : Rat := by
  classical
  exact if h : ∃ vs, Solves m ps l ns vs then sumQ (Classical.choose h) else 0
theorem val_of (h : PlanOk m ps l) (v : Valid m ps ns) (s : Solves m ps l ns vs) : val m ps l ns = sumQ vs := by
  have hx : ∃ vs, Solves m ps l ns vs := ⟨vs, s⟩
  unfold val
  rw [dif_pos hx, Solves.unique h v (Classical.choose_spec hx) s]
theorem val_lt (h : PlanOk m ps l) (v : Valid m ps ns) (v' : Valid m ps ns') (s : Solves m ps l ns vs) (s' : Solves m ps l ns' vs') (hb : ∀ i, i < m → at0 vs i ≤ wof l (cho ps ns' i) vs) {j : Nat} (hj : j < m) (hs : at0 vs j < wof l (cho ps ns' j) vs) : val m ps l ns < val m ps l ns' := by
  rw [val_of h v s, val_of h v' s', sumQ_N, sumQ_N, s.len, s'.len]
  have b := better h v' s.len s' hb
  exact sumN_lt (fun i hi => by have := hb i hi; have := b i hi; grind) hj (by have := b j hj; grind)
/-- all lists of n numbers below 4 -/
def lists4 : Nat → List (List Nat)
  | 0 => [[]]
  | n + 1 => (lists4 n).flatMap fun t => [0, 1, 2, 3].map fun k => k :: t
theorem lists4_mem : ∀ {n : Nat} {t : List Nat}, t.length = n → (∀ k ∈ t, k < 4) → t ∈ lists4 n
  | 0, [], _, _ => by simp [lists4]
  | n + 1, k :: t, hl, h => by
    have h1 := lists4_mem (n := n) (t := t) (by simpa using hl) fun x hx => h x (List.mem_cons_of_mem _ hx)
    have h2 := h k List.mem_cons_self
    unfold lists4
    refine List.mem_flatMap.mpr ⟨t, h1, List.mem_map.mpr ⟨k, ?_, rfl⟩⟩
    have : k = 0 ∨ k = 1 ∨ k = 2 ∨ k = 3 := by omega
    rcases this with rfl | rfl | rfl | rfl <;> simp
  | 0, _ :: _, hl, _ => by simp at hl
  | _ + 1, [], hl, _ => by simp at hl
theorem Valid.mem (h : PlanOk m ps l) (v : Valid m ps ns) : ns ∈ lists4 m := lists4_mem v.len fun k hk => by
  obtain ⟨i, hi, e⟩ := List.getElem_of_mem hk
  have hi' : i < m := by rw [← v.len]; exact hi
  have h1 := v.at_ i hi'
  rw [getDq, List.getElem?_eq_getElem hi] at h1
  have h2 := h.le _ (chs0_mem h hi')
  have : ns[i] < (chs0 ps i).length := h1
  omega
theorem filter_lt {α : Type} {p q : α → Bool} : ∀ {l : List α} {x : α}, x ∈ l → (∀ y, p y = true → q y = true) → q x = true → p x = false → (l.filter p).length < (l.filter q).length
  | y :: r, x, hx, hpq, h1, h2 => by
    have mono : ∀ r : List α, (r.filter p).length ≤ (r.filter q).length := fun r => by
      induction r with
      | nil => exact Nat.le_refl _
      | cons z r ih =>
        rw [List.filter_cons (p := p), List.filter_cons]
        by_cases hz : p z = true
        · rw [if_pos hz, if_pos (hpq z hz)]
          exact Nat.succ_le_succ ih
        · rw [if_neg hz]
          by_cases hz2 : q z = true
          · rw [if_pos hz2]
            exact Nat.le_succ_of_le ih
          · rw [if_neg hz2]
            exact ih
    rw [List.filter_cons (p := p), List.filter_cons]
    rcases memC hx with e | e
    · subst e
      rw [if_neg (by rw [h2]; exact Bool.noConfusion), if_pos h1]
      exact Nat.lt_succ_of_le (mono r)
    · have ih := filter_lt e hpq h1 h2
      by_cases hz : p y = true
      · rw [if_pos hz, if_pos (hpq y hz)]
        exact Nat.succ_lt_succ ih
      · rw [if_neg hz]
        by_cases hz2 : q y = true
        · rw [if_pos hz2]
          exact Nat.lt_succ_of_lt ih
        · rw [if_neg hz2]
          exact ih
/-- so many policies are worth more -/
noncomputable def ahead (m : Nat) (ps : List (List Chc)) (l : Rat) (ns : List Nat) : Nat := ((lists4 m).filter fun t => decide (val m ps l ns < val m ps l t)).length
theorem ahead_lt (h : PlanOk m ps l) (v' : Valid m ps ns') (hv : val m ps l ns < val m ps l ns') : ahead m ps l ns' < ahead m ps l ns :=
  filter_lt (v'.mem h) (fun y hy => by have := of_decide_eq_true hy; exact decide_eq_true (by grind)) (decide_eq_true hv) (decide_eq_false (Rat.lt_irrefl))
/-! ### the lines of a policy -/
def dl (i j : Nat) : Rat := if i = j then 1 else 0
def lineP (l : Rat) (m i : Nat) (h : Chc) : List Rat := (List.range m).map fun j => dl i j - l * at0 h.2 j
theorem lineP_len {i : Nat} {h : Chc} : (lineP l m i h).length = m := by unfold lineP; simp
theorem lineP_at {i j : Nat} {h : Chc} (hj : j < m) : at0 (lineP l m i h) j = dl i j - l * at0 h.2 j := by
  unfold at0 lineP
  rw [getDq, List.getElem?_map, List.getElem?_range hj]
  rfl
theorem dotF_app (r : List Rat) (v : Rat) (x : Nat → Rat) : dotF (r ++ [v]) x = dotF r x + v * x r.length := by
  unfold dotF
  rw [List.length_append]
  show sumN r.length (fun j => at0 (r ++ [v]) j * x j) + at0 (r ++ [v]) r.length * x r.length = _
  rw [at0_end, sumN_congr fun i hi => by rw [at0_app hi]]
theorem dotF_line {i : Nat} {h : Chc} (hh : Ch m h.2) (hi : i < m) (x : Nat → Rat) : dotF (lineP l m i h) x = x i - l * dotF h.2 x := by
  unfold dotF
  rw [lineP_len, hh.len]
  have h1 := sumN_add m (fun j => at0 (lineP l m i h) j * x j) (fun j => l * (at0 h.2 j * x j))
  have e : sumN m (fun j => at0 (lineP l m i h) j * x j + l * (at0 h.2 j * x j)) = x i := by
    rw [sumN_congr (g := fun j => dl i j * x j) fun j hj => by rw [lineP_at hj]; grind]
    rw [sumN_one hi fun j hj hn => by unfold dl; rw [if_neg (fun z => hn z.symm)]; grind]
    unfold dl
    rw [if_pos rfl]
    grind
  rw [e, sumN_mul] at h1
  grind
def linesP (ps : List (List Chc)) (l : Rat) (m : Nat) (ns : List Nat) : Mx := (List.range m).map fun i => lineP l m i (cho ps ns i)
def paysP (ps : List (List Chc)) (m : Nat) (ns : List Nat) : List Rat := (List.range m).map fun i => (cho ps ns i).1
/-- rows with their values behind -/
def joinL (rows : Mx) (vals : List Rat) : Mx := List.zipWith (fun r v => r ++ [v]) rows vals
theorem joinP_len : (joinL (linesP ps l m ns) (paysP ps m ns)).length = m := by unfold joinL linesP paysP; simp
theorem joinP_at {i : Nat} (hi : i < m) : row0 (joinL (linesP ps l m ns) (paysP ps m ns)) i = lineP l m i (cho ps ns i) ++ [(cho ps ns i).1] := by
  refine row0_of ?_
  unfold joinL linesP paysP
  rw [List.getElem?_zipWith, List.getElem?_map, List.getElem?_map, List.getElem?_range hi]
  rfl
theorem sol_P (h : PlanOk m ps l) (v : Valid m ps ns) {x : Nat → Rat} (hs : Sol (joinL (linesP ps l m ns) (paysP ps m ns)) x) {i : Nat} (hi : i < m) : x i - l * dotF (cho ps ns i).2 x + (cho ps ns i).1 * x m = 0 := by
  have := hs i (by rw [joinP_len]; exact hi)
  rw [joinP_at hi, dotF_app, dotF_line (cho_ch h v hi) hi, lineP_len] at this
  exact this
theorem thin_P (h : PlanOk m ps l) (v : Valid m ps ns) : Thin m (joinL (linesP ps l m ns) (paysP ps m ns)) := fun x hs hx => by
  refine still h.l0 h.l1 (row := fun i => (cho ps ns i).2) (fun i hi => cho_ch h v hi) fun i hi => ?_
  have := sol_P h v hs hi
  rw [hx] at this
  grind
theorem solves_P (h : PlanOk m ps l) (v : Valid m ps ns) (hl : vs.length = m) (hs : Sol (joinL (linesP ps l m ns) (paysP ps m ns)) fun j => if j < m then at0 vs j else -1) : Solves m ps l ns vs := ⟨hl, fun i hi => by
  have := sol_P h v hs hi
  rw [if_pos hi, if_neg (by omega)] at this
  rw [wof_F (cho_ch h v hi) hl]
  have e : dotF (cho ps ns i).2 (fun j => if j < m then at0 vs j else -1) = dotF (cho ps ns i).2 (at0 vs) := by
    unfold dotF
    rw [(cho_ch h v hi).len]
    exact sumN_congr fun j hj => by show _ * (if j < m then at0 vs j else -1) = _; rw [if_pos hj]
  rw [e] at this
  grind⟩
theorem q_num_den (q : Rat) : Rat.divInt q.num (q.den : Int) = q := q_eta q
theorem q_line {a low k S d : Int} (h1 : low ≠ 0) (h2 : S ≠ 0) (h3 : d ≠ 0) (t : Int) : Rat.divInt t 1 - Rat.divInt a low * Rat.divInt k S = Rat.divInt ((t * (low * S) - a * k) * d) (low * S * d) := by
  rw [q_div, q_div, q_div, q_div, Rat.intCast_mul, Rat.intCast_sub, Rat.intCast_mul, Rat.intCast_mul, Rat.intCast_mul, Rat.intCast_mul, Rat.intCast_mul]
  have e1 : (low : Rat) ≠ 0 := by exact_mod_cast h1
  have e2 : (S : Rat) ≠ 0 := by exact_mod_cast h2
  have e3 : (d : Rat) ≠ 0 := by exact_mod_cast h3
  grind
theorem q_pay {p d k : Int} (h1 : k ≠ 0) (h2 : d ≠ 0) : Rat.divInt p d = Rat.divInt (p * k) (k * d) := by
  rw [q_div, q_div, Rat.intCast_mul, Rat.intCast_mul]
  have e1 : (k : Rat) ≠ 0 := by exact_mod_cast h1
  have e2 : (d : Rat) ≠ 0 := by exact_mod_cast h2
  grind
theorem line_RB (h : PlanOk m ps l) {i : Nat} {z : Chc} (hr : RowOk m z.2) (hp : Bd 1000 6 z.1) : RB (GB 0) (lineP l m i z ++ [z.1]) := by
  obtain ⟨ns, n1, n2, n3, e⟩ := hr.ex
  have hs := sum_le n2
  have hm := h.m6
  have hS : ns.sum ≤ 66 := by omega
  obtain ⟨S, hSe⟩ : ∃ S : Nat, ns.sum = (S : Int) := ⟨ns.sum.toNat, by omega⟩
  rw [hSe] at e n3 hS
  have hl1 := h.lb.n
  have hl2 := h.lb.d
  have hl3 := den_pos l
  have hp1 := hp.n
  have hp2 := hp.d
  have hp3 := den_pos z.1
  have hLS : l.den * S ≤ 10 * 66 := Nat.mul_le_mul hl2 (by omega)
  have hLS0 : 0 < l.den * S := Nat.mul_pos hl3 (by omega)
  have hD : l.den * S * z.1.den ≤ 660 * 6 := Nat.mul_le_mul hLS hp2
  refine ⟨l.den * S * z.1.den, Nat.mul_pos hLS0 hp3, by show _ ≤ 660000; omega, fun q hq => ?_⟩
  rcases memA hq with hq | hq
  · unfold lineP at hq
    obtain ⟨j, hj, rfl⟩ := List.mem_map.mp hq
    have hj : j < m := List.mem_range.mp hj
    obtain ⟨k, hk1, hk2, hk3⟩ : ∃ k : Int, at0 z.2 j = Rat.divInt k (S : Int) ∧ 0 ≤ k ∧ k ≤ 11 := by
      have hjl : j < ns.length := by omega
      refine ⟨ns[j], ?_, n2 _ (List.getElem_mem hjl)⟩
      refine at0_lt ?_
      rw [e, List.getElem?_map, List.getElem?_eq_getElem hjl]
      rfl
    obtain ⟨t, ht1, ht2⟩ : ∃ t : Int, dl i j = Rat.divInt t 1 ∧ t.natAbs ≤ 1 := by
      unfold dl
      by_cases e : i = j
      · exact ⟨1, by rw [if_pos e]; rfl, by decide⟩
      · exact ⟨0, by rw [if_neg e]; rfl, by decide⟩
    have ee := q_line (a := l.num) (low := (l.den : Int)) (k := k) (S := (S : Int)) (d := (z.1.den : Int)) (by omega) (by omega) (by omega) t
    rw [q_num_den] at ee
    refine ⟨(t * ((l.den : Int) * (S : Int)) - l.num * k) * (z.1.den : Int), ?_, ?_⟩
    · rw [hk1, ht1, ee]
      congr 1
    · rw [Int.natAbs_mul]
      have h1 : (t * ((l.den : Int) * (S : Int))).natAbs ≤ 1 * 660 := by
        rw [Int.natAbs_mul]
        refine Nat.mul_le_mul ht2 ?_
        rw [← Int.natCast_mul, Int.natAbs_natCast]
        exact hLS
      have h2 : (l.num * k).natAbs ≤ 10 * 11 := by
        rw [Int.natAbs_mul]
        exact Nat.mul_le_mul hl1 (by omega)
      have h3 : (t * ((l.den : Int) * (S : Int)) - l.num * k).natAbs ≤ 770 := by omega
      have h4 := Nat.mul_le_mul h3 (show (z.1.den : Int).natAbs ≤ 6 by simpa using hp2)
      show _ ≤ 660000
      omega
  · obtain rfl : q = z.1 := by simpa using hq
    have ee := q_pay (p := z.1.num) (d := (z.1.den : Int)) (k := (l.den : Int) * (S : Int)) (by rw [← Int.natCast_mul]; omega) (by omega)
    rw [q_num_den] at ee
    refine ⟨z.1.num * ((l.den : Int) * (S : Int)), ?_, ?_⟩
    · refine ee.trans ?_
      congr 1
    · rw [Int.natAbs_mul, ← Int.natCast_mul]
      have := Nat.mul_le_mul hp1 (show (((l.den * S : Nat) : Int)).natAbs ≤ 660 by rw [Int.natAbs_natCast]; exact hLS)
      show _ ≤ 660000
      omega
theorem joinP_RB (h : PlanOk m ps l) (v : Valid m ps ns) : ∀ i, i < m → RB (GB 0) (row0 (joinL (linesP ps l m ns) (paysP ps m ns)) i) := fun i hi => by
  rw [joinP_at hi]
  exact line_RB h (h.row _ (chs0_mem h hi) _ (cho_mem v hi)) (h.pay _ (chs0_mem h hi) _ (cho_mem v hi))
end
end LW

/-! plans.py, first part: a choice's worth, the best choice, so many steps. -/
namespace LW
open L2 PySem PySem.Spec PyProof.Rows
def dRow (row : List Rat) : PyData := .tuple (row.map dQ)
def dChc (h : Chc) : PyData := .tuple [dQ h.1, dRow h.2]
def dPlc (chs : List Chc) : PyData := .list (chs.map dChc)
def dPls (ps : List (List Chc)) : PyData := .list (ps.map dPlc)
abbrev aP (ps : List (List Chc)) (l : Rat) : AV := .inst (dPls ps) (dQ l)
def VB (A N : Nat) (vs : List Rat) : Prop := ∀ q ∈ vs, Bd A N q
def WN (N : Nat) : Nat := 6 * (10 * (66 * N) ^ 6)
def WA (A N : Nat) : Nat := 1000 * (10 * (66 * N) ^ 6) + 10 * (6 * (66 * A) * (66 * N) ^ 6) * 6
structure WOk (A N : Nat) : Prop where
  n0 : 0 < N
  n : WN N < loB
  a : WA A N < nB
theorem WOk.lo {A N : Nat} (h : WOk A N) : (66 * N) ^ 6 < loB ∧ 10 * (66 * N) ^ 6 < loB ∧ 6 * (10 * (66 * N) ^ 6) < loB := by
  have := h.n
  unfold WN at this
  omega
theorem WOk.hi {A N : Nat} (h : WOk A N) : 6 * (66 * A) * (66 * N) ^ 6 < nB ∧ 10 * (6 * (66 * A) * (66 * N) ^ 6) < nB ∧ 66 * A < nB ∧ 1000 < nB ∧ 10 < nB ∧ 66 < nB ∧ A < nB ∧ N < nB := by
  have h1 := h.a
  have h2 := h.n
  unfold WA at h1
  have hp : 0 < (66 * N) ^ 6 := Nat.pow_pos (by have := h.n0; omega)
  have h3 : 66 * A ≤ 6 * (66 * A) * (66 * N) ^ 6 := Nat.le_trans (by omega : 66 * A ≤ 6 * (66 * A)) (Nat.le_mul_of_pos_right _ hp)
  have h4 : 66 * N ≤ (66 * N) ^ 6 := Nat.le_self_pow (by decide) _
  have h5 := loB_nB
  have h6 : 2000 < nB := Nat.lt_of_lt_of_le (by decide : 2000 < 2 ^ 11) (Nat.pow_le_pow_right (by decide) (by decide))
  have h7 := h.lo
  omega
theorem zip_bd {A N : Nat} {row vs : List Rat} (hr : VB 66 66 row) (hv : VB A N vs) : ∀ q ∈ List.zipWith (· * ·) row vs, Bd (66 * A) (66 * N) q := fun q hq => by
  obtain ⟨i, hi⟩ := memG hq
  rw [List.getElem?_zipWith] at hi
  cases ha : row[i]? with
  | none => rw [ha] at hi; cases hi
  | some a =>
    cases hb : vs[i]? with
    | none => rw [ha, hb] at hi; cases hi
    | some b =>
      rw [ha, hb] at hi
      obtain rfl : a * b = q := someI hi
      exact Bd.mul (hr a (List.mem_of_getElem? ha)) (hv b (List.mem_of_getElem? hb))
theorem dot_ok {A N : Nat} (W : WOk A N) {row vs : List Rat} (hl : row.length ≤ 6) (hr : VB 66 66 row) (hv : VB A N vs) : SumOk 0 (List.zipWith (· * ·) row vs) ∧ Bd (6 * (66 * A) * (66 * N) ^ 6) ((66 * N) ^ 6) (dotQ row vs) := by
  have hp : 0 < 66 * N := by have := W.n0; omega
  have hl2 : (List.zipWith (· * ·) row vs).length ≤ 6 := by rw [List.length_zipWith]; omega
  have hz := zip_bd hr hv
  refine ⟨sum_ok (m := 6) hp W.hi.1 W.hi.2.2.1 W.lo.1 _ 0 0 (by omega) bd_zero hz, ?_⟩
  refine (sum_bd hp _ 0 0 bd_zero hz).mono ?_ ?_
  · rw [Nat.zero_add]
    exact Nat.mul_le_mul (Nat.mul_le_mul_right _ hl2) (Nat.pow_le_pow_right hp hl2)
  · rw [Nat.zero_add]
    exact Nat.pow_le_pow_right hp hl2
theorem term_fit {A N : Nat} (W : WOk A N) {a b : Rat} (ha : Bd 66 66 a) (hb : Bd A N b) : Fit2 a b := Bd.fit2 ha hb W.hi.2.2.2.2.2.1 W.hi.2.2.2.2.2.2.1 (Nat.lt_of_le_of_lt (Nat.le_self_pow (by decide) _) W.lo.1)
theorem later_fit {A N : Nat} (W : WOk A N) {row vs : List Rat} {l : Rat} (hl : row.length ≤ 6) (hr : VB 66 66 row) (hv : VB A N vs) (lb : Bd 10 10 l) : Fit2 l (dotQ row vs) := Bd.fit2 lb (dot_ok W hl hr hv).2 W.hi.2.2.2.2.1 W.hi.1 W.lo.2.1
theorem pay_fit {A N : Nat} (W : WOk A N) {row vs : List Rat} {l p : Rat} (hl : row.length ≤ 6) (hr : VB 66 66 row) (hv : VB A N vs) (lb : Bd 10 10 l) (pb : Bd 1000 6 p) : Fit2 p (l * dotQ row vs) :=
  Bd.fit2 pb (lb.mul (dot_ok W hl hr hv).2) W.hi.2.2.2.1 W.hi.2.1 W.lo.2.2
theorem wof_bd {A N : Nat} (W : WOk A N) {vs : List Rat} {l : Rat} {h : Chc} (hl : h.2.length ≤ 6) (hr : VB 66 66 h.2) (hv : VB A N vs) (lb : Bd 10 10 l) (pb : Bd 1000 6 h.1) : Bd (WA A N) (WN N) (wof l h vs) := pb.add (lb.mul (dot_ok W hl hr hv).2)
section
variable {m : Nat} {ps : List (List Chc)} {l : Rat} {vs : List Rat} {A N : Nat}
theorem PlanOk.chc (h : PlanOk m ps l) {i : Nat} (hi : i < m) {z : Chc} (hz : z ∈ chs0 ps i) : z.2.length = m ∧ VB 66 66 z.2 ∧ Bd 1000 6 z.1 := by
  have h1 := h.row _ (chs0_mem h hi) z hz
  have := h.m6
  exact ⟨h1.len, h1.bd (by omega) (by decide), h.pay _ (chs0_mem h hi) z hz⟩
theorem PlanOk.wof (h : PlanOk m ps l) (W : WOk A N) (hv : VB A N vs) {i : Nat} (hi : i < m) {z : Chc} (hz : z ∈ chs0 ps i) : Bd (WA A N) (WN N) (wof l z vs) := by
  obtain ⟨h1, h2, h3⟩ := h.chc hi hz
  exact wof_bd W (by have := h.m6; omega) h2 hv h.lb h3
theorem wof_fit (W : WOk A N) {q : Rat} (h : Bd (WA A N) (WN N) q) : Fit q := Bd.fit h W.a (Nat.lt_of_lt_of_le W.n loB_nB)
end
/-! ### the best one -/
theorem gtr_ge (a b : Rat) : a ≤ gtr a b ∧ b ≤ gtr a b := by
  unfold gtr
  split <;> grind
theorem fold_ge : ∀ (ws : List Rat) (a : Rat), a ≤ ws.foldl gtr a ∧ ∀ y ∈ ws, y ≤ ws.foldl gtr a
  | [], a => ⟨Rat.le_refl, by simp⟩
  | x :: r, a => by
    have h := fold_ge r (gtr a x)
    have g := gtr_ge a x
    refine ⟨?_, fun y hy => ?_⟩
    · show a ≤ r.foldl gtr (gtr a x)
      have := h.1
      grind
    · show y ≤ r.foldl gtr (gtr a x)
      rcases memC hy with e | e
      · have := h.1
        grind
      · exact h.2 y e
theorem maxQ_ge {ws : List Rat} {y : Rat} (h : y ∈ ws) : y ≤ maxQ ws := by
  cases ws with
  | nil => simp at h
  | cons x r =>
    rcases memC h with e | e
    · rw [e]
      exact (fold_ge r x).1
    · exact (fold_ge r x).2 y e
theorem maxQ_eq {ws : List Rat} {x : Rat} (h : x ∈ ws) (hx : ∀ y ∈ ws, y ≤ x) : maxQ ws = x := by
  have a := maxQ_ge h
  have b := hx _ (maxQ_mem (by intro z; rw [z] at h; simp at h))
  grind
def Lead (ws : List Rat) (k b : Nat) : Prop := b < k ∧ ∃ x, ws[b]? = some x ∧ (∀ j y, j < k → ws[j]? = some y → y ≤ x) ∧ ∀ j y, j < b → ws[j]? = some y → y < x
theorem Lead.first {ws : List Rat} {b : Nat} (h : Lead ws ws.length b) : FirstBest ws b := by
  obtain ⟨h1, x, h2, h3, h4⟩ := h
  have e : maxQ ws = x := maxQ_eq (List.mem_of_getElem? h2) fun y hy => by
    obtain ⟨j, hj⟩ := memG hy
    exact h3 j y (List.getElem?_eq_some_iff.mp hj).1 hj
  refine ⟨by rw [e]; exact h2, fun j y hj hy z => ?_⟩
  have := h4 j y hj hy
  rw [z, e] at this
  exact Rat.lt_irrefl this
theorem Lead.next {ws : List Rat} {k b : Nat} {x y : Rat} (h : Lead ws k b) (hx : ws[b]? = some x) (hy : ws[k]? = some y) : Lead ws (k + 1) (if x < y then k else b) := by
  obtain ⟨h1, x', h2, h3, h4⟩ := h
  rw [hx] at h2
  obtain rfl := someI h2
  split
  · rename_i hlt
    refine ⟨by omega, y, hy, fun j z hj hz => ?_, fun j z hj hz => ?_⟩
    · by_cases e : j = k
      · rw [e, hy] at hz
        obtain rfl := someI hz
        exact Rat.le_refl
      · have := h3 j z (by omega) hz
        grind
    · have := h3 j z hj hz
      grind
  · rename_i hlt
    refine ⟨by omega, x, hx, fun j z hj hz => ?_, h4⟩
    by_cases e : j = k
    · rw [e, hy] at hz
      obtain rfl := someI hz
      grind
    · exact h3 j z (by omega) hz
/-! ### promises -/
def R_by_row : PR := fun _ as P => ∃ (row vs : List Rat) (A N : Nat), WOk A N ∧ row.length ≤ 6 ∧ row.length = vs.length ∧ VB 66 66 row ∧ VB A N vs ∧ as = [aT (row.map dQ), aT (vs.map dQ)] ∧ P (aQ (dotQ row vs))
def R_wof : PR := fun _ as P => ∃ (m : Nat) (ps : List (List Chc)) (l : Rat) (i k : Nat) (z : Chc) (vs : List Rat) (A N : Nat), PlanOk m ps l ∧ WOk A N ∧ i < m ∧ (chs0 ps i)[k]? = some z ∧ vs.length = m ∧ VB A N vs ∧ as = [aP ps l, aI (i : Int), aI (k : Int), aT (vs.map dQ)] ∧ P (aQ (wof l z vs))
def R_bc : PR := fun _ as P => ∃ (m : Nat) (ps : List (List Chc)) (l : Rat) (i : Nat) (vs : List Rat) (A N : Nat), PlanOk m ps l ∧ WOk A N ∧ i < m ∧ vs.length = m ∧ VB A N vs ∧ as = [aP ps l, aI (i : Int), aT (vs.map dQ)] ∧ ∀ j, FirstBest ((chs0 ps i).map fun z => wof l z vs) j → P (aI (j : Int))
def R_lc : PR := fun _ as P => ∃ (l : Rat) (z : Chc) (vs : List Rat) (A N : Nat), WOk A N ∧ z.2.length ≤ 6 ∧ z.2.length = vs.length ∧ VB 66 66 z.2 ∧ VB A N vs ∧ Bd 10 10 l ∧ Bd 1000 6 z.1 ∧ (as = [.d (dChc z), aQ l, aT (vs.map dQ)] ∨ as = [.d (dChc z), aQ l, aL (vs.map dQ)]) ∧ P (aQ (wof l z vs))
section
variable {P : Program} {w : World} {c : Cf} {mg : Str → Option Value} {base : Heap}
theorem zip_mul_at {row vs : List Rat} {i : Nat} {a b : Rat} (ha : row[i]? = some a) (hb : vs[i]? = some b) : (List.zipWith (· * ·) row vs)[i]? = some (a * b) := by
  rw [List.getElem?_zipWith, ha, hb]
theorem ok_by_row (B : Bt mg) (D : Def c mg "by_row" s_by_row []) (c_total : CalTo P w c mg base) (c_times : CalTi P w c mg base) : Cal P w c mg base CX0 5 "by_row" ["row", "values"] (spR c R_by_row) := by
  refine D.cal sc_by_row bd_by_row (lenR fun M as Pv ⟨_, _, _, _, _, _, _, _, _, e, _⟩ => by rw [e]; rfl) (bodyR fun f cdv A outer s H E hr => ⟨_, (pss_one (ps_ret (pe_cal rfl (c_total.mono (by omega)) hr (by rfl) pass0 (pa_cons (pe_lc (own := [("a", 2), ("b", 3)]) (g := (gTup c.K 2 (gCons (gName 2) (gCons (gName 3) gNil)))) (tt := tYes) rfl sc_by_row.nd (RZ.pi_zipA (by rfl) B.zip (pa_cons (pv 0) (pa_cons (pv 1) pa_nil))) (blkOk_by (N := N_by_row) (sc := defScope s_by_row) (by decide +kernel)) (fun _ _ _ _ _ => (pg_tup rfl (pgs_cons (pg_name (i := 2) sc_by_row.nd rfl (.inl rfl)) (pgs_cons (pg_name (i := 3) sc_by_row.nd rfl (.inl rfl)) pgs_nil)))) (fun _ _ _ _ _ => pts_nil) (fun _ _ _ _ _ => (pe_cal rfl (c_times.mono (by omega)) hr (by rfl) pass0 (pa_cons (pv 2) (pa_cons (pv 3) pa_nil))))) pa_nil)))), ?_⟩)
  rintro M as Pv ⟨row, vs, A', N', W, h6, hl, hr', hv, rfl, hp⟩
  have hzl : (List.zipWith (· * ·) row vs).length = row.length := by rw [List.length_zipWith, ← hl, Nat.min_self]
  refine st_ret (ev_call (ea_cons (ev_lc (es := (List.zipWith (· * ·) row vs).map dQ) (it_zipT (ea_cons (ev_var rfl) (ea_cons (ev_var rfl) ea_nil))) (by rw [zipD_len]; simp; omega) (by rw [zipD_len, List.length_map, List.length_map, List.length_map, hzl, ← hl, Nat.min_self]) ?_) ea_nil) ⟨_, rfl, by rw [hzl]; omega, (dot_ok W h6 hr' hv).1, hp⟩)
  intro M' hM i d e hd he
  obtain ⟨x, y, hx, hy, rfl⟩ := zipD_at hd
  obtain ⟨a, ha, rfl⟩ := map_at hx
  obtain ⟨b, hb, rfl⟩ := map_at hy
  rw [List.getElem?_map, zip_mul_at ha hb] at he
  obtain rfl := someI he
  exact ⟨_, _, tg_tup2 tg_name tg_name, by simp, ev_call (ea_cons (ev_var rfl) (ea_cons (ev_var rfl) ea_nil)) ⟨a, b, rfl, term_fit W (hr' a (List.mem_of_getElem? ha)) (hv b (List.mem_of_getElem? hb)), rfl⟩⟩
abbrev CalBr (P : Program) (w : World) (c : Cf) (mg : Str → Option Value) (base : Heap) : Prop := Cal P w c mg base CX0 5 "by_row" ["row", "values"] (spR c R_by_row)
theorem pls_at {m : Nat} {ps : List (List Chc)} {l : Rat} (h : PlanOk m ps l) {i : Nat} (hi : i < m) : (ps.map dPlc)[i]? = some (dPlc (chs0 ps i)) := by
  rw [List.getElem?_map, chs0_at h hi]
  rfl
theorem plc_at {chs : List Chc} {k : Nat} {z : Chc} (h : chs[k]? = some z) : (chs.map dChc)[k]? = some (dChc z) := by
  rw [List.getElem?_map, h]
  rfl
theorem ok_P_worth_of (Tp : PlTxt c) (D : DefM c "worth_of" "Plans.worth_of" s_P_worth_of) (c_by_row : CalBr P w c mg base) (c_plus : CalPl P w c mg base) (c_times : CalTi P w c mg base) : CalM P w c mg base CX0 6 "worth_of" ["self", "place", "number", "values"] (spR c R_wof) := by
  refine D.cal sc_P_worth_of bd_P_worth_of (lenR fun M as Pv ⟨_, _, _, _, _, _, _, _, _, _, _, _, _, _, _, e, _⟩ => by rw [e]; rfl) (bodyR fun f cdv A outer s H E hr => ⟨_, (pss_cons (ps_asg (pe_ix ix_seq (pe_ix ix_seq (pe_fld (pv 0) rfl) (pv 1) (fun _ _ => rfl)) (pv 2) (fun _ _ => rfl)) (pg_tup rfl (pgs_cons (pg_name (i := 4) sc_P_worth_of.nd rfl (.inl rfl)) (pgs_cons (pg_name (i := 5) sc_P_worth_of.nd rfl (.inl rfl)) pgs_nil))))
      (pss_one (ps_ret (pe_cal rfl (c_plus.mono (by omega)) hr (by rfl) pass0 (pa_cons (pv 4) (pa_cons (pe_cal rfl (c_times.mono (by omega)) hr (by rfl) pass0 (pa_cons (pe_fld (pv 0) rfl) (pa_cons (pe_cal rfl (c_by_row.mono (by omega)) hr (by rfl) pass0 (pa_cons (pv 5) (pa_cons (pv 3) pa_nil))) pa_nil))) pa_nil)))))), ?_⟩)
  rintro M as Pv ⟨m, ps, l, i, k, z, vs, A', N', h, W, hi, hz, hl, hv, rfl, hp⟩
  have hmem := List.mem_of_getElem? hz
  obtain ⟨z1, z2, z3⟩ := h.chc hi hmem
  have hm6 := h.m6
  refine st_seq (PG1 := fun G => G = [some (aP ps l), some (aI (i : Int)), some (aI (k : Int)), some (aT (vs.map dQ)), some (aQ z.1), some (aT (z.2.map dQ))]) (st_asg (Pa := fun a => a = .d (dChc z)) (ev_op (a := .d (dPlc (chs0 ps i))) (ev_op (a := .d (dPls ps)) (ev_places Tp (ev_var rfl)) (ev_var rfl) (rv_ixL (pls_at h hi))) (ev_var rfl) (rv_ixL (plc_at hz))) ?_) ?_
  · rintro a rfl
    exact ⟨_, _, tg_tup2 tg_name tg_name, rfl⟩
  rintro G rfl
  refine st_ret (ev_call (ea_cons (ev_var rfl) (ea_cons (ev_call (P := fun x => x = aQ (l * dotQ z.2 vs)) (ea_cons (ev_later Tp (ev_var rfl)) (ea_cons (ev_call (P := fun x => x = aQ (dotQ z.2 vs)) (ea_cons (ev_var rfl) (ea_cons (ev_var rfl) ea_nil)) ⟨z.2, vs, A', N', W, by omega, by omega, z2, hv, rfl, rfl⟩) ea_nil)) ⟨l, dotQ z.2 vs, rfl, later_fit W (by omega) z2 hv h.lb, rfl⟩) ea_nil)) ⟨z.1, _, rfl, pay_fit W (by omega) z2 hv h.lb z3, hp⟩)
abbrev CalWof (P : Program) (w : World) (c : Cf) (mg : Str → Option Value) (base : Heap) : Prop := CalM P w c mg base CX0 6 "worth_of" ["self", "place", "number", "values"] (spR c R_wof)
section
variable {M : Mu} {G : Env'} {te tx tk tv : TE} {E : XK}
theorem no_wof (vp vl : V) : (flds vp vl).lookup ("worth_of" : Str) = none := by with_unfolding_all rfl
theorem ev_wof {m : Nat} {ps : List (List Chc)} {l : Rat} {i k : Nat} {z : Chc} {vs : List Rat} {A N : Nat} (h : PlanOk m ps l) (W : WOk A N) (hi : i < m) (hz : (chs0 ps i)[k]? = some z) (hl : vs.length = m) (hv : VB A N vs)
    (h1 : EvD c M te G (aP ps l)) (h2 : EvD c M tx G (aI (i : Int))) (h3 : EvD c M tk G (aI (k : Int))) (h4 : EvD c M tv G (aT (vs.map dQ))) : EvD c M (tMeth c.C "worth_of" (spR c R_wof) [] E te (tCons tx (tCons tk (tCons tv tNil)))) G (aQ (wof l z vs)) :=
  ev_meth1 h1 no_wof (ea_cons h2 (ea_cons h3 (ea_cons h4 ea_nil))) ⟨m, ps, l, i, k, z, vs, A, N, h, W, hi, hz, hl, hv, rfl, rfl⟩
theorem ev_plc {m : Nat} {ps : List (List Chc)} {l : Rat} {i : Nat} (Tp : PlTxt c) (h : PlanOk m ps l) (hi : i < m) (h1 : EvD c M te G (aP ps l)) (h2 : EvD c M tx G (aI (i : Int))) : EvD c M (tOp (rIx c.K) (tFld c.K te "places") tx) G (.d (dPlc (chs0 ps i))) :=
  ev_op (a := .d (dPls ps)) (ev_places Tp h1) h2 (rv_ixL (pls_at h hi))
theorem ev_many {m : Nat} {ps : List (List Chc)} {l : Rat} (Tp : PlTxt c) (h : PlanOk m ps l) (h1 : EvD c M te G (aP ps l)) : EvD c M (tCB (rLenQ c.K) (tCons (tFld c.K te "places") tNil)) G (aI (m : Int)) :=
  ev_is (ev_cb (as := [.d (dPls ps)]) (ea_cons (ev_places Tp h1) ea_nil) rc_lenL) (by rw [List.length_map, h.len])
end
theorem ok_P_best_choice (B : Bt mg) (Tp : PlTxt c) (D : DefM c "best_choice" "Plans.best_choice" s_P_best_choice) (c_P_worth_of : CalWof P w c mg base) (c_is_less : CalLe P w c mg base) : CalM P w c mg base CX0 7 "best_choice" ["self", "place", "values"] (spR c R_bc) := by
  refine D.cal sc_P_best_choice bd_P_best_choice (lenR fun M as Pv ⟨_, _, _, _, _, _, _, _, _, _, _, _, e, _⟩ => by rw [e]; rfl) (bodyR fun f cdv A outer s H E hr => ⟨_, (pss_cons (ps_set (i := 3) sc_P_best_choice.nd rfl (.inl rfl) pe_int)
      (pss_cons (ps_for PassesOwn.never rfl (pi_range2 (by rfl) B.range (pa_cons pe_int (pa_cons (pe_callB call_lenQ (by rfl) B.len PySem.boot_len (pa_cons (pe_ix ix_seq (pe_fld (pv 0) rfl) (pv 1) (fun _ _ => rfl)) pa_nil)) pa_nil))) (pg_name (i := 4) sc_P_best_choice.nd rfl (.inl rfl)) (pss_one (ps_if (pt_val (pe_cal rfl (c_is_less.mono (by omega)) hr (by rfl) pass0 (pa_cons (pe_calM (pl := _) rfl (c_P_worth_of.mono (by omega)) Tp (pv 0) hr pass0 (pa_cons (pv 1) (pa_cons (pv 3) (pa_cons (pv 2) pa_nil)))) (pa_cons (pe_calM (pl := _) rfl (c_P_worth_of.mono (by omega)) Tp (pv 0) hr pass0 (pa_cons (pv 1) (pa_cons (pv 4) (pa_cons (pv 2) pa_nil)))) pa_nil)))) (pss_one (ps_set (i := 3) sc_P_best_choice.nd rfl (.inl rfl) (pv 4))) pss_nil)))
      (pss_one (ps_ret (pv 3))))), ?_⟩)
  rintro M as Pv ⟨m, ps, l, i, vs, A', N', h, W, hi, hl, hv, rfl, hp⟩
  have hne := h.ne _ (chs0_mem h hi)
  have hle := h.le _ (chs0_mem h hi)
  obtain ⟨z0, r0, hz0⟩ := List.exists_cons_of_ne_nil hne
  refine st_seq (PG1 := fun G => G = [some (aP ps l), some (aI (i : Int)), some (aT (vs.map dQ)), some (aI ((0 : Nat) : Int)), none]) (st_set ev_int rfl) ?_
  rintro G rfl
  refine st_seq (PG1 := fun G => ∃ b y, FirstBest ((chs0 ps i).map fun z => wof l z vs) b ∧ G = [some (aP ps l), some (aI (i : Int)), some (aT (vs.map dQ)), some (aI ((b : Nat) : Int)), y]) (st_for (it_range2 (lo := 1) (n := (chs0 ps i).length) (ea_cons ev_int (ea_cons (ev_is (ev_cb (ea_cons (ev_plc Tp h hi (ev_var rfl) (ev_var rfl)) ea_nil) rc_lenL) (by rw [List.length_map])) ea_nil)) (by decide) (by omega))
    (fun j G => ∃ b y, Lead ((chs0 ps i).map fun z => wof l z vs) (j + 1) b ∧ G = [some (aP ps l), some (aI (i : Int)), some (aT (vs.map dQ)), some (aI ((b : Nat) : Int)), y]) ⟨0, none, ?_, rfl⟩ ?_ ?_) ?_
  · refine ⟨by omega, wof l z0 vs, by rw [hz0]; rfl, fun j y hj hy => ?_, fun j y hj _ => by omega⟩
    rw [show j = 0 by omega, hz0] at hy
    obtain rfl : wof l z0 vs = y := someI hy
    exact Rat.le_refl
  · rintro j d G hd ⟨b, y, hb, rfl⟩
    obtain ⟨hj, rfl⟩ := rngD_at hd
    have hk : j + 1 < (chs0 ps i).length := by omega
    have hb1 : b < (chs0 ps i).length := by have := hb.1; omega
    have eb : (chs0 ps i)[b]? = some ((chs0 ps i)[b]) := List.getElem?_eq_getElem hb1
    have ek : (chs0 ps i)[j + 1]? = some ((chs0 ps i)[j + 1]) := List.getElem?_eq_getElem hk
    have fb := wof_fit W (h.wof W hv hi (List.mem_of_getElem? eb))
    have fk := wof_fit W (h.wof W hv hi (List.mem_of_getElem? ek))
    have nx := hb.next (x := wof l ((chs0 ps i)[b]) vs) (y := wof l ((chs0 ps i)[j + 1]) vs) (by rw [List.getElem?_map, eb]; rfl) (by rw [List.getElem?_map, ek]; rfl)
    refine ⟨_, _, tg_name, st_if (b := decide (wof l ((chs0 ps i)[b]) vs < wof l ((chs0 ps i)[j + 1]) vs)) (et_B (ev_call (ea_cons (ev_wof h W hi eb hl hv (ev_var rfl) (ev_var rfl) (ev_var rfl) (ev_var rfl)) (ea_cons (ev_wof h W hi ek hl hv (ev_var rfl) (ev_var rfl) (ev_is (ev_var rfl) (by congr 2; omega)) (ev_var rfl)) ea_nil)) ⟨_, _, rfl, fb, fk, rfl⟩)) (fun hh => ?_) fun hh => ?_⟩
    · rw [if_pos (of_decide_eq_true hh)] at nx
      refine st_set (ev_var rfl) ⟨j + 1, some (aI (1 + (j : Int))), nx, ?_⟩
      rw [show ((j + 1 : Nat) : Int) = 1 + (j : Int) by omega]
      rfl
    · rw [if_neg (of_decide_eq_false hh)] at nx
      exact st_next ⟨b, _, nx, rfl⟩
  · rintro G ⟨b, y, hb, rfl⟩
    rw [rngD_len, show (chs0 ps i).length - 1 + 1 = ((chs0 ps i).map fun z => wof l z vs).length by rw [List.length_map, hz0]; simp] at hb
    exact ⟨b, y, hb.first, rfl⟩
  · rintro G ⟨b, y, hb, rfl⟩
    exact st_ret (EvP.of (ev_var rfl) (hp b hb))
abbrev CalBc (P : Program) (w : World) (c : Cf) (mg : Str → Option Value) (base : Heap) : Prop := CalM P w c mg base CX0 7 "best_choice" ["self", "place", "values"] (spR c R_bc)
theorem ok_law_choice (B : Bt mg) (D : Def c mg "_law_choice" s_law_choice []) (c_plus : CalPl P w c mg base) (c_times : CalTi P w c mg base) : Cal P w c mg base CX0 4 "_law_choice" ["choice", "later", "worths"] (spR c R_lc) := by
  refine D.cal sc_law_choice bd_law_choice (lenR fun M as Pv ⟨_, _, _, _, _, _, _, _, _, _, _, _, e, _⟩ => by rcases e with e | e <;> rw [e] <;> rfl) (bodyR fun f cdv A outer s H E hr => ⟨_, (pss_cons (ps_set (i := 3) sc_law_choice.nd rfl (.inl rfl) (pe_tup (pa_cons pe_int (pa_cons pe_int pa_nil))))
      (pss_cons (ps_for PassesOwn.never rfl (pi_enumT (by rfl) B.enumerate (pa_cons (pe_ix ix_seq (pv 0) pe_int (fun _ _ => rfl)) pa_nil)) (pg_tup rfl (pgs_cons (pg_name (i := 4) sc_law_choice.nd rfl (.inl rfl)) (pgs_cons (pg_name (i := 5) sc_law_choice.nd rfl (.inl rfl)) pgs_nil))) (pss_one (ps_set (i := 3) sc_law_choice.nd rfl (.inl rfl) (pe_cal rfl (c_plus.mono (by omega)) hr (by rfl) pass0 (pa_cons (pv 3) (pa_cons (pe_cal rfl (c_times.mono (by omega)) hr (by rfl) pass0 (pa_cons (pv 5) (pa_cons (pe_ix ix_seq (pv 2) (pv 4) (fun _ _ => rfl)) pa_nil))) pa_nil))))))
      (pss_one (ps_ret (pe_cal rfl (c_plus.mono (by omega)) hr (by rfl) pass0 (pa_cons (pe_ix ix_seq (pv 0) pe_int (fun _ _ => rfl)) (pa_cons (pe_cal rfl (c_times.mono (by omega)) hr (by rfl) pass0 (pa_cons (pv 1) (pa_cons (pv 3) pa_nil))) pa_nil))))))), ?_⟩)
  rintro M as Pv ⟨l, z, vs, A', N', W, h6, hl, hr', hv, lb, pb, has, hp⟩
  obtain ⟨wv, rfl, hix⟩ : ∃ wv : AV, as = [.d (dChc z), aQ l, wv] ∧ ∀ (i : Nat) (q : Rat), vs[i]? = some q → RvD c M (rIx c.K) wv (aI (i : Int)) (aQ q) := by
    rcases has with e | e
    · exact ⟨_, e, fun i q hq => rv_ixT (by rw [List.getElem?_map, hq]; rfl)⟩
    · exact ⟨_, e, fun i q hq => rv_ixL (by rw [List.getElem?_map, hq]; rfl)⟩
  have dk := dot_ok W h6 hr' hv
  refine st_seq (PG1 := fun G => G = [some (.d (dChc z)), some (aQ l), some wv, some (aQ 0), none, none]) (st_set (ev_tup (ds := [.int 0, .int 1]) (ea_cons ev_int (ea_cons ev_int ea_nil)) (by show 2 ≤ 1000; decide)) rfl) ?_
  rintro G rfl
  refine st_seq (PG1 := fun G => ∃ y1 y2, G = [some (.d (dChc z)), some (aQ l), some wv, some (aQ (dotQ z.2 vs)), y1, y2]) (st_for (it_enumT (ea_cons (ev_op (ev_var rfl) ev_int (rv_ixT (n := 1) rfl)) ea_nil)) (fun i G => ∃ y1 y2, G = [some (.d (dChc z)), some (aQ l), some wv, some (aQ (((List.zipWith (· * ·) z.2 vs).take i).foldl (· + ·) 0)), y1, y2]) ⟨none, none, rfl⟩ ?_ ?_) ?_
  · rintro i d G hd ⟨y1, y2, rfl⟩
    obtain ⟨x, hx, rfl⟩ := enumD_at hd
    obtain ⟨a, ha, rfl⟩ := map_at hx
    have hi : i < vs.length := by rw [← hl]; exact (List.getElem?_eq_some_iff.mp ha).1
    have hb : vs[i]? = some vs[i] := List.getElem?_eq_getElem hi
    have ht := zip_mul_at ha hb
    refine ⟨_, _, tg_tup2 tg_name tg_name, st_asg (Pa := fun v => v = aQ (((List.zipWith (· * ·) z.2 vs).take i).foldl (· + ·) 0 + a * vs[i])) (ev_call (ea_cons (ev_var rfl) (ea_cons (ev_call (P := fun v => v = aQ (a * vs[i])) (ea_cons (ev_var rfl) (ea_cons (ev_op (ev_var rfl) (ev_var rfl) (hix i _ hb)) ea_nil)) ⟨a, vs[i], rfl, term_fit W (hr' a (List.mem_of_getElem? ha)) (hv _ (List.mem_of_getElem? hb)), rfl⟩) ea_nil)) ⟨_, _, rfl, sumOk_at _ 0 i _ dk.1 ht, rfl⟩) ?_⟩
    rintro v rfl
    refine ⟨_, _, tg_name, some (aI (i : Int)), some (aQ a), ?_⟩
    rw [take_fold _ _ 0 i _ ht]
    rfl
  · rintro G ⟨y1, y2, rfl⟩
    refine ⟨y1, y2, ?_⟩
    rw [enumD_len, List.length_map, List.take_of_length_le (by rw [List.length_zipWith, ← hl, Nat.min_self]; exact Nat.le_refl _)]
    rfl
  · rintro G ⟨y1, y2, rfl⟩
    exact st_ret (ev_call (ea_cons (ev_op (ev_var rfl) ev_int (rv_ixT (n := 0) rfl)) (ea_cons (ev_call (P := fun v => v = aQ (l * dotQ z.2 vs)) (ea_cons (ev_var rfl) (ea_cons (ev_var rfl) ea_nil)) ⟨l, dotQ z.2 vs, rfl, later_fit W h6 hr' hv lb, rfl⟩) ea_nil)) ⟨z.1, _, rfl, pay_fit W h6 hr' hv lb pb, hp⟩)
end
end LW

/-! plans.py, second part: so many steps; a policy's worths; the best policy; its check. -/
namespace LW
open L2 PySem PySem.Spec PyProof.Rows
/-! ### there is a solution -/
section
variable {m u : Nat} {L0 L : Mx}
theorem GMid.go (hu : u < m) (g : GMid m u 0 L0 L) : ∀ k, k ≤ m → ∃ L', GMid m u k L0 L'
  | 0, _ => ⟨L, g⟩
  | k + 1, hk => by
    obtain ⟨L', g'⟩ := GMid.go hu g k (by omega)
    by_cases h : k = u ∨ ent L' k u = 0
    · exact ⟨L', g'.skip h⟩
    · exact ⟨_, g'.next hu (by omega) fun z => h (.inl z)⟩
theorem gj_ex (g : GInv m 0 (GB 0) L0 L0) (ht : Thin m L0) : ∀ u, u ≤ m → ∃ L, GInv m u (GB u) L0 L
  | 0, _ => ⟨L0, g⟩
  | u + 1, hu => by
    obtain ⟨L, gL⟩ := gj_ex g ht u (by omega)
    obtain ⟨p, p1, p2, p3⟩ := gL.pivot (by omega) ht
    have g1 := gL.swap (p := p) (by omega) p1 p2
    have e : ent ((L.set u (row0 L p)).set p (row0 L u)) u u = ent L p u := by
      unfold ent
      rw [row0_set (by rw [List.length_set, gL.len]; exact p2), row0_set (by rw [gL.len]; omega)]
      split
      · rename_i z
        rw [← z]
      · rw [if_pos rfl]
    have n1 : ent ((L.set u (row0 L p)).set p (row0 L u)) u u ≠ 0 := by rw [e]; exact p3
    have g2 := (g1.scale (by omega) n1).mid (by omega) (g1.scale_at (by omega) n1)
    obtain ⟨L', g3⟩ := GMid.go (by omega) g2 m (Nat.le_refl _)
    exact ⟨L', g3.done_col (by omega)⟩
theorem RB.bd {B : Nat} {r : List Rat} (h : RB B r) : VB B B r := fun q hq => by
  obtain ⟨D, d1, d2, hh⟩ := h
  obtain ⟨n, rfl, hn⟩ := hh q hq
  exact ⟨Nat.le_trans (small_num (by omega)) hn, Nat.le_trans (small_den (by omega)) (by simpa using d2)⟩
theorem GB_mono : ∀ {a b : Nat}, a ≤ b → GB a ≤ GB b := fun {a b} h => by
  induction h with
  | refl => exact Nat.le_refl _
  | step _ ih => exact Nat.le_trans ih (GB_le _)
theorem start_inv (h1 : L0.length = m) (h2 : ∀ i, i < m → (row0 L0 i).length = m + 1) (h3 : ∀ i, i < m → RB (GB 0) (row0 L0 i)) : GInv m 0 (GB 0) L0 L0 := ⟨h1, h2, fun i j _ hj => by omega, fun x h => h, h3⟩
/-- the last column -/
def lastC (m : Nat) (L : Mx) : List Rat := (List.range m).map fun i => ent L i m
theorem lastC_at {i : Nat} (hi : i < m) : at0 (lastC m L) i = ent L i m := at0_lt (by unfold lastC; rw [List.getElem?_map, List.getElem?_range hi]; rfl)
theorem lastC_len : (lastC m L).length = m := by unfold lastC; simp
theorem GInv.last {B : Nat} (g : GInv m m B L0 L) : Sol L0 (fun j => if j < m then at0 (lastC m L) j else -1) ∧ VB B B (lastC m L) := by
  refine ⟨?_, fun q hq => ?_⟩
  · have h := g.solves
    have e : (fun j => if j < m then at0 (lastC m L) j else -1) = fun j => if j < m then ent L j m else -1 := by
      funext j
      split
      · rename_i hj
        rw [lastC_at hj]
      · rfl
    rw [e]
    exact h
  · unfold lastC at hq
    obtain ⟨i, hi, rfl⟩ := List.mem_map.mp hq
    have hi : i < m := List.mem_range.mp hi
    refine (g.bd i hi).bd _ ?_
    have hlt : m < (row0 L i).length := by rw [g.row i hi]; omega
    have e : (row0 L i)[m]? = some (ent L i m) := by
      unfold ent at0
      rw [getDq, List.getElem?_eq_getElem hlt]
      rfl
    exact List.mem_of_getElem? e
end
theorem VB.mono {A N A' N' : Nat} {vs : List Rat} (h : VB A N vs) (h1 : A ≤ A') (h2 : N ≤ N') : VB A' N' vs := fun q hq => (h q hq).mono h1 h2
theorem plan_inv {m : Nat} {ps : List (List Chc)} {l : Rat} {ns : List Nat} (h : PlanOk m ps l) (v : Valid m ps ns) : GInv m 0 (GB 0) (joinL (linesP ps l m ns) (paysP ps m ns)) (joinL (linesP ps l m ns) (paysP ps m ns)) :=
  start_inv joinP_len (fun i hi => by rw [joinP_at hi, List.length_append, lineP_len]; rfl) (joinP_RB h v)
theorem solves_ex {m : Nat} {ps : List (List Chc)} {l : Rat} {ns : List Nat} (h : PlanOk m ps l) (v : Valid m ps ns) : ∃ vs, Solves m ps l ns vs ∧ VB (GB 6) (GB 6) vs := by
  obtain ⟨L, g⟩ := gj_ex (plan_inv h v) (thin_P h v) m (Nat.le_refl _)
  obtain ⟨a, b⟩ := g.last
  exact ⟨_, solves_P h v lastC_len a, b.mono (GB_mono h.m6) (GB_mono h.m6)⟩
theorem wok_GB : WOk (GB 6) (GB 6) := ⟨by decide +kernel, by decide +kernel, by decide +kernel⟩
/-! ### steps -/
def wIt (ps : List (List Chc)) (l : Rat) (m : Nat) : Nat → List Rat
  | 0 => List.replicate m 0
  | k + 1 => ps.map fun chs => maxQ (chs.map fun z => wof l z (wIt ps l m k))
def SAN : Nat → Nat × Nat
  | 0 => (1, 1)
  | 1 => (1000, 6)
  | k + 2 => (WA (SAN (k + 1)).1 (SAN (k + 1)).2, WN (SAN (k + 1)).2)
theorem wok_S : ∀ k, k ≤ 3 → WOk (SAN k).1 (SAN k).2
  | 0, _ => ⟨by decide +kernel, by decide +kernel, by decide +kernel⟩
  | 1, _ => ⟨by decide +kernel, by decide +kernel, by decide +kernel⟩
  | 2, _ => ⟨by decide +kernel, by decide +kernel, by decide +kernel⟩
  | 3, _ => ⟨by decide +kernel, by decide +kernel, by decide +kernel⟩
  | k + 4, h => by omega
section
variable {m : Nat} {ps : List (List Chc)} {l : Rat}
theorem wIt_len (h : PlanOk m ps l) : ∀ k, (wIt ps l m k).length = m
  | 0 => by simp [wIt]
  | k + 1 => by
    show (ps.map _).length = m
    rw [List.length_map, h.len]
theorem dotQ_zero (row : List Rat) (n : Nat) : dotQ row (List.replicate n 0) = 0 := by
  unfold dotQ
  rw [sumQ_N]
  refine sumN_zero fun i hi => ?_
  unfold at0
  rw [getDq, List.getElem?_zipWith]
  cases row[i]? with
  | none => rfl
  | some a =>
    cases e : (List.replicate n (0 : Rat))[i]? with
    | none => rfl
    | some b =>
      have := List.mem_of_getElem? e
      have hb : b = 0 := (List.mem_replicate.mp this).2
      show a * b = 0
      rw [hb]
      grind
theorem wof_zero (z : Chc) (n : Nat) : wof l z (List.replicate n 0) = z.1 := by
  unfold wof
  rw [dotQ_zero]
  grind
theorem ws_ne {chs : List Chc} {f : Chc → Rat} (h : chs ≠ []) : chs.map f ≠ [] := by simpa using h
theorem wIt_bd (h : PlanOk m ps l) : ∀ k, k ≤ 3 → VB (SAN k).1 (SAN k).2 (wIt ps l m k)
  | 0, _ => fun q hq => by
    have : q = 0 := (List.mem_replicate.mp hq).2
    rw [this]
    exact ⟨by decide, by decide⟩
  | 1, _ => fun q hq => by
    obtain ⟨chs, hc, rfl⟩ := List.mem_map.mp hq
    obtain ⟨z, hz, e⟩ := List.mem_map.mp (maxQ_mem (ws_ne (f := fun z => wof l z (wIt ps l m 0)) (h.ne chs hc)))
    rw [← e]
    show Bd 1000 6 (wof l z (List.replicate m 0))
    rw [wof_zero]
    exact h.pay chs hc z hz
  | k + 2, hk => fun q hq => by
    obtain ⟨chs, hc, rfl⟩ := List.mem_map.mp hq
    obtain ⟨z, hz, e⟩ := List.mem_map.mp (maxQ_mem (ws_ne (f := fun z => wof l z (wIt ps l m (k + 1))) (h.ne chs hc)))
    rw [← e]
    have hr := h.row chs hc z hz
    have := h.m6
    exact wof_bd (wok_S (k + 1) (by omega)) (by rw [hr.len]; omega) (hr.bd (by omega) (by decide)) (wIt_bd h (k + 1) (by omega)) h.lb (h.pay chs hc z hz)
theorem wIt_at (h : PlanOk m ps l) (k : Nat) {i : Nat} (hi : i < m) : (wIt ps l m (k + 1))[i]? = some (maxQ ((chs0 ps i).map fun z => wof l z (wIt ps l m k))) := by
  show (ps.map _)[i]? = _
  rw [List.getElem?_map, chs0_at h hi]
  rfl
end
theorem pick_at {α : Type} {f : α → PyData} : ∀ {es : List PyData} {Q : Nat → α → Prop}, (∀ (i : Nat) (e : PyData), es[i]? = some e → ∃ x, Q i x ∧ e = f x) → ∃ xs : List α, es = xs.map f ∧ ∀ (i : Nat) (x : α), xs[i]? = some x → Q i x
  | [], _, _ => ⟨[], rfl, by simp⟩
  | e :: es, Q, h => by
    obtain ⟨x, hx, rfl⟩ := h 0 e rfl
    obtain ⟨xs, rfl, hq⟩ := pick_at (es := es) (Q := fun i x => Q (i + 1) x) fun i d hd => h (i + 1) d (by simpa using hd)
    exact ⟨x :: xs, rfl, fun i y hy => by
      cases i with
      | zero => obtain rfl : x = y := by simpa using hy
                exact hx
      | succ i => exact hq i y (by simpa using hy)⟩
/-! ### == of tuples and lists of fractions, of ints -/
theorem eqvAll_Q : ∀ a b : List Rat, PyData.eqvAll (a.map dQ) (b.map dQ) = decide (a = b)
  | [], [] => by simp only [List.map_nil, PyData.eqvAll]; rfl
  | [], y :: b => by simp [PyData.eqvAll]
  | x :: a, [] => by simp [PyData.eqvAll]
  | x :: a, y :: b => by
    simp only [List.map_cons, PyData.eqvAll]
    rw [eqv_Q, eqvAll_Q a b]
    by_cases h1 : x = y
    · by_cases h2 : a = b
      · simp [h1, h2]
      · simp [h1, h2]
    · simp [h1]
theorem eqvAll_I : ∀ a b : List Nat, PyData.eqvAll (a.map fun k : Nat => PyData.int (k : Int)) (b.map fun k : Nat => PyData.int (k : Int)) = decide (a = b)
  | [], [] => by simp only [List.map_nil, PyData.eqvAll]; rfl
  | [], y :: b => by simp [PyData.eqvAll]
  | x :: a, [] => by simp [PyData.eqvAll]
  | x :: a, y :: b => by
    simp only [List.map_cons, PyData.eqvAll]
    rw [eqvAll_I a b]
    have : PyData.eqv (.int (x : Int)) (.int (y : Int)) = decide (x = y) := by
      simp only [PyData.eqv]
      rw [beq_dec]
      exact decide_eq_decide.mpr ⟨fun _ => by omega, fun _ => by omega⟩
    rw [this]
    by_cases h1 : x = y
    · by_cases h2 : a = b
      · simp [h1, h2]
      · simp [h1, h2]
    · simp [h1]
theorem shaped_tupQ (ws : List Rat) : SeqAt.shaped (.tuple (ws.map dQ)) = true := by
  have h1 := deep_listQ ws
  have h2 : PyData.depth (.tuple (ws.map dQ)) ≤ 64 := by
    simp only [PyData.depth]
    omega
  unfold SeqAt.shaped
  rw [Bool.and_eq_true]
  exact ⟨by simp only [PyData.canLay0]; exact lay_listQ ws, decide_eq_true h2⟩
theorem lay_I : ∀ ns : List Nat, PyData.canLayAll0 (ns.map fun k : Nat => PyData.int (k : Int)) = true ∧ PyData.depthAll (ns.map fun k : Nat => PyData.int (k : Int)) ≤ 1
  | [] => by simp [PyData.canLayAll0, PyData.depthAll]
  | k :: r => by
    have h := lay_I r
    refine ⟨by simp [PyData.canLayAll0, PyData.canLay0, h.1], ?_⟩
    simp only [PyData.depthAll, List.map_cons, PyData.depth]
    have := h.2
    omega
theorem shaped_tupI (ns : List Nat) : SeqAt.shaped (.tuple (ns.map fun k : Nat => PyData.int (k : Int))) = true ∧ SeqAt.shaped (.list (ns.map fun k : Nat => PyData.int (k : Int))) = true := by
  have h := lay_I ns
  constructor <;> unfold SeqAt.shaped <;> rw [Bool.and_eq_true]
  · exact ⟨by simp only [PyData.canLay0]; exact h.1, decide_eq_true (by simp only [PyData.depth]; omega)⟩
  · exact ⟨by simp only [PyData.canLay0]; exact h.1, decide_eq_true (by simp only [PyData.depth]; omega)⟩
section
variable {c : Cf} {M : Mu} {G : Env'} {te tk : TE}
theorem rv_eqT {a b : List Rat} : RvD c M (rEqD c.K) (aT (a.map dQ)) (aT (b.map dQ)) (aB (decide (a = b))) := by
  have h := rv_eqD (c := c) (M := M) (shaped_tupQ a) (shaped_tupQ b)
  rw [show PyData.eqv (.tuple (a.map dQ)) (.tuple (b.map dQ)) = decide (a = b) by simp only [PyData.eqv]; exact eqvAll_Q a b] at h
  exact h
theorem rv_neT {a b : List Rat} : RvD c M (rNeD c.K) (aT (a.map dQ)) (aT (b.map dQ)) (aB (!decide (a = b))) := by
  have h := rv_neD (c := c) (M := M) (shaped_tupQ a) (shaped_tupQ b)
  rw [show PyData.eqv (.tuple (a.map dQ)) (.tuple (b.map dQ)) = decide (a = b) by simp only [PyData.eqv]; exact eqvAll_Q a b] at h
  exact h
theorem rv_neLQ {a b : List Rat} : RvD c M (rNeD c.K) (aL (a.map dQ)) (aL (b.map dQ)) (aB (!decide (a = b))) := by
  have h := rv_neD (c := c) (M := M) (shaped_listQ a) (shaped_listQ b)
  rw [show PyData.eqv (.list (a.map dQ)) (.list (b.map dQ)) = decide (a = b) by simp only [PyData.eqv]; exact eqvAll_Q a b] at h
  exact h
theorem rv_eqTI {a b : List Nat} : RvD c M (rEqD c.K) (aT (a.map fun k : Nat => PyData.int (k : Int))) (aT (b.map fun k : Nat => PyData.int (k : Int))) (aB (decide (a = b))) := by
  have h := rv_eqD (c := c) (M := M) (shaped_tupI a).1 (shaped_tupI b).1
  rw [show PyData.eqv (.tuple (a.map fun k : Nat => PyData.int (k : Int))) (.tuple (b.map fun k : Nat => PyData.int (k : Int))) = decide (a = b) by simp only [PyData.eqv]; exact eqvAll_I a b] at h
  exact h
theorem dpAll_rep {K : PySem.W.Frag} {H : Hp} {x : V} {d : PyData} (h : Dp K H x d) : ∀ n, DpAll K H (List.replicate n [x]).flatten (List.replicate n d)
  | 0 => .nil
  | n + 1 => by
    rw [List.replicate_succ, List.replicate_succ, List.flatten_cons]
    exact .cons h (dpAll_rep h n)
/-- [e] * n -/
theorem ev_rep {d : PyData} {n : Nat} (h : EvD c M te G (.d d)) (hk : EvD c M tk G (aI (n : Int))) (hn : n ≤ 1000) : EvD c M (tOp rRep (tLst (tCons te tNil)) tk) G (aL (List.replicate n d)) := fun σ H s k Q q =>
  en_lst (ds := [d]) (ea_cons h ea_nil) (by show 1 ≤ 1000; decide) σ H s k _ fun l H1 xs nl e1 hl hd => hk σ H1 (s.mono e1) (e1.2 k) _ fun v H2 b eb e2 r2 => by
    subst eb
    obtain rfl := dp_int r2
    obtain ⟨x, ys, rfl, hx, hys⟩ := dpAll_cons hd
    obtain rfl := dpAll_nil hys
    have nM : l ∉ M.map (·.1) := k.fresh nl
    have hl2 : H2 l = some (.lst [x]) := e2.1 l _ hl (fun _ q => nomatch q) nM
    refine ⟨l, (n : Int), [x], rfl, rfl, hl2, by omega, by omega, ?_, ?_⟩
    · rw [show ((n : Int)).toNat = n by omega]
      have := small1000 hn
      rw [List.length_cons, List.length_nil]
      omega
    · rw [show ((n : Int)).toNat = n by omega]
      exact Kp.newL (P := fun x => x = aL (List.replicate n d)) ((e1.trans e2).2 k) (dpAll_rep (dp_ext e2.hid _ _ hx) n) rfl (q.ex (e1.trans e2))
/-- list(xs) + [e], e a name -/
theorem ev_catNew {ds : List PyData} {d : PyData} {i : Nat} (h : EvD c M te G (aL ds)) (hi : G[i]? = some (some (.d d))) (hl : ds.length < 1000) : EvD c M (tOp rCat (tCB (rLstQ c.K) (tCons te tNil)) (tLst (tCons (tVar i) tNil))) G (aL (ds ++ [d])) := fun σ H s k Q q => by
  refine h σ H s k _ fun v H1 b eb e1 r1 => ?_
  subst eb
  obtain ⟨a, xs, rfl, hs, hd⟩ := dp_lst r1
  refine ⟨a, xs, rfl, .inl (sqL_hid hs), fun p np => ?_⟩
  have k1 := e1.2 k
  have e2 : Ex c M H1 (upd H1 p (.lst xs)) := Ex.new np
  obtain ⟨w, hw, rw'⟩ := (s.mono (e1.trans e2)).at_ i _ hi
  refine ⟨w, hw, ?_⟩
  refine ⟨by show 1 ≤ sizeLine; decide, fun p2 np2 => ?_⟩
  have e3 : Ex c M (upd H1 p (.lst xs)) (upd (upd H1 p (.lst xs)) p2 (.lst [w])) := Ex.new np2
  have hp2 : p ≠ p2 := fun z => by
    rw [← z, upd_same] at np2
    cases np2
  have e123 := (e1.trans e2).trans e3
  refine ⟨p, p2, xs, [w], rfl, rfl, by rw [upd_ne hp2]; exact upd_same, upd_same, ?_, ?_⟩
  · rw [dpAll_len hd]
    exact Nat.le_of_lt (small1000 (by simp; omega))
  · exact Kp.newL (P := fun x => x = aL (ds ++ [d])) (e123.2 k) (dpAll_app (dpAll_ext (e2.trans e3).hid _ _ hd) (dpAll_one (Rel.mono (a := .d d) e3 rw'))) rfl (q.ex e123)
end
theorem pe_fldK {X : Cx} {K : PySem.W.Frag} {e : Expr} {ta : TE} {f : Str} {pos : Pos} (hK : X.K = K) (he : PE X e ta) (hb : attributeBase e f X.env (eval e X.env) = eval e X.env) : PE X (.Attribute e f pos) (tFld K ta f) := hK ▸ pe_fld he hb
theorem pi_listK {X : Cx} {K : PySem.W.Frag} {tg e : Expr} {te : TE} (hK : X.K = K) (he : PE X e te) : PI X tg e (iList K te) := hK ▸ pi_list he
end LW

/-! plans.py, third part. -/
namespace LW
open L2 PySem PySem.Spec PyProof.Rows
def R_fs : PR := fun _ as P => ∃ (m : Nat) (ps : List (List Chc)) (l : Rat) (k : Nat), PlanOk m ps l ∧ k ≤ 3 ∧ as = [aP ps l, aI (k : Int)] ∧ ∀ ns : PyData, P (aT [.tuple ((wIt ps l m k).map dQ), ns])
section
variable {P : Program} {w : World} {c : Cf} {mg : Str → Option Value} {base : Heap}
theorem no_bc (vp vl : V) : (flds vp vl).lookup ("best_choice" : Str) = none := by with_unfolding_all rfl
theorem ev_bc {M : Mu} {G : Env'} {te tx tv : TE} {E : XK} {m : Nat} {ps : List (List Chc)} {l : Rat} {i : Nat} {vs : List Rat} {A N : Nat} (h : PlanOk m ps l) (W : WOk A N) (hi : i < m) (hl : vs.length = m) (hv : VB A N vs)
    (h1 : EvD c M te G (aP ps l)) (h2 : EvD c M tx G (aI (i : Int))) (h4 : EvD c M tv G (aT (vs.map dQ))) : EvP c M (tMeth c.C "best_choice" (spR c R_bc) [] E te (tCons tx (tCons tv tNil))) G (fun a => ∃ j, FirstBest ((chs0 ps i).map fun z => wof l z vs) j ∧ a = aI (j : Int)) :=
  ev_meth1 h1 no_bc (ea_cons h2 (ea_cons h4 ea_nil)) ⟨m, ps, l, i, vs, A, N, h, W, hi, hl, hv, rfl, fun j hj => ⟨j, hj, rfl⟩⟩
theorem fb_at {ps : List (List Chc)} {l : Rat} {i j : Nat} {vs : List Rat} (h : FirstBest ((chs0 ps i).map fun z => wof l z vs) j) : ∃ z, (chs0 ps i)[j]? = some z ∧ wof l z vs = maxQ ((chs0 ps i).map fun z => wof l z vs) := by
  obtain ⟨z, hz, e⟩ := (by
    have := h.1
    rw [List.getElem?_map] at this
    cases e : (chs0 ps i)[j]? with
    | none => rw [e] at this; cases this
    | some z => rw [e] at this; exact ⟨z, rfl, someI this⟩ : ∃ z, (chs0 ps i)[j]? = some z ∧ wof l z vs = maxQ ((chs0 ps i).map fun z => wof l z vs))
  exact ⟨z, hz, e⟩
theorem ok_P_for_steps (B : Bt mg) (Tp : PlTxt c) (D : DefM c "for_steps" "Plans.for_steps" s_P_for_steps) (c_P_worth_of : CalWof P w c mg base) (c_P_best_choice : CalBc P w c mg base) : CalM P w c mg base CX0 8 "for_steps" ["self", "count"] (spR c R_fs) := by
  refine D.cal sc_P_for_steps bd_P_for_steps (lenR fun M as Pv ⟨_, _, _, _, _, _, e, _⟩ => by rw [e]; rfl) (bodyR fun f cdv A outer s H E hr => ⟨_, (pss_cons (ps_if (pt_cmpR op_lt (pv 1) pe_int (nomark _)) (pss_one ps_never) pss_nil)
      (pss_cons (ps_asg (pe_tup (pa_cons (pe_callTy call_tupQ (by rfl) B.tuple (by decide +kernel) (pa_cons (pe_op op_rep (pe_lst (pa_cons (pe_tup (pa_cons pe_int (pa_cons pe_int pa_nil))) pa_nil)) (pe_callB call_lenQ (by rfl) B.len PySem.boot_len (pa_cons (pe_fld (pv 0) rfl) pa_nil))) pa_nil)) (pa_cons (pe_tup pa_nil) pa_nil))) (pg_tup rfl (pgs_cons (pg_name (i := 2) sc_P_for_steps.nd rfl (.inr rfl)) (pgs_cons (pg_name (i := 3) sc_P_for_steps.nd rfl (.inr rfl)) pgs_nil))))
      (pss_cons (ps_for PassesOwn.never rfl (pi_range1 (by rfl) B.range (pa_cons (pv 1) pa_nil)) (pg_name (i := 4) sc_P_for_steps.nd rfl (.inl rfl)) (pss_cons (ps_set (i := 3) sc_P_for_steps.nd rfl (.inr rfl) (pe_callTy call_tupQ (by rfl) B.tuple (by decide +kernel) (pa_cons (pe_lc (own := [("place", 5)]) (g := (gName 5)) (tt := tYes) rfl sc_P_for_steps.nd (pi_range1 (by rfl) B.range (pa_cons (pe_callB call_lenQ (by rfl) B.len PySem.boot_len (pa_cons (pe_fld (pv 0) rfl) pa_nil)) pa_nil)) (blkOk_by (N := N_P_for_steps) (sc := defScope s_P_for_steps) (by decide +kernel)) (fun _ _ _ _ _ => (pg_name (i := 5) sc_P_for_steps.nd rfl (.inl rfl))) (fun _ _ _ _ _ => pts_nil) (fun _ _ _ _ _ => (pe_calM (pl := _) rfl (c_P_best_choice.mono (by omega)) Tp (pv 0) hr pass0 (pa_cons (pv 5) (pa_cons (pv 2) pa_nil))))) pa_nil)))
      (pss_one (ps_set (i := 2) sc_P_for_steps.nd rfl (.inr rfl) (pe_callTy call_tupQ (by rfl) B.tuple (by decide +kernel) (pa_cons (pe_lc (own := [("place", 5)]) (g := (gName 5)) (tt := tYes) rfl sc_P_for_steps.nd (pi_range1 (by rfl) B.range (pa_cons (pe_callB call_lenQ (by rfl) B.len PySem.boot_len (pa_cons (pe_fld (pv 0) rfl) pa_nil)) pa_nil)) (blkOk_by (N := N_P_for_steps) (sc := defScope s_P_for_steps) (by decide +kernel)) (fun _ _ _ _ _ => (pg_name (i := 5) sc_P_for_steps.nd rfl (.inl rfl))) (fun _ _ _ _ _ => pts_nil) (fun _ _ _ _ _ => (pe_calM (pl := _) rfl (c_P_worth_of.mono (by omega)) Tp (pv 0) hr pass0 (pa_cons (pv 5) (pa_cons (pe_ix (r := rIx c.K) ix_seq (pv 3) (pv 5) (fun _ _ => rfl)) (pa_cons (pv 2) pa_nil)))))) pa_nil))))))
      (pss_one (ps_ret (pe_tup (pa_cons (pv 2) (pa_cons (pv 3) pa_nil)))))))), ?_⟩)
  rintro M as Pv ⟨m, ps, l, k, h, hk, rfl, hp⟩
  have hm6 := h.m6
  refine st_seq (PG1 := fun G => G = startG 6 [aP ps l, aI (k : Int)]) (st_if (b := false) (et_is (et_test (ev_op (ev_var rfl) ev_int rv_B0)) (decide_eq_false (by omega))) (fun h => absurd h (by simp)) fun _ => st_next rfl) ?_
  rintro G rfl
  refine st_seq (PG1 := fun G => G = [some (aP ps l), some (aI (k : Int)), some (aT ((wIt ps l m 0).map dQ)), some (aT []), none, none]) (st_asg (Pa := fun a => a = aT [.tuple ((wIt ps l m 0).map dQ), .tuple []]) (ev_tup (ds := [.tuple ((wIt ps l m 0).map dQ), .tuple []]) (ea_cons (ev_cb (ea_cons (ev_is (ev_rep (d := dQ 0) (n := m) (ev_tup (ds := [.int 0, .int 1]) (ea_cons ev_int (ea_cons ev_int ea_nil)) (by show 2 ≤ 1000; decide)) (ev_many Tp h (ev_var rfl)) (by omega)) (by show _ = aL ((List.replicate m 0).map dQ); rw [List.map_replicate])) ea_nil) rc_tupL) (ea_cons (ev_tup (ds := []) ea_nil (by decide)) ea_nil)) (by show 2 ≤ 1000; decide)) ?_) ?_
  · rintro a rfl
    exact ⟨_, _, tg_tup2 tg_name tg_name, rfl⟩
  rintro G rfl
  refine st_seq (PG1 := fun G => ∃ ns y z, G = [some (aP ps l), some (aI (k : Int)), some (aT ((wIt ps l m k).map dQ)), some (.d ns), y, z]) (st_for (it_range1 (n := k) (ea_cons (ev_var rfl) ea_nil) (by omega)) (fun i G => ∃ ns y z, G = [some (aP ps l), some (aI (k : Int)), some (aT ((wIt ps l m i).map dQ)), some (.d ns), y, z]) ⟨_, none, none, rfl⟩ ?_ ?_) ?_
  · rintro i d G hd ⟨ns, y, z, rfl⟩
    obtain ⟨hi, rfl⟩ := rngD_at hd
    have W := wok_S i (by omega)
    have hv := wIt_bd h i (by omega)
    have hl := wIt_len h i
    refine ⟨_, _, tg_name, ?_⟩
    refine st_seq (PG1 := fun G => ∃ js : List Nat, js.length = m ∧ (∀ (p : Nat) (j : Nat), js[p]? = some j → FirstBest ((chs0 ps p).map fun z => wof l z (wIt ps l m i)) j) ∧ G = [some (aP ps l), some (aI (k : Int)), some (aT ((wIt ps l m i).map dQ)), some (aT (js.map fun j : Nat => .int (j : Int))), some (aI (0 + (i : Int))), z]) (st_asg (ev_cbP (P := fun a => ∃ js : List Nat, js.length = m ∧ (∀ (p : Nat) (j : Nat), js[p]? = some j → FirstBest ((chs0 ps p).map fun z => wof l z (wIt ps l m i)) j) ∧ a = aT (js.map fun j : Nat => .int (j : Int))) (ea_consP (ev_lcP (P := fun a => ∃ js : List Nat, js.length = m ∧ (∀ (p : Nat) (j : Nat), js[p]? = some j → FirstBest ((chs0 ps p).map fun z => wof l z (wIt ps l m i)) j) ∧ a = aL (js.map fun j : Nat => .int (j : Int))) (Pe := fun p e => ∃ j : Nat, FirstBest ((chs0 ps p).map fun z => wof l z (wIt ps l m i)) j ∧ e = .int (j : Int)) (it_range1 (n := m) (ea_cons (ev_many Tp h (ev_var rfl)) ea_nil) (by omega)) (by rw [rngD_len]; omega) ?_ ?_) ea_nil) ?_) ?_) ?_
    · intro M' hM p d hd
      obtain ⟨hp2, rfl⟩ := rngD_at hd
      exact ⟨_, _, tg_name, by simp, (ev_bc h W hp2 hl hv (ev_var rfl) (ev_is (ev_var rfl) (by congr 2; omega)) (ev_var rfl)).mono fun a ⟨j, h1, h2⟩ => ⟨_, h2, j, h1, rfl⟩⟩
    · intro es hes he
      obtain ⟨js, rfl, hj⟩ := pick_at he
      rw [rngD_len] at hes
      exact ⟨js, by simpa using hes, hj, rfl⟩
    · rintro as ⟨a, as', rfl, ⟨js, h1, h2, rfl⟩, rfl⟩
      exact RcP_of rc_tupL fun b e => ⟨js, h1, h2, e⟩
    · rintro a ⟨js, h1, h2, rfl⟩
      exact ⟨_, _, tg_name, js, h1, h2, rfl⟩
    · rintro G ⟨js, h1, h2, rfl⟩
      refine st_asg (Pa := fun a => a = aT ((wIt ps l m (i + 1)).map dQ)) (ev_cb (ea_cons (ev_lc (es := (wIt ps l m (i + 1)).map dQ) (it_range1 (n := m) (ea_cons (ev_many Tp h (ev_var rfl)) ea_nil) (by omega)) (by rw [rngD_len]; omega) (by rw [rngD_len, List.length_map, wIt_len h]) ?_) ea_nil) rc_tupL) ?_
      · intro M' hM p d e hd he
        obtain ⟨hp2, rfl⟩ := rngD_at hd
        obtain ⟨q, hq, rfl⟩ := map_at he
        rw [wIt_at h i hp2] at hq
        obtain rfl := someI hq
        obtain ⟨j, hj⟩ : ∃ j, js[p]? = some j := ⟨js[p]'(by omega), List.getElem?_eq_getElem (by omega)⟩
        obtain ⟨zc, hz, ez⟩ := fb_at (h2 p j hj)
        rw [← ez]
        exact ⟨_, _, tg_name, by simp, ev_wof h W hp2 hz hl hv (ev_var rfl) (ev_is (ev_var rfl) (by congr 2; omega)) (ev_op (b := aI (p : Int)) (ev_var rfl) (ev_is (ev_var rfl) (by congr 2; omega)) (rv_ixT (d := .int (j : Int)) (by rw [List.getElem?_map, hj]; rfl))) (ev_var rfl)⟩
      · rintro a rfl
        exact ⟨_, _, tg_name, _, _, _, rfl⟩
  · rintro G ⟨ns, y, z, rfl⟩
    rw [rngD_len]
    exact ⟨ns, y, z, rfl⟩
  · rintro G ⟨ns, y, z, rfl⟩
    exact st_ret (EvP.of (ev_tup (ds := [.tuple ((wIt ps l m k).map dQ), ns]) (ea_cons (ev_var rfl) (ea_cons (ev_var rfl) ea_nil)) (by show 2 ≤ 1000; decide)) (hp ns))
/-! ### what a policy is worth for ever -/
def dLn (row : List Rat) : PyData := .list (row.map dQ)
def dNs (ns : List Nat) : List PyData := ns.map fun k : Nat => PyData.int (k : Int)
def R_solved : PR := fun _ as P => ∃ (m : Nat) (rows : Mx) (vals : List Rat), 1 ≤ m ∧ m ≤ 6 ∧ rows.length = m ∧ vals.length = m ∧ (∀ r ∈ rows, r.length = m) ∧ Thin m (joinL rows vals) ∧ (∀ i, i < m → RB (GB 0) (row0 (joinL rows vals) i)) ∧ as = [aL (rows.map dLn), aL (vals.map dQ)] ∧
  ∀ s : List Rat, s.length = m → Sol (joinL rows vals) (fun j => if j < m then at0 s j else -1) → VB (GB m) (GB m) s → P (aT (s.map dQ))
def R_pw : PR := fun _ as P => ∃ (m : Nat) (ps : List (List Chc)) (l : Rat) (ns : List Nat), PlanOk m ps l ∧ Valid m ps ns ∧ as = [aP ps l, aT (dNs ns)] ∧ ∀ vs, Solves m ps l ns vs → VB (GB 6) (GB 6) vs → P (aT (vs.map dQ))
/-- a, b = [], [] -/
theorem sm_par_new {M : Mu} {G : Env'} {t2 : TS} {PG : Mu → Env' → Prop} {PP : Mu → AV → Prop} {i j : Nat}
    (hr : ∀ a b, a ≠ b → a ∉ M.map (·.1) → b ∉ M.map (·.1) → StM c ((b, isL []) :: (a, isL []) :: M) t2 ((G.set i (some (.mls a [] []))).set j (some (.mls b [] []))) (fun M' G' => (∀ x ∈ M'.map (·.1), x ∈ M.map (·.1)) ∧ PG M' G') (fun M' v => (∀ x ∈ M'.map (·.1), x ∈ M.map (·.1)) ∧ PP M' v)) :
    StM c M (tSeq (tPar i j (tCons (tLst tNil) (tCons (tLst tNil) tNil))) t2) G PG PP := fun σ H s k D n q => by
  refine ⟨by show 0 ≤ sizeLine; decide, fun a na => ⟨by show 0 ≤ sizeLine; decide, fun b nb => ⟨.ref a, .ref b, rfl, ?_⟩⟩⟩
  have hab : a ≠ b := fun z => by
    rw [z, upd_same] at nb
    cases nb
  have nbH : H b = none := by rw [upd_ne (fun z => hab z.symm)] at nb; exact nb
  have naM := k.fresh na
  have nbM := k.fresh nbH
  have e1 : Ex c M H (upd H a (.lst [])) := Ex.new na
  have e2 : Ex c M (upd H a (.lst [])) (upd (upd H a (.lst [])) b (.lst [])) := Ex.new nb
  have e12 := e1.trans e2
  have k2 := e12.2 k
  have la : upd (upd H a (.lst [])) b (.lst []) a = some (.lst []) := by rw [upd_ne hab]; exact upd_same
  have k3 : Ok c ((b, isL []) :: (a, isL []) :: M) (upd (upd H a (.lst [])) b (.lst [])) := (k2.push (w := isL []) la rfl).push (w := isL []) upd_same rfl
  have st : Step c ((b, isL []) :: (a, isL []) :: M) ((b, isL []) :: (a, isL []) :: M) H (upd (upd H a (.lst [])) b (.lst [])) := ⟨fun _ h => h, fun x o h1 h2 h3 => e12.1 x o h1 h2 fun z => h3 (List.mem_cons_of_mem _ (List.mem_cons_of_mem _ z)), k3, e12.3⟩
  have s1 : Sig c ((b, isL []) :: (a, isL []) :: M) (upd (upd H a (.lst [])) b (.lst [])) σ G := ((s.fresh na).fresh nbH).step st
  have back : ∀ {M' : Mu} {H' : Hp}, (∀ x ∈ M'.map (·.1), x ∈ M.map (·.1)) → Step c ((b, isL []) :: (a, isL []) :: M) M' (upd (upd H a (.lst [])) b (.lst [])) H' → Step c M M' H H' := fun {M' H'} hs e => ⟨hs, fun x o h1 h2 h3 => e.keep x o (e12.1 x o h1 h2 h3) h2 fun z => by
    rcases memC z with z | z
    · exact ne_of_none h1 nbH z
    · rcases memC z with z | z
      · exact ne_of_none h1 na z
      · exact h3 z, e.ok, fun x hx => e12.3 x (e.dom x hx)⟩
  exact hr a b hab naM nbM _ _ ((s1.set (a := .mls a [] []) ⟨rfl, .nil⟩).set (a := .mls b [] []) ⟨rfl, .nil⟩) k3 D (fun σ2 H2 M2 G2 ⟨hs, p2⟩ e2 s2 => n σ2 H2 M2 G2 p2 (back hs e2) s2) fun v H2 M2 x ⟨hs, p2⟩ e2 r2 => q v H2 M2 x p2 (back hs e2) r2
theorem dNs_at {ns : List Nat} {i : Nat} {d : PyData} (h : (dNs ns)[i]? = some d) : d = .int ((ns.getD i 0 : Nat) : Int) ∧ i < ns.length := by
  obtain ⟨k, hk, rfl⟩ := map_at h
  rw [getDq, hk]
  exact ⟨rfl, (List.getElem?_eq_some_iff.mp hk).1⟩
theorem range_snoc {α : Type} (f : Nat → α) (i : Nat) : (List.range (i + 1)).map f = (List.range i).map f ++ [f i] := by rw [List.range_succ, List.map_append]; rfl
theorem one_fit (t : Int) (h : t.natAbs ≤ 1) : Bd 1 1 (Rat.divInt t 1) := ⟨Nat.le_trans (small_num (by decide)) h, Nat.le_trans (small_den (by decide)) (by decide)⟩
theorem dQ_int (t : Int) : dQ (Rat.divInt t 1) = .tuple [.int t, .int 1] := by
  have e : Rat.divInt t 1 = (t : Rat) := by rw [q_div]; grind
  rw [e]
  rfl
theorem ok_P_worth_by (B : Bt mg) (Tp : PlTxt c) (D : DefM c "worth_by" "Plans.worth_by" s_P_worth_by) (c_solved : Cal P w c mg base CX0 8 "solved" ["rows", "values"] (spR c R_solved)) (c_minus : Cal P w c mg base CX0 3 "minus" ["one", "other"] (spR c R_minus)) (c_times : CalTi P w c mg base) :
    CalM P w c mg base CX0 9 "worth_by" ["self", "numbers"] (spR c R_pw) := by
  refine D.cal sc_P_worth_by bd_P_worth_by (lenR fun M as Pv ⟨_, _, _, _, _, _, e, _⟩ => by rw [e]; rfl) (bodyR fun f cdv A outer s H E hr => ⟨_, (pss_cons (ps_if (pt_cmpR (op_neD hr.units) (pe_callB call_lenQ (by rfl) B.len PySem.boot_len (pa_cons (pv 1) pa_nil)) (pe_callB call_lenQ (by rfl) B.len PySem.boot_len (pa_cons (pe_fld (pv 0) rfl) pa_nil)) (nomark _)) (pss_one ps_never) pss_nil)
      (pss_cons (ps_par (by rfl) sc_P_worth_by.nd (i := 2) (j := 3) rfl rfl (by decide) rfl rfl (pa_cons (pe_lst pa_nil) (pa_cons (pe_lst pa_nil) pa_nil)) (by rfl))
      (pss_cons (ps_for PassesOwn.never rfl (pi_enumT (by rfl) B.enumerate (pa_cons (pv 1) pa_nil)) (pg_tup rfl (pgs_cons (pg_name (i := 4) sc_P_worth_by.nd rfl (.inr rfl)) (pgs_cons (pg_name (i := 5) sc_P_worth_by.nd rfl (.inl rfl)) pgs_nil))) (pss_cons (ps_if (pt_not (pt_chain op_le op_lt pe_int (pv 5) (pe_callB call_lenQ (by rfl) B.len PySem.boot_len (pa_cons (pe_ix ix_seq (pe_fld (pv 0) rfl) (pv 4) (fun _ _ => rfl)) pa_nil)))) (pss_one ps_never) pss_nil)
      (pss_cons (ps_asg (pe_ix ix_seq (pe_ix ix_seq (pe_fld (pv 0) rfl) (pv 4) (fun _ _ => rfl)) (pv 5) (fun _ _ => rfl)) (pg_tup rfl (pgs_cons (pg_name (i := 6) sc_P_worth_by.nd rfl (.inl rfl)) (pgs_cons (pg_name (i := 7) sc_P_worth_by.nd rfl (.inr rfl)) pgs_nil))))
      (pss_cons (ps_expr (pe_bm PySem.F.plainAttrs_list PySem.F.slot_list_append PySem.F.type_list_append mt_append (pv 2) (pa_cons (pe_lc (own := [("one", 8)]) (g := (gName 8)) (tt := tYes) rfl sc_P_worth_by.nd (pi_range1 (by rfl) B.range (pa_cons (pe_callB call_lenQ (by rfl) B.len PySem.boot_len (pa_cons (pv 7) pa_nil)) pa_nil)) (blkOk_by (N := N_P_worth_by) (sc := defScope s_P_worth_by) (by decide +kernel)) (fun _ _ _ _ _ => (pg_name (i := 8) sc_P_worth_by.nd rfl (.inl rfl))) (fun _ _ _ _ _ => pts_nil) (fun _ _ _ _ _ => (pe_cal rfl (c_minus.mono (by omega)) hr (by rfl) pass0 (pa_cons (pe_tup (pa_cons (pe_callTy (T := "int") (r := rIntQ) call_intQ (by rfl) B.int (by decide +kernel) (pa_cons (pe_cmpR (r := rEqD c.K) (op_eqD hr.units) (pv 4) (pv 8) (nomark _)) pa_nil)) (pa_cons pe_int pa_nil))) (pa_cons (pe_cal rfl (c_times.mono (by omega)) hr (by rfl) pass0 (pa_cons (pe_fldK (K := c.K) rfl (pv 0) rfl) (pa_cons (pe_ix (r := rIx c.K) ix_seq (pv 7) (pv 8) (fun _ _ => rfl)) pa_nil))) pa_nil))))) pa_nil)))
      (pss_one (ps_expr (pe_bm PySem.F.plainAttrs_list PySem.F.slot_list_append PySem.F.type_list_append mt_append (pv 3) (pa_cons (pv 6) pa_nil))))))))
      (pss_one (ps_ret (pe_cal rfl (c_solved.mono (by omega)) hr (by rfl) pass0 (pa_cons (pv 2) (pa_cons (pv 3) pa_nil)))))))), ?_⟩)
  rintro M as Pv ⟨m, ps, l, ns, h, v, rfl, hp⟩
  have hm6 := h.m6
  have hnl : (dNs ns).length = m := by unfold dNs; rw [List.length_map, v.len]
  refine st_seq (PG1 := fun G => G = startG 9 [aP ps l, aT (dNs ns)]) (st_if (b := false) (et_is (et_test (ev_op (ev_cb (ea_cons (ev_var rfl) ea_nil) rc_lenT) (ev_many Tp h (ev_var rfl)) rv_neDI)) (by rw [hnl]; simp)) (fun h => absurd h (by simp)) fun _ => st_next rfl) ?_
  rintro G rfl
  refine StM.p (sm_par_new fun a b hab ha hb => ?_)
  refine sm_seq (PG1 := fun M' G => ∃ (xa xb : List V) (y1 y2 y3 y4 : Option AV), M' = (b, isL xb) :: (a, isL xa) :: M ∧ G = [some (aP ps l), some (aT (dNs ns)), some (.mls a xa ((linesP ps l m ns).map dLn)), some (.mls b xb ((paysP ps m ns).map dQ)), y1, y2, y3, y4, none]) (sm_for (PI := fun M' ds => M' = (b, isL []) :: (a, isL []) :: M ∧ ds = enumD (dNs ns)) (ItD.m (it_enumT (ea_cons (ev_var rfl) ea_nil)) ⟨rfl, rfl⟩) ?_) ?_
  · rintro M1 ds ⟨rfl, rfl⟩
    refine ⟨fun i M' G => ∃ (xa xb : List V) (y1 y2 y3 y4 : Option AV), M' = (b, isL xb) :: (a, isL xa) :: M ∧ G = [some (aP ps l), some (aT (dNs ns)), some (.mls a xa (((List.range i).map fun i => lineP l m i (cho ps ns i)).map dLn)), some (.mls b xb (((List.range i).map fun i => (cho ps ns i).1).map dQ)), y1, y2, y3, y4, none], ⟨[], [], none, none, none, none, rfl, rfl⟩, ?_, ?_⟩
    · rintro i d M' G hd ⟨xa, xb, y1, y2, y3, y4, rfl, rfl⟩
      obtain ⟨x, hx, rfl⟩ := enumD_at hd
      obtain ⟨rfl, hi⟩ := dNs_at hx
      rw [v.len] at hi
      have hz := cho_at v hi
      obtain ⟨z1, z2, z3⟩ := h.chc hi (cho_mem v hi)
      have hlt := v.at_ i hi
      refine ⟨_, _, tg_tup2 tg_name tg_name, ?_⟩
      refine sm_seq (PG1 := fun M' G => M' = (b, isL xb) :: (a, isL xa) :: M ∧ G = [some (aP ps l), some (aT (dNs ns)), some (.mls a xa (((List.range i).map fun i => lineP l m i (cho ps ns i)).map dLn)), some (.mls b xb (((List.range i).map fun i => (cho ps ns i).1).map dQ)), some (aI (i : Int)), some (aI ((ns.getD i 0 : Nat) : Int)), y3, y4, none]) (StP.m (P := fun _ => False) (st_if (b := false) (et_is (et_not (et_test (ev_chain (x := aI 0) ev_int (ev_var rfl) rv_B0 (fun _ => ev_cb (ea_cons (ev_plc Tp h hi (ev_var rfl) (ev_var rfl)) ea_nil) rc_lenL) fun _ => rv_B0))) ?_) (fun h => absurd h (by simp)) fun _ => st_next rfl) (fun G' e => ⟨rfl, e.symm⟩) fun _ h => h.elim) ?_
      · rw [List.length_map, decide_eq_true (show (0 : Int) ≤ ((ns.getD i 0 : Nat) : Int) by omega), decide_eq_true (show ((ns.getD i 0 : Nat) : Int) < ((chs0 ps i).length : Int) by omega)]
        rfl
      rintro M' G ⟨rfl, rfl⟩
      refine sm_seq (PG1 := fun M' G => M' = (b, isL xb) :: (a, isL xa) :: M ∧ G = [some (aP ps l), some (aT (dNs ns)), some (.mls a xa (((List.range i).map fun i => lineP l m i (cho ps ns i)).map dLn)), some (.mls b xb (((List.range i).map fun i => (cho ps ns i).1).map dQ)), some (aI (i : Int)), some (aI ((ns.getD i 0 : Nat) : Int)), some (aQ (cho ps ns i).1), some (aT ((cho ps ns i).2.map dQ)), none]) (StP.m (P := fun _ => False) (st_asg (Pa := fun a => a = .d (dChc (cho ps ns i))) (ev_op (ev_plc Tp h hi (ev_var rfl) (ev_var rfl)) (ev_var rfl) (rv_ixL (plc_at hz))) (fun v e => by subst e; exact ⟨_, _, tg_tup2 tg_name tg_name, rfl⟩)) (fun G' e => ⟨rfl, e⟩) fun _ h => h.elim) ?_
      rintro M' G ⟨rfl, rfl⟩
      have hlen1 : (((List.range i).map fun i => lineP l m i (cho ps ns i)).map dLn).length < 1000 := by simp; omega
      have hlen2 : (((List.range i).map fun i => (cho ps ns i).1).map dQ).length < 1000 := by simp; omega
      refine sm_seq (PG1 := fun M' G => ∃ xa', M' = (b, isL xb) :: (a, isL xa') :: M ∧ G = [some (aP ps l), some (aT (dNs ns)), some (.mls a xa' (((List.range (i + 1)).map fun i => lineP l m i (cho ps ns i)).map dLn)), some (.mls b xb (((List.range i).map fun i => (cho ps ns i).1).map dQ)), some (aI (i : Int)), some (aI ((ns.getD i 0 : Nat) : Int)), some (aQ (cho ps ns i).1), some (aT ((cho ps ns i).2.map dQ)), none]) (sm_append (i := 2) (l := a) (xs := xa) rfl (by simp) hlen1 (PA := fun M' v => M' = (b, isL xb) :: (a, isL xa) :: M ∧ v = .d (dLn (lineP l m i (cho ps ns i)))) (EvP.m (P := fun v => v = .d (dLn (lineP l m i (cho ps ns i)))) (ev_lc (es := (lineP l m i (cho ps ns i)).map dQ) (it_range1 (n := m) (ea_cons (ev_is (ev_cb (ea_cons (ev_var rfl) ea_nil) rc_lenT) (by rw [List.length_map, z1])) ea_nil) (by omega)) (by rw [rngD_len]; omega) (by rw [rngD_len, List.length_map, lineP_len]) ?_) fun v e => ⟨rfl, e⟩) ?_) ?_
      · intro M' hM j d e hd he
        obtain ⟨hj, rfl⟩ := rngD_at hd
        obtain ⟨q, hq, rfl⟩ := map_at he
        have eq : q = dl i j - l * at0 (cho ps ns i).2 j := by
          rw [← lineP_at (l := l) hj, at0_lt hq]
        have hjl : j < (cho ps ns i).2.length := by omega
        have hrow : (cho ps ns i).2[j]? = some (at0 (cho ps ns i).2 j) := by
          unfold at0
          rw [getDq, List.getElem?_eq_getElem hjl]
          rfl
        have hb2 := z2 _ (List.mem_of_getElem? hrow)
        have hd1 : dl i j = Rat.divInt (if i = j then 1 else 0) 1 := by
          unfold dl
          split <;> rfl
        have hd2 : Bd 1 1 (dl i j) := by
          rw [hd1]
          exact one_fit _ (by split <;> decide)
        have big : 2000 < nB := Nat.lt_of_lt_of_le (by decide : 2000 < 2 ^ 11) (Nat.pow_le_pow_right (by decide) (by decide))
        have lo : 2000 < loB := Nat.lt_of_lt_of_le (by decide : 2000 < 2 ^ 11) (Nat.pow_le_pow_right (by decide) (by decide))
        refine ⟨_, _, tg_name, by simp, ?_⟩
        refine ev_call (ea_cons (a := aQ (dl i j)) (ev_is (ev_tup (ds := [.int (if decide ((i : Int) = 0 + (j : Int)) then 1 else 0), .int 1]) (ea_cons (ev_cb (ea_cons (ev_op (ev_var rfl) (ev_var rfl) rv_eqDI) ea_nil) rc_intB) (ea_cons ev_int ea_nil)) (by show 2 ≤ 1000; decide)) ?_) (ea_cons (ev_call (P := fun v => v = aQ (l * at0 (cho ps ns i).2 j)) (ea_cons (ev_later Tp (ev_var rfl)) (ea_cons (ev_op (b := aI (j : Int)) (ev_var rfl) (ev_is (ev_var rfl) (by congr 2; omega)) (rv_ixT (d := dQ (at0 (cho ps ns i).2 j)) (by rw [List.getElem?_map, hrow]; rfl))) ea_nil)) ⟨l, _, rfl, Bd.fit2 h.lb hb2 (by omega) (by omega) (by omega), rfl⟩) ea_nil)) ⟨dl i j, _, rfl, Bd.fit2 hd2 (h.lb.mul hb2) (by omega) (by omega) (by omega), by rw [eq]⟩
        rw [hd1]
        show aT _ = .d (dQ _)
        rw [dQ_int]
        by_cases e : i = j
        · rw [if_pos e, if_pos (decide_eq_true (by omega))]
        · rw [if_neg e, if_neg (by simp; omega)]
      · rintro M' v ⟨rfl, rfl⟩
        refine ⟨_, [(b, isL xb)], M, rfl, rfl, by simpa using hab, ha, fun v => ⟨xa ++ [v], rfl, ?_⟩⟩
        rw [range_snoc, List.map_append]
        rfl
      rintro M' G ⟨xa', rfl, rfl⟩
      refine sm_append (i := 3) (l := b) (xs := xb) rfl (by simp) hlen2 (PA := fun M' v => M' = (b, isL xb) :: (a, isL xa') :: M ∧ v = aQ (cho ps ns i).1) (EvP.m (ev_var rfl) fun v e => ⟨rfl, e⟩) ?_
      rintro M' v ⟨rfl, rfl⟩
      refine ⟨_, [], (a, isL xa') :: M, rfl, rfl, by simp, not_cons hab hb, fun v => ⟨xa', xb ++ [v], some (aI (i : Int)), some (aI ((ns.getD i 0 : Nat) : Int)), some (aQ (cho ps ns i).1), some (aT ((cho ps ns i).2.map dQ)), rfl, ?_⟩⟩
      rw [range_snoc (fun i => (cho ps ns i).1), List.map_append]
      rfl
    · rintro M' G ⟨xa, xb, y1, y2, y3, y4, rfl, rfl⟩
      rw [enumD_len, hnl]
      exact ⟨xa, xb, y1, y2, y3, y4, rfl, rfl⟩
  · rintro M' G ⟨xa, xb, y1, y2, y3, y4, rfl, rfl⟩
    refine sm_freeze (i := 3) rfl (not_cons hab hb) (sm_freeze (i := 2) rfl ha ?_)
    refine StP.m (PG' := fun _ => False) (P := Pv) (st_ret (ev_call (ea_cons (ev_var rfl) (ea_cons (ev_var rfl) ea_nil)) ⟨m, linesP ps l m ns, paysP ps m ns, h.m1, h.m6, by unfold linesP; simp, by unfold paysP; simp, ?_, thin_P h v, joinP_RB h v, rfl, fun s hs1 hs2 hs3 => hp s (solves_P h v hs1 hs2) (hs3.mono (GB_mono h.m6) (GB_mono h.m6))⟩)) (fun _ h => h.elim) fun a pa => ⟨fun x hx => hx, rfl, pa⟩
    intro r hr
    unfold linesP at hr
    obtain ⟨i, _, rfl⟩ := List.mem_map.mp hr
    exact lineP_len
end
end LW

/-! plans.py, last part: the best policy and its check. -/
namespace LW
open L2 PySem PySem.Spec PyProof.Rows
/-- no choice betters these -/
structure Best (m : Nat) (ps : List (List Chc)) (l : Rat) (ns : List Nat) (vs : List Rat) : Prop where
  v : Valid m ps ns
  s : Solves m ps l ns vs
  b : VB (GB 6) (GB 6) vs
  top : ∀ i, i < m → maxQ ((chs0 ps i).map fun z => wof l z vs) = at0 vs i
def R_best : PR := fun _ as P => ∃ (m : Nat) (ps : List (List Chc)) (l : Rat), PlanOk m ps l ∧ as = [aP ps l] ∧ ∀ ns vs, Best m ps l ns vs → P (aT [.tuple (vs.map dQ), .tuple (dNs ns)])
def R_cb : PRX := fun _ as B P => ∃ (m : Nat) (ps : List (List Chc)) (l : Rat) (ns : List Nat) (vs : List Rat), PlanOk m ps l ∧ Best m ps l ns vs ∧ ((¬ B ∧ as = [aP ps l, aT (dNs ns), aT (vs.map dQ)] ∧ P (aT (vs.map dQ))) ∨ (B ∧ ∃ ws, ws ≠ vs ∧ as = [aP ps l, aT (dNs ns), aL (ws.map dQ)]))
section
variable {P : Program} {w : World} {c : Cf} {mg : Str → Option Value} {base : Heap} {bp : Addr}
abbrev CalPw (P : Program) (w : World) (c : Cf) (mg : Str → Option Value) (base : Heap) : Prop := CalM P w c mg base CX0 9 "worth_by" ["self", "numbers"] (spR c R_pw)
theorem no_wb (vp vl : V) : (flds vp vl).lookup ("worth_by" : Str) = none := by with_unfolding_all rfl
theorem ev_pw {M : Mu} {G : Env'} {te tx : TE} {E : XK} {m : Nat} {ps : List (List Chc)} {l : Rat} {ns : List Nat} {vs : List Rat} (h : PlanOk m ps l) (v : Valid m ps ns) (s : Solves m ps l ns vs)
    (h1 : EvD c M te G (aP ps l)) (h2 : EvD c M tx G (aT (dNs ns))) : EvD c M (tMeth c.C "worth_by" (spR c R_pw) [] E te (tCons tx tNil)) G (aT (vs.map dQ)) :=
  ev_meth1 h1 no_wb (ea_cons h2 ea_nil) ⟨m, ps, l, ns, h, v, rfl, fun vs' s' _ => by rw [Solves.unique h v s s']⟩
theorem valid_zero {m : Nat} {ps : List (List Chc)} {l : Rat} (h : PlanOk m ps l) : Valid m ps (List.replicate m 0) := ⟨by simp, fun i hi => by
  have := h.ne _ (chs0_mem h hi)
  rw [getDq, List.getElem?_replicate, if_pos hi]
  exact List.length_pos_iff.mpr this⟩
theorem dNs_get {ns : List Nat} {i : Nat} (h : i < ns.length) : (dNs ns)[i]? = some (.int ((ns.getD i 0 : Nat) : Int)) := by
  unfold dNs
  rw [List.getElem?_map, getDq, List.getElem?_eq_getElem h]
  rfl
theorem ok_P_best (B : Bt mg) (Tp : PlTxt c) (D : DefM c "best" "Plans.best" s_P_best) (c_P_worth_by : CalPw P w c mg base) (c_P_worth_of : CalWof P w c mg base) (c_P_best_choice : CalBc P w c mg base) (c_is_less : CalLe P w c mg base) : CalM P w c mg base CX0 10 "best" ["self"] (spR c R_best) := by
  refine D.cal sc_P_best bd_P_best (lenR fun M as Pv ⟨_, _, _, _, e, _⟩ => by rw [e]; rfl) (bodyR fun f cdv A outer s H E hr => ⟨_, (pss_cons (ps_set (i := 1) sc_P_best.nd rfl (.inl rfl) (pe_callTy call_tupQ (by rfl) B.tuple (by decide +kernel) (pa_cons (pe_op op_rep (pe_lst (pa_cons pe_int pa_nil)) (pe_callB call_lenQ (by rfl) B.len PySem.boot_len (pa_cons (pe_fld (pv 0) rfl) pa_nil))) pa_nil)))
      (pss_one (ps_while PassesOwn.never (pt_val pe_bl) (pss_cons (ps_set (i := 2) sc_P_best.nd rfl (.inl rfl) (pe_calM (pl := _) rfl (c_P_worth_by.mono (by omega)) Tp (pv 0) hr pass0 (pa_cons (pv 1) pa_nil)))
      (pss_cons (ps_set (i := 3) sc_P_best.nd rfl (.inl rfl) (pe_lst pa_nil))
      (pss_cons (ps_for PassesOwn.never rfl (pi_range1 (by rfl) B.range (pa_cons (pe_callB call_lenQ (by rfl) B.len PySem.boot_len (pa_cons (pe_fld (pv 0) rfl) pa_nil)) pa_nil)) (pg_name (i := 4) sc_P_best.nd rfl (.inl rfl)) (pss_cons (ps_set (i := 5) sc_P_best.nd rfl (.inl rfl) (pe_calM (pl := _) rfl (c_P_best_choice.mono (by omega)) Tp (pv 0) hr pass0 (pa_cons (pv 4) (pa_cons (pv 2) pa_nil))))
      (pss_cons (ps_set (i := 6) sc_P_best.nd rfl (.inl rfl) (pe_calM (pl := _) rfl (c_P_worth_of.mono (by omega)) Tp (pv 0) hr pass0 (pa_cons (pv 4) (pa_cons (pe_ix ix_seq (pv 1) (pv 4) (fun _ _ => rfl)) (pa_cons (pv 2) pa_nil)))))
      (pss_one (ps_expr (pe_bm PySem.F.plainAttrs_list PySem.F.slot_list_append PySem.F.type_list_append mt_append (pv 3) (pa_cons (pe_ifExp (pt_val (pe_cal rfl (c_is_less.mono (by omega)) hr (by rfl) pass0 (pa_cons (pv 6) (pa_cons (pe_calM (pl := _) rfl (c_P_worth_of.mono (by omega)) Tp (pv 0) hr pass0 (pa_cons (pv 4) (pa_cons (pv 5) (pa_cons (pv 2) pa_nil)))) pa_nil)))) (pv 5) (pe_ix ix_seq (pv 1) (pv 4) (fun _ _ => rfl))) pa_nil)))))))
      (pss_cons (ps_if (pt_cmpR (op_eqD hr.units) (pe_callTy call_tupQ (by rfl) B.tuple (by decide +kernel) (pa_cons (pv 3) pa_nil)) (pv 1) (nomark _)) (pss_one (ps_ret (pe_tup (pa_cons (pv 2) (pa_cons (pv 1) pa_nil))))) pss_nil)
      (pss_one (ps_set (i := 1) sc_P_best.nd rfl (.inl rfl) (pe_callTy call_tupQ (by rfl) B.tuple (by decide +kernel) (pa_cons (pv 3) pa_nil))))))))))), ?_⟩)
  rintro M as Pv ⟨m, ps, l, h, rfl, hp⟩
  have hm6 := h.m6
  refine st_seq (PG1 := fun G => G = [some (aP ps l), some (aT (dNs (List.replicate m 0))), none, none, none, none, none]) (st_set (ev_cb (ea_cons (ev_is (ev_rep (d := .int 0) (n := m) ev_int (ev_many Tp h (ev_var rfl)) (by omega)) (by unfold dNs; rw [List.map_replicate]; rfl)) ea_nil) rc_tupL) rfl) ?_
  rintro G rfl
  refine StM.p (sm_while (W := fun k M' G => ∃ (ns : List Nat) (y1 y2 y3 y4 y5 : Option AV), k = ahead m ps l ns ∧ M' = M ∧ Valid m ps ns ∧ G = [some (aP ps l), some (aT (dNs ns)), y1, y2, y3, y4, y5]) (ahead m ps l (List.replicate m 0)) ⟨_, none, none, none, none, none, rfl, rfl, valid_zero h, rfl⟩ ?_)
  rintro k M' G ⟨ns, y1, y2, y3, y4, y5, rfl, rfl, v, rfl⟩
  refine ⟨true, et_B ev_bl, fun _ => ?_, fun h => absurd h (by simp)⟩
  obtain ⟨vs, sv, bv⟩ := solves_ex h v
  have W := wok_GB
  refine sm_seq (PG1 := fun M1 G => M1 = M' ∧ G = [some (aP ps l), some (aT (dNs ns)), some (aT (vs.map dQ)), y2, y3, y4, y5]) (StP.m (P := fun _ => False) (PG' := fun G => G = [some (aP ps l), some (aT (dNs ns)), some (aT (vs.map dQ)), y2, y3, y4, y5]) (st_set (ev_pw h v sv (ev_var rfl) (ev_var rfl)) rfl) (fun G' e => ⟨rfl, e⟩) fun _ h => h.elim) ?_
  rintro M1 G ⟨rfl, rfl⟩
  refine sm_new (PN := fun M2 ds => M2 = M1 ∧ ds = []) (en_new (ds := []) ea_nil (by decide) ⟨rfl, rfl⟩) ?_
  rintro a M2 xs ds ⟨rfl, rfl⟩ ha hxs
  -- what stands behind the loop: for each place the better one
  refine sm_seq (PG1 := fun M' G => ∃ (xs : List V) (nt : List Nat) (z1 z2 z3 : Option AV), M' = (a, isL xs) :: M2 ∧ nt.length = m ∧ (∀ i k, nt[i]? = some k → ∃ j z, FirstBest ((chs0 ps i).map fun z => wof l z vs) j ∧ (chs0 ps i)[j]? = some z ∧ k = if at0 vs i < wof l z vs then j else ns.getD i 0) ∧ G = [some (aP ps l), some (aT (dNs ns)), some (aT (vs.map dQ)), some (.mls a xs (dNs nt)), z1, z2, z3])
    (sm_for (PI := fun M' ds => M' = (a, isL xs) :: M2 ∧ ds = rngD 0 m) (ItD.m (it_range1 (n := m) (ea_cons (ev_many Tp h (ev_var rfl)) ea_nil) (by omega)) ⟨rfl, rfl⟩) ?_) ?_
  · rintro M3 ds ⟨rfl, rfl⟩
    refine ⟨fun i M' G => ∃ (xs : List V) (nt : List Nat) (z1 z2 z3 : Option AV), M' = (a, isL xs) :: M2 ∧ nt.length = i ∧ (∀ i k, nt[i]? = some k → ∃ j z, FirstBest ((chs0 ps i).map fun z => wof l z vs) j ∧ (chs0 ps i)[j]? = some z ∧ k = if at0 vs i < wof l z vs then j else ns.getD i 0) ∧ G = [some (aP ps l), some (aT (dNs ns)), some (aT (vs.map dQ)), some (.mls a xs (dNs nt)), z1, z2, z3], ⟨xs, [], y3, y4, y5, rfl, rfl, by simp, rfl⟩, ?_, ?_⟩
    · rintro i d M' G hd ⟨xs, nt, z1, z2, z3, rfl, hnl, hnt, rfl⟩
      obtain ⟨hi, rfl⟩ := rngD_at hd
      have hz := cho_at v hi
      have hs := sv.at_ i hi
      refine ⟨_, _, tg_name, ?_⟩
      refine sm_seq (PG1 := fun M' G => ∃ j, FirstBest ((chs0 ps i).map fun z => wof l z vs) j ∧ M' = (a, isL xs) :: M2 ∧ G = [some (aP ps l), some (aT (dNs ns)), some (aT (vs.map dQ)), some (.mls a xs (dNs nt)), some (aI (i : Int)), some (aI (j : Int)), z3]) (StP.m (P := fun _ => False) (PG' := fun G => ∃ j, FirstBest ((chs0 ps i).map fun z => wof l z vs) j ∧ G = [some (aP ps l), some (aT (dNs ns)), some (aT (vs.map dQ)), some (.mls a xs (dNs nt)), some (aI (i : Int)), some (aI (j : Int)), z3]) (st_asg (ev_bc h W hi sv.len bv (ev_var rfl) (ev_is (ev_var rfl) (by congr 2; omega)) (ev_var rfl)) ?_) (fun G' ⟨j, h1, h2⟩ => ⟨j, h1, rfl, h2⟩) fun _ h => h.elim) ?_
      · rintro v ⟨j, hj, rfl⟩
        refine ⟨_, _, tg_name, j, hj, ?_⟩
        rw [show (0 : Int) + (i : Int) = (i : Int) by omega]
        rfl
      rintro M' G ⟨j, hj, rfl, rfl⟩
      obtain ⟨z, hz2, hz3⟩ := fb_at hj
      refine sm_seq (PG1 := fun M' G => M' = (a, isL xs) :: M2 ∧ G = [some (aP ps l), some (aT (dNs ns)), some (aT (vs.map dQ)), some (.mls a xs (dNs nt)), some (aI (i : Int)), some (aI (j : Int)), some (aQ (at0 vs i))]) (StP.m (P := fun _ => False) (PG' := fun G => G = [some (aP ps l), some (aT (dNs ns)), some (aT (vs.map dQ)), some (.mls a xs (dNs nt)), some (aI (i : Int)), some (aI (j : Int)), some (aQ (at0 vs i))]) (st_set (a := aQ (at0 vs i)) (ev_is (ev_wof h W hi hz sv.len bv (ev_var rfl) (ev_var rfl) (ev_op (ev_var rfl) (ev_var rfl) (rv_ixT (dNs_get (by rw [v.len]; exact hi)))) (ev_var rfl)) (by rw [hs])) rfl) (fun G' e => ⟨rfl, e⟩) fun _ h => h.elim) ?_
      rintro M' G ⟨rfl, rfl⟩
      have f1 : Fit (at0 vs i) := by
        rw [hs]
        exact wof_fit W (h.wof W bv hi (cho_mem v hi))
      have f2 : Fit (wof l z vs) := wof_fit W (h.wof W bv hi (List.mem_of_getElem? hz2))
      refine sm_append (i := 3) (l := a) (xs := xs) rfl (by simp) (by unfold dNs; rw [List.length_map]; omega) (PA := fun M' x => M' = (a, isL xs) :: M2 ∧ x = aI (((if at0 vs i < wof l z vs then j else ns.getD i 0 : Nat)) : Int)) (EvP.m (P := fun x => x = aI (((if at0 vs i < wof l z vs then j else ns.getD i 0 : Nat)) : Int)) (ev_if (b := decide (at0 vs i < wof l z vs)) (et_B (ev_call (ea_cons (ev_var rfl) (ea_cons (ev_wof h W hi hz2 sv.len bv (ev_var rfl) (ev_var rfl) (ev_var rfl) (ev_var rfl)) ea_nil)) ⟨_, _, rfl, f1, f2, rfl⟩)) (fun hh => ?_) fun hh => ?_) fun v e => ⟨rfl, e⟩) ?_
      · rw [if_pos (of_decide_eq_true hh)]
        exact ev_var rfl
      · rw [if_neg (of_decide_eq_false hh)]
        exact ev_op (ev_var rfl) (ev_var rfl) (rv_ixT (dNs_get (by rw [v.len]; exact hi)))
      · rintro M' x ⟨rfl, rfl⟩
        refine ⟨_, [], M2, rfl, rfl, by simp, ha, fun x => ⟨xs ++ [x], nt ++ [if at0 vs i < wof l z vs then j else ns.getD i 0], some (aI (i : Int)), some (aI (j : Int)), some (aQ (at0 vs i)), rfl, by simp [hnl], fun p k hk => ?_, ?_⟩⟩
        · by_cases hp2 : p < nt.length
          · rw [List.getElem?_append_left hp2] at hk
            exact hnt p k hk
          · rw [List.getElem?_append_right (by omega)] at hk
            have : p - nt.length = 0 := by
              have := (List.getElem?_eq_some_iff.mp hk).1
              simp at this
              omega
            rw [this] at hk
            have hk : (if at0 vs i < wof l z vs then j else ns.getD i 0) = k := by simpa using hk
            rw [show p = i by omega]
            exact ⟨j, z, hj, hz2, hk.symm⟩
        · unfold dNs
          rw [List.map_append]
          rfl
    · rintro M' G ⟨xs, nt, z1, z2, z3, rfl, hnl, hnt, rfl⟩
      rw [rngD_len] at hnl
      exact ⟨xs, nt, z1, z2, z3, rfl, hnl, hnt, rfl⟩
  rintro M' G ⟨xs, nt, z1, z2, z3, rfl, hnl, hnt, rfl⟩
  refine sm_freeze (i := 3) rfl ha ?_
  have hat : ∀ i, i < m → ∃ j z, FirstBest ((chs0 ps i).map fun z => wof l z vs) j ∧ (chs0 ps i)[j]? = some z ∧ nt.getD i 0 = (if at0 vs i < wof l z vs then j else ns.getD i 0) := fun i hi => by
    have e : nt[i]? = some (nt.getD i 0) := by
      rw [getDq, List.getElem?_eq_getElem (by omega)]
      rfl
    exact hnt i _ e
  have vt : Valid m ps nt := ⟨hnl, fun i hi => by
    obtain ⟨j, z, h1, h2, h3⟩ := hat i hi
    rw [h3]
    split
    · exact (List.getElem?_eq_some_iff.mp h2).1
    · exact v.at_ i hi⟩
  refine sm_seq (PG1 := fun M' G => nt ≠ ns ∧ M' = M2 ∧ G = [some (aP ps l), some (aT (dNs ns)), some (aT (vs.map dQ)), some (aL (dNs nt)), z1, z2, z3]) (sm_if (b := decide (nt = ns)) (et_test (ev_op (ev_cb (ea_cons (ev_var rfl) ea_nil) rc_tupL) (ev_var rfl) rv_eqTI)) (fun hh => ?_) fun hh => sm_next ⟨of_decide_eq_false hh, rfl, rfl⟩) ?_
  · have hh : nt = ns := of_decide_eq_true hh
    refine StP.m (P := Pv) (PG' := fun _ => False) (st_ret (EvP.of (ev_tup (ds := [.tuple (vs.map dQ), .tuple (dNs ns)]) (ea_cons (ev_var rfl) (ea_cons (ev_var rfl) ea_nil)) (by show 2 ≤ 1000; decide)) (hp ns vs ⟨v, sv, bv, fun i hi => ?_⟩))) (fun _ h => h.elim) fun x px => ⟨ha, rfl, px⟩
    obtain ⟨j, z, h1, h2, h3⟩ := hat i hi
    have ez : wof l z vs = maxQ ((chs0 ps i).map fun z => wof l z vs) := by
      have := h1.1
      rw [List.getElem?_map, h2] at this
      exact someI this
    have hge : wof l (cho ps ns i) vs ≤ maxQ ((chs0 ps i).map fun z => wof l z vs) := maxQ_ge (List.mem_map.mpr ⟨_, cho_mem v hi, rfl⟩)
    rw [← sv.at_ i hi] at hge
    by_cases hlt : at0 vs i < wof l z vs
    · exfalso
      rw [if_pos hlt, hh] at h3
      have hc := cho_at v hi
      rw [h3, h2] at hc
      rw [someI hc, ← sv.at_ i hi] at hlt
      exact Rat.lt_irrefl hlt
    · rw [← ez]
      rw [← ez] at hge
      grind
  rintro M' G ⟨hne, rfl, rfl⟩
  refine sm_set (EvP.m (P := fun x => x = aT (dNs nt)) (ev_cb (ea_cons (ev_var rfl) ea_nil) rc_tupL) ?_)
  rintro x rfl
  have hb : ∀ i, i < m → at0 vs i ≤ wof l (cho ps nt i) vs ∧ (nt.getD i 0 ≠ ns.getD i 0 → at0 vs i < wof l (cho ps nt i) vs) := fun i hi => by
    obtain ⟨j, z, h1, h2, h3⟩ := hat i hi
    have hc := cho_at vt hi
    by_cases hlt : at0 vs i < wof l z vs
    · rw [if_pos hlt] at h3
      rw [h3, h2] at hc
      rw [← someI hc]
      exact ⟨by grind, fun _ => hlt⟩
    · rw [if_neg hlt] at h3
      have e : cho ps nt i = cho ps ns i := by
        unfold cho
        rw [h3]
      rw [e, ← sv.at_ i hi]
      exact ⟨Rat.le_refl, fun z => absurd h3 z⟩
  obtain ⟨j, hj, hdif⟩ : ∃ j, j < m ∧ nt.getD j 0 ≠ ns.getD j 0 := by
    refine byC fun hn => hne ?_
    apply List.ext_getElem?
    intro i
    by_cases hi : i < m
    · have e : nt.getD i 0 = ns.getD i 0 := byC fun z => hn ⟨i, hi, z⟩
      rw [getDq, getDq, List.getElem?_eq_getElem (by omega), List.getElem?_eq_getElem (by rw [v.len]; exact hi)] at e
      rw [List.getElem?_eq_getElem (by omega), List.getElem?_eq_getElem (by rw [v.len]; exact hi)]
      exact congrArg some e
    · rw [List.getElem?_eq_none_iff.mpr (by omega), List.getElem?_eq_none_iff.mpr (by rw [v.len]; omega)]
  obtain ⟨vt', st', _⟩ := solves_ex h vt
  have hlt := val_lt h v vt sv st' (fun i hi => (hb i hi).1) hj ((hb j hj).2 hdif)
  exact ⟨ha, _, ahead_lt h vt hlt, nt, _, _, _, _, _, rfl, rfl, vt, rfl⟩
theorem ok_check_best (B : Bt mg) (Tp : PlTxt c) (bP : BadP c mg "BadPaper" bp) (D : Def c mg "check_best" s_check_best []) (c_P_worth_by : CalPw P w c mg base) (c_P_worth_of : CalWof P w c mg base) (c_is_less : CalLe P w c mg base) : Cal P w c mg base (L2.CX P w) 10 "check_best" ["plans", "numbers", "values"] (spX c (.ref bp) R_cb) := by
  refine D.cal sc_check_best bd_check_best (lenX fun M as B Pv ⟨_, _, _, _, _, _, _, h⟩ => by rcases h with ⟨_, e, _⟩ | ⟨_, _, _, e⟩ <;> rw [e] <;> rfl) (bodyX fun f cdv A outer s H E hr => ⟨_, (pss_cons (ps_if (pt_cmpR (op_neD hr.units) (pe_callTy call_tupQ (by rfl) B.tuple (by decide +kernel) (pa_cons (pv 2) pa_nil)) (pe_calM (pl := _) rfl (c_P_worth_by.mono (by omega)) Tp (pv 0) hr pass0 (pa_cons (pv 1) pa_nil)) (nomark _)) (pss_one (ps_bad bP (by rfl))) pss_nil)
      (pss_cons (PS.quiet (ps_for PassesOwn.never rfl (pi_range1 (by rfl) B.range (pa_cons (pe_callB call_lenQ (by rfl) B.len PySem.boot_len (pa_cons (pe_fld (pv 0) rfl) pa_nil)) pa_nil)) (pg_name (i := 3) sc_check_best.nd rfl (.inl rfl)) (pss_one (ps_for PassesOwn.never rfl (pi_range1 (by rfl) B.range (pa_cons (pe_callB call_lenQ (by rfl) B.len PySem.boot_len (pa_cons (pe_ix ix_seq (pe_fld (pv 0) rfl) (pv 3) (fun _ _ => rfl)) pa_nil)) pa_nil)) (pg_name (i := 4) sc_check_best.nd rfl (.inl rfl)) (pss_one (ps_if (pt_val (pe_cal rfl (c_is_less.mono (by omega)) hr (by rfl) pass0 (pa_cons (pe_ix ix_seq (pv 2) (pv 3) (fun _ _ => rfl)) (pa_cons (pe_calM (pl := _) rfl (c_P_worth_of.mono (by omega)) Tp (pv 0) hr pass0 (pa_cons (pv 3) (pa_cons (pv 4) (pa_cons (pv 2) pa_nil)))) pa_nil)))) (pss_one ps_never) pss_nil))))))
      (pss_one (PS.quiet (ps_ret (pe_callTy call_tupQ (by rfl) B.tuple (by decide +kernel) (pa_cons (pv 2) pa_nil))))))), ?_⟩)
  rintro M as B Pv ⟨m, ps, l, ns, vs, h, b, hcase⟩
  have W := wok_GB
  have hm6 := h.m6
  rcases hcase with ⟨nB, rfl, hp⟩ | ⟨yB, ws, hne, rfl⟩
  · refine sx_seq (PG1 := fun G => G = startG 5 [aP ps l, aT (dNs ns), aT (vs.map dQ)]) (sx_if (b := false) (et_is (et_test (ev_op (ev_cb (ea_cons (ev_var rfl) ea_nil) rc_tupT) (ev_pw h b.v b.s (ev_var rfl) (ev_var rfl)) rv_neT)) (by simp)) (fun h => absurd h (by simp)) fun _ => StP.x (st_next rfl)) ?_
    rintro G rfl
    refine sx_seq (PG1 := fun G => ∃ y z, G = [some (aP ps l), some (aT (dNs ns)), some (aT (vs.map dQ)), y, z]) (StP.x (st_for (it_range1 (n := m) (ea_cons (ev_many Tp h (ev_var rfl)) ea_nil) (by omega)) (fun _ G => ∃ y z, G = [some (aP ps l), some (aT (dNs ns)), some (aT (vs.map dQ)), y, z]) ⟨none, none, rfl⟩ ?_ fun G hG => hG)) ?_
    · rintro i d G hd ⟨y, z, rfl⟩
      obtain ⟨hi, rfl⟩ := rngD_at hd
      have hle := h.le _ (chs0_mem h hi)
      refine ⟨_, _, tg_name, st_for (it_range1 (n := (chs0 ps i).length) (ea_cons (ev_is (ev_cb (ea_cons (ev_plc Tp h hi (ev_var rfl) (ev_is (ev_var rfl) (by congr 2; omega))) ea_nil) rc_lenL) (by rw [List.length_map])) ea_nil) (by omega)) (fun _ G => ∃ z, G = [some (aP ps l), some (aT (dNs ns)), some (aT (vs.map dQ)), some (aI (i : Int)), z]) ⟨z, by rw [show (0 : Int) + (i : Int) = (i : Int) by omega]; rfl⟩ ?_ fun G ⟨z, e⟩ => ⟨_, z, e⟩⟩
      rintro k d G hd ⟨z, rfl⟩
      obtain ⟨hk, rfl⟩ := rngD_at hd
      have ek : (chs0 ps i)[k]? = some ((chs0 ps i)[k]) := List.getElem?_eq_getElem hk
      have hmem := List.mem_of_getElem? ek
      have hge : wof l ((chs0 ps i)[k]) vs ≤ at0 vs i := by
        rw [← b.top i hi]
        exact maxQ_ge (List.mem_map.mpr ⟨_, hmem, rfl⟩)
      have hvi : vs[i]? = some (at0 vs i) := by
        unfold at0
        rw [getDq, List.getElem?_eq_getElem (by rw [b.s.len]; exact hi)]
        rfl
      have f1 : Fit (at0 vs i) := by
        rw [b.s.at_ i hi]
        exact wof_fit W (h.wof W b.b hi (cho_mem b.v hi))
      have f2 := wof_fit W (h.wof W b.b hi hmem)
      refine ⟨_, _, tg_name, st_if (b := decide (at0 vs i < wof l ((chs0 ps i)[k]) vs)) (et_B (ev_call (ea_cons (ev_op (ev_var rfl) (ev_var rfl) (rv_ixT (d := dQ (at0 vs i)) (by rw [List.getElem?_map, hvi]; rfl))) (ea_cons (ev_wof h W hi ek b.s.len b.b (ev_var rfl) (ev_var rfl) (ev_is (ev_var rfl) (by congr 2; omega)) (ev_var rfl)) ea_nil)) ⟨_, _, rfl, f1, f2, rfl⟩)) (fun hh => ?_) fun _ => st_next ⟨some (aI (0 + (k : Int))), rfl⟩⟩
      have := of_decide_eq_true hh
      exact absurd this (by grind)
    · rintro G ⟨y, z, rfl⟩
      exact StP.x (st_ret (EvP.of (ev_cb (ea_cons (ev_var rfl) ea_nil) rc_tupT) ⟨nB, hp⟩))
  · refine sx_seq (PG1 := fun _ => False) (sx_if (b := true) (et_is (et_test (ev_op (ev_cb (ea_cons (ev_var rfl) ea_nil) rc_tupL) (ev_pw h b.v b.s (ev_var rfl) (ev_var rfl)) rv_neT)) (by simp [hne])) (fun _ => sx_raise yB) fun h => absurd h (by simp)) fun _ h => h.elim
end
end LW

set_option maxHeartbeats 2100000
/-! any(e for x in xs) over a list, each test False. -/
namespace LW
open L2 PySem PySem.Spec PyProof.Rows GxR
/-- the element's test is False at each item of which R; what stood but for the table at T stands yet -/
def EltF (X : Cx) (T : Addr) (sc : Scope) (nm : Str) (body : Expr) (R : V → Hp → Prop) : Prop :=
  ∀ (pins : List (Addr × Obj)) (σ : L2.St) (H1 : Hp) (s1 : Shared) (x : V) (v : Value), Inv X pins σ H1 s1 → TabG H1 T → RelV x v → R x H1 →
    ∀ (env' : Env) (A' : Around) (E' : Value → Shared → Prop) (s2 : Shared) (mm : Str → Option Value), env'.scope = sc → A'.units ≤ X.A.units + 8 → s2.heap.Ns env'.locals mm → mm nm = some v →
      (∀ b u, b ≠ T → s1.heap.get? b = some u → s2.heap.get? b = some u) → wpAny (model X.prog X.w) A' (eval body env') (fun y s3 => y = .bool false ∧ Keeps s2 s3) E' s2
def tAnyF (K : PySem.W.Frag) (T : Addr) (R : V → Hp → Prop) (te : TE) : TE := fun σ H Q => te σ H fun v H1 => ∃ a xs, v = .ref a ∧ SqL K H1 a xs ∧ (∀ x ∈ xs, R x H1) ∧ TabG H1 T ∧ ∀ H2, Tabbed T H1 H2 → Q (.bl false) H2
theorem vals_at : ∀ {xs : List V} {us : List Value} {i : Nat} {u : Value}, Vals xs us → us[i]? = some u → ∃ x, xs[i]? = some x ∧ RelV x u
  | _, _, _, _, .nil, z => by simp at z
  | _, _, 0, _, .cons h _, e => by simp at e; subst e; exact ⟨_, rfl, h⟩
  | _, _, i + 1, u, .cons _ r, e => by
    obtain ⟨x, h1, h2⟩ := vals_at (i := i) (u := u) r (by simpa using e)
    exact ⟨x, (by simpa using h1), h2⟩
section
variable {X : Cx} {pins : List (Addr × Obj)} {H : Hp} {σ : L2.St} {s : Shared}
/-- the generator over the list's items, not begun -/
def Waits (X : Cx) (pins : List (Addr × Obj)) (σ : L2.St) (H1 : Hp) (T g : Addr) (n : Nat) (s5 : Shared) : Prop :=
  ∃ (fp wr : List Addr) (GG : Array GenState → Array GenState → Prop) (F : Nat → Value → Prop) (St : Nat → Shared → Prop),
    WalksS X.prog X.w X.A.in1 g fp wr GG n F St ∧ St 0 s5 ∧ TruthOf X.prog X.w X.A.in1 F (fun _ => false) ∧ ∀ s', Moved wr GG s5 s' → ∃ H2, Tabbed T H1 H2 ∧ Inv X pins σ H2 s'
theorem gen_listF {cA T : Addr} {body iter : Expr} {nm : Str} {px gpos : Pos} {sc : Scope} {R : V → Hp → Prop} {te : TE} {k : Nat} {Z : Value → Shared → Prop} {C : Hp → Prop}
    (hr : Room k X.A) (TB : TabB X.base X.mg cA T) (hcode : X.env.code = .ref cA) (S : GenS X.env sc nm) (hi : PE X iter te) (hel : EltF X T sc nm body R)
    (hs : ∀ v, genFold iter X.env v = pure v) (I : Inv X pins σ H s) (h : te σ H fun v H1 => ∃ a xs, v = .ref a ∧ SqL X.K H1 a xs ∧ (∀ x ∈ xs, R x H1) ∧ TabG H1 T ∧ C H1)
    (hZ : ∀ H1 g n s5, C H1 → Waits X pins σ H1 T g n s5 → Z (.ref g) s5) :
    wpAny (model X.prog X.w) X.A (eval (.GeneratorExp body [⟨.Name nm px, iter, [], 0⟩] sc gpos) X.env) Z X.xe s := by
  have hdep : X.A.depth < recursionLimit := by
    have := hr.dp
    omega
  refine wpAny_GeneratorExp_walksQD hr.hd S.co (closure_ok S.free) S.cell S.dot S.loc S.kind hdep ?_ hs
  refine thn (hi.run pins s σ H _ I h) fun xv s1 ⟨v, H1, I1, r1, a, xs, ev, hsq, hR, hT, hC⟩ => ?_
  subst ev
  obtain rfl := r1
  obtain ⟨its, hvals, ⟨ol, nl, hol, hcl, _, hdl⟩, _⟩ := I1.list hsq
  have isl : s1.heap.IsList a its.toArray := ⟨ol, hol, hcl, nl, hdl⟩
  obtain ⟨ps, hps, hok⟩ := _root_.id hT
  refine wpAny_pyIter_list isl ?_
  have tab1 : s1.heap.get? T = some { cls := .none, data := .fields ps } := I1.hok T _ hps
  have Tlt : T < s1.heap.objs.size := Heap.lt_size tab1
  have alt : a < s1.heap.objs.size := Heap.lt_size hol
  have aT : a ≠ T := fun z => by
    rw [z, tab1] at hol
    rw [← someI hol] at hdl
    cases hdl
  let oi : Obj := { cls := .type "list_iterator", data := .fields #[.ref a, .int 0 0] }
  have tab2 : (s1.heap.push oi).get? T = some { cls := .none, data := .fields ps } := Heap.get?_push_of_some _ tab1
  have hcd : PySem.W.CodeHd (s1.heap.push oi) cA T := TB.code.keeps fun b u e => Heap.get?_push_of_some _ (I1.bk b u e)
  have lim : (s1.heap.push oi).NoLimit := I1.nolimit.push oi
  have stT : ((s1.heap.push oi).IsListIter s1.heap.objs.size a 0) ∧ (s1.heap.push oi).IsList a its.toArray := ⟨⟨oi, Heap.get?_push_size _ rfl, rfl, rfl⟩, isl.push oi⟩
  have WL : ∀ A' : Around, A'.handled = none → Walks X.prog X.w A' s1.heap.objs.size [s1.heap.objs.size, a] [s1.heap.objs.size] its.toArray.size (fun i v => its.toArray[i]? = some v) (fun i h => h.IsListIter s1.heap.objs.size a i ∧ h.IsList a its.toArray) :=
    fun A' hA => Walks.list hA s1.heap.objs.size a (Nat.ne_of_lt alt) its.toArray
  have go : ∀ (code : Value) (h3 : Heap) (tk : Nat) (ps' : Array Value), Heap.ExtBut T (s1.heap.push oi) h3 → (s1.heap.push oi).objs.size ≤ h3.objs.size → h3.get? T = some { cls := .none, data := .fields ps' } → (∃ more, ps' = ps ++ more) → TriplesOk ps'.toList →
      wpAny (model X.prog X.w) X.A (builtinsFor X.env.globals X.env.builtins) (fun bi s4 =>
        ∃ Ia fp wr n0 Pf St0 pz F, Value.ref s1.heap.objs.size = .ref Ia ∧ (∀ A' : Around, A'.handled = none → Walks X.prog X.w A' Ia fp wr n0 Pf St0) ∧ St0 0 s4.heap ∧ (∀ b ∈ fp, b < s4.heap.objs.size) ∧ s4.heap.NoLimit ∧ cStatics ∉ wr ∧
          (∀ hre : Heap, (∀ b o, s4.heap.get? b = some o → hre.get? b = some o) →
            QuietGenD X.prog X.w (genEnv sc (cloFrom X.env.cells sc.names []) s4.heap.objs.size code bi X.env) nm [] body (List.range s4.heap.objs.size) wr Pf pz F hre (X.A.depth + 1) (X.A.units + 8)) ∧
          (∀ g h5 tk gs, gs.bare = true → s4.heap.objs.size < g → h5.objs.size = g + 1 → (∀ b o, s4.heap.get? b = some o → h5.get? b = some o) →
            WalksS X.prog X.w X.A.in4 g (g :: s4.heap.objs.size :: List.range s4.heap.objs.size) (s4.heap.objs.size :: wr) (GenOnlyQ s4.gens.size) (passing pz n0 0).length
              (fun j y => ∃ i, (passing pz n0 0)[j]? = some i ∧ F i y) (GenAt X.prog X.w X.A.in4 g s4.gens.size s4.heap.objs.size (List.range s4.heap.objs.size) wr pz n0 F) →
            GenAt X.prog X.w X.A.in4 g s4.gens.size s4.heap.objs.size (List.range s4.heap.objs.size) wr pz n0 F 0 { s4 with gens := s4.gens.push gs, toks := tk, heap := h5 } →
            Z (.ref g) { s4 with gens := s4.gens.push gs, toks := tk, heap := h5 })) X.xe { s1 with heap := h3, toks := tk } := by
    intro code h3 tk ps' hx hsz hP3 tailE ht3
    obtain ⟨bm, ob, b1, b2, b3, b4, b5, b6, b7, b8⟩ := TB.bm
    have sT : cStatics ≠ T := fun e => by
      obtain ⟨_, ⟨ob9, _, _, at9, dt9, _⟩, _⟩ := I1.nolimit
      rw [e, tab1] at at9
      cases at9
      cases dt9
    have slt : cStatics < s1.heap.objs.size := by
      obtain ⟨_, lim9, _⟩ := I1.nolimit
      exact lim9.lt
    have psz : (s1.heap.push oi).objs.size = s1.heap.objs.size + 1 := Heap.size_push ..
    have kp3 : ∀ b u, b ≠ T → s1.heap.get? b = some u → h3.get? b = some u := fun b u hb e => hx b u hb (Heap.get?_push_of_some _ e)
    have hglob : h3.Ns mainGlobals X.mg := ((I1.mod.glob.keeps I1.bk).push oi).extBut hx TB.gP
    refine wpAny_builtinsFor (m := X.mg) (by rw [I1.ok.glob]; exact hglob) b1 b2 (kp3 _ _ b4 (I1.bk _ _ b5)) b6 b7 b8 ?_
    refine ⟨s1.heap.objs.size, [s1.heap.objs.size, a], [s1.heap.objs.size], its.toArray.size, _, _, (fun _ => true), (fun i y => i < its.toArray.size ∧ y = .bool false), rfl, WL, ?_, ?_, lim.extBut hx sT, ?_, ?_, ?_⟩
    · refine (WL X.A hr.hd).frame _ _ _ stT fun b hb u e => hx b u (fun z => ?_) e
      rcases memC hb with z2 | z2
      · rw [← z, z2] at Tlt
        exact Nat.lt_irrefl _ Tlt
      · rcases memC z2 with z3 | z3
        · exact aT (z3.symm.trans z)
        · cases z3
    · intro b hb
      rcases memC hb with z | z
      · rw [z]
        exact (show (s1.heap.objs.size : Nat) < h3.objs.size by omega)
      · rcases memC z with z3 | z3
        · rw [z3]
          exact Nat.lt_of_lt_of_le alt (show s1.heap.objs.size ≤ h3.objs.size by omega)
        · cases z3
    · intro z
      rcases memC z with z | z
      · exact Nat.ne_of_lt slt z
      · cases z
    · intro hre hhre
      refine ⟨fun A' E' i v s2 mm hA _ _ hPv hn hm hk => ?_, fun A' E' i v s2 mm hA _ hu hPv hp hn hm hk => ?_⟩
      · rw [List.forIn_nil]
        exact wpAny_pure (And.intro rfl (keeps_refl _))
      · obtain ⟨hi', _⟩ := Array.getElem?_eq_some_iff.mp hPv
        have hPl : its[i]? = some v := by simpa using hPv
        obtain ⟨x, hx1, hx2⟩ := vals_at hvals hPl
        have old : ∀ b u, b ≠ T → s1.heap.get? b = some u → s2.heap.get? b = some u := fun b u hb e => by
          have hlb := Heap.lt_size e
          refine hk b (List.mem_range.mpr (Nat.lt_of_lt_of_le hlb (show s1.heap.objs.size ≤ h3.objs.size by omega))) (fun z => ?_) u (hhre b u (kp3 b u hb e))
          rcases memC z with z | z
          · rw [z] at hlb
            exact Nat.lt_irrefl _ hlb
          · cases z
        exact wpAny_mono (hel pins σ H1 s1 x v I1 hT hx2 (hR x (List.mem_of_getElem? hx1)) _ A' E' s2 mm rfl hu hn hm old) (fun y s3 r => ⟨⟨hi', r.1⟩, r.2⟩) fun _ _ e => e
    · intro g h5 tk5 gs hgb hag hsz5 hk5 walk5 st5
      simp only [List.length_range, GxR.passing_true] at walk5
      refine hZ H1 g _ _ hC ⟨_, _, _, _, _, walk5.in4_1, st5, ?_, fun s' hm => ?_⟩
      · intro j y sj Qj Ej hy hQj
        obtain ⟨i, _, _, rfl⟩ := hy
        exact wpAny_truthy_bool hQj
      · obtain ⟨more, em⟩ := tailE
        have away : ∀ b u, s1.heap.get? b = some u → b ∉ h3.objs.size :: [s1.heap.objs.size] := fun b u e hb => by
          have hlb : b < s1.heap.objs.size := Heap.lt_size e
          rcases memC hb with z | z
          · rw [z] at hlb
            have h9 : (h3.objs.size : Nat) < s1.heap.objs.size := hlb
            omega
          · rcases memC z with z | z
            · rw [z] at hlb
              exact Nat.lt_irrefl _ hlb
            · cases z
        have tabE : s'.heap.get? T = some { cls := .none, data := .fields (ps ++ more) } := by
          rw [← em]
          exact hm.heap T _ (away T _ tab1) (hk5 T _ hP3)
        have J := inv_tab (more := more) (h' := s'.heap) (g' := s'.gens) (d' := s'.drawn) (t' := s'.toks) I1 hps (fun b u hb e => hm.heap b u (away b u e) (hk5 b u (kp3 b u hb e))) tabE (AllBare.movedS (I1.bare.push hgb) hm)
        have es : ({ s1 with heap := s'.heap, gens := s'.gens, drawn := s'.drawn, toks := s'.toks } : Shared) = s' := sh_eta s1 s' hm.os
        rw [es] at J
        exact ⟨upd H1 T (.tbl (ps ++ more)), ⟨⟨ps ++ more, upd_same, em ▸ ht3⟩, fun b hb => upd_ne hb⟩, J⟩
  refine ⟨lim, ?_⟩
  cases found : codeAmong gpos ps.toList with
  | some cv =>
    refine wpAny_genexprCode_hit hcode (hcd.code tab2 hok) found ?_
    exact go cv (s1.heap.push oi) s1.toks ps (Heap.ExtBut.refl _ _) (Nat.le_refl _) tab2 ⟨#[], (Array.append_empty).symm⟩ hok
  | none =>
    refine wpAny_genexprCodeX hcode (hcd.code tab2 hok) (hcd.tab tab2) found fun c' h' tk hx hge hlt co' _ tb' _ => ?_
    obtain ⟨_, _, _, _, _, _, _, _, _, _, _, _, _, _, _, _, _, _, _, htr, _⟩ := co'
    exact go _ h' tk _ hx (Nat.le_trans hge (Nat.le_of_lt hlt)) tb'.2 ⟨_, rfl⟩ htr
theorem pe_anyF {cA T : Addr} {body iter : Expr} {nm : Str} {px p pos gpos : Pos} {sc : Scope} {R : V → Hp → Prop} {te : TE} {k : Nat}
    (hr : Room k X.A) (hg : Gl X "any") (hm : X.mg "any" = none) (TB : TabB X.base X.mg cA T) (hcode : X.env.code = .ref cA) (S : GenS X.env sc nm) (hi : PE X iter te) (hel : EltF X T sc nm body R)
    (hs : ∀ v, genFold iter X.env v = pure v) (he : starEach [.GeneratorExp body [⟨.Name nm px, iter, [], 0⟩] sc gpos] X.env = (false, eval (.GeneratorExp body [⟨.Name nm px, iter, [], 0⟩] sc gpos) X.env) :: starEach [] X.env := by rfl) :
    PE X (.Call (.Name "any" p) [.GeneratorExp body [⟨.Name nm px, iter, [], 0⟩] sc gpos] [] pos) (tAnyF X.K T R te) := by
  refine ⟨fun pins s σ H Q I h => wpAny_Call_Name_kw (ld_blt I hg hm boot_any (PyProof.Rows.callWith_builtin1 ?_ he (by rfl)))⟩
  rw [he]
  refine Calls.spliced_cons (gen_listF (C := fun H1 => ∀ H2, Tabbed T H1 H2 → Q (.bl false) H2) hr TB hcode S hi hel hs I h fun H1 g n s5 hC hW => Calls.spliced_nil ?_)
  obtain ⟨fp, wr, GG, F, St, W, hst, htr, hI⟩ := hW
  refine call_any_walkS (W.self 0 _ _ _ hst ⟨g, fp, wr, GG, _, F, St, _, rfl, W, hst, htr, fun s' hmv => ?_⟩)
  obtain ⟨H2, hT2, J⟩ := hI s' hmv
  refine ⟨.bl _, H2, J, rfl, (?_ : Q _ H2)⟩
  rw [show (List.range n).any (fun _ => false) = false by simp]
  exact hC H2 hT2
end
/-- nothing is walked -/
theorem eltF_none {X : Cx} {T : Addr} {sc : Scope} {nm : Str} {body : Expr} : EltF X T sc nm body (fun _ _ => False) := fun _ _ _ _ _ _ _ _ _ z => z.elim
/-- x == [] -/
theorem eltF_eqNil {X : Cx} {T : Addr} {sc : Scope} {nm : Str} {p1 p2 p3 : Pos} {k : Nat} (hr : Room k X.A) (hk : sc.kind = .function) (hl : sc.names.lookup nm = some .local) (hd : (nm == ("__debug__" : Str)) = false := by decide) :
    EltF X T sc nm (.Compare (.Name nm p1) [.Eq] [.List [] p2] p3) (fun x H1 => ∃ a y ys, x = .ref a ∧ SqL X.K H1 a (y :: ys)) := by
  intro pins σ H1 s1 x v I1 hT hxv ⟨a, y, ys, hx, hsq⟩ env' A' E' s2 mm hsc hu hn hm old
  subst hx
  obtain rfl := hxv
  obtain ⟨its, hvals, ⟨ol, nl, hol, hcl, _, hdl⟩, _⟩ := I1.list hsq
  obtain ⟨ps, hps, _⟩ := hT
  have tab1 : s1.heap.get? T = some { cls := .none, data := .fields ps } := I1.hok T _ hps
  have aT : a ≠ T := fun z => by
    rw [z, tab1] at hol
    rw [← someI hol] at hdl
    cases hdl
  have l2 : s2.heap.IsList a its.toArray := ⟨ol, old a ol aT hol, hcl, nl, hdl⟩
  have hne : its.toArray.size ≠ 0 := by
    have := hvals.length
    simp at this
    simp
    intro z
    rw [z] at this
    simp at this
  refine wpAny_Compare1 ?_
  refine wpAny_Name (wpAny_loadName_local (by rw [hsc]; exact hk) (show env'.scope.names.lookup nm = some .local by rw [hsc]; exact hl) hn hm ?_) hd
  refine wpAny_List (Calls.spliced_nil ⟨by show 0 ≤ sizeLine; decide, ?_⟩)
  refine SeqAt.eq_list_lengthsAt (l2.push _) (items2 := #[]) ⟨_, Heap.get?_push_size _ rfl, rfl, _, rfl⟩ (by simpa using hne) ?_ ⟨rfl, _, s2.toks, rfl, fun b u e => Heap.get?_push_of_some _ e⟩
  have := hr.un
  omega
section
variable {c : Cf} {M : Mu} {G : Env'} {te : TE}
theorem Ex.tab {T : Addr} {H1 H2 : Hp} (hT : T ∈ c.gs) (hl : ∀ p ∈ c.ls, p.1 ≠ T) (k : Ok c M H1) (t : Tabbed T H1 H2) : Ex c M H1 H2 := by
  obtain ⟨ps, hps, _⟩ := k.g T hT
  obtain ⟨⟨qs, hqs, hq2⟩, same⟩ := t
  have ne : ∀ {b : Addr} {o : HO}, H1 b = some o → (∀ ps, o ≠ .tbl ps) → b ≠ T := fun {b o} e n z => by
    rw [z, hps] at e
    exact n ps (someI e).symm
  refine ⟨fun b o e n _ => by rw [same b (ne e n)]; exact e, fun k => ⟨fun P hP => ?_, fun p hp => ?_, fun p hp => ?_⟩, fun b h => ?_⟩
  · by_cases e : P = T
    · rw [e]
      exact ⟨qs, hqs, hq2⟩
    · obtain ⟨us, h1, h2⟩ := k.g P hP
      exact ⟨us, by rw [same P e]; exact h1, h2⟩
  · obtain ⟨us, h1, h2, h3⟩ := k.l p hp
    refine ⟨us, by rw [same _ (hl p hp)]; exact h1, h2, fun pos cv e => ?_⟩
    obtain ⟨c', x1, x2⟩ := h3 pos cv e
    exact ⟨c', x1, by rw [same _ (ne x2 (LamX.codeO_ne))]; exact x2⟩
  · obtain ⟨us, h1, h2⟩ := k.m p hp
    exact ⟨us, by rw [same _ (ne h1 (fun _ q => nomatch q))]; exact h1, h2⟩
  · by_cases e : b = T
    · rw [e, hqs] at h
      cases h
    · rw [same b e] at h
      exact h
theorem ev_anyF {T : Addr} {R : V → Hp → Prop} {ds : List PyData} (hT : T ∈ c.gs) (hl : ∀ p ∈ c.ls, p.1 ≠ T) (h : EvD c M te G (aL ds)) (hR : ∀ d ∈ ds, ∀ x H, Dp c.K (hid M H) x d → R x H) : EvD c M (tAnyF c.K T R te) G (aB false) := fun σ H s k Q q =>
  h σ H s k _ fun v H1 b e e1 r1 => by
    subst e
    obtain ⟨a, xs, rfl, hs, hd⟩ := dp_lst r1
    have k1 := e1.2 k
    refine ⟨a, xs, rfl, sqL_hid hs, fun x hx => ?_, k1.g T hT, fun H2 t => (q.ex (e1.trans (Ex.tab hT hl k1 t))).here (a := aB false) rfl (Dp.bl _)⟩
    obtain ⟨i, hi⟩ := memG hx
    obtain ⟨d, hd1, hd2⟩ := dpAll_at hd hi
    exact hR d (List.mem_of_getElem? hd1) x H1 hd2
end
/-! ### a def whose code object's table is known -/
def CodeAt (K : PySem.W.Frag) (f cA : Addr) : Prop := ∀ (oc : Value) (od : Option Addr) (fd : FuncData) (osl : Array (Option Value)) (a : Addr), K.lookup f = some ⟨oc, od, .func fd, osl⟩ → fd.code = .ref a → a = cA
theorem codeIn_at {K : PySem.W.Frag} {cd : Value} {q : Str} (h : PySem.W.codeIn K cd q = true) : ∃ a, cd = .ref a := by
  unfold PySem.W.codeIn at h
  split at h
  · exact ⟨_, rfl⟩
  · cases h
theorem okT {P : Program} {w : World} {K : PySem.W.Frag} {mg : Str → Option Value} {base : Heap} {x q : Str} {params : Arguments} {body : List Stmt} {scope : Scope} {dvs : List V} {kws : List (Str × V)} {f cA : Addr} {fd : FuncData} {CX : CXT} {N ps : List Str} {k : Nat} {sp : Sp}
    (F : FunD K x q params body scope dvs kws f fd) (hc : CodeAt K f cA) (S : FnScope N ps scope) (len : ∀ vs H Q E, sp vs H Q E → vs.length = ps.length)
    (hbody : ∀ (A : Around) (outer : List Env) (s : Shared) (H : Hp) (vs : List V) (Q : VK) (E : XK), Room k (A.deeper (envOfC q scope s.heap.objs.size f (.ref cA))) → sp vs H Q E →
      ∃ t, PSs (cxOf CX P w K mg base N q scope f (.ref cA) A outer s H E) body t ∧ t { nx := fun _ H' => Q .non H', rt := Q } (L2.start N vs) H) : FnOk P w K mg base CX (k + 1) f fd ps sp := by
  obtain ⟨_, _, _, _, _, _, _, cdv, _, _, rfl, lk, hcd, _, _⟩ := F.ex
  obtain ⟨a, rfl⟩ := codeIn_at hcd
  obtain rfl := hc _ _ _ _ a lk rfl
  exact fn_of lk hcd S len hbody
structure DefT (c : Cf) (mg : Str → Option Value) (base : Heap) (x : Str) (st : Stmt) (cA T : Addr) : Prop where
  ex : ∃ (f : Addr) (fd : FuncData), FunD c.K x x (defArgs st) (defBody st) (defScope st) [] [] f fd ∧ mg x = some (.ref f) ∧ CodeAt c.K f cA
  tb : GxR.TabB base mg cA T
structure DefIT (c : Cf) (mg : Str → Option Value) (base : Heap) (st : Stmt) (cA T : Addr) : Prop where
  ex : ∃ (f : Addr) (fd : FuncData), FunD c.K "__init__" "Plans.__init__" (defArgs st) (defBody st) (defScope st) [] [] f fd ∧ Mk c.K c.C f ∧ mg "Plans" = some (.ref c.C) ∧ CodeAt c.K f cA
  tb : GxR.TabB base mg cA T
abbrev BodyT (P : Program) (w : World) (c : Cf) (mg : Str → Option Value) (base : Heap) (CX : CXT) (k : Nat) (q : Str) (st : Stmt) (N : List Str) (sp : Sp) (cA : Addr) : Prop :=
  ∀ (f : Addr) (A : Around) (outer : List Env) (s : Shared) (H : Hp) (E : XK), Room k (A.deeper (envOfC q (defScope st) s.heap.objs.size f (.ref cA))) →
    ∃ t, PSs (cxOf CX P w c.K mg base N q (defScope st) f (.ref cA) A outer s H E) (defBody st) t ∧ ∀ (vs : List V) (Q : VK), sp vs H Q E → t { nx := fun _ H' => Q .non H', rt := Q } (L2.start N vs) H
section
variable {P : Program} {w : World} {c : Cf} {mg : Str → Option Value} {base : Heap} {CX : CXT} {k : Nat} {x q : Str} {ps N : List Str} {sp : Sp} {st : Stmt} {cA T : Addr}
theorem DefT.cal (D : DefT c mg base x st cA T) (S : FnScope N ps (defScope st)) (hb : bindsAs x x st ps) (len : ∀ vs H Q E, sp vs H Q E → vs.length = ps.length) (body : BodyT P w c mg base CX k x st N sp cA) : Cal P w c mg base CX (k + 1) x ps sp := by
  obtain ⟨f, fd, F, e, hc⟩ := D.ex
  exact ⟨f, fd, okT F hc S len fun A outer s H vs Q E hr h => by
    obtain ⟨t, h1, h2⟩ := body f A outer s H E hr
    exact ⟨t, h1, h2 vs Q h⟩, e, F.kp, F.bindsN hb⟩
theorem DefIT.cal (D : DefIT c mg base st cA T) (S : FnScope N ps (defScope st)) (hb : bindsAs "__init__" "Plans.__init__" st ps) (len : ∀ vs H Q E, sp vs H Q E → vs.length = ps.length) (body : BodyT P w c mg base CX k "Plans.__init__" st N sp cA) : CalI P w c mg base CX (k + 1) ps sp := by
  obtain ⟨f, fd, F, e1, e2, hc⟩ := D.ex
  exact ⟨f, fd, okT F hc S len fun A outer s H vs Q E hr h => by
    obtain ⟨t, h1, h2⟩ := body f A outer s H E hr
    exact ⟨t, h1, h2 vs Q h⟩, e1, e2, F.bindsN hb⟩
theorem bodyRT {R : PR}
    (h : ∀ (f : Addr) (A : Around) (outer : List Env) (s : Shared) (H : Hp) (E : XK), Room k (A.deeper (envOfC q (defScope st) s.heap.objs.size f (.ref cA))) →
      ∃ t, PSs (cxOf CX P w c.K mg base N q (defScope st) f (.ref cA) A outer s H E).nox (defBody st) t ∧ ∀ M as Pv, R M as Pv → StP c M t (startG N.length as) (fun _ => Pv (.d .none)) Pv) :
    BodyT P w c mg base CX k q st N (spR c R) cA := fun f A outer s H E hr => by
  obtain ⟨t, h1, h2⟩ := h f A outer s H E hr
  exact ⟨t, h1.nox, fun vs Q ⟨M, as, Pv, r, ra, kH, q⟩ => h2 M as Pv r (L2.start N vs) H (sig_start ra) kH _ (fun σ' H' G' p e s' => q .non H' (.d .none) p e Dp.non) q⟩
end
def genC (sc scope : Scope) (x : Str) : Bool :=
  decide (scope.kind = .function) && (!scope.isCoroutine && (scope.names.all (fun y => !decide (y.2 = .cell)) && (decide (scope.names.lookup (".0" : Str) = some NameKind.local) && (decide (scope.names.lookup x = some .local) && scope.names.all fun y => !decide (y.2 = .free) || decide (sc.names.lookup y.1 = some .cell)))))
theorem genS_by {q : Str} {sc scope : Scope} {n : Nat} {f : Addr} {cd : Value} {x : Str} (h : genC sc scope x = true) : GxR.GenS (envOfC q sc n f cd) scope x := by
  unfold genC at h
  simp only [Bool.and_eq_true, List.all_eq_true, decide_eq_true_eq, Bool.not_eq_true', decide_eq_false_iff_not, Bool.or_eq_true] at h
  obtain ⟨h1, h2, h3, h4, h5, h6⟩ := h
  refine ⟨h1, h2, h3, h4, h5, fun y hy e => ?_⟩
  rcases h6 y hy with z | z
  · exact absurd e z
  · exact cell_has z
/-! ### slices -/
section
variable {c : Cf} {M : Mu} {G : Env'} {te tv : TE}
theorem dpAll_drop {K : PySem.W.Frag} {H : Hp} : ∀ (n : Nat) {vs : List V} {ds : List PyData}, DpAll K H vs ds → DpAll K H (vs.drop n) (ds.drop n)
  | 0, _, _, h => h
  | _ + 1, _, _, .nil => .nil
  | n + 1, _, _, .cons _ a => dpAll_drop n a
theorem dpAll_take {K : PySem.W.Frag} {H : Hp} : ∀ (n : Nat) {vs : List V} {ds : List PyData}, DpAll K H vs ds → DpAll K H (vs.take n) (ds.take n)
  | 0, _, _, _ => .nil
  | _ + 1, _, _, .nil => .nil
  | n + 1, _, _, .cons h a => .cons h (dpAll_take n a)
/-- xs[n:] -/
theorem ev_from {ds : List PyData} {n : Nat} (h : EvD c M te G (aL ds)) (hn : EvD c M tv G (aI (n : Int))) (hl : n ≤ ds.length) : EvD c M (tSl (rSlL c.K) te (tPart tv) tNoPart) G (aL (ds.drop n)) := fun σ H s k Q q =>
  h σ H s k _ fun v H1 b eb e1 r1 => by
    subst eb
    refine hn σ H1 (s.mono e1) (e1.2 k) _ fun w H2 b2 eb2 e2 r2 => ?_
    subst eb2
    have e12 := e1.trans e2
    obtain ⟨a, xs, rfl, hs, hd⟩ := dp_lst (Rel.mono (a := aL ds) e2 r1)
    have hx := dpAll_len hd
    refine ⟨(n : Int), dp_int r2, a, xs, rfl, sqL_hid hs, ?_⟩
    have e : cutV xs (some (n : Int)) none = xs.drop n := by
      unfold cutV
      rw [HT.sIx_nat, HT.sIx_none, Nat.min_eq_left (by omega)]
      exact List.take_of_length_le (by rw [List.length_drop]; exact Nat.le_refl _)
    rw [e]
    exact Kp.newL (P := fun x => x = aL (ds.drop n)) (e12.2 k) (dpAll_drop n hd) rfl (q.ex e12)
/-- xs[:n] -/
theorem ev_upto {ds : List PyData} {n : Nat} (h : EvD c M te G (aL ds)) (hn : EvD c M tv G (aI (n : Int))) : EvD c M (tSl (rSlL c.K) te tNoPart (tPart tv)) G (aL (ds.take n)) := fun σ H s k Q q =>
  h σ H s k _ fun v H1 b eb e1 r1 => by
    subst eb
    refine hn σ H1 (s.mono e1) (e1.2 k) _ fun w H2 b2 eb2 e2 r2 => ?_
    subst eb2
    have e12 := e1.trans e2
    obtain ⟨a, xs, rfl, hs, hd⟩ := dp_lst (Rel.mono (a := aL ds) e2 r1)
    refine ⟨(n : Int), dp_int r2, a, xs, rfl, sqL_hid hs, ?_⟩
    have e : cutV xs none (some (n : Int)) = xs.take n := by
      unfold cutV
      rw [HT.sIx_nat, HT.sIx_none, List.drop_zero, Nat.sub_zero]
      by_cases hn2 : n ≤ xs.length
      · rw [Nat.min_eq_left hn2]
      · rw [Nat.min_eq_right (by omega), List.take_of_length_le (by omega : xs.length ≤ n), List.take_of_length_le (Nat.le_refl _)]
    rw [e]
    exact Kp.newL (P := fun x => x = aL (ds.take n)) (e12.2 k) (dpAll_take n hd) rfl (q.ex e12)
/-- [x for x in .. if t] -/
theorem ev_lcf {wi : TI} {g : TG} {tt : TT} {vs : List Nat} {ds : List PyData} {p : PyData → Bool} (h : ItD c M wi G ds) (hl : ds.length ≤ 1000)
    (he : ∀ (M' : Mu), (∀ p ∈ M, p ∈ M') → ∀ (i : Nat) (d : PyData), ds[i]? = some d → ∃ G2 us, TgP c M' g us (.d d) (wipG G vs) G2 ∧ (∀ k ∈ us, k ∈ vs) ∧ EvB c M' tt G2 (p d) ∧ EvD c M' te G2 (.d d)) : EvD c M (tLc wi g tt te vs) G (aL (ds.filter p)) := fun σ H s k Q q =>
  h σ H s k _ fun J H1 Wk e1 w1 wk => by
    have k1 := e1.2 k
    have s1 := s.mono e1
    intro D nD
    have nDM : D ∉ M.map (·.1) := k1.fresh nD
    refine ⟨fun i m H' => i + m = ds.length ∧ ∃ ys, H' D = some (.lst ys) ∧ Ok c M H' ∧ Ex c ((D, fun _ => True) :: M) H1 H' ∧ DpAll c.K (hid ((D, fun _ => True) :: M) H') ys ((ds.take i).filter p), ⟨ds.length, by omega, [], upd_same, (Ex.new nD).2 k1, (Ex.new nD).push nD, .nil⟩, fun i m H' ⟨em, ys, hD, kH, eH, hda⟩ => ?_⟩
    have wH : Wk (hid ((D, fun _ => True) :: M) H') := wk.keep _ _ (by rw [hid_fresh nD]; exact w1) eH.hid
    have kM : Ok c ((D, isL ys) :: M) H' := kH.push hD rfl
    have hys : ys.length ≤ i := by
      rw [dpAll_len hda]
      exact Nat.le_trans (List.length_filter_le _ _) (by rw [List.length_take]; omega)
    by_cases hi : i < ds.length
    · refine .inr ⟨wk.go ((D, isL ys) :: M) i H' hi wH kM, fun H2 => ∃ ys, H2 D = some (.lst ys) ∧ Ok c M H2 ∧ Ex c ((D, fun _ => True) :: M) H1 H2 ∧ DpAll c.K (hid ((D, fun _ => True) :: M) H2) ys ((ds.take (i + 1)).filter p), fun H2 a => ⟨m - 1, by omega, by omega, a⟩, fun x H2 hy => ?_⟩
      obtain ⟨e2, a, ha, ra⟩ := wk.yld ((D, isL ys) :: M) i H' x H2 hi wH kM hy
      obtain ⟨G2, us, tg, hus, ht, hev⟩ := he ((D, isL ys) :: M) (fun p hp => List.mem_cons_of_mem _ hp) i a ha
      have k2 := e2.2 kM
      have eH' : Ex c ((D, isL ys) :: M) H1 H' := ⟨eH.1, fun _ => kM, eH.3⟩
      have sD : Sig c ((D, isL ys) :: M) H1 σ G := s1.fresh nD
      have back : ∀ {Hx : Hp}, Ex c ((D, isL ys) :: M) H1 Hx → Ex c ((D, fun _ => True) :: M) H1 Hx := fun {Hx} e => ⟨e.1, fun k => by
        obtain ⟨_, h1, _⟩ := k.m _ List.mem_cons_self
        rw [show H1 D = none from nD] at h1
        exact absurd h1 (by simp), e.3⟩
      refine tg (L2.wipe σ vs) H2 x ((sD.mono (eH'.trans e2)).wipe vs) k2 ra _ fun σ2 s2 kk ll => ⟨?_, ?_⟩
      · rw [wipe_eq ll kk hus, wipe_wipe]
      · refine ht σ2 H2 s2 k2 _ fun b H3 eb e3 => ?_
        have tk : ds.take (i + 1) = ds.take i ++ [a] := by rw [List.take_add_one, ha]; rfl
        have k3 := e3.2 k2
        have e13 := (eH'.trans e2).trans e3
        obtain ⟨zs, hz1, hz2⟩ := k3.m _ List.mem_cons_self
        obtain rfl : zs = ys := HO.lst.inj hz2
        have hz1 : H3 D = some (.lst zs) := hz1
        cases b with
        | false =>
          rw [if_neg (by decide)]
          refine ⟨zs, hz1, k3.pop, back e13, ?_⟩
          rw [tk, List.filter_append, List.filter_cons_of_neg (by rw [← eb]; decide), List.filter_nil, List.append_nil]
          exact dpAll_ext (e2.trans e3).hid _ _ hda
        | true =>
          rw [if_pos rfl]
          refine hev σ2 H3 (s2.mono e3) k3 _ fun y H4 b2 eb2 e4 r4 => ?_
          subst eb2
          have k4 := e4.2 k3
          obtain ⟨us2, hu1, hu2⟩ := k4.m _ List.mem_cons_self
          obtain rfl : us2 = zs := HO.lst.inj hu2
          have hu1 : H4 D = some (.lst us2) := hu1
          refine ⟨us2, hu1, small1000 (by omega), us2 ++ [y], upd_same, k4.pop.upd nDM hu1, ?_, ?_⟩
          · exact Ex.upd (xs := us2) (w := fun _ => True) (back (e13.trans e4)) nD
          · rw [hid_upd_in, tk, List.filter_append, List.filter_cons_of_pos (by rw [← eb]), List.filter_nil]
            exact dpAll_app (dpAll_ext ((e2.trans e3).trans e4).hid _ _ hda) (dpAll_one r4)
    · have : i = ds.length := by omega
      subst this
      refine .inl ⟨wk.stop ((D, isL ys) :: M) H' wH kM, ?_⟩
      rw [List.take_length] at hda
      refine (q.ex e1) _ H' (aL (ds.filter p)) rfl (eH.pop nD kH) ?_
      exact Dp.lst (.inl (.inl (hid_of hD nDM))) (dpAll_ext hid_more _ _ hda)
end
end LW

/-! lines.py: solved. -/
namespace LW
open L2 PySem PySem.Spec PyProof.Rows
theorem GB_small : ∀ {u : Nat}, u ≤ 5 → GB u * GB u * GB u < loB := fun {u} h => Nat.lt_of_le_of_lt (Nat.mul_le_mul (Nat.mul_le_mul (GB_mono h) (GB_mono h)) (GB_mono h)) (by decide +kernel)
theorem GB_pos : ∀ u, 0 < GB u
  | 0 => by decide
  | u + 1 => Nat.mul_pos (by decide) (Nat.pow_pos (GB_pos u))
theorem GB_two {u : Nat} (h : u ≤ 5) : GB u * GB u < loB := Nat.lt_of_le_of_lt (Nat.le_mul_of_pos_right _ (GB_pos u)) (GB_small h)
theorem GB_nB {u : Nat} (h : u ≤ 5) : GB u < nB ∧ GB u * GB u < nB := by
  have h1 := GB_two h
  have h2 := loB_nB
  have h3 : GB u ≤ GB u * GB u := Nat.le_mul_of_pos_right _ (GB_pos u)
  omega
theorem row_at {L : Mx} {m i j : Nat} (h : (row0 L i).length = m + 1) (hj : j < m + 1) : (row0 L i)[j]? = some (ent L i j) := by
  unfold ent at0
  rw [getDq, List.getElem?_eq_getElem (by omega)]
  rfl
theorem dLn_at {L : Mx} {i : Nat} (h : i < L.length) : (L.map dLn)[i]? = some (dLn (row0 L i)) := by
  rw [List.getElem?_map, row0_at h]
  rfl
theorem dLn_set {L : Mx} {i : Nat} {r : List Rat} : (L.map dLn).set i (dLn r) = (L.set i r).map dLn := by rw [List.map_set]
section
variable {c : Cf} {M : Mu} {G : Env'} {te ti tj : TE}
/-- lines[i][j] of a local list of rows -/
theorem rv_lnx {l : Addr} {xs : List V} {L : Mx} {i : Nat} (hm : (l, isL xs) ∈ M) (h : i < L.length) : RvD c M (rIx c.K) (.mls l xs (L.map dLn)) (aI (i : Int)) (.d (dLn (row0 L i))) := rv_ixM hm (dLn_at h)
theorem rv_rowx {L : Mx} {m i j : Nat} (h : (row0 L i).length = m + 1) (hj : j < m + 1) : RvD c M (rIx c.K) (.d (dLn (row0 L i))) (aI (j : Int)) (aQ (ent L i j)) := rv_ixL (by rw [List.getElem?_map, row_at h hj]; rfl)
theorem num_zero {q : Rat} : (!decide (q.num = 0)) = !decide (q = 0) := by
  congr 1
  exact decide_eq_decide.mpr Rat.num_eq_zero
end
def nzP (L : Mx) (u : Nat) : PyData → Bool
  | .int k => !decide (ent L k.toNat u = 0)
  | _ => false
theorem nzP_int {L : Mx} {u k : Nat} : nzP L u (.int ((k : Nat) : Int)) = !decide (ent L k u = 0) := by
  show (!decide (ent L ((k : Int)).toNat u = 0)) = _
  rw [Int.toNat_natCast]
section
variable {P : Program} {w : World} {c : Cf} {mg : Str → Option Value} {base : Heap} {cA T : Addr}
theorem ok_solved (B : Bt mg) (hT : T ∈ c.gs) (hl : ∀ p ∈ c.ls, p.1 ≠ T) (D : DefT c mg base "solved" s_solved cA T) (c_over : Cal P w c mg base CX0 3 "over" ["one", "other"] (spR c R_over)) (c_minus : Cal P w c mg base CX0 3 "minus" ["one", "other"] (spR c R_minus)) (c_times : CalTi P w c mg base) :
    Cal P w c mg base CX0 8 "solved" ["rows", "values"] (spR c R_solved) := by
  have tb := D.tb
  refine Cal.mono (j := 7 + 1) (D.cal sc_solved bd_solved (lenR fun M as Pv ⟨_, _, _, _, _, _, _, _, _, _, e, _⟩ => by rw [e]; rfl) (bodyRT fun f A outer s H E hr => ⟨_, (pss_cons (ps_set (i := 2) sc_solved.nd rfl (.inr rfl) (pe_lc (own := [("row", 3), ("value", 4)]) (g := (gTup c.K 2 (gCons (gName 3) (gCons (gName 4) gNil)))) (tt := tYes) rfl sc_solved.nd (RZ.pi_zipA (by rfl) B.zip (pa_cons (pv 0) (pa_cons (pv 1) pa_nil))) (blkOk_by (N := N_solved) (sc := defScope s_solved) (by decide +kernel)) (fun _ _ _ _ _ => (pg_tup rfl (pgs_cons (pg_name (i := 3) sc_solved.nd rfl (.inl rfl)) (pgs_cons (pg_name (i := 4) sc_solved.nd rfl (.inl rfl)) pgs_nil)))) (fun _ _ _ _ _ => pts_nil) (fun _ _ _ _ _ => (pe_op op_cat (pe_callTy (T := "list") (r := rLstQ c.K) call_lstQ (by rfl) B.list (by decide +kernel) (pa_cons (pv 3) pa_nil)) (pe_lst (pa_cons (pv 4) pa_nil))))))
      (pss_cons (ps_set (i := 5) sc_solved.nd rfl (.inr rfl) (pe_ifExp (pt_cmpR op_gt (pe_callB call_lenQ (by rfl) B.len PySem.boot_len (pa_cons (pv 0) pa_nil)) pe_int (nomark _)) (pe_callB call_lenQ (by rfl) B.len PySem.boot_len (pa_cons (pe_ix ix_seq (pv 0) pe_int (fun _ _ => rfl)) pa_nil)) pe_int))
      (pss_cons (ps_set (i := 6) sc_solved.nd rfl (.inl rfl) pe_int)
      (pss_cons (ps_for PassesOwn.never rfl (pi_range1 (by rfl) B.range (pa_cons (pv 5) pa_nil)) (pg_name (i := 7) sc_solved.nd rfl (.inr rfl)) (pss_cons (ps_setLc (i := 8) (own := [("number", 9)]) (g := (gName 9)) (tt := _) rfl sc_solved.nd rfl rfl (sw_true rfl rfl rfl (by decide +kernel)) (pi_range2 (by rfl) B.range (pa_cons (pv 6) (pa_cons (pe_callB call_lenQ (by rfl) B.len PySem.boot_len (pa_cons (pv 2) pa_nil)) pa_nil))) (blkOk_by (N := N_solved) (sc := defScope s_solved) (by decide +kernel)) (fun _ _ _ _ _ => (pg_name (i := 9) sc_solved.nd rfl (.inl rfl))) (fun _ _ _ _ _ => (pts_one (pt_cmpR (r := rNeD c.K) (op_neD hr.units) (pe_ix (r := rIx c.K) ix_seq (pe_ix (r := rIx c.K) ix_seq (pe_ix (r := rIx c.K) ix_seq (pv 2) (pv 9) (fun _ _ => rfl)) (pv 7) (fun _ _ => rfl)) pe_int (fun _ _ => rfl)) pe_int (nomark _)))) (fun _ _ _ _ _ => (pv 9)))
      (pss_cons (ps_if (pt_cmpR (op_eqD hr.units) (pv 8) (pe_lst pa_nil) (nomark _)) (pss_one (ps_ret pe_non)) pss_nil)
      (pss_cons (ps_asg (pe_tup (pa_cons (pe_ix ix_seq (pv 2) (pe_ix ix_seq (pv 8) pe_int (fun _ _ => rfl)) (fun _ _ => rfl)) (pa_cons (pe_ix ix_seq (pv 2) (pv 6) (fun _ _ => rfl)) pa_nil))) (pg_tup rfl (pgs_cons (pg_sub (pv 2) (pv 6) set_list) (pgs_cons (pg_sub (pv 2) (pe_ix ix_seq (pv 8) pe_int (fun _ _ => rfl)) set_list) pgs_nil))))
      (pss_cons (ps_set (i := 10) sc_solved.nd rfl (.inr rfl) (pe_ix ix_seq (pe_ix ix_seq (pv 2) (pv 6) (fun _ _ => rfl)) (pv 7) (fun _ _ => rfl)))
      (pss_cons (ps_asg (pe_lc (own := [("one", 11)]) (g := (gName 11)) (tt := tYes) rfl sc_solved.nd (pi_list (pe_ix ix_seq (pv 2) (pv 6) (fun _ _ => rfl))) (blkOk_by (N := N_solved) (sc := defScope s_solved) (by decide +kernel)) (fun _ _ _ _ _ => (pg_name (i := 11) sc_solved.nd rfl (.inl rfl))) (fun _ _ _ _ _ => pts_nil) (fun _ _ _ _ _ => (pe_cal rfl (c_over.mono (by omega)) hr (by rfl) pass0 (pa_cons (pv 11) (pa_cons (pv 10) pa_nil))))) (pg_sub (pv 2) (pv 6) set_list))
      (pss_cons (ps_for PassesOwn.never rfl (pi_range1 (by rfl) B.range (pa_cons (pe_callB call_lenQ (by rfl) B.len PySem.boot_len (pa_cons (pv 2) pa_nil)) pa_nil)) (pg_name (i := 9) sc_solved.nd rfl (.inl rfl)) (pss_one (ps_if (PW.pt (pw_and (pt_cmpR (op_neD hr.units) (pv 9) (pv 6) (nomark _)) (pw_and1 (pt_cmpR (op_neD hr.units) (pe_ix ix_seq (pe_ix ix_seq (pe_ix ix_seq (pv 2) (pv 9) (fun _ _ => rfl)) (pv 7) (fun _ _ => rfl)) pe_int (fun _ _ => rfl)) pe_int (nomark _))))) (pss_cons (ps_set (i := 12) sc_solved.nd rfl (.inr rfl) (pe_ix ix_seq (pe_ix ix_seq (pv 2) (pv 9) (fun _ _ => rfl)) (pv 7) (fun _ _ => rfl)))
      (pss_one (ps_asg (pe_lc (own := [("a", 13), ("b", 14)]) (g := (gTup c.K 2 (gCons (gName 13) (gCons (gName 14) gNil)))) (tt := tYes) rfl sc_solved.nd (RZ.pi_zipA (by rfl) B.zip (pa_cons (pe_ix ix_seq (pv 2) (pv 9) (fun _ _ => rfl)) (pa_cons (pe_ix ix_seq (pv 2) (pv 6) (fun _ _ => rfl)) pa_nil))) (blkOk_by (N := N_solved) (sc := defScope s_solved) (by decide +kernel)) (fun _ _ _ _ _ => (pg_tup rfl (pgs_cons (pg_name (i := 13) sc_solved.nd rfl (.inl rfl)) (pgs_cons (pg_name (i := 14) sc_solved.nd rfl (.inl rfl)) pgs_nil)))) (fun _ _ _ _ _ => pts_nil) (fun _ _ _ _ _ => (pe_cal rfl (c_minus.mono (by omega)) hr (by rfl) pass0 (pa_cons (pv 13) (pa_cons (pe_cal rfl (c_times.mono (by omega)) hr (by rfl) pass0 (pa_cons (pv 12) (pa_cons (pv 14) pa_nil))) pa_nil))))) (pg_sub (pv 2) (pv 9) set_list)))) pss_nil)))
      (pss_one (ps_aug (i := 6) sc_solved.nd rfl (.inl rfl) pe_int ip_add)))))))))
      (pss_cons (ps_if (pt_val (pe_anyF hr (by rfl) B.any tb rfl (genS_by (by decide +kernel)) (pe_slice sl_list (pv 2) (po_some (pv 6)) po_none) eltF_none (fun _ => rfl))) (pss_one (ps_ret pe_non)) pss_nil)
      (pss_one (ps_ret (pe_callTy call_tupQ (by rfl) B.tuple (by decide +kernel) (pa_cons (pe_lc (own := [("line", 15)]) (g := (gName 15)) (tt := tYes) rfl sc_solved.nd (pi_list (pe_slice sl_list (pv 2) po_none (po_some (pv 6)))) (blkOk_by (N := N_solved) (sc := defScope s_solved) (by decide +kernel)) (fun _ _ _ _ _ => (pg_name (i := 15) sc_solved.nd rfl (.inl rfl))) (fun _ _ _ _ _ => pts_nil) (fun _ _ _ _ _ => (pe_ix (r := rIx c.K) ix_seq (pv 15) (pv 5) (fun _ _ => rfl)))) pa_nil))))))))), ?_⟩)) (by omega)
  rintro M as Pv ⟨m, rows, vals, hm1, hm6, hrl, hvl, hrows, hthin, hRB, rfl, hp⟩
  have hL0 : (joinL rows vals).length = m := by unfold joinL; rw [List.length_zipWith, hrl, hvl, Nat.min_self]
  have hL0r : ∀ i, i < m → (row0 (joinL rows vals) i).length = m + 1 := fun i hi => by
    have h1 : rows[i]? = some (rows[i]'(by omega)) := List.getElem?_eq_getElem _
    have h2 : vals[i]? = some (vals[i]'(by omega)) := List.getElem?_eq_getElem _
    have e : (joinL rows vals)[i]? = some (rows[i]'(by omega) ++ [vals[i]'(by omega)]) := by
      unfold joinL
      rw [List.getElem?_zipWith, h1, h2]
    rw [row0_of e, List.length_append, hrows _ (List.mem_of_getElem? h1)]
    rfl
  have g0 := start_inv hL0 hL0r hRB
  refine StM.p (sm_new (PN := fun M' ds => M' = M ∧ ds = (joinL rows vals).map dLn) (em_lc (PI := fun M' ds => M' = M ∧ ds = zipD (rows.map dLn) (vals.map dQ)) (ItD.m (it_zipL (ea_cons (ev_var rfl) (ea_cons (ev_var rfl) ea_nil))) ⟨rfl, rfl⟩) ?_) ?_)
  · rintro M1 ds ⟨rfl, rfl⟩
    refine ⟨by rw [zipD_len, List.length_map]; omega, fun _ M2 => M2 = M1, fun i e => ((joinL rows vals).map dLn)[i]? = some e, rfl, fun _ _ e => by rw [e], ?_, ?_⟩
    · rintro N i d M2 hN hd rfl
      obtain ⟨x, y, hx, hy, rfl⟩ := zipD_at hd
      obtain ⟨r, hr1, rfl⟩ := map_at hx
      obtain ⟨v, hv1, rfl⟩ := map_at hy
      have hlr := hrows r (List.mem_of_getElem? hr1)
      refine ⟨_, _, tg_tup2 tg_name tg_name, by simp, EvP.m (ev_catNew (ds := r.map dQ) (d := dQ v) (ev_var rfl) rfl (by rw [List.length_map]; omega)) ?_⟩
      rintro a rfl
      refine ⟨M2, rfl, rfl, _, rfl, ?_⟩
      show ((joinL rows vals).map dLn)[i]? = some (.list (r.map dQ ++ [dQ v]))
      unfold joinL
      rw [List.getElem?_map, List.getElem?_zipWith, hr1, hv1]
      show some (dLn (r ++ [v])) = _
      unfold dLn
      rw [List.map_append]
      rfl
    · rintro M2 es hes he rfl
      refine ⟨rfl, ?_⟩
      rw [zipD_len, List.length_map, List.length_map, hrl, hvl, Nat.min_self] at hes
      apply List.ext_getElem?
      intro i
      by_cases hi : i < es.length
      · rw [he i _ (List.getElem?_eq_getElem hi), List.getElem?_eq_getElem hi]
      · rw [List.getElem?_eq_none_iff.mpr (by omega), List.getElem?_eq_none_iff.mpr (by rw [List.length_map, hL0]; omega)]
  rintro l M1 xs ds ⟨rfl, rfl⟩ hlM hxs
  refine sm_seq (PG1 := fun M' G => M' = (l, isL xs) :: M1 ∧ G = [some (aL (rows.map dLn)), some (aL (vals.map dQ)), some (.mls l xs ((joinL rows vals).map dLn)), none, none, some (aI (m : Int)), none, none, none, none, none, none, none, none, none, none]) (StP.m (P := fun _ => False) (PG' := fun G => G = [some (aL (rows.map dLn)), some (aL (vals.map dQ)), some (.mls l xs ((joinL rows vals).map dLn)), none, none, some (aI (m : Int)), none, none, none, none, none, none, none, none, none, none]) (st_set (a := aI (m : Int)) (ev_if (b := decide (((rows.map dLn).length : Int) > 0)) (et_test (ev_op (ev_cb (ea_cons (ev_var rfl) ea_nil) rc_lenL) ev_int rv_B0)) (fun _ => ?_) fun h => ?_) rfl) (fun _ e => ⟨rfl, e⟩) fun _ h => h.elim) ?_
  · have h0 : rows[0]? = some (rows[0]'(by omega)) := List.getElem?_eq_getElem _
    exact ev_is (ev_cb (as := [aL ((rows[0]'(by omega)).map dQ)]) (ea_cons (ev_op (ev_var rfl) ev_int (rv_ixL (n := 0) (by rw [List.getElem?_map, h0]; rfl))) ea_nil) rc_lenL) (by rw [List.length_map, hrows _ (List.mem_of_getElem? h0)])
  · have h := of_decide_eq_false h
    rw [List.length_map] at h
    omega
  rintro M' G ⟨rfl, rfl⟩
  refine sm_seq (PG1 := fun M' G => M' = (l, isL xs) :: M1 ∧ G = [some (aL (rows.map dLn)), some (aL (vals.map dQ)), some (.mls l xs ((joinL rows vals).map dLn)), none, none, some (aI (m : Int)), some (aI ((0 : Nat) : Int)), none, none, none, none, none, none, none, none, none]) (StP.m (P := fun _ => False) (PG' := fun G => G = [some (aL (rows.map dLn)), some (aL (vals.map dQ)), some (.mls l xs ((joinL rows vals).map dLn)), none, none, some (aI (m : Int)), some (aI ((0 : Nat) : Int)), none, none, none, none, none, none, none, none, none]) (st_set ev_int rfl) (fun _ e => ⟨rfl, e⟩) fun _ h => h.elim) ?_
  rintro M' G ⟨rfl, rfl⟩
  refine sm_seq (PG1 := fun M' G => ∃ (xs : List V) (L : Mx) (y7 y8 y9 y10 y12 : Option AV), M' = (l, isL xs) :: M1 ∧ GInv m m (GB m) (joinL rows vals) L ∧ G = [some (aL (rows.map dLn)), some (aL (vals.map dQ)), some (.mls l xs (L.map dLn)), none, none, some (aI (m : Int)), some (aI ((m : Nat) : Int)), y7, y8, y9, y10, none, y12, none, none, none])
    (sm_for (PI := fun M' ds => M' = (l, isL xs) :: M1 ∧ ds = rngD 0 m) (ItD.m (it_range1 (n := m) (ea_cons (ev_var rfl) ea_nil) (by omega)) ⟨rfl, rfl⟩) ?_) ?_
  · rintro M2 ds ⟨rfl, rfl⟩
    refine ⟨fun u M' G => ∃ (xs : List V) (L : Mx) (y7 y8 y9 y10 y12 : Option AV), M' = (l, isL xs) :: M1 ∧ GInv m u (GB u) (joinL rows vals) L ∧ G = [some (aL (rows.map dLn)), some (aL (vals.map dQ)), some (.mls l xs (L.map dLn)), none, none, some (aI (m : Int)), some (aI ((u : Nat) : Int)), y7, y8, y9, y10, none, y12, none, none, none], ⟨xs, joinL rows vals, none, none, none, none, none, rfl, g0, rfl⟩, ?_, ?_⟩
    · rintro u d M' G hd ⟨xs, L, y7, y8, y9, y10, y12, rfl, g, rfl⟩
      obtain ⟨hu, rfl⟩ := rngD_at hd
      have hu5 : u ≤ 5 := by omega
      have hmem : (l, isL xs) ∈ (l, isL xs) :: M1 := List.mem_cons_self
      refine ⟨_, _, tg_name, ?_⟩
      -- place
      refine sm_seq (PG1 := fun M' G => ∃ p, u ≤ p ∧ p < m ∧ ent L p u ≠ 0 ∧ ∃ ns : List Nat, M' = (l, isL xs) :: M1 ∧ G = [some (aL (rows.map dLn)), some (aL (vals.map dQ)), some (.mls l xs (L.map dLn)), none, none, some (aI (m : Int)), some (aI ((u : Nat) : Int)), some (aI (u : Int)), some (aL (dNs (p :: ns))), y9, y10, none, y12, none, none, none]) (StP.m (P := fun _ => False) (PG' := fun G => ∃ p, u ≤ p ∧ p < m ∧ ent L p u ≠ 0 ∧ ∃ ns : List Nat, G = [some (aL (rows.map dLn)), some (aL (vals.map dQ)), some (.mls l xs (L.map dLn)), none, none, some (aI (m : Int)), some (aI ((u : Nat) : Int)), some (aI (u : Int)), some (aL (dNs (p :: ns))), y9, y10, none, y12, none, none, none]) (st_set (a := aL ((rngD u (m - u)).filter (nzP L u))) (ev_lcf (p := nzP L u) (it_range2 (lo := u) (n := m) (ea_cons (ev_var rfl) (ea_cons (ev_is (ev_cb (ea_cons (ev_var rfl) ea_nil) (rc_lenM hmem)) (by rw [List.length_map, g.len])) ea_nil)) (by omega) (by omega)) (by rw [rngD_len]; omega) ?_) ?_) (fun _ ⟨p, h1, h2, h3, ns, e⟩ => ⟨p, h1, h2, h3, ns, rfl, e⟩) fun _ h => h.elim) ?_
      · intro M' hM i d hd
        obtain ⟨hi, rfl⟩ := rngD_at hd
        have hk : u + i < m := by omega
        refine ⟨_, _, tg_name, by simp, ?_, ev_var rfl⟩
        refine et_is (et_test (ev_op (ev_top (q := ent L (u + i) u) (ev_op (ev_op (b := aI ((u + i : Nat) : Int)) (ev_var rfl) (ev_is (ev_var rfl) (by congr 2)) (rv_lnx (hM _ hmem) (by rw [g.len]; exact hk))) (b := aI (u : Int)) (ev_is (ev_var rfl) (by congr 2; omega)) (rv_rowx (g.row _ hk) (by omega))) ev_int) ev_int rv_neDI)) ?_
        rw [num_zero]
        rw [show ((u : Int) + (i : Int)) = ((u + i : Nat) : Int) by omega, nzP_int]
      · obtain ⟨p, p1, p2, p3⟩ := g.pivot hu hthin
        obtain ⟨ns, hns, hall⟩ := pick_list (es := (rngD u (m - u)).filter (nzP L u)) (f := fun k : Nat => PyData.int (k : Int)) (Q := fun k => u ≤ k ∧ k < m ∧ ent L k u ≠ 0) fun i e he => by
          obtain ⟨h1, h2⟩ := List.mem_filter.mp (List.mem_of_getElem? he)
          obtain ⟨j, hj⟩ := memG h1
          obtain ⟨hj2, rfl⟩ := rngD_at hj
          refine ⟨u + j, ⟨by omega, by omega, fun z => ?_⟩, by congr 1⟩
          rw [show ((u : Int) + (j : Int)) = ((u + j : Nat) : Int) by omega, nzP_int, z] at h2
          simp at h2
        cases ns with
        | nil =>
          exfalso
          have hin : PyData.int (p : Int) ∈ (rngD u (m - u)).filter (nzP L u) := by
            refine List.mem_filter.mpr ⟨?_, ?_⟩
            · refine List.mem_of_getElem? (i := p - u) ?_
              rw [rngD_get (by omega)]
              congr 2
              omega
            · rw [nzP_int, decide_eq_false p3]
              rfl
          rw [hns] at hin
          simp at hin
        | cons k ks =>
          obtain ⟨q1, q2, q3⟩ := hall k List.mem_cons_self
          refine ⟨k, q1, q2, q3, ks, ?_⟩
          rw [hns, show (0 : Int) + (u : Int) = (u : Int) by omega]
          rfl
      rintro M' G ⟨p, hp1, hp2, hp3, ns, rfl, rfl⟩
      refine sm_seq (PG1 := fun M' G => M' = (l, isL xs) :: M1 ∧ G = [some (aL (rows.map dLn)), some (aL (vals.map dQ)), some (.mls l xs (L.map dLn)), none, none, some (aI (m : Int)), some (aI ((u : Nat) : Int)), some (aI (u : Int)), some (aL (dNs (p :: ns))), y9, y10, none, y12, none, none, none]) (StP.m (P := fun _ => False) (st_if (b := false) (et_test (ev_op (ev_var rfl) (ev_lst (ds := []) ea_nil (by decide)) ?_)) (fun h => absurd h (by simp)) fun _ => st_next rfl) (fun _ e => ⟨rfl, e.symm⟩) fun _ h => h.elim) ?_
      · have h := rv_eqD (c := c) (M := (l, isL xs) :: M1) (shaped_tupI (p :: ns)).2 (y := .list []) (by decide +kernel)
        rw [show PyData.eqv (.list ((p :: ns).map fun k : Nat => PyData.int (k : Int))) (.list []) = false by simp [PyData.eqv, PyData.eqvAll]] at h
        exact h
      rintro M' G ⟨rfl, rfl⟩
      -- swap
      have hpl : p < L.length := by rw [g.len]; exact hp2
      have hul : u < L.length := by rw [g.len]; exact hu
      have gs := g.swap (p := p) hu hp1 hp2
      refine sm_seq (PG1 := fun M' G => ∃ xs, M' = (l, isL xs) :: M1 ∧ G = [some (aL (rows.map dLn)), some (aL (vals.map dQ)), some (.mls l xs (((L.set u (row0 L p)).set p (row0 L u)).map dLn)), none, none, some (aI (m : Int)), some (aI ((u : Nat) : Int)), some (aI (u : Int)), some (aL (dNs (p :: ns))), y9, y10, none, y12, none, none, none])
        (sm_asgM (PA := fun M' v => M' = (l, isL xs) :: M1 ∧ v = aT [dLn (row0 L p), dLn (row0 L u)]) (EvP.m (ev_tup (ds := [dLn (row0 L p), dLn (row0 L u)]) (ea_cons (ev_op (ev_var rfl) (ev_op (ev_var rfl) ev_int (rv_ixL (n := 0) (d := .int ((p : Nat) : Int)) rfl)) (rv_lnx hmem hpl)) (ea_cons (ev_op (ev_var rfl) (ev_var rfl) (rv_lnx hmem hul)) ea_nil)) (by show 2 ≤ 1000; decide)) fun v e => ⟨rfl, e⟩) ?_) ?_
      · rintro M' v ⟨rfl, rfl⟩
        refine tgm_tup2 (PG1 := fun M' G => ∃ xs, M' = (l, isL xs) :: M1 ∧ G = [some (aL (rows.map dLn)), some (aL (vals.map dQ)), some (.mls l xs ((L.set u (row0 L p)).map dLn)), none, none, some (aI (m : Int)), some (aI ((u : Nat) : Int)), some (aI (u : Int)), some (aL (dNs (p :: ns))), y9, y10, none, y12, none, none, none]) (tgm_sub (i := 2) (l := l) (xs := xs) (PA := fun M' b => M' = (l, isL xs) :: M1 ∧ b = aI ((u : Nat) : Int)) rfl (EvP.m (ev_var rfl) fun v e => ⟨rfl, e⟩) ?_) ?_
        · rintro M' b ⟨rfl, rfl⟩
          exact ⟨u, [], M1, rfl, by rw [List.length_map]; exact hul, rfl, by simp, hlM, fun v => ⟨_, rfl, by rw [dLn_set]; rfl⟩⟩
        · rintro M' G ⟨xs, rfl, rfl⟩
          refine tgm_sub (i := 2) (l := l) (xs := xs) (PA := fun M' b => M' = (l, isL xs) :: M1 ∧ b = aI ((p : Nat) : Int)) rfl (EvP.m (ev_op (ev_var rfl) ev_int (rv_ixL (n := 0) (d := .int ((p : Nat) : Int)) rfl)) fun v e => ⟨rfl, e⟩) ?_
          rintro M' b ⟨rfl, rfl⟩
          exact ⟨p, [], M1, rfl, by rw [List.length_map, List.length_set]; exact hpl, rfl, by simp, hlM, fun v => ⟨_, rfl, by rw [dLn_set]; rfl⟩⟩
      have e1 : ent ((L.set u (row0 L p)).set p (row0 L u)) u u = ent L p u := by
        unfold ent
        rw [row0_set (by rw [List.length_set]; exact hpl), row0_set hul]
        split
        · rename_i z
          rw [← z]
        · rw [if_pos rfl]
      have n1 : ent ((L.set u (row0 L p)).set p (row0 L u)) u u ≠ 0 := by rw [e1]; exact hp3
      generalize (L.set u (row0 L p)).set p (row0 L u) = L2 at gs n1
      clear e1 hpl hul g
      rintro M' G ⟨xs, rfl, rfl⟩
      have hmem : (l, isL xs) ∈ (l, isL xs) :: M1 := List.mem_cons_self
      have hul : u < L2.length := by rw [gs.len]; exact hu
      refine sm_seq (PG1 := fun M' G => M' = (l, isL xs) :: M1 ∧ G = [some (aL (rows.map dLn)), some (aL (vals.map dQ)), some (.mls l xs (L2.map dLn)), none, none, some (aI (m : Int)), some (aI ((u : Nat) : Int)), some (aI (u : Int)), some (aL (dNs (p :: ns))), y9, some (aQ (ent L2 u u)), none, y12, none, none, none]) (StP.m (P := fun _ => False) (PG' := fun G => G = [some (aL (rows.map dLn)), some (aL (vals.map dQ)), some (.mls l xs (L2.map dLn)), none, none, some (aI (m : Int)), some (aI ((u : Nat) : Int)), some (aI (u : Int)), some (aL (dNs (p :: ns))), y9, some (aQ (ent L2 u u)), none, y12, none, none, none]) (st_set (ev_op (ev_op (ev_var rfl) (ev_var rfl) (rv_lnx hmem hul)) (ev_var rfl) (rv_rowx (gs.row u hu) (by omega))) rfl) (fun _ e => ⟨rfl, e⟩) fun _ h => h.elim) ?_
      rintro M' G ⟨rfl, rfl⟩
      have huu := List.mem_of_getElem? (row_at (L := L2) (i := u) (gs.row u hu) (show u < m + 1 by omega))
      have bdu := (gs.bd u hu).bd
      have gm := (gs.scale hu n1).mid hu (gs.scale_at hu n1)
      have big := GB_nB hu5
      have two := GB_two hu5
      have three := GB_small hu5
      have loN := loB_nB
      refine sm_seq (PG1 := fun M' G => ∃ xs, M' = (l, isL xs) :: M1 ∧ G = [some (aL (rows.map dLn)), some (aL (vals.map dQ)), some (.mls l xs ((L2.set u ((row0 L2 u).map (· / ent L2 u u))).map dLn)), none, none, some (aI (m : Int)), some (aI ((u : Nat) : Int)), some (aI (u : Int)), some (aL (dNs (p :: ns))), y9, some (aQ (ent L2 u u)), none, y12, none, none, none])
        (sm_asgM (PA := fun M' v => M' = (l, isL xs) :: M1 ∧ v = .d (dLn ((row0 L2 u).map (· / ent L2 u u)))) (EvP.m (P := fun v => v = .d (dLn ((row0 L2 u).map (· / ent L2 u u)))) (ev_lc (es := ((row0 L2 u).map (· / ent L2 u u)).map dQ) (it_list (ds := (row0 L2 u).map dQ) (ev_op (ev_var rfl) (ev_var rfl) (rv_lnx hmem hul))) (by rw [List.length_map, gs.row u hu]; omega) (by simp) ?_) fun v e => ⟨rfl, e⟩) ?_) ?_
      · intro M' hM i d e hd he
        rw [List.map_map] at he
        obtain ⟨q, hq, rfl, rfl⟩ := map2_at hd he
        have bq := bdu q (List.mem_of_getElem? hq)
        have bu := bdu _ huu
        refine ⟨_, _, tg_name, by simp, ev_call (ea_cons (ev_var rfl) (ea_cons (ev_var rfl) ea_nil)) ⟨q, ent L2 u u, rfl, bq.fit big.1 big.1, bu.fit big.1 big.1, n1, Nat.lt_of_le_of_lt (Nat.mul_le_mul bq.d bu.n) two, rfl⟩⟩
      · rintro M' v ⟨rfl, rfl⟩
        refine tgm_sub (i := 2) (l := l) (xs := xs) (PA := fun M' b => M' = (l, isL xs) :: M1 ∧ b = aI ((u : Nat) : Int)) rfl (EvP.m (ev_var rfl) fun v e => ⟨rfl, e⟩) ?_
        rintro M' b ⟨rfl, rfl⟩
        exact ⟨u, [], M1, rfl, by rw [List.length_map]; exact hul, rfl, by simp, hlM, fun v => ⟨_, rfl, by rw [dLn_set]; rfl⟩⟩
      generalize L2.set u ((row0 L2 u).map (· / ent L2 u u)) = L3 at gm
      generalize hby : ent L2 u u = by0
      rintro M' G ⟨xs, rfl, rfl⟩
      refine sm_seq (PG1 := fun M' G => ∃ (xs : List V) (L : Mx) (y9 y12 : Option AV), M' = (l, isL xs) :: M1 ∧ GMid m u m (joinL rows vals) L ∧ G = [some (aL (rows.map dLn)), some (aL (vals.map dQ)), some (.mls l xs (L.map dLn)), none, none, some (aI (m : Int)), some (aI ((u : Nat) : Int)), some (aI (u : Int)), some (aL (dNs (p :: ns))), y9, some (aQ by0), none, y12, none, none, none])
        (sm_for (PI := fun M' ds => M' = (l, isL xs) :: M1 ∧ ds = rngD 0 m) (ItD.m (it_range1 (n := m) (ea_cons (ev_is (ev_cb (ea_cons (ev_var rfl) ea_nil) (rc_lenM List.mem_cons_self)) (by rw [List.length_map, gm.len])) ea_nil) (by omega)) ⟨rfl, rfl⟩) ?_) ?_
      · rintro M2 ds ⟨rfl, rfl⟩
        refine ⟨fun k M' G => ∃ (xs : List V) (L : Mx) (y9 y12 : Option AV), M' = (l, isL xs) :: M1 ∧ GMid m u k (joinL rows vals) L ∧ G = [some (aL (rows.map dLn)), some (aL (vals.map dQ)), some (.mls l xs (L.map dLn)), none, none, some (aI (m : Int)), some (aI ((u : Nat) : Int)), some (aI (u : Int)), some (aL (dNs (p :: ns))), y9, some (aQ by0), none, y12, none, none, none], ⟨xs, L3, y9, y12, rfl, gm, rfl⟩, ?_, ?_⟩
        · rintro k d M' G hd ⟨xs, L4, z9, z12, rfl, g4, rfl⟩
          obtain ⟨hk, rfl⟩ := rngD_at hd
          have hmem : (l, isL xs) ∈ (l, isL xs) :: M1 := List.mem_cons_self
          have hkl : k < L4.length := by rw [g4.len]; exact hk
          have hul : u < L4.length := by rw [g4.len]; exact hu
          refine ⟨_, _, tg_name, ?_⟩
          refine sm_if (b := !decide (k = u) && !decide (ent L4 k u = 0)) (et_and (et_is (et_test (ev_op (ev_var rfl) (ev_var rfl) rv_neDI)) (by congr 1; exact decide_eq_decide.mpr (by omega))) fun _ => et_is (et_test (ev_op (ev_top (q := ent L4 k u) (ev_op (ev_op (b := aI (k : Int)) (ev_var rfl) (ev_is (ev_var rfl) (by congr 2; omega)) (rv_lnx hmem hkl)) (ev_var rfl) (rv_rowx (g4.row _ hk) (by omega))) ev_int) ev_int rv_neDI)) num_zero) (fun hc => ?_) fun hc => sm_next ?_
          · rw [Bool.and_eq_true, Bool.not_eq_true', Bool.not_eq_true', decide_eq_false_iff_not, decide_eq_false_iff_not] at hc
            have bk := (g4.bdk k hk (Nat.le_refl _)).bd
            have bu := g4.bdu.bd
            have hku := List.mem_of_getElem? (row_at (L := L4) (i := k) (g4.row k hk) (show u < m + 1 by omega))
            refine sm_seq (PG1 := fun M' G => M' = (l, isL xs) :: M1 ∧ G = [some (aL (rows.map dLn)), some (aL (vals.map dQ)), some (.mls l xs (L4.map dLn)), none, none, some (aI (m : Int)), some (aI ((u : Nat) : Int)), some (aI (u : Int)), some (aL (dNs (p :: ns))), some (aI (k : Int)), some (aQ by0), none, some (aQ (ent L4 k u)), none, none, none]) (StP.m (P := fun _ => False) (PG' := fun G => G = [some (aL (rows.map dLn)), some (aL (vals.map dQ)), some (.mls l xs (L4.map dLn)), none, none, some (aI (m : Int)), some (aI ((u : Nat) : Int)), some (aI (u : Int)), some (aL (dNs (p :: ns))), some (aI (k : Int)), some (aQ by0), none, some (aQ (ent L4 k u)), none, none, none]) (st_set (a := aQ (ent L4 k u)) (ev_op (ev_op (b := aI (k : Int)) (ev_var rfl) (ev_is (ev_var rfl) (by congr 2; omega)) (rv_lnx hmem hkl)) (ev_var rfl) (rv_rowx (g4.row k hk) (by omega))) (by rw [show (0 : Int) + (k : Int) = (k : Int) by omega]; rfl)) (fun _ e => ⟨rfl, e⟩) fun _ h => h.elim) ?_
            rintro M' G ⟨rfl, rfl⟩
            have hlen : (row0 L4 k).length = (row0 L4 u).length := by rw [g4.row k hk, g4.row u hu]
            refine sm_asgM (PA := fun M' v => M' = (l, isL xs) :: M1 ∧ v = .d (dLn (lessR (row0 L4 k) (row0 L4 u) (ent L4 k u)))) (EvP.m (P := fun v => v = .d (dLn (lessR (row0 L4 k) (row0 L4 u) (ent L4 k u)))) (ev_lc (es := (lessR (row0 L4 k) (row0 L4 u) (ent L4 k u)).map dQ) (it_zipL (ds := (row0 L4 k).map dQ) (es := (row0 L4 u).map dQ) (ea_cons (ev_op (ev_var rfl) (ev_var rfl) (rv_lnx hmem hkl)) (ea_cons (ev_op (ev_var rfl) (ev_var rfl) (rv_lnx hmem hul)) ea_nil))) (by rw [zipD_len, List.length_map, g4.row k hk]; omega) (by rw [zipD_len, List.length_map, List.length_map, List.length_map, less_len hlen, ← hlen, Nat.min_self]) ?_) fun v e => ⟨rfl, e⟩) ?_
            · intro M' hM i d e hd he
              obtain ⟨x, y, hx, hy, rfl⟩ := zipD_at hd
              obtain ⟨a, ha, rfl⟩ := map_at hx
              obtain ⟨b, hb, rfl⟩ := map_at hy
              have hz : (lessR (row0 L4 k) (row0 L4 u) (ent L4 k u))[i]? = some (a - ent L4 k u * b) := by
                unfold lessR
                rw [List.getElem?_zipWith, ha, hb]
              rw [List.getElem?_map, hz] at he
              obtain rfl := someI he
              have ba := bk a (List.mem_of_getElem? ha)
              have bb := bu b (List.mem_of_getElem? hb)
              have bm := bk _ hku
              refine ⟨_, _, tg_tup2 tg_name tg_name, by simp, ev_call (ea_cons (ev_var rfl) (ea_cons (ev_call (P := fun v => v = aQ (ent L4 k u * b)) (ea_cons (ev_var rfl) (ea_cons (ev_var rfl) ea_nil)) ⟨_, _, rfl, Bd.fit2 bm bb big.1 big.1 two, rfl⟩) ea_nil)) ⟨a, _, rfl, Bd.fit2 ba (bm.mul bb) big.1 big.2 (by rw [← Nat.mul_assoc]; exact three), rfl⟩⟩
            · rintro M' v ⟨rfl, rfl⟩
              refine tgm_sub (i := 2) (l := l) (xs := xs) (PA := fun M' b => M' = (l, isL xs) :: M1 ∧ b = aI ((k : Nat) : Int)) rfl (EvP.m (ev_var rfl) fun v e => ⟨rfl, e⟩) ?_
              rintro M' b ⟨rfl, rfl⟩
              exact ⟨k, [], M1, rfl, by rw [List.length_map]; exact hkl, rfl, by simp, hlM, fun v => ⟨_, _, some (aI (k : Int)), some (aQ (ent L4 k u)), rfl, g4.next hu hk hc.1, by rw [dLn_set]; rfl⟩⟩
          · refine ⟨xs, L4, _, _, rfl, g4.skip ?_, rfl⟩
            by_cases h1 : k = u
            · exact .inl h1
            · refine .inr (byC fun h2 => ?_)
              rw [decide_eq_false h1, decide_eq_false h2] at hc
              cases hc
        · rintro M' G ⟨xs, L4, z9, z12, rfl, g4, rfl⟩
          rw [rngD_len] at g4
          exact ⟨xs, L4, z9, z12, rfl, g4, rfl⟩
      rintro M' G ⟨xs, L5, z9, z12, rfl, g5, rfl⟩
      refine StP.m (P := fun _ => False) (st_aug (PG := fun G => G = [some (aL (rows.map dLn)), some (aL (vals.map dQ)), some (.mls l xs (L5.map dLn)), none, none, some (aI (m : Int)), some (aI (((u + 1 : Nat)) : Int)), some (aI (u : Int)), some (aL (dNs (p :: ns))), z9, some (aQ by0), none, z12, none, none, none]) (i := 6) (a := (u : Int)) (b := 1) rfl ev_int rfl) (fun G' e => ⟨xs, L5, _, _, _, _, _, rfl, g5.done_col hu, e⟩) fun _ h => h.elim
    · rintro M' G ⟨xs, L, y7, y8, y9, y10, y12, rfl, g, rfl⟩
      rw [rngD_len] at g
      exact ⟨xs, L, y7, y8, y9, y10, y12, rfl, g, by rw [rngD_len]⟩
  rintro M' G ⟨xs, L, y7, y8, y9, y10, y12, rfl, g, rfl⟩
  refine sm_freeze (i := 2) rfl hlM ?_
  obtain ⟨s1, s2⟩ := g.last
  refine StP.m (P := Pv) (PG' := fun _ => False) (st_seq (PG1 := fun G => G = [some (aL (rows.map dLn)), some (aL (vals.map dQ)), some (aL (L.map dLn)), none, none, some (aI (m : Int)), some (aI ((m : Nat) : Int)), y7, y8, y9, y10, none, y12, none, none, none]) (st_if (b := false) (et_B (ev_anyF (ds := []) hT hl (ev_is (ev_from (n := m) (ev_var rfl) (ev_var rfl) (by rw [List.length_map, g.len]; exact Nat.le_refl _)) (by rw [List.drop_eq_nil_of_le (by rw [List.length_map, g.len]; exact Nat.le_refl _)])) (fun d hd => by simp at hd))) (fun h => absurd h (by simp)) fun _ => st_next rfl) ?_) (fun _ h => h.elim) fun a pa => ⟨hlM, rfl, pa⟩
  rintro G rfl
  refine st_ret (EvP.of (a := aT ((lastC m L).map dQ)) (ev_cb (ea_cons (ev_lc (es := (lastC m L).map dQ) (it_list (ds := L.map dLn) (ev_is (ev_upto (n := m) (ev_var rfl) (ev_var rfl)) (by rw [List.take_of_length_le (by rw [List.length_map, g.len]; exact Nat.le_refl _)]))) (by rw [List.length_map, g.len]; omega) (by rw [List.length_map, List.length_map, lastC_len, g.len]) ?_) ea_nil) rc_tupL) (hp _ lastC_len s1 s2))
  intro M' hM i d e hd he
  obtain ⟨r, hr1, rfl⟩ := map_at hd
  obtain ⟨q, hq, rfl⟩ := map_at he
  have hi : i < m := by
    rw [← lastC_len (m := m) (L := L)]
    exact (List.getElem?_eq_some_iff.mp hq).1
  have eq : q = ent L i m := by rw [← lastC_at hi, at0_lt hq]
  subst eq
  obtain rfl := row0_of hr1
  exact ⟨_, _, tg_name, by simp, ev_op (ev_var rfl) (ev_var rfl) (rv_rowx (g.row i hi) (by omega))⟩
end
end LW

/-! Plans(places, later). -/
namespace LW
open L2 PySem PySem.Spec PyProof.Rows
/-- all but tables and instances stay -/
def ExtI (H H' : Hp) : Prop := ∀ b o, H b = some o → (∀ ps, o ≠ .tbl ps) → (∀ C dx fs, o ≠ .ins C dx fs) → H' b = some o
theorem sqL_extI {K : PySem.W.Frag} {H H' : Hp} {a : Addr} {xs : List V} (e : ExtI H H') (h : SqL K H a xs) : SqL K H' a xs := by
  rcases h with (k | ⟨o, k⟩) | k
  · exact .inl (.inl (e _ _ k (fun _ q => nomatch q) fun _ _ _ q => nomatch q))
  · exact .inl (.inr ⟨o, e _ _ k (fun _ q => nomatch q) fun _ _ _ q => nomatch q⟩)
  · exact .inr k
theorem sqT_extI {K : PySem.W.Frag} {H H' : Hp} {a : Addr} {xs : List V} (e : ExtI H H') (h : SqT K H a xs) : SqT K H' a xs := by
  rcases h with (k | ⟨o, k⟩) | k
  · exact .inl (.inl (e _ _ k (fun _ q => nomatch q) fun _ _ _ q => nomatch q))
  · exact .inl (.inr ⟨o, e _ _ k (fun _ q => nomatch q) fun _ _ _ q => nomatch q⟩)
  · exact .inr k
mutual
theorem dp_extI {K : PySem.W.Frag} {H H' : Hp} (e : ExtI H H') : ∀ (d : PyData) (v : V), Dp K H v d → Dp K H' v d
  | .none, _, .non => .non
  | .bool _, _, .bl b => .bl b
  | .int _, _, .int i => .int i
  | .str _, _, .str x => .str x
  | .list ds, _, .lst h a => .lst (sqL_extI e h) (dpAll_extI e ds _ a)
  | .tuple ds, _, .tup h a => .tup (sqT_extI e h) (dpAll_extI e ds _ a)
theorem dpAll_extI {K : PySem.W.Frag} {H H' : Hp} (e : ExtI H H') : ∀ (ds : List PyData) (vs : List V), DpAll K H vs ds → DpAll K H' vs ds
  | [], _, .nil => .nil
  | d :: ds, _, .cons h a => .cons (dp_extI e d _ h) (dpAll_extI e ds _ a)
end
section
variable {c : Cf} {M : Mu} {H H1 H' : Hp} {G : Env'} {tv : TE} {t2 : TS} {σ : L2.St} {D : Ends} {x dx : Addr} {fs fs' : List (Str × V)} {d : PyData} {f : Str}
theorem ins_ne (k : Ok c M H) (h : H x = some (.ins c.C dx fs)) : x ∉ M.map (·.1) := fun z => by
  obtain ⟨p, hp, e⟩ := List.mem_map.mp z
  obtain ⟨xs, h1, _⟩ := k.m p hp
  rw [e, h] at h1
  cases h1
theorem extI_put (hx : H x = some (.ins c.C dx fs)) (hn : x ∉ M.map (·.1)) : ExtI (hid M H) (hid M (upd H x (.ins c.C dx fs'))) := fun b o e _ n2 => by
  rw [hid_upd hn]
  refine (upd_ne fun z => ?_).trans e
  rw [z, hid_of hx hn] at e
  exact n2 _ _ _ (someI e).symm
theorem ok_put (k : Ok c M H) (hx : H x = some (.ins c.C dx fs)) : Ok c M (upd H x (.ins c.C dx fs')) := by
  have ne : ∀ {b : Addr} {o : HO}, H b = some o → (∀ C dx fs, o ≠ .ins C dx fs) → upd H x (.ins c.C dx fs') b = some o := fun {b o} e n => by
    refine (upd_ne fun z => ?_).trans e
    rw [z, hx] at e
    exact n _ _ _ (someI e).symm
  refine ⟨fun P hP => ?_, fun p hp => ?_, fun p hp => ?_⟩
  · obtain ⟨ps, h1, h2⟩ := k.g P hP
    exact ⟨ps, ne h1 (fun _ _ _ q => nomatch q), h2⟩
  · obtain ⟨ps, h1, h2, h3⟩ := k.l p hp
    refine ⟨ps, ne h1 (fun _ _ _ q => nomatch q), h2, fun pos cv e => ?_⟩
    obtain ⟨c', e1, e2⟩ := h3 pos cv e
    exact ⟨c', e1, ne e2 (fun _ _ _ q => by unfold LamX.CodeO at q; cases q)⟩
  · obtain ⟨xs, h1, h2⟩ := k.m p hp
    exact ⟨xs, ne h1 (fun _ _ _ q => nomatch q), h2⟩
/-- self.f = .. in __init__ -/
theorem init_fld (hc : Cls c.K c.C) (hf : NoAttr c.K c.C f) (hv : EvD c M tv G (.d d)) (s : Sig c M H σ G) (k : Ok c M H) (hx : H x = some (.ins c.C dx fs)) (hg : G[0]? = some (some (.at x))) (hl : fs.length < 1000)
    (n : ∀ y H1, Ex c M H H1 → Dp c.K (hid M H1) y d → H1 x = some (.ins c.C dx fs) → t2 D σ (upd H1 x (.ins c.C dx (putF f y fs)))) : tSeq (sFld c.K (tVar 0) tv f) t2 D σ H :=
  hv σ H s k _ fun y H1 b eb e1 ry => by
    subst eb
    obtain ⟨v, h1, rfl⟩ := (s.mono e1).at_ 0 _ hg
    have hx1 : H1 x = some (.ins c.C dx fs) := e1.1 x _ hx (fun _ q => nomatch q) (ins_ne k hx)
    exact ⟨.ref x, h1, x, c.C, dx, fs, rfl, hx1, hc, hf, hl, n y H1 e1 ry hx1⟩
end
theorem run_rest {c : Cf} {M : Mu} {t : TS} {G : Env'} {PG : Env' → Prop} {σ : L2.St} {H : Hp} {D : Ends} (body : StP c M t G PG fun _ => False) (s : Sig c M H σ G) (k : Ok c M H) (n : ∀ σ' H', Ex c M H H' → D.nx σ' H') : t D σ H :=
  body σ H s k D (fun σ' H' G' _ e _ => n σ' H' e) fun _ _ _ z _ _ => z.elim
/-- the promise of Plans.__init__ -/
def spInit (c : Cf) : Sp := fun vs H Q _ => ∃ (x dx : Addr) (vp vl : V) (M : Mu) (m : Nat) (ps : List (List Chc)) (l : Rat), vs = [.ref x, vp, vl] ∧ H x = some (.ins c.C dx []) ∧ Dp c.K (hid M H) vp (dPls ps) ∧ Dp c.K (hid M H) vl (dQ l) ∧ Ok c M H ∧ PlanOk m ps l ∧
  ∀ H', (∀ b o, H b = some o → (∀ qs, o ≠ .tbl qs) → b ∉ M.map (·.1) → b ≠ x → H' b = some o) → (∀ b, H' b = none → H b = none) → Ok c M H' → Rel c M H' (.ref x) (aP ps l) → Q .non H'
theorem row_sumOk {m : Nat} {row : List Rat} (h : RowOk m row) (hm : m ≤ 6) : SumOk 0 row := by
  have hl := h.len
  refine sum_ok (a := 66) (b := 66) (m := 6) (by decide) (by decide +kernel) (by decide +kernel) (by decide +kernel) row 0 0 (by omega) bd_zero (h.bd (by omega) (by decide))
theorem row_one {m : Nat} {row : List Rat} (h : RowOk m row) : sumQ row = 1 := by
  rw [sumQ_N, h.len]
  exact h.ch.one
theorem row_chance {m : Nat} {row : List Rat} (h : RowOk m row) (hm : m ≤ 6) {q : Rat} (hq : q ∈ row) : Fit q ∧ q.den < loB ∧ 0 ≤ q ∧ q ≤ 1 := by
  have b := h.bd (B := 66) (by omega) (by decide) q hq
  have c := h.ch
  obtain ⟨j, hj, e⟩ := List.getElem_of_mem hq
  have ej : at0 row j = q := at0_lt (by rw [List.getElem?_eq_getElem hj, e])
  have lo : 66 < loB := by decide +kernel
  have hi : 66 < nB := Nat.lt_of_lt_of_le lo loB_nB
  refine ⟨b.fit hi hi, Nat.lt_of_le_of_lt b.d lo, by rw [← ej]; exact c.nn j, ?_⟩
  have h1 : at0 row j ≤ sumN m (at0 row) := by
    have e2 := sumN_one (n := m) (a := j) (f := fun i => if i = j then at0 row j else 0) (by rw [← h.len]; exact hj) fun i _ hn => if_neg hn
    rw [if_pos rfl] at e2
    rw [← e2]
    refine sumN_le fun i _ => ?_
    split
    · rename_i z
      rw [z]
      exact Rat.le_refl
    · exact c.nn i
  rw [c.one, ej] at h1
  exact h1
theorem eta_part (q : Rat) (h : Fit q) (hd : q.den < loB) {M : Mu} {P : AV → Prop} (hp : P (aQ q)) : R_part M [aI q.num, aI (q.den : Int)] P := by
  have := den_pos q
  exact ⟨q.num, (q.den : Int), rfl, by omega, hd, h.hi, by rw [q_eta]; exact hp⟩
section
variable {P : Program} {w : World} {c : Cf} {mg : Str → Option Value} {base : Heap} {cA T : Addr}
theorem ok_P_init (B : Bt mg) (Tp : PlTxt c) (hT : T ∈ c.gs) (hl : ∀ p ∈ c.ls, p.1 ≠ T) (D : DefIT c mg base s_P_init cA T) (c_part : CalPart P w c mg base) (c_check_chance : Cal P w c mg base CX0 3 "check_chance" ["one"] (spR c R_check_chance)) (c_total : CalTo P w c mg base) :
    CalI P w c mg base CX0 5 ["self", "places", "later"] (spInit c) := by
  have tb := D.tb
  refine D.cal sc_P_init bd_P_init (fun vs H Q E ⟨_, _, _, _, _, _, _, _, e, _⟩ => by rw [e]; rfl) fun f A outer s H E hr => ⟨_, PSs.nox ((pss_cons (ps_fld (pv 0) (pe_lc (own := [("choices", 5)]) (g := (gName 5)) (tt := tYes) rfl sc_P_init.nd (pi_list (pv 1)) (blkOk_by (N := N_P_init) (sc := defScope s_P_init) (by decide +kernel)) (fun _ _ _ _ _ => (pg_name (i := 5) sc_P_init.nd rfl (.inl rfl))) (fun _ _ _ _ _ => pts_nil) (fun _ _ _ _ _ => (pe_lc (own := [("pay", 3), ("row", 4)]) (g := (gTup c.K 2 (gCons (gName 3) (gCons (gName 4) gNil)))) (tt := tYes) rfl sc_P_init.nd (pi_listK (K := c.K) rfl (pv 5)) (blkOk_by (by rfl)) (fun _ _ _ _ _ => (pg_tup rfl (pgs_cons (pg_name (i := 3) sc_P_init.nd rfl (.inl rfl)) (pgs_cons (pg_name (i := 4) sc_P_init.nd rfl (.inl rfl)) pgs_nil)))) (fun _ _ _ _ _ => pts_nil) (fun _ _ _ _ _ => (pe_tup (pa_cons (pe_cal rfl (c_part.mono (by omega)) hr (by rfl) pass0 (pa_cons (pe_ix (r := rIx c.K) ix_seq (pv 3) pe_int (fun _ _ => rfl)) (pa_cons (pe_ix (r := rIx c.K) ix_seq (pv 3) pe_int (fun _ _ => rfl)) pa_nil))) (pa_cons (pe_callTy (T := "tuple") (r := rTupQ c.K) call_tupQ (by rfl) B.tuple (by decide +kernel) (pa_cons (pv 4) pa_nil)) pa_nil))))))) rfl)
      (pss_cons (ps_fld (pv 0) (pe_cal rfl (c_check_chance.mono (by omega)) hr (by rfl) pass0 (pa_cons (pv 2) pa_nil)) rfl)
      (pss_cons (ps_set (i := 6) sc_P_init.nd rfl (.inl rfl) (pe_callB call_lenQ (by rfl) B.len PySem.boot_len (pa_cons (pe_fld (pv 0) rfl) pa_nil)))
      (pss_cons (ps_if (PW.pt (pw_or (pt_cmpR (op_eqD hr.units) (pv 6) pe_int (nomark _)) (pw_or (pt_val (pe_anyF hr (by rfl) B.any tb rfl (genS_by (by decide +kernel)) (pe_fld (pv 0) rfl) (eltF_eqNil hr rfl rfl) (fun _ => rfl))) (pw_or1 (pt_cmpR (op_eqD hr.units) (pe_fld (pv 0) rfl) (pe_tup (pa_cons pe_int (pa_cons pe_int pa_nil))) (nomark _)))))) (pss_one ps_never) pss_nil)
      (pss_one (ps_for PassesOwn.never rfl (pi_list (pe_fld (pv 0) rfl)) (pg_name (i := 5) sc_P_init.nd rfl (.inl rfl)) (pss_one (ps_for PassesOwn.never rfl (pi_list (pv 5)) (pg_tup rfl (pgs_cons (pg_name (i := 3) sc_P_init.nd rfl (.inl rfl)) (pgs_cons (pg_name (i := 4) sc_P_init.nd rfl (.inl rfl)) pgs_nil))) (pss_one (ps_if (PW.pt (pw_or (pt_cmpR (op_neD hr.units) (pe_callB call_lenQ (by rfl) B.len PySem.boot_len (pa_cons (pv 4) pa_nil)) (pv 6) (nomark _)) (pw_or1 (pt_cmpR (op_neD hr.units) (pe_cal rfl (c_total.mono (by omega)) hr (by rfl) pass0 (pa_cons (pe_lc (own := [("one", 7)]) (g := (gName 7)) (tt := tYes) rfl sc_P_init.nd (pi_tup (pv 4)) (blkOk_by (N := N_P_init) (sc := defScope s_P_init) (by decide +kernel)) (fun _ _ _ _ _ => (pg_name (i := 7) sc_P_init.nd rfl (.inl rfl))) (fun _ _ _ _ _ => pts_nil) (fun _ _ _ _ _ => (pe_cal rfl (c_check_chance.mono (by omega)) hr (by rfl) pass0 (pa_cons (pv 7) pa_nil)))) pa_nil)) (pe_tup (pa_cons pe_int (pa_cons pe_int pa_nil))) (nomark _))))) (pss_one ps_never) pss_nil))))))))))), ?_⟩
  rintro vs Q ⟨x, dx, vp, vl, M, m, ps, l, rfl, hx, r1, r2, kH, h, q⟩
  have hm6 := h.m6
  have lo : 2000 < loB := Nat.lt_of_lt_of_le (by decide : 2000 < 2 ^ 11) (Nat.pow_le_pow_right (by decide) (by decide))
  have hi : 2000 < nB := Nat.lt_of_lt_of_le lo loB_nB
  have lfit : Fit l := h.lb.fit (by omega) (by omega)
  have sg : ∀ {Hx : Hp}, Dp c.K (hid M Hx) vp (dPls ps) → Dp c.K (hid M Hx) vl (dQ l) → Sig c M Hx (L2.start N_P_init [.ref x, vp, vl]) (startG 8 [.at x, .d (dPls ps), aQ l]) := fun {Hx} a b => sig_start (N := N_P_init) (vs := [.ref x, vp, vl]) (as := [.at x, .d (dPls ps), aQ l]) ⟨rfl, a, b, trivial⟩
  refine init_fld (d := dPls ps) (x := x) (fs := []) Tp.cl Tp.nP (ev_lc (es := ps.map dPlc) (it_list (ds := ps.map dPlc) (ev_var rfl)) (by rw [List.length_map, h.len]; omega) (by simp) ?_) (sg r1 r2) kH hx rfl (by decide) fun y H1 e1 ry hx1 => ?_
  · intro M' hM i d e hd he
    rw [hd] at he
    obtain rfl := someI he
    obtain ⟨chs, hc, rfl⟩ := map_at hd
    have hcm := List.mem_of_getElem? hc
    have hle := h.le chs hcm
    refine ⟨_, _, tg_name, by simp, ev_lc (es := chs.map dChc) (it_list (ds := chs.map dChc) (ev_var rfl)) (by rw [List.length_map]; omega) (by simp) ?_⟩
    intro M2 hM2 j d e hd he
    rw [hd] at he
    obtain rfl := someI he
    obtain ⟨z, hz, rfl⟩ := map_at hd
    have pb := h.pay chs hcm z (List.mem_of_getElem? hz)
    have pf : Fit z.1 := pb.fit (by omega) (by omega)
    refine ⟨_, _, tg_tup2 tg_name tg_name, by simp, ev_tup (ds := [dQ z.1, dRow z.2]) (ea_cons (ev_call (P := fun v => v = aQ z.1) (ea_cons (ev_top (ev_var rfl) ev_int) (ea_cons (ev_low (ev_var rfl) ev_int) ea_nil)) (eta_part z.1 pf (Nat.lt_of_le_of_lt pb.d (by omega)) rfl)) (ea_cons (ev_cb (as := [aT (z.2.map dQ)]) (ea_cons (ev_var rfl) ea_nil) rc_tupT) ea_nil)) (by show 2 ≤ 1000; decide)⟩
  have xM := ins_ne kH hx
  have k1 := e1.2 kH
  have k2 : Ok c M (upd H1 x (.ins c.C dx (putF "places" y []))) := ok_put k1 hx1
  have i1 : ExtI (hid M H1) (hid M (upd H1 x (.ins c.C dx (putF "places" y [])))) := extI_put hx1 xM
  have p2 := dp_extI i1 _ _ (dp_ext e1.hid _ _ r1)
  have l2 := dp_extI i1 _ _ (dp_ext e1.hid _ _ r2)
  have y2 := dp_extI i1 _ _ ry
  refine init_fld (d := dQ l) (x := x) (dx := dx) (fs := putF "places" y []) Tp.cl Tp.nL (ev_call (P := fun v => v = aQ l) (ea_cons (ev_var rfl) ea_nil) ⟨l, rfl, lfit, Nat.lt_of_le_of_lt h.lb.d (by omega), h.l0, by have := h.l1; grind, rfl⟩) (sg p2 l2) k2 upd_same rfl (by show 1 < 1000; decide) fun y3 H3 e3 ry3 hx3 => ?_
  have k3 := e3.2 k2
  have k4 : Ok c M (upd H3 x (.ins c.C dx (putF "later" y3 (putF "places" y [])))) := ok_put k3 hx3
  have i3 : ExtI (hid M H3) (hid M (upd H3 x (.ins c.C dx (putF "later" y3 (putF "places" y []))))) := extI_put hx3 xM
  have p4 := dp_extI i3 _ _ (dp_ext e3.hid _ _ p2)
  have l4 := dp_extI i3 _ _ (dp_ext e3.hid _ _ l2)
  have y4 := dp_extI i3 _ _ (dp_ext e3.hid _ _ y2)
  have y5 := dp_extI i3 _ _ ry3
  have ef : putF "later" y3 (putF "places" y []) = flds y y3 := by with_unfolding_all rfl
  rw [ef] at k4 i3 p4 l4 y4 y5 ⊢
  have rI : Rel c M (upd H3 x (.ins c.C dx (flds y y3))) (.ref x) (aP ps l) := ⟨x, dx, y, y3, rfl, hid_of upd_same xM, y4, y5⟩
  have s4 : Sig c M (upd H3 x (.ins c.C dx (flds y y3))) (L2.start N_P_init [.ref x, vp, vl]) [some (aP ps l), some (.d (dPls ps)), some (aQ l), none, none, none, none, none] := Sig.know (i := 0) (v := .ref x) (sg p4 l4) rfl rI
  refine run_rest (G := [some (aP ps l), some (.d (dPls ps)), some (aQ l), none, none, none, none, none]) (PG := fun G => ∃ y3 y4 y5 y6 y7, G = [some (aP ps l), some (.d (dPls ps)), some (aQ l), y3, y4, y5, y6, y7]) ?_ s4 k4 (fun σ' H' e => ?_)
  rotate_left
  · refine q H' (fun b o hb n1 n2 n3 => ?_) (fun b hb => ?_) (e.2 k4) (Rel.mono e rI)
    · refine e.1 b o ?_ n1 n2
      rw [upd_ne n3]
      refine e3.1 b o ?_ n1 n2
      rw [upd_ne n3]
      exact e1.1 b o hb n1 n2
    · have h4 := e.3 b hb
      by_cases hbx : b = x
      · rw [hbx, upd_same] at h4
        cases h4
      · rw [upd_ne hbx] at h4
        have h2 := e3.3 b h4
        rw [upd_ne hbx] at h2
        exact e1.3 b h2
  refine st_seq (PG1 := fun G => G = [some (aP ps l), some (.d (dPls ps)), some (aQ l), none, none, none, some (aI (m : Int)), none]) (st_set (ev_many Tp h (ev_var rfl)) rfl) ?_
  rintro G rfl
  refine st_seq (PG1 := fun G => G = [some (aP ps l), some (.d (dPls ps)), some (aQ l), none, none, none, some (aI (m : Int)), none]) (st_if (b := false) (et_is (et_or (et_test (ev_op (ev_var rfl) ev_int rv_eqDI)) fun _ => et_or (et_B (ev_anyF (ds := ps.map dPlc) hT hl (ev_places Tp (ev_var rfl)) ?_)) fun _ => et_test (ev_op (ev_later Tp (ev_var rfl)) (ev_tup (ds := [.int 1, .int 1]) (ea_cons ev_int (ea_cons ev_int ea_nil)) (by show 2 ≤ 1000; decide)) (rv_eqDQ (b := 1)))) ?_) (fun h => absurd h (by simp)) fun _ => st_next rfl) ?_
  · intro d hd v Hx hv
    obtain ⟨chs, hc, rfl⟩ := List.mem_map.mp hd
    obtain ⟨a, xs, rfl, hs, ha⟩ := dp_lst hv
    have hlen := dpAll_len ha
    have hne := h.ne chs hc
    cases xs with
    | nil =>
      rw [List.length_map] at hlen
      exact absurd (List.length_eq_zero_iff.mp hlen.symm) hne
    | cons y0 ys => exact ⟨a, y0, ys, rfl, sqL_hid hs⟩
  · have h1 := h.m1
    have h2 := h.l1
    rw [decide_eq_false (by omega), decide_eq_false (by intro z; rw [z] at h2; exact Rat.lt_irrefl h2)]
    rfl
  rintro G rfl
  refine st_for (it_list (ds := ps.map dPlc) (ev_places Tp (ev_var rfl))) (fun _ G => ∃ y3 y4 y5, G = [some (aP ps l), some (.d (dPls ps)), some (aQ l), y3, y4, y5, some (aI (m : Int)), none]) ⟨none, none, none, rfl⟩ ?_ fun G ⟨_, _, _, e⟩ => ⟨_, _, _, _, _, e⟩
  rintro i d G hd ⟨y3, y4, y5, rfl⟩
  obtain ⟨chs, hc, rfl⟩ := map_at hd
  have hcm := List.mem_of_getElem? hc
  refine ⟨_, _, tg_name, st_for (it_list (ds := chs.map dChc) (ev_var rfl)) (fun _ G => ∃ y3 y4, G = [some (aP ps l), some (.d (dPls ps)), some (aQ l), y3, y4, some (.d (dPlc chs)), some (aI (m : Int)), none]) ⟨y3, y4, rfl⟩ ?_ fun G ⟨_, _, e⟩ => ⟨_, _, _, e⟩⟩
  rintro j d G hd ⟨z3, z4, rfl⟩
  obtain ⟨z, hz, rfl⟩ := map_at hd
  have hr2 := h.row chs hcm z (List.mem_of_getElem? hz)
  refine ⟨_, _, tg_tup2 tg_name tg_name, st_if (b := false) (et_is (et_or (et_test (ev_op (ev_cb (as := [aT (z.2.map dQ)]) (ea_cons (ev_var rfl) ea_nil) rc_lenT) (ev_var rfl) rv_neDI)) fun _ => et_test (ev_op (a := aQ (sumQ z.2)) (ev_call (P := fun v => v = aQ (sumQ z.2)) (ea_cons (ev_lc (es := z.2.map dQ) (it_tup (ds := z.2.map dQ) (ev_var rfl)) (by rw [List.length_map, hr2.len]; omega) (by simp) ?_) ea_nil) ⟨z.2, rfl, by rw [hr2.len]; omega, row_sumOk hr2 hm6, rfl⟩) (ev_tup (ds := [.int 1, .int 1]) (ea_cons ev_int (ea_cons ev_int ea_nil)) (by show 2 ≤ 1000; decide)) (rv_neDQ (b := 1)))) ?_) (fun h => absurd h (by simp)) fun _ => st_next ⟨some (aQ z.1), some (.d (dRow z.2)), rfl⟩⟩
  · intro M' hM k d e hd he
    rw [hd] at he
    obtain rfl := someI he
    obtain ⟨a, ha, rfl⟩ := map_at hd
    obtain ⟨f1, f2, f3, f4⟩ := row_chance hr2 hm6 (List.mem_of_getElem? ha)
    exact ⟨_, _, tg_name, by simp, ev_call (ea_cons (ev_var rfl) ea_nil) ⟨a, rfl, f1, f2, f3, f4, rfl⟩⟩
  · rw [List.length_map, hr2.len, row_one hr2]
    simp
/-- Plans(places, later) -/
theorem ev_make {M : Mu} {G : Env'} {E : XK} {tx ty : TE} {m : Nat} {ps : List (List Chc)} {l : Rat} (h : PlanOk m ps l) (h1 : EvD c M tx G (.d (dPls ps))) (h2 : EvD c M ty G (aQ l)) : EvD c M (tMake c.C (spInit c) [] E (tCons tx (tCons ty tNil))) G (aP ps l) := fun σ H s k Q q =>
  (ea_cons h1 (ea_cons h2 ea_nil)) σ H s k _ fun vs H1 as e e1 r1 => by
    subst e
    obtain ⟨vp, vl, rfl, r1, r2⟩ := relAll_two r1
    intro x dx nx nd hne
    rw [List.append_nil]
    have k1 := e1.2 k
    have e2 : Ex c M H1 (upd H1 dx (.own x)) := Ex.new nd
    have nx2 : upd H1 dx (.own x) x = none := by rw [upd_ne (fun z => hne z.symm)]; exact nx
    have e3 : Ex c M (upd H1 dx (.own x)) (upd (upd H1 dx (.own x)) x (.ins c.C dx [])) := Ex.new nx2
    have e23 := e2.trans e3
    refine ⟨x, dx, vp, vl, M, m, ps, l, rfl, upd_same, dp_ext e23.hid _ _ r1, dp_ext e23.hid _ _ r2, e23.2 k1, h, fun H' hk hd ok rel => ⟨rfl, ?_⟩⟩
    refine q _ H' (aP ps l) rfl (e1.trans ⟨fun b o hb n1 n2 => hk b o (e23.1 b o hb n1 n2) n1 n2 (ne_of_none hb nx), fun _ => ok, fun b hb => e23.3 b (hd b hb)⟩) rel
end
end LW

set_option maxHeartbeats 2100000
/-! try .. except (X, Y): ..; a lambda handed to _law_taken. -/
namespace LW
open L2 PySem PySem.Spec PyProof.Rows
theorem flying_push {B h : Heap} {l : List Env} {a : Addr} {Z : Obj → Prop} (o : Obj) (x : HandSPX.FlyingZ B l a Z h) : HandSPX.FlyingZ B l a Z (h.push o) := by
  have kp : ∀ b u, h.get? b = some u → (h.push o).get? b = some u := fun b u e => Heap.get?_push_of_some _ e
  obtain ⟨x1, x2, x3, oe, vs, T, oT, ts, y1, y2, y3, y4, y5, y6, y7, y8, y9⟩ := x
  exact ⟨fun b u e => kp b u (x1 b u e), x2, Heap.FunFrames.of_keeps (fun b u e _ => ⟨u, kp b u e, rfl⟩) x3, oe, vs, T, oT, ts, kp _ _ y1, y2, y3, y4, y5, y6, kp _ _ y7, y8, y9⟩
/-- what the clause 'except (x, y)' wishes: it takes the exception -/
def wTwo (K : PySem.W.Frag) (c1 c2 : Value) (ts : Addr → Value → Option Addr → TS) (D : Ends) : WX := fun cls d σ H => PySem.W.exmAny K cls [c1, c2] = some true ∧ ∀ a, H a = none → ts a cls d D σ H
section
variable {X : Cx} {x1 x2 : Str} {c1 c2 : Value} {body suite : List Stmt} {b0 : Stmt} {np1 np2 tp pos pos' : Pos} {kk : Nat} {tb : WX → TS} {ts : Addr → Value → Option Addr → TS}
theorem ps_try_two (hs : X.stack = X.env :: X.outer) (hf : X.env.frame = some X.env.locals) (n1 : Names X x1 c1) (n2 : Names X x2 c2)
    (hbody : ∀ (W : WX) (pn : List (Addr × Obj)) (xe : Value → Shared → Prop), Takes (X.tr pn xe) W → PSs (X.tr pn xe) body (tb W))
    (hsuite : ∀ (a : Addr) (oe : Obj) (cls : Value) (d : Option Addr) (pn : List (Addr × Obj)), PSs (X.suite a ((a, oe) :: pn)) (b0 :: suite) (ts a cls d))
    (he : starEach [.Name x1 np1, .Name x2 np2] X.env = [(false, eval (.Name x1 np1) X.env), (false, eval (.Name x2 np2) X.env)] := by rfl) :
    PS X (.Try body [.ExceptHandler (some (.Tuple [.Name x1 np1, .Name x2 np2] kk tp)) none (b0 :: suite) pos'] [] [] pos) (fun D σ H => tb (wTwo X.K c1 c2 ts D) D σ H) := by
  refine ⟨fun pins s σ H D I h => wpAny_Try_except ?_⟩
  have okX := I.ok
  have frm : X.A.frames = some (X.env :: X.outer) := hs ▸ okX.frames
  let clause : ExceptHandler := .ExceptHandler (some (.Tuple [.Name x1 np1, .Name x2 np2] kk tp)) none (b0 :: suite) pos'
  let xe2 : Value → Shared → Prop := fun e sA => wpAny (model X.prog X.w) X.A (noteFrame e X.env) (fun _ sB => wpAny (model X.prog X.w) X.A (setFlight e none) (fun _ sC => wpAny (model X.prog X.w) X.A (handleBy e X.env [clause]) (SP X pins D) X.xe sC) X.xe sB) X.xe sA
  have tk : Takes (X.tr (X.pn ++ pins) xe2) (wTwo X.K c1 c2 ts D) := fun u s' xx => by
    obtain ⟨a, B, sI, pins2, σ', H', cls, d, rfl, J0, nb, up, sky, na, os, ag, hex, hyes⟩ := xx
    have J : Inv X pins σ' H' sI := J0.ofTry okX
    refine Sky.land Zc.steady frm hf (hs ▸ sky) fun h3 fl3 up3 => ?_
    have Jl : Inv X pins σ' H' { s' with heap := h3 } := J.landed nb fl3.1 (up.trans up3) os ag
    obtain ⟨oe3, _, he3, hz3, hd3⟩ := fl3.there
    have apart : ∀ {hh : Heap} {o : Obj} {vs : Array Value}, hh.FunFrames B (X.env :: X.outer) → hh.get? a = some o → o.data = .fields vs → a ∉ frs (X.env :: X.outer) := fun {hh o vs} ff e dd hm => by
      obtain ⟨_, o1, e1, noF⟩ := ff.mem hm
      obtain rfl := someI (e.symm.trans e1)
      exact noF _ dd
    have nfr := apart fl3.2.2.1 he3 hd3
    have nL : a ≠ X.env.locals := fun z => nfr (List.mem_filterMap.mpr ⟨X.env, List.mem_cons_self, z ▸ hf⟩)
    have outF : a ∉ X.fs := fun hin => by
      obtain ⟨e, hee, q⟩ := List.mem_filterMap.mp hin
      exact nfr (List.mem_filterMap.mpr ⟨e, List.mem_cons_of_mem _ hee, q⟩)
    have su3 := Jl.suite he3 hd3 na nL outF
    have nameAt : ∀ {x : Str} {c : Value} {np : Pos} {Q : Value → Shared → Prop} {E : Value → Shared → Prop}, Names X x c → Q c { s' with heap := h3 } → wpAny (model X.prog X.w) (X.A.mark (some (.ref a))) (eval (.Name x np) X.env) Q E { s' with heap := h3 } := fun {x c np Q E} hn q => by
      obtain ⟨hg, hdbg, hm | ⟨hm, hv, hnn⟩⟩ := hn
      · exact ld_glob (X := X.suite a ((a, oe3) :: (X.pn ++ pins))) su3 hg hm q hdbg
      · exact ld_blt (X := X.suite a ((a, oe3) :: (X.pn ++ pins))) su3 hg hm hv q hnn hdbg
    refine wpAny_handleBy_cons (codeAny_handlers_test ?_) (by intro z; cases z)
    refine wpAny_Tuple ?_
    rw [he]
    refine Calls.spliced_cons (nameAt n1 (Calls.spliced_cons (nameAt n2 (Calls.spliced_nil ⟨by show 2 ≤ sizeLine; decide, ?_⟩))))
    let oT : Obj := { cls := .type "tuple", data := .seq [c1, c2].toArray }
    have kp : ∀ b u, h3.get? b = some u → (h3.push oT).get? b = some u := fun b u e => Heap.get?_push_of_some _ e
    have LT : PySem.W.Looks (model X.prog X.w) (h3.push oT) (typeOf (.ref a)) cls := fun A Q E s k q => wpAny_typeOf_ref (k _ _ (kp _ _ he3)) (by rw [hz3.1]; exact q)
    have KI : X.K.In (h3.push oT) := Jl.kIn.keeps kp
    have LM := PySem.W.exm_tup2 (M := model X.prog X.w) (tp := h3.objs.size) KI LT (Heap.get?_push_size _ rfl) hex
    refine LM.here (codeAny_handlers_suite (HandSPX.lands_againZ (flying_push oT fl3) fun h4 fl4 up4 => ?_))
    have J4 : Inv X pins σ' H' { s' with heap := h4 } := J.landed nb fl4.1 ((up.trans up3).trans ((Heap.UpToSlots.of_keeps kp).trans up4)) os ag
    obtain ⟨oe4, _, he4, _, hd4⟩ := fl4.there
    have su4 := J4.suite he4 hd4 na nL outF
    refine wpAny_mono ((hsuite a oe4 cls d (X.pn ++ pins)).run [] _ _ H' _ su4 (hyes a na)) (fun fl s6 hsp => ?_) (fun _ _ z => False.elim z)
    cases fl with
    | ret u => obtain ⟨v6, σ6, H6, S6, r6, q6⟩ := hsp; exact ⟨_, _, _, S6.unsuite okX, r6, q6⟩
    | next => obtain ⟨σ6, H6, S6, q6⟩ := hsp; exact ⟨_, _, S6.unsuite okX, q6⟩
    | brk => obtain ⟨σ6, H6, S6, q6⟩ := hsp; exact ⟨_, _, S6.unsuite okX, q6⟩
    | cont => obtain ⟨σ6, H6, S6, q6⟩ := hsp; exact ⟨_, _, S6.unsuite okX, q6⟩
  refine wpAny_mono ((hbody (wTwo X.K c1 c2 ts D) (X.pn ++ pins) xe2 tk).run [] s σ H D (I.toTry _) h) (fun fl s1 hsp => ?_) (fun e s1 hee => hee)
  cases fl with
  | ret u => obtain ⟨v, σ', H', J', r, q⟩ := hsp; exact ⟨v, σ', H', J'.ofTry okX, r, q⟩
  | next => obtain ⟨σ', H', J', q⟩ := hsp; exact wpAny_execs_nil ⟨σ', H', J'.ofTry okX, q⟩
  | brk => obtain ⟨σ', H', J', q⟩ := hsp; exact ⟨σ', H', J'.ofTry okX, q⟩
  | cont => obtain ⟨σ', H', J', q⟩ := hsp; exact ⟨σ', H', J'.ofTry okX, q⟩
end
/-! ### a lambda is made -/
/-- H1 is H but for the table at T and a new code object -/
structure Grown (T : Addr) (H H1 : Hp) : Prop where
  keep : ∀ b o, H b = some o → b ≠ T → H1 b = some o
  dom : ∀ b, H1 b = none → H b = none
section
variable {X : Cx} {pins : List (Addr × Obj)} {H : Hp} {σ : L2.St} {s : Shared}
theorem lam_grow {cA T : Addr} {params : Arguments} {body : Expr} {scope : Scope} {pos : Pos} {E : Value → Shared → Prop} {Z : Value → Shared → Prop} (I : Inv X pins σ H s) (TB : LamX.TabB X.base X.mg cA T) (hcode : X.env.code = .ref cA)
    (hT : LamX.TabS H T (X.env.qual ++ "<lambda>")) (hdef : defaultsOf params X.env = ([], [])) (hfree : ∀ y ∈ scope.names, y.2 = .free → ∃ c, X.env.cells.lookup y.1 = some c)
    (h : ∀ (f c' : Addr) (pm ctv : Value) (H1 : Hp) (s' : Shared), Inv X pins σ H1 s' → Grown T H H1 → LamX.TabS H1 T (X.env.qual ++ "<lambda>") →
      s'.heap.get? f = some (PySem.W.kla_obj "<lambda>" (X.env.qual ++ "<lambda>") params body scope (cloFrom X.env.cells scope.names []) pm c' ctv) → H1 f = none → f ∉ frs X.stack → H1 c' = some (LamX.CodeO c' (X.env.qual ++ "<lambda>")) → Z (.ref f) s') :
    wpAny (model X.prog X.w) X.A (eval (.Lambda params body scope pos) X.env) Z E s := by
  obtain ⟨ps, hps, hok, hall⟩ := hT
  have bT : s.heap.BuiltinsAt X.mg T := TB.bm.keeps I.bk
  have tabT : s.heap.get? T = some { cls := .none, data := .fields ps } := I.hok T _ hps
  have far : ∀ f, s.heap.objs.size ≤ f → f ∉ frs X.stack := fun f hle z => by
    rcases memC (I.stkSub _ z) with e | e
    · have hlt := I.lt
      rw [← e] at hlt
      exact Nat.lt_irrefl _ (Nat.lt_of_lt_of_le hlt hle)
    · exact I.nofs hle e
  apply PySem.W.kla_eval hdef
  cases found : codeAmong pos ps.toList with
  | some cv =>
    obtain ⟨c', e, hco⟩ := hall pos cv found
    subst e
    refine PySem.W.kla_makeFunctionHit (mg := X.mg) (c := cA) (P := T) (ps := ps) (closure_ok hfree) I.ok.glob (I.mod.glob.keeps I.bk) hcode (TB.code.keeps I.bk) tabT hok found bT fun ctv h' tk hx hsz => ?_
    let fo := PySem.W.kla_obj "<lambda>" (X.env.qual ++ "<lambda>") params body scope (cloFrom X.env.cells scope.names []) ((X.mg "__name__").getD .none) c' ctv
    have I1 : Inv X pins σ H { s with heap := h'.push fo, toks := tk } := I.kept fun b o e => Heap.get?_push_of_some _ (hx b o e)
    exact h h'.objs.size c' _ ctv H _ I1 ⟨fun _ _ e _ => e, fun _ e => e⟩ ⟨ps, hps, hok, hall⟩ (Heap.get?_push_size _ rfl) (I.hok.fresh hsz) (far _ hsz) hco
  | none =>
    refine PySem.W.kla_makeFunction (mg := X.mg) (c := cA) (P := T) (ps := ps) (closure_ok hfree) I.ok.glob (I.mod.glob.keeps I.bk) hcode (TB.code.keeps I.bk) tabT hok found TB.gP bT fun c' ctv h' tk hx hge hlt hrec htb => ?_
    obtain ⟨_, oc, vs, t, e2, hoc, hd, hv⟩ := hrec
    cases e2
    have grow : s.heap.objs.size ≤ h'.objs.size := Nat.le_trans hge (Nat.le_of_lt hlt)
    have fresh : H c' = none := I.hok.fresh hge
    have neT : ∀ {b : Addr} {o : HO}, H b = some o → b ≠ c' := fun e => ne_of_none e fresh
    let fo := PySem.W.kla_obj "<lambda>" (X.env.qual ++ "<lambda>") params body scope (cloFrom X.env.cells scope.names []) ((X.mg "__name__").getD .none) c' ctv
    have I1 := LamX.inv_table (t' := tk) (more := #[rawInt pos.line, rawInt pos.col, .ref c']) (h' := h'.push fo) I hps (fun b o hb e => Heap.get?_push_of_some _ (hx b o hb e)) (Heap.get?_push_of_some _ htb) hge ⟨oc, vs, t, Heap.get?_push_of_some _ hoc, hd, hv⟩
    have asL : (ps ++ #[rawInt pos.line, rawInt pos.col, .ref c']).toList = ps.toList ++ [rawInt pos.line, rawInt pos.col, .ref c'] := by simp
    have keepN : ∀ b o, H b = some o → b ≠ T → upd (upd H T (.tbl (ps ++ #[rawInt pos.line, rawInt pos.col, .ref c']))) c' (LamX.CodeO c' (X.env.qual ++ "<lambda>")) b = some o := fun b o e n => by
      rw [upd_ne (neT e), upd_ne n]
      exact e
    have cT : ∀ c0, H c0 = some (LamX.CodeO c0 (X.env.qual ++ "<lambda>")) → c0 ≠ T := fun c0 e z => by
      rw [z, hps] at e
      exact LamX.codeO_ne ps (someI e).symm
    refine h h'.objs.size c' _ ctv _ _ I1 ⟨keepN, fun b e => ?_⟩ ⟨_, by rw [upd_ne (neT hps), upd_same], by rw [asL]; exact PySem.TriplesOk_snoc _ _ _ _ hok, fun p' cv hcv => ?_⟩ (Heap.get?_push_size _ rfl) ?_ (far _ grow) upd_same
    · by_cases h1 : b = c'
      · rw [h1, upd_same] at e
        cases e
      · rw [upd_ne h1] at e
        by_cases h2 : b = T
        · rw [h2, upd_same] at e
          cases e
        · rw [upd_ne h2] at e
          exact e
    · rw [asL] at hcv
      rcases LamX.among_app _ hok hcv with z | z
      · obtain ⟨c0, e1, e2⟩ := hall p' cv z
        exact ⟨c0, e1, keepN _ _ e2 (cT c0 e2)⟩
      · exact ⟨c', z, upd_same⟩
    · have m1 : h'.objs.size ≠ c' := Nat.ne_of_gt hlt
      have m2 : h'.objs.size ≠ T := Nat.ne_of_gt (Nat.lt_of_lt_of_le (Heap.lt_size tabT) grow)
      rw [upd_ne m1, upd_ne m2]
      exact I.hok.fresh grow
end
theorem Ex.grown {c : Cf} {M : Mu} {T : Addr} {q : Str} {H H1 : Hp} (hT : (T, q) ∈ c.ls) (hu : ∀ p ∈ c.ls, p.1 = T → p.2 = q) (hg : T ∉ c.gs) (k : Ok c M H) (t : Grown T H H1) (t1 : LamX.TabS H1 T q) : Ex c M H H1 := by
  obtain ⟨ps, hps, _⟩ := k.l _ hT
  have ne : ∀ {b : Addr} {o : HO}, H b = some o → (∀ ps, o ≠ .tbl ps) → b ≠ T := fun {b o} e n z => by
    rw [z, hps] at e
    exact n ps (someI e).symm
  refine ⟨fun b o e n _ => t.keep b o e (ne e n), fun k => ⟨fun P hP => ?_, fun p hp => ?_, fun p hp => ?_⟩, t.dom⟩
  · obtain ⟨us, h1, h2⟩ := k.g P hP
    exact ⟨us, t.keep _ _ h1 fun z => hg (z ▸ hP), h2⟩
  · by_cases e : p.1 = T
    · rw [hu p hp e, e]
      exact t1
    · obtain ⟨us, h1, h2, h3⟩ := k.l p hp
      refine ⟨us, t.keep _ _ h1 e, h2, fun pos cv z => ?_⟩
      obtain ⟨c', y1, y2⟩ := h3 pos cv z
      exact ⟨c', y1, t.keep _ _ y2 (ne y2 LamX.codeO_ne)⟩
  · obtain ⟨us, h1, h2⟩ := k.m p hp
    exact ⟨us, t.keep _ _ h1 (ne h1 fun _ z => nomatch z), h2⟩
/-! ### _law_taken(lambda: ..) -/
/-- the wish: what the lambda lets out is taken, None is handed back -/
def eTwo (K : PySem.W.Frag) (b1 b2 : Addr) (Q : VK) : XK := fun cls _ H' => PySem.W.exmAny K cls [.ref b1, .ref b2] = some true ∧ Q .non H'
def tTaken (q : Str) (T : Addr) (K : PySem.W.Frag) (b1 b2 : Addr) (t : XK → TE) : TE := fun σ H Q => LamX.TabS H T q ∧ ∀ H1, Grown T H H1 → LamX.TabS H1 T q → t (eTwo K b1 b2 Q) σ H1 Q
theorem pe_taken {X : Cx} {c : Cf} {cA T b1 b2 : Addr} {k : Nat} {params : Arguments} {body : Expr} {scope : Scope} {t : XK → TE} {p lpos pos : Pos} (hK : X.K = c.K) (D : Def c X.mg "_law_taken" s_law_taken []) (g1 : X.mg "BadPaper" = some (.ref b1)) (g2 : X.mg "BadTree" = some (.ref b2)) (hg : Gl X "_law_taken")
    (TB : LamX.TabB X.base X.mg cA T) (hcode : X.env.code = .ref cA) (hr : Room (k + 2) X.A) (L : LamX.LamS X.env.scope scope) (hdef : defaultsOf params X.env = ([], []))
    (hbind : ∀ (q : Str) (cl : List (Str × Addr)) (pm cv ctv : Value), bindArgs (PySem.W.kla_fn "<lambda>" q params body scope cl pm cv ctv) ⟨[], []⟩ = pure []) (hbody : ∀ (A : Around) (outer : List Env) (s : Shared) (H : Hp) (E : XK) (f c' : Addr), Room k (A.deeper (LamX.lamEnv X scope s.heap.objs.size f c')) → PE (LamX.lamCx X A outer s H E scope f c') body (t E)) :
    PE X (.Call (.Name "_law_taken" p) [.Lambda params body scope lpos] [] pos) (tTaken (X.env.qual ++ "<lambda>") T X.K b1 b2 t) := by
  obtain ⟨g, fd, F, hm⟩ := D.ex
  have kpg := F.kp
  have hb := F.bindsN (ps := ["what"]) bd_law_taken
  obtain ⟨oc, od, dV, kV, doc, pm, an, cdv, ct, osl, rfl, lk, hcg, _, _⟩ := F.ex
  rw [← hK] at kpg hb lk hcg
  refine ⟨fun pins s σ H Q I ⟨hT, h⟩ => ?_⟩
  refine wpAny_Call_Name_kw (ld_glob I hg hm (PySem.W.callWith_K (h₀ := X.base) I.ok.mod.kin kpg ?_ (by rfl) (by rfl)))
  refine Calls.spliced_cons (lam_grow I TB hcode hT hdef (L.has I.ok) fun f c' pm' ctv H1 s' I1 gr T1 hf hfn hfr hco => Calls.spliced_nil ⟨I1.kIn, ?_⟩)
  have rc : codeAny (model X.prog X.w) X.A (.call (.ref g) ⟨[.ref f], []⟩) (CR CX0 X.stack X.prog X.w H1 s' Q E0) s' := by
    refine LamX.run_ofS (N := N_law_taken) (ps := ["what"]) (us := [.ref f]) (vs := [.ref f]) lk hcg sc_law_taken hr I1.env0 (hb s' [.ref f] I1.kIn rfl) (.cons rfl .nil) rfl fun hr' => ?_
    let Y := cxOf CX0 X.prog X.w X.K X.mg X.base N_law_taken "_law_taken" (defScope s_law_taken) g cdv X.A X.stack s' H1 E0
    have act : ∀ (W : WX) (pn : List (Addr × Obj)) (xe : Value → Shared → Prop) (E : XK) (p1 p2 : Pos), Takes (Y.nox.tr pn xe) W → (∀ cls d σ' H', E cls d H' → W cls d σ' H') →
        PE (Y.nox.tr pn xe) (.Call (.Name "what" p1) [] [] p2) (fun σZ HZ Q => σZ[0]? = some (some (.ref f)) ∧ HZ c' = some (LamX.CodeO c' (X.env.qual ++ "<lambda>")) ∧ t E σ HZ Q) :=
      fun W pn xe E p1 p2 tk hW => LamX.pe_act (CXg := CX0) (Eg := E0) (i := 0) I1 L hf hfn hfr (hbind _ _ _ _ _) tk hW hr' (fun A outer s H hr2 => hbody A outer s H E f c' hr2) rfl (.inl rfl)
    have h1 := h H1 gr T1
    refine ⟨_, PSs.nox (pss_one (ps_try_two (X := Y.nox) (c1 := .ref b1) (c2 := .ref b2) (tb := fun W D σ2 H2 => ∃ Ech : XK, (∀ cls d σ' H', Ech cls d H' → W cls d σ' H') ∧ σ2[0]? = some (some (.ref f)) ∧ H2 c' = some (LamX.CodeO c' (X.env.qual ++ "<lambda>")) ∧ t Ech σ H2 D.rt) rfl rfl ⟨by rfl, by decide, .inl g1⟩ ⟨by rfl, by decide, .inl g2⟩
      (fun W pn xe tk => ⟨fun pins2 s2 σ2 H2 D2 I2 h2 => ?_⟩) fun a oe cls d pn => pss_one (ps_ret pe_non))), ?_⟩
    · obtain ⟨Ech, hW, e1, e2, e3⟩ := h2
      exact (pss_one (ps_ret (act W pn xe Ech _ _ tk hW))).run pins2 s2 σ2 H2 D2 I2 ⟨e1, e2, e3⟩
    · exact ⟨eTwo X.K b1 b2 Q, fun cls d σ' H' ⟨y1, y2⟩ => ⟨y1, fun a _ => y2⟩, rfl, hco, h1⟩
  refine wpAny_call (codeAny_mono rc fun res sE hq => ?_)
  cases res with
  | error e => exact False.elim (show False from hq)
  | ok fl =>
    cases fl with
    | ret u => exact I1.after hq
    | next => exact False.elim hq
    | brk => exact False.elim hq
    | cont => exact False.elim hq
/-- it is refused: None -/
theorem ev_taken {c : Cf} {M : Mu} {G : Env'} {q : Str} {T b1 b2 : Addr} {R : PRX} {ta : L2.TA} {as : List AV} {Pa : AV → Prop} (hT : (T, q) ∈ c.ls) (hu : ∀ p ∈ c.ls, p.1 = T → p.2 = q) (hg : T ∉ c.gs) (hx : PySem.W.exmAny c.K (.ref b1) [.ref b1, .ref b2] = some true)
    (h : EvA c M ta G as) (hr : R M as True Pa) : EvD c M (tTaken q T c.K b1 b2 fun E => tCall (spX c (.ref b1) R) [] E ta) G (.d .none) := fun σ H s k Q qq =>
  ⟨k.l _ hT, fun H1 gr t1 => by
    have e0 : Ex c M H H1 := Ex.grown hT hu hg k gr t1
    refine h σ H1 (s.mono e0) (e0.2 k) _ fun vs H2 bs eb e2 r2 => ?_
    subst eb
    rw [List.append_nil]
    refine ⟨M, bs, True, Pa, hr, r2, e2.2 (e0.2 k), fun n => absurd trivial n, fun _ d H3 e3 => ⟨hx, ?_⟩⟩
    exact (qq.ex ((e0.trans e2).trans e3)).here (a := .d .none) rfl Dp.non⟩
end LW

/-! The law's plans for ever. -/
namespace LW
open L2 PySem PySem.Spec PyProof.Rows
def lamQ (q : Str) (sc : Scope) : Str := (envOfC q sc 0 0 .none).qual ++ "<lambda>"
/-- the lambda's table of a def -/
structure LamT (c : Cf) (mg : Str → Option Value) (base : Heap) (q : Str) (sc : Scope) (cA T b1 b2 : Addr) : Prop where
  tb : LamX.TabB base mg cA T
  mem : (T, lamQ q sc) ∈ c.ls
  one : ∀ p ∈ c.ls, p.1 = T → p.2 = lamQ q sc
  out : T ∉ c.gs
  ex : PySem.W.exmAny c.K (.ref b1) [.ref b1, .ref b2] = some true
def R_ever : PRM := fun M as PP => ∃ (N1 N2 : Mu) (a : Addr) (n : Nat), M = N1 ++ (a, IsDice (n + 300)) :: N2 ∧ a ∉ N1.map (·.1) ∧ a ∉ N2.map (·.1) ∧ as = [.at a] ∧ ∀ n', n ≤ n' → PP (N1 ++ (a, IsDice n') :: N2) (aB true)
theorem part_later {x low : Nat} (hx : x < low) (h2 : 2 ≤ low) (h10 : low ≤ 10) : 0 ≤ Rat.divInt (x : Int) (low : Int) ∧ Rat.divInt (x : Int) (low : Int) < 1 ∧ Bd 10 10 (Rat.divInt (x : Int) (low : Int)) := by
  have hl : (low : Int) ≠ 0 := by omega
  refine ⟨Rat.divInt_nonneg (by omega) (by omega), ?_, ⟨Nat.le_trans (small_num hl) (by omega), Nat.le_trans (small_den hl) (by omega)⟩⟩
  have h3 : (0 : Rat) < ((low : Int) : Rat) := by exact_mod_cast (show (0 : Int) < (low : Int) by omega)
  have h4 : ((x : Int) : Rat) < ((low : Int) : Rat) := by exact_mod_cast (show (x : Int) < (low : Int) by omega)
  have e : Rat.divInt (x : Int) (low : Int) * ((low : Int) : Rat) = ((x : Int) : Rat) := by
    rw [q_div]
    grind
  refine byC fun hn => ?_
  have h5 : (1 : Rat) ≤ Rat.divInt (x : Int) (low : Int) := by grind
  have h6 := Rat.mul_le_mul_of_nonneg_right h5 (Rat.le_of_lt h3)
  rw [e] at h6
  grind
theorem pay_bd {x r : Nat} (hx : x < 2001) (hr : r < 6) : Bd 1000 6 (Rat.divInt ((x : Int) - 1000) (1 + (r : Int))) := by
  have h0 : (1 + (r : Int)) ≠ 0 := by omega
  exact ⟨Nat.le_trans (small_num h0) (by omega), Nat.le_trans (small_den h0) (by omega)⟩
structure ChsOk (m : Nat) (chs : List Chc) : Prop where
  ne : chs ≠ []
  le : chs.length ≤ 4
  row : ∀ z ∈ chs, RowOk m z.2
  pay : ∀ z ∈ chs, Bd 1000 6 z.1
theorem plan_of {m : Nat} {ps : List (List Chc)} {l : Rat} (m1 : 1 ≤ m) (m6 : m ≤ 6) (len : ps.length = m) (h : ∀ chs ∈ ps, ChsOk m chs) (l0 : 0 ≤ l) (l1 : l < 1) (lb : Bd 10 10 l) : PlanOk m ps l :=
  ⟨m1, m6, len, fun c hc => (h c hc).ne, fun c hc => (h c hc).le, fun c hc => (h c hc).row, fun c hc => (h c hc).pay, l0, l1, lb⟩
section
variable {c : Cf} {M : Mu} {G : Env'} {te : TE}
theorem ev_notN (h : EvD c M te G (.d .none)) : EvD c M (tNotN te) G (aB false) := fun σ H s k Q q => h σ H s k _ fun v H1 a e e1 r1 => by
  subst e
  obtain rfl := dp_none r1
  exact (q.ex e1).here (a := aB false) rfl (Dp.bl _)
theorem no_best (vp vl : V) : (flds vp vl).lookup ("best" : Str) = none := by with_unfolding_all rfl
theorem no_fs (vp vl : V) : (flds vp vl).lookup ("for_steps" : Str) = none := by with_unfolding_all rfl
end
section
variable {P : Program} {w : World} {c : Cf} {mg : Str → Option Value} {base : Heap} {cA T bp bt : Addr}
theorem ok_law_for_ever (B : Bt mg) (Tp : PlTxt c) (bP : BadP c mg "BadPaper" bp) (gT : mg "BadTree" = some (.ref bt)) (D_taken : Def c mg "_law_taken" s_law_taken []) (lt : LamT c mg base "_law_for_ever" (defScope s_law_for_ever) cA T bp bt)
    (D : ∃ (f : Addr) (fd : FuncData), FunD c.K "_law_for_ever" "_law_for_ever" (defArgs s_law_for_ever) (defBody s_law_for_ever) (defScope s_law_for_ever) [] [] f fd ∧ mg "_law_for_ever" = some (.ref f) ∧ CodeAt c.K f cA)
    (c_law_roll : CalRoll P w c mg base) (c_law_row : Cal P w c mg base CX0 3 "_law_row" ["dice", "many"] (spM c R_row)) (c_part : CalPart P w c mg base) (c_P_init : CalI P w c mg base CX0 5 ["self", "places", "later"] (spInit c)) (c_P_best : CalM P w c mg base CX0 10 "best" ["self"] (spR c R_best))
    (c_law_choice : Cal P w c mg base CX0 4 "_law_choice" ["choice", "later", "worths"] (spR c R_lc)) (c_greatest_of : CalGr P w c mg base) (c_check_best : Cal P w c mg base (L2.CX P w) 10 "check_best" ["plans", "numbers", "values"] (spX c (.ref bp) R_cb)) (c_plus : CalPl P w c mg base) (c_P_for_steps : CalM P w c mg base CX0 8 "for_steps" ["self", "count"] (spR c R_fs)) :
    Cal P w c mg base CX0 15 "_law_for_ever" ["dice"] (spM c R_ever) := by
  obtain ⟨f, fd, F, e, hcode⟩ := D
  refine ⟨f, fd, okT F hcode sc_law_for_ever (lenM fun M as PP ⟨_, _, _, _, _, _, _, e, _⟩ => by rw [e]; rfl) (fun A outer s H vs Q E hr hsp => ?_), e, F.kp, F.bindsN bd_law_for_ever⟩
  have tbL := lt.tb
  have c_P_init := c_P_init.mono (k := 13) (by omega)
  refine bodyMx (X := cxOf CX0 P w c.K mg base N_law_for_ever "_law_for_ever" (defScope s_law_for_ever) f (.ref cA) A outer s H E) (c := c) ((pss_cons (ps_asg (pe_tup (pa_cons (pe_op op_add pe_int (pe_cal rfl (c_law_roll.mono (by omega)) hr (by rfl) pass0 (pa_cons (pv 0) (pa_cons pe_int pa_nil)))) (pa_cons (pe_op op_add pe_int (pe_cal rfl (c_law_roll.mono (by omega)) hr (by rfl) pass0 (pa_cons (pv 0) (pa_cons pe_int pa_nil)))) pa_nil))) (pg_tup rfl (pgs_cons (pg_name (i := 1) sc_law_for_ever.nd rfl (.inr rfl)) (pgs_cons (pg_name (i := 2) sc_law_for_ever.nd rfl (.inl rfl)) pgs_nil))))
      (pss_cons (ps_set (i := 3) sc_law_for_ever.nd rfl (.inr rfl) (pe_cal rfl (c_part.mono (by omega)) hr (by rfl) pass0 (pa_cons (pe_cal rfl (c_law_roll.mono (by omega)) hr (by rfl) pass0 (pa_cons (pv 0) (pa_cons (pv 2) pa_nil))) (pa_cons (pv 2) pa_nil))))
      (pss_cons (ps_set (i := 4) sc_law_for_ever.nd rfl (.inr rfl) (pe_lc (own := [("k", 6)]) (g := (gName 6)) (tt := tYes) rfl sc_law_for_ever.nd (pi_range1 (by rfl) B.range (pa_cons (pv 1) pa_nil)) (blkOk_by (N := N_law_for_ever) (sc := defScope s_law_for_ever) (by decide +kernel)) (fun _ _ _ _ _ => (pg_name (i := 6) sc_law_for_ever.nd rfl (.inl rfl))) (fun _ _ _ _ _ => pts_nil) (fun _ _ _ _ _ => (pe_lc (own := [("turn", 5)]) (g := (gName 5)) (tt := tYes) rfl sc_law_for_ever.nd (pi_range1 (by rfl) B.range (pa_cons (pe_op op_add pe_int (pe_cal rfl (c_law_roll.mono (by omega)) hr (by rfl) pass0 (pa_cons (pv 0) (pa_cons pe_int pa_nil)))) pa_nil)) (blkOk_by (by rfl)) (fun _ _ _ _ _ => (pg_name (i := 5) sc_law_for_ever.nd rfl (.inl rfl))) (fun _ _ _ _ _ => pts_nil) (fun _ _ _ _ _ => (pe_tup (pa_cons (pe_cal rfl (c_part.mono (by omega)) hr (by rfl) pass0 (pa_cons (pe_op op_sub (pe_cal rfl (c_law_roll.mono (by omega)) hr (by rfl) pass0 (pa_cons (pv 0) (pa_cons pe_int pa_nil))) pe_int) (pa_cons (pe_op op_add pe_int (pe_cal rfl (c_law_roll.mono (by omega)) hr (by rfl) pass0 (pa_cons (pv 0) (pa_cons pe_int pa_nil)))) pa_nil))) (pa_cons (pe_cal rfl (c_law_row.mono (by omega)) hr (by rfl) pass0 (pa_cons (pv 0) (pa_cons (pv 1) pa_nil))) pa_nil))))))))
      (pss_cons (ps_set (i := 7) sc_law_for_ever.nd rfl (.inr rfl) (pe_calI rfl c_P_init hr (by rfl) pass0 (pa_cons (pv 4) (pa_cons (pv 3) pa_nil))))
      (pss_cons (ps_asg (pe_calM0 (pl := _) rfl (c_P_best.mono (by omega)) Tp (pv 7) hr pass0) (pg_tup rfl (pgs_cons (pg_name (i := 8) sc_law_for_ever.nd rfl (.inr rfl)) (pgs_cons (pg_name (i := 9) sc_law_for_ever.nd rfl (.inr rfl)) pgs_nil))))
      (pss_cons (ps_for PassesOwn.never rfl (pi_range1 (by rfl) B.range (pa_cons (pv 1) pa_nil)) (pg_name (i := 6) sc_law_for_ever.nd rfl (.inl rfl)) (pss_cons (ps_setLc (i := 10) (own := [("choice", 11)]) (g := (gName 11)) (tt := tYes) rfl sc_law_for_ever.nd rfl rfl (sw_true rfl rfl rfl (by decide +kernel)) (pi_list (pe_ix ix_seq (pv 4) (pv 6) (fun _ _ => rfl))) (blkOk_by (N := N_law_for_ever) (sc := defScope s_law_for_ever) (by decide +kernel)) (fun _ _ _ _ _ => (pg_name (i := 11) sc_law_for_ever.nd rfl (.inl rfl))) (fun _ _ _ _ _ => pts_nil) (fun _ _ _ _ _ => (pe_cal rfl (c_law_choice.mono (by omega)) hr (by rfl) pass0 (pa_cons (pv 11) (pa_cons (pv 3) (pa_cons (pv 8) pa_nil))))))
      (pss_one (ps_if (PW.pt (pw_or (pt_cmpR (op_neD hr.units) (pe_cal rfl (c_greatest_of.mono (by omega)) hr (by rfl) pass0 (pa_cons (pv 10) pa_nil)) (pe_ix ix_seq (pv 8) (pv 6) (fun _ _ => rfl)) (nomark _)) (pw_or1 (pt_cmpR (op_neD hr.units) (pe_ix ix_seq (pv 10) (pe_ix ix_seq (pv 9) (pv 6) (fun _ _ => rfl)) (fun _ _ => rfl)) (pe_ix ix_seq (pv 8) (pv 6) (fun _ _ => rfl)) (nomark _))))) (pss_one (ps_ret pe_bl)) pss_nil))))
      (pss_cons (ps_if (pt_cmpR (op_neD hr.units) (pe_cal rfl (c_check_best.mono (by omega)) hr (by rfl) pass_never (pa_cons (pv 7) (pa_cons (pv 9) (pa_cons (pv 8) pa_nil)))) (pv 8) (nomark _)) (pss_one (ps_ret pe_bl)) pss_nil)
      (pss_cons (ps_set (i := 12) sc_law_for_ever.nd rfl (.inr rfl) (pe_lc (own := [("k", 6)]) (g := (gName 6)) (tt := tYes) rfl sc_law_for_ever.nd (pi_range1 (by rfl) B.range (pa_cons (pv 1) pa_nil)) (blkOk_by (N := N_law_for_ever) (sc := defScope s_law_for_ever) (by decide +kernel)) (fun _ _ _ _ _ => (pg_name (i := 6) sc_law_for_ever.nd rfl (.inl rfl))) (fun _ _ _ _ _ => pts_nil) (fun _ _ _ _ _ => (pe_cal rfl (c_plus.mono (by omega)) hr (by rfl) pass0 (pa_cons (pe_ix (r := rIx c.K) ix_seq (pv 8) (pv 6) (fun _ _ => rfl)) (pa_cons (pe_tup (pa_cons (pe_callTy (T := "int") (r := rIntQ) call_intQ (by rfl) B.int (by decide +kernel) (pa_cons (pe_cmpR (r := rEqD c.K) (op_eqD hr.units) (pv 6) pe_int (nomark _)) pa_nil)) (pa_cons pe_int pa_nil))) pa_nil))))))
      (pss_cons (ps_if (pt_cmp (pc_notN (pe_taken (t := fun E => tCall (spX c (.ref bp) R_cb) [] E (tCons (tVar 7) (tCons (tVar 9) (tCons (tVar 12) tNil)))) (k := 12) rfl D_taken bP.g gT (by rfl) tbL rfl (hr.mono (by omega)) (LamX.lamS_by (sc := defScope s_law_for_ever) (by decide +kernel)) rfl (fun _ _ _ _ _ => rfl) (fun A outer s H E f c' hr => (pe_cal rfl (c_check_best.mono (by omega)) hr (by rfl) (passes_call (takes_of rfl rfl rfl rfl) (fun _ _ _ _ h => h)) (pa_cons (pv 7) (pa_cons (pv 9) (pa_cons (pv 12) pa_nil))))))) rfl) (pss_one (ps_ret pe_bl)) pss_nil)
      (pss_cons (ps_set (i := 13) sc_law_for_ever.nd rfl (.inr rfl) (pe_op op_rep (pe_lst (pa_cons (pe_tup (pa_cons pe_int (pa_cons pe_int pa_nil))) pa_nil)) (pv 1)))
      (pss_cons (ps_for PassesOwn.never rfl (pi_range1 (by rfl) B.range (pa_cons (pe_cal rfl (c_law_roll.mono (by omega)) hr (by rfl) pass0 (pa_cons (pv 0) (pa_cons pe_int pa_nil))) pa_nil)) (pg_name (i := 14) sc_law_for_ever.nd rfl (.inl rfl)) (pss_cons (ps_if (pt_cmpR (op_neD hr.units) (pe_callTy call_lstQ (by rfl) B.list (by decide +kernel) (pa_cons (pe_ix ix_seq (pe_calM (pl := _) rfl (c_P_for_steps.mono (by omega)) Tp (pv 7) hr pass0 (pa_cons (pv 14) pa_nil)) pe_int (fun _ _ => rfl)) pa_nil)) (pv 13) (nomark _)) (pss_one (ps_ret pe_bl)) pss_nil)
      (pss_one (ps_set (i := 13) sc_law_for_ever.nd rfl (.inr rfl) (pe_lc (own := [("k", 6)]) (g := (gName 6)) (tt := tYes) rfl sc_law_for_ever.nd (pi_range1 (by rfl) B.range (pa_cons (pv 1) pa_nil)) (blkOk_by (N := N_law_for_ever) (sc := defScope s_law_for_ever) (by decide +kernel)) (fun _ _ _ _ _ => (pg_name (i := 6) sc_law_for_ever.nd rfl (.inl rfl))) (fun _ _ _ _ _ => pts_nil) (fun _ _ _ _ _ => (pe_cal rfl (c_greatest_of.mono (by omega)) hr (by rfl) pass0 (pa_cons (pe_lc (own := [("choice", 11)]) (g := (gName 11)) (tt := tYes) rfl sc_law_for_ever.nd (pi_listK (K := c.K) rfl (pe_ix (r := rIx c.K) ix_seq (pv 4) (pv 6) (fun _ _ => rfl))) (blkOk_by (by rfl)) (fun _ _ _ _ _ => (pg_name (i := 11) sc_law_for_ever.nd rfl (.inl rfl))) (fun _ _ _ _ _ => pts_nil) (fun _ _ _ _ _ => (pe_cal rfl (c_law_choice.mono (by omega)) hr (by rfl) pass0 (pa_cons (pv 11) (pa_cons (pv 3) (pa_cons (pv 13) pa_nil)))))) pa_nil))))))))
      (pss_one (ps_ret pe_bl)))))))))))))) ?_ vs Q hsp
  rintro M as PP ⟨N1, N2, a, n, rfl, h1, h2, rfl, hp⟩
  -- many, low
  refine sm_seq (PG1 := fun M' G => ∃ m low : Nat, 1 ≤ m ∧ m ≤ 6 ∧ 2 ≤ low ∧ low ≤ 10 ∧ M' = N1 ++ (a, IsDice (n + 298)) :: N2 ∧ G = [some (.at a), some (aI (m : Int)), some (aI (low : Int)), none, none, none, none, none, none, none, none, none, none, none, none]) (sm_asg (PA := fun M' v => ∃ m low : Nat, 1 ≤ m ∧ m ≤ 6 ∧ 2 ≤ low ∧ low ≤ 10 ∧ M' = N1 ++ (a, IsDice (n + 298)) :: N2 ∧ v = aT [.int (m : Int), .int (low : Int)]) (em_tup (eam_cons (PA := fun M' v => ∃ m : Nat, 1 ≤ m ∧ m ≤ 6 ∧ M' = N1 ++ (a, IsDice (n + 299)) :: N2 ∧ v = aI (m : Int)) (em_op (PA := fun M' v => M' = N1 ++ (a, IsDice (n + 300)) :: N2 ∧ v = aI 1) (EvP.m ev_int fun v e => ⟨rfl, e⟩) ?_) ?_)) ?_) ?_
  · rintro M1 v ⟨rfl, rfl⟩
    refine EvM.mono (em_roll (N1 := N1) (N2 := N2) (a := a) (n := n + 299) (many := 6) (i := 0) rfl h1 h2 rfl ev_int (by decide) (by decide)) ?_
    rintro M1 v ⟨rfl, y, hy, rfl⟩
    exact RvP_of rv_I0 fun b e => ⟨y + 1, by omega, by omega, rfl, by rw [e]; congr 2; omega⟩
  · rintro M1 v ⟨m, hm1, hm6, rfl, rfl⟩
    refine eam_cons (PA := fun M' v => ∃ low : Nat, 2 ≤ low ∧ low ≤ 10 ∧ M' = N1 ++ (a, IsDice (n + 298)) :: N2 ∧ v = aI (low : Int)) (em_op (PA := fun M' v => M' = N1 ++ (a, IsDice (n + 299)) :: N2 ∧ v = aI 2) (EvP.m ev_int fun v e => ⟨rfl, e⟩) ?_) ?_
    · rintro M1 v ⟨rfl, rfl⟩
      refine EvM.mono (em_roll (N1 := N1) (N2 := N2) (a := a) (n := n + 298) (many := 9) (i := 0) rfl h1 h2 rfl ev_int (by decide) (by decide)) ?_
      rintro M1 v ⟨rfl, y, hy, rfl⟩
      exact RvP_of rv_I0 fun b e => ⟨y + 2, by omega, by omega, rfl, by rw [e]; congr 2; omega⟩
    · rintro M1 v ⟨low, hl1, hl2, rfl, rfl⟩
      exact eam_nil ⟨[.int (m : Int), .int (low : Int)], rfl, by show 2 ≤ 1000; decide, m, low, hm1, hm6, hl1, hl2, rfl, rfl⟩
  · rintro M1 v ⟨m, low, hm1, hm6, hl1, hl2, rfl, rfl⟩
    exact ⟨_, _, tg_tup2 tg_name tg_name, m, low, hm1, hm6, hl1, hl2, rfl, rfl⟩
  rintro M' G ⟨m, low, hm1, hm6, hl1, hl2, rfl, rfl⟩
  -- later
  refine sm_seq (PG1 := fun M' G => ∃ l : Rat, 0 ≤ l ∧ l < 1 ∧ Bd 10 10 l ∧ M' = N1 ++ (a, IsDice (n + 297)) :: N2 ∧ G = [some (.at a), some (aI (m : Int)), some (aI (low : Int)), some (aQ l), none, none, none, none, none, none, none, none, none, none, none]) (sm_set (em_call (eam_cons (em_roll (N1 := N1) (N2 := N2) (a := a) (n := n + 297) (many := low) (i := 0) rfl h1 h2 rfl (ev_var rfl) (by omega) (by omega)) ?_))) ?_
  · rintro M1 v ⟨rfl, x, hx, rfl⟩
    refine EvA.m (as := [aI (low : Int)]) (ea_cons (ev_var rfl) ea_nil) ?_
    obtain ⟨p1, p2, p3⟩ := part_later hx hl1 hl2
    obtain ⟨d1, d2⟩ := divInt_lo (s := (low : Int)) (by omega) (by omega)
    exact ⟨_, _, rfl, d1, d2, small_hB (by omega), _, p1, p2, p3, rfl, rfl⟩
  rintro M' G ⟨l, l0, l1, lb, rfl, rfl⟩
  -- places
  refine sm_seq (PG1 := fun M' G => ∃ (ps : List (List Chc)) (r : Nat), n + 2 ≤ r ∧ PlanOk m ps l ∧ M' = N1 ++ (a, IsDice r) :: N2 ∧ G = [some (.at a), some (aI (m : Int)), some (aI (low : Int)), some (aQ l), some (.d (dPls ps)), none, none, none, none, none, none, none, none, none, none]) (sm_set (EvNM.ev (PN := fun M' es => ∃ (ps : List (List Chc)) (r : Nat), n + 2 ≤ r ∧ PlanOk m ps l ∧ M' = N1 ++ (a, IsDice r) :: N2 ∧ es = ps.map dPlc) (em_lc (PI := fun M' ds => M' = N1 ++ (a, IsDice (n + 297)) :: N2 ∧ ds = rngD 0 m) (ItD.m (it_range1 (n := m) (ea_cons (ev_var rfl) ea_nil) (by omega)) ⟨rfl, rfl⟩) ?_) ?_)) ?_
  · rintro M1 ds ⟨rfl, rfl⟩
    refine ⟨by rw [rngD_len]; omega, fun i M2 => i ≤ m ∧ ∃ r, r + 41 * i ≥ n + 297 ∧ M2 = N1 ++ (a, IsDice r) :: N2, fun _ e => ∃ chs : List Chc, ChsOk m chs ∧ e = dPlc chs, ⟨Nat.zero_le _, n + 297, by omega, rfl⟩, ?_, ?_, ?_⟩
    · rintro i M2 ⟨_, r, _, rfl⟩
      simp
    · rintro N i d M2 hN hd ⟨hi, r, hr0, rfl⟩
      obtain ⟨hi2, rfl⟩ := rngD_at hd
      have hNa : N.1 ≠ a := fun z => hN (by rw [z]; simp)
      have hN1 := not_cons hNa h1
      refine ⟨_, _, tg_name, by simp, EvNM.ev (PN := fun M' es => ∃ (chs : List Chc) (r' : Nat), r' + 41 ≥ r ∧ ChsOk m chs ∧ M' = (N :: N1) ++ (a, IsDice r') :: N2 ∧ es = chs.map dChc) (em_lc (PI := fun M' ds => ∃ y : Nat, 0 < y ∧ y ≤ 4 ∧ M' = (N :: N1) ++ (a, IsDice (r - 1)) :: N2 ∧ ds = rngD 0 y) (im_range1 (eam_cons (PA := fun M' v => ∃ y : Nat, 0 < y ∧ y ≤ 4 ∧ M' = (N :: N1) ++ (a, IsDice (r - 1)) :: N2 ∧ v = aI (y : Int)) (em_op (PA := fun M' v => M' = (N :: N1) ++ (a, IsDice r) :: N2 ∧ v = aI 1) (EvP.m ev_int fun v e => ⟨rfl, e⟩) ?_) ?_)) ?_) ?_⟩
      · rintro M1 v ⟨rfl, rfl⟩
        refine EvM.mono (em_roll (N1 := N :: N1) (N2 := N2) (a := a) (n := r - 1) (many := 4) (i := 0) (by rw [show r - 1 + 1 = r by omega]) hN1 h2 rfl ev_int (by decide) (by decide)) ?_
        rintro M1 v ⟨rfl, y, hy, rfl⟩
        exact RvP_of rv_I0 fun b e => ⟨y + 1, by omega, by omega, rfl, by rw [e]; congr 2; omega⟩
      · rintro M1 v ⟨y, hy0, hy4, rfl, rfl⟩
        exact eam_nil ⟨y, rfl, by omega, y, hy0, hy4, rfl, rfl⟩
      · rintro M1 ds ⟨y, hy0, hy4, rfl, rfl⟩
        refine ⟨by rw [rngD_len]; omega, fun j M2 => j ≤ y ∧ ∃ r', r' + 10 * j ≥ r - 1 ∧ M2 = (N :: N1) ++ (a, IsDice r') :: N2, fun _ e => ∃ z : Chc, (RowOk m z.2 ∧ Bd 1000 6 z.1) ∧ e = dChc z, ⟨Nat.zero_le _, r - 1, by omega, rfl⟩, ?_, ?_, ?_⟩
        · rintro j M2 ⟨_, r', _, rfl⟩
          simp
        · rintro N' j d M2 hN' hd ⟨hj, r', hr', rfl⟩
          obtain ⟨hj2, rfl⟩ := rngD_at hd
          have hNa' : N'.1 ≠ a := fun z => hN' (by rw [z]; simp)
          have hN2 := not_cons hNa' hN1
          refine ⟨_, _, tg_name, by simp, em_tup (eam_cons (PA := fun M' v => ∃ q, Bd 1000 6 q ∧ M' = (N' :: N :: N1) ++ (a, IsDice (r' - 2)) :: N2 ∧ v = aQ q) (em_call (eam_cons (PA := fun M' v => ∃ x : Nat, x < 2001 ∧ M' = (N' :: N :: N1) ++ (a, IsDice (r' - 1)) :: N2 ∧ v = aI ((x : Int) - 1000)) (em_op (em_roll (N1 := N' :: N :: N1) (N2 := N2) (a := a) (n := r' - 1) (many := 2001) (i := 0) (by rw [show r' - 1 + 1 = r' by omega]; rfl) hN2 h2 rfl ev_int (by decide) (by decide)) ?_) ?_)) ?_)⟩
          · rintro M1 v ⟨rfl, x, hx, rfl⟩
            exact EvP.m (P := fun v => v = aI 1000) ev_int fun b e => by
              subst e
              exact RvP_of rv_I0 fun b e => ⟨x, hx, rfl, e⟩
          · rintro M1 v ⟨x, hx, rfl, rfl⟩
            refine eam_cons (PA := fun M' v => ∃ t : Nat, t < 6 ∧ M' = (N' :: N :: N1) ++ (a, IsDice (r' - 2)) :: N2 ∧ v = aI (1 + (t : Int))) (em_op (PA := fun M' v => M' = (N' :: N :: N1) ++ (a, IsDice (r' - 1)) :: N2 ∧ v = aI 1) (EvP.m ev_int fun v e => ⟨rfl, e⟩) ?_) ?_
            · rintro M1 v ⟨rfl, rfl⟩
              refine EvM.mono (em_roll (N1 := N' :: N :: N1) (N2 := N2) (a := a) (n := r' - 2) (many := 6) (i := 0) (by rw [show r' - 2 + 1 = r' - 1 by omega]) hN2 h2 rfl ev_int (by decide) (by decide)) ?_
              rintro M1 v ⟨rfl, t, ht, rfl⟩
              exact RvP_of rv_I0 fun b e => ⟨t, ht, rfl, e⟩
            · rintro M1 v ⟨t, ht, rfl, rfl⟩
              obtain ⟨d1, d2⟩ := divInt_lo (s := 1 + (t : Int)) (by omega) (by omega)
              exact eam_nil ⟨_, _, rfl, d1, d2, small_hB (by omega), _, pay_bd hx ht, rfl, rfl⟩
          · rintro M1 v ⟨q, hq, rfl, rfl⟩
            refine eam_cons (PA := fun M' v => ∃ row, RowOk m row ∧ M' = (N' :: N :: N1) ++ (a, IsDice (r' - 4 - m)) :: N2 ∧ v = aT (row.map dQ)) (em_callM (EvA.m (as := [.at a, aI (m : Int)]) (ea_cons (ev_var rfl) (ea_cons (ev_var rfl) ea_nil)) ?_)) ?_
            · exact ⟨N' :: N :: N1, N2, a, r' - 4 - m, m, by rw [show r' - 4 - m + 2 + m = r' - 2 by omega], hN2, h2, rfl, by omega, hm6, fun row hrow => ⟨row, hrow, rfl, rfl⟩⟩
            · rintro M1 v ⟨row, hrow, rfl, rfl⟩
              exact eam_nil ⟨[dQ q, dRow row], rfl, by show 2 ≤ 1000; decide, _, rfl, ⟨by omega, r' - 4 - m, by omega, rfl⟩, _, rfl, (q, row), ⟨hrow, hq⟩, rfl⟩
        · rintro M2 es hes he ⟨_, r', hr', rfl⟩
          rw [rngD_len] at hes hr'
          obtain ⟨chs, rfl, hc⟩ := pick_list he
          have hcl : chs.length = y := by simpa using hes
          exact ⟨chs, r', by omega, ⟨fun z => by rw [z] at hcl; simp at hcl; omega, by omega, fun z hz => (hc z hz).1, fun z hz => (hc z hz).2⟩, rfl, rfl⟩
      · rintro M' es ⟨chs, r', hr', hc, rfl, rfl⟩
        exact ⟨_, rfl, ⟨by omega, r', by omega, rfl⟩, _, rfl, chs, hc, rfl⟩
    · rintro M2 es hes he ⟨_, r', hr', rfl⟩
      rw [rngD_len] at hes hr'
      obtain ⟨ps, rfl, hc⟩ := pick_list he
      exact ⟨ps, r', by omega, plan_of hm1 hm6 (by simpa using hes) hc l0 l1 lb, rfl, rfl⟩
  · rintro M' es ⟨ps, r, hr', h, rfl, rfl⟩
    exact ⟨ps, r, hr', h, rfl, rfl⟩
  rintro M' G ⟨ps, r, hr0, h, rfl, rfl⟩
  generalize hMd : N1 ++ (a, IsDice r) :: N2 = Md
  have still : ∀ {ts : TS} {G : Env'} {PGx : Env' → Prop}, StP c Md ts G PGx (fun _ => False) → StM c Md ts G (fun M' G' => M' = Md ∧ PGx G') PP := fun {ts G PGx} hs => StP.m hs (fun G' hg => ⟨rfl, hg⟩) fun _ z => z.elim
  -- made
  refine sm_seq (still (PGx := fun G => G = [some (.at a), some (aI (m : Int)), some (aI (low : Int)), some (aQ l), some (.d (dPls ps)), none, none, some (aP ps l), none, none, none, none, none, none, none]) (st_set (ev_make h (ev_var rfl) (ev_var rfl)) rfl)) ?_
  rintro M' G ⟨rfl, rfl⟩
  refine sm_seq (still (PGx := fun G => ∃ ns vs, Best m ps l ns vs ∧ G = [some (.at a), some (aI (m : Int)), some (aI (low : Int)), some (aQ l), some (.d (dPls ps)), none, none, some (aP ps l), some (aT (vs.map dQ)), some (aT (dNs ns)), none, none, none, none, none]) (st_asg (Pa := fun v => ∃ ns vs, Best m ps l ns vs ∧ v = aT [.tuple (vs.map dQ), .tuple (dNs ns)]) (ev_meth1 (as := []) (ev_var rfl) no_best ea_nil ⟨m, ps, l, h, rfl, fun ns vs b => ⟨ns, vs, b, rfl⟩⟩) ?_)) ?_
  · rintro v ⟨ns, vs, b, rfl⟩
    exact ⟨_, _, tg_tup2 tg_name tg_name, ns, vs, b, rfl⟩
  rintro M' G ⟨rfl, ns, vs, b, rfl⟩
  have W := wok_GB
  have hvat : ∀ k, k < m → (vs.map dQ)[k]? = some (dQ (at0 vs k)) := fun k hk => by
    have : vs[k]? = some (at0 vs k) := by
      unfold at0
      rw [getDq, List.getElem?_eq_getElem (by rw [b.s.len]; exact hk)]
      rfl
    rw [List.getElem?_map, this]
    rfl
  have lcR : ∀ {M : Mu} {Px : AV → Prop} {k : Nat} {z : Chc} {ws : List Rat} {A0 N0 : Nat}, k < m → z ∈ chs0 ps k → ws.length = m → WOk A0 N0 → VB A0 N0 ws → ∀ as, (as = [.d (dChc z), aQ l, aT (ws.map dQ)] ∨ as = [.d (dChc z), aQ l, aL (ws.map dQ)]) → Px (aQ (wof l z ws)) → R_lc M as Px := fun {M Px k z ws A0 N0} hk hz hw W0 hv as has hpx => by
    obtain ⟨z1, z2, z3⟩ := h.chc hk hz
    exact ⟨l, z, ws, A0, N0, W0, by omega, by omega, z2, hv, h.lb, z3, has, hpx⟩
  have waysFit : ∀ {k : Nat} {ws : List Rat} {A0 N0 : Nat}, k < m → WOk A0 N0 → VB A0 N0 ws → ∀ y ∈ (chs0 ps k).map fun z => wof l z ws, Fit y := fun {k ws A0 N0} hk W0 hv y hy => by
    obtain ⟨z, hz, rfl⟩ := List.mem_map.mp hy
    exact wof_fit W0 (h.wof W0 hv hk hz)
  -- each place's own choice makes its worth, none betters it
  refine sm_seq (still (PGx := fun G => ∃ y6 y10, G = [some (.at a), some (aI (m : Int)), some (aI (low : Int)), some (aQ l), some (.d (dPls ps)), none, y6, some (aP ps l), some (aT (vs.map dQ)), some (aT (dNs ns)), y10, none, none, none, none]) (st_for (it_range1 (n := m) (ea_cons (ev_var rfl) ea_nil) (by omega)) (fun _ G => ∃ y6 y10, G = [some (.at a), some (aI (m : Int)), some (aI (low : Int)), some (aQ l), some (.d (dPls ps)), none, y6, some (aP ps l), some (aT (vs.map dQ)), some (aT (dNs ns)), y10, none, none, none, none]) ⟨none, none, rfl⟩ ?_ fun G hg => hg)) ?_
  · rintro k d G hd ⟨y6, y10, rfl⟩
    obtain ⟨hk, rfl⟩ := rngD_at hd
    have hne := h.ne _ (chs0_mem h hk)
    have hle := h.le _ (chs0_mem h hk)
    obtain ⟨z0, r0, hz0⟩ := List.exists_cons_of_ne_nil hne
    refine ⟨_, _, tg_name, ?_⟩
    refine st_seq (PG1 := fun G => G = [some (.at a), some (aI (m : Int)), some (aI (low : Int)), some (aQ l), some (.d (dPls ps)), none, some (aI (k : Int)), some (aP ps l), some (aT (vs.map dQ)), some (aT (dNs ns)), some (aL (((chs0 ps k).map fun z => wof l z vs).map dQ)), none, none, none, none]) (st_set (ev_lc (es := ((chs0 ps k).map fun z => wof l z vs).map dQ) (it_list (ds := (chs0 ps k).map dChc) (ev_op (a := .d (dPls ps)) (b := aI (k : Int)) (ev_var rfl) (ev_is (ev_var rfl) (by congr 2; omega)) (rv_ixL (pls_at h hk)))) (by rw [List.length_map]; omega) (by simp) ?_) (by rw [show (0 : Int) + (k : Int) = (k : Int) by omega]; rfl)) ?_
    · intro M' hM i d e hd he
      rw [List.map_map] at he
      obtain ⟨z, hz, rfl, rfl⟩ := map2_at hd he
      exact ⟨_, _, tg_name, by simp, ev_call (ea_cons (ev_var rfl) (ea_cons (ev_var rfl) (ea_cons (ev_var rfl) ea_nil))) (lcR hk (List.mem_of_getElem? hz) b.s.len W b.b _ (.inl rfl) rfl)⟩
    rintro G rfl
    have hz := cho_at b.v hk
    have hmax := b.top k hk
    refine st_if (b := false) (et_is (et_or (et_test (ev_op (a := aQ (maxQ ((chs0 ps k).map fun z => wof l z vs))) (ev_call (ea_cons (ev_var rfl) ea_nil) ⟨wof l z0 vs, r0.map (fun z => wof l z vs), by rw [hz0]; rfl, by rw [List.length_map]; rw [hz0] at hle; simp at hle; omega, ?_, by rw [hz0]; rfl⟩) (ev_op (ev_var rfl) (ev_var rfl) (rv_ixT (hvat k hk))) rv_neDQ)) fun _ => et_test (ev_op (a := aQ (wof l (cho ps ns k) vs)) (ev_op (ev_var rfl) (ev_op (ev_var rfl) (ev_var rfl) (rv_ixT (dNs_get (by rw [b.v.len]; exact hk)))) (rv_ixL (by rw [List.map_map, List.getElem?_map, hz]; rfl))) (ev_op (ev_var rfl) (ev_var rfl) (rv_ixT (hvat k hk))) rv_neDQ)) ?_) (fun h => absurd h (by simp)) fun _ => st_next ⟨_, _, rfl⟩
    · have := waysFit (ws := vs) hk W b.b
      rw [hz0] at this
      exact this
    · rw [hmax, ← b.s.at_ k hk]
      simp
  rintro M' G ⟨rfl, y6, y10, rfl⟩
  refine sm_seq (still (PGx := fun G => G = [some (.at a), some (aI (m : Int)), some (aI (low : Int)), some (aQ l), some (.d (dPls ps)), none, y6, some (aP ps l), some (aT (vs.map dQ)), some (aT (dNs ns)), y10, none, none, none, none]) (st_if (b := false) (et_is (et_test (ev_op (ev_callX (P := fun v => v = aT (vs.map dQ)) (ea_cons (ev_var rfl) (ea_cons (ev_var rfl) (ea_cons (ev_var rfl) ea_nil))) ⟨m, ps, l, ns, vs, h, b, .inl ⟨id, rfl, rfl⟩⟩) (ev_var rfl) rv_neT)) (by simp)) (fun h => absurd h (by simp)) fun _ => st_next rfl)) ?_
  rintro M' G ⟨rfl, rfl⟩
  -- wrong
  obtain ⟨ws, hwl, hwat⟩ : ∃ ws : List Rat, ws.length = m ∧ ∀ k, k < m → ws[k]? = some (at0 vs k + Rat.divInt (if k = 0 then 1 else 0) 1) := ⟨(List.range m).map fun k => at0 vs k + Rat.divInt (if k = 0 then 1 else 0) 1, by simp, fun k hk => by rw [List.getElem?_map, List.getElem?_range hk]; rfl⟩
  have hwne : ws ≠ vs := fun z => by
    have e0 := at0_lt (hwat 0 (by omega))
    rw [z, if_pos rfl] at e0
    have e1 : Rat.divInt 1 1 = 1 := rfl
    rw [e1] at e0
    grind
  refine sm_seq (still (PGx := fun G => G = [some (.at a), some (aI (m : Int)), some (aI (low : Int)), some (aQ l), some (.d (dPls ps)), none, y6, some (aP ps l), some (aT (vs.map dQ)), some (aT (dNs ns)), y10, none, some (aL (ws.map dQ)), none, none]) (st_set (ev_lc (es := ws.map dQ) (it_range1 (n := m) (ea_cons (ev_var rfl) ea_nil) (by omega)) (by rw [rngD_len]; omega) (by rw [rngD_len, List.length_map, hwl]) ?_) rfl)) ?_
  · intro M' hM k d e hd he
    obtain ⟨hk, rfl⟩ := rngD_at hd
    rw [List.getElem?_map, hwat k hk] at he
    obtain rfl := someI he
    have hvk : Bd (GB 6) (GB 6) (at0 vs k) := by
      refine b.b _ (List.mem_of_getElem? (i := k) ?_)
      unfold at0
      rw [getDq, List.getElem?_eq_getElem (by rw [b.s.len]; exact hk)]
      rfl
    have h1b : Bd 1 1 (Rat.divInt (if k = 0 then 1 else 0) 1) := one_fit _ (by split <;> decide)
    have hi := W.hi
    have hlo : GB 6 * 1 < loB := by decide +kernel
    refine ⟨_, _, tg_name, by simp, ev_call (ea_cons (ev_op (b := aI (k : Int)) (ev_var rfl) (ev_is (ev_var rfl) (by congr 2; omega)) (rv_ixT (hvat k hk))) (ea_cons (a := aQ (Rat.divInt (if k = 0 then 1 else 0) 1)) (ev_is (ev_tup (ds := [.int (if decide ((0 : Int) + (k : Int) = 0) then 1 else 0), .int 1]) (ea_cons (ev_cb (ea_cons (ev_op (ev_var rfl) ev_int rv_eqDI) ea_nil) rc_intB) (ea_cons ev_int ea_nil)) (by show 2 ≤ 1000; decide)) ?_) ea_nil)) ⟨_, _, rfl, Bd.fit2 hvk h1b hi.2.2.2.2.2.2.1 (by omega) hlo, rfl⟩⟩
    show aT _ = .d (dQ _)
    rw [dQ_int]
    by_cases e : k = 0
    · rw [if_pos e, if_pos (decide_eq_true (by omega))]
    · rw [if_neg e, if_neg (by simp; omega)]
  rintro M' G ⟨rfl, rfl⟩
  refine sm_seq (still (PGx := fun G => G = [some (.at a), some (aI (m : Int)), some (aI (low : Int)), some (aQ l), some (.d (dPls ps)), none, y6, some (aP ps l), some (aT (vs.map dQ)), some (aT (dNs ns)), y10, none, some (aL (ws.map dQ)), none, none]) (st_if (b := false) (et_B (ev_notN (ev_taken lt.mem lt.one lt.out lt.ex (Pa := fun _ => True) (ea_cons (ev_var rfl) (ea_cons (ev_var rfl) (ea_cons (ev_var rfl) ea_nil))) ⟨m, ps, l, ns, vs, h, b, .inr ⟨trivial, ws, hwne, rfl⟩⟩))) (fun h => absurd h (by simp)) fun _ => st_next rfl)) ?_
  rintro M' G ⟨rfl, rfl⟩
  -- steps
  refine sm_seq (still (PGx := fun G => G = [some (.at a), some (aI (m : Int)), some (aI (low : Int)), some (aQ l), some (.d (dPls ps)), none, y6, some (aP ps l), some (aT (vs.map dQ)), some (aT (dNs ns)), y10, none, some (aL (ws.map dQ)), some (aL ((wIt ps l m 0).map dQ)), none]) (st_set (ev_is (ev_rep (d := dQ 0) (n := m) (ev_tup (ds := [.int 0, .int 1]) (ea_cons ev_int (ea_cons ev_int ea_nil)) (by show 2 ≤ 1000; decide)) (ev_var rfl) (by omega)) (by show _ = aL ((List.replicate m 0).map dQ); rw [List.map_replicate])) rfl)) ?_
  rintro M' G ⟨rfl, rfl⟩
  subst hMd
  refine sm_seq (PG1 := fun M' G => ∃ r', n ≤ r' ∧ M' = N1 ++ (a, IsDice r') :: N2) (sm_for (PI := fun M' ds => ∃ y : Nat, y ≤ 4 ∧ M' = N1 ++ (a, IsDice (r - 1)) :: N2 ∧ ds = rngD 0 y) (im_range1 (eam_cons (em_roll (N1 := N1) (N2 := N2) (a := a) (n := r - 1) (many := 5) (i := 0) (by rw [show r - 1 + 1 = r by omega]) h1 h2 rfl ev_int (by decide) (by decide)) ?_)) ?_) ?_
  · rintro M1 v ⟨rfl, y, hy, rfl⟩
    exact eam_nil ⟨y, rfl, by omega, y, by omega, rfl, rfl⟩
  · rintro M1 ds ⟨y, hy, rfl, rfl⟩
    refine ⟨fun i M' G => ∃ z14, M' = N1 ++ (a, IsDice (r - 1)) :: N2 ∧ G = [some (.at a), some (aI (m : Int)), some (aI (low : Int)), some (aQ l), some (.d (dPls ps)), none, y6, some (aP ps l), some (aT (vs.map dQ)), some (aT (dNs ns)), y10, none, some (aL (ws.map dQ)), some (aL ((wIt ps l m i).map dQ)), z14], ⟨none, rfl, rfl⟩, ?_, ?_⟩
    · rintro i d M' G hd ⟨z14, rfl, rfl⟩
      obtain ⟨hi, rfl⟩ := rngD_at hd
      have hi3 : i ≤ 3 := by omega
      have W3 := wok_S i hi3
      have hv3 := wIt_bd h i hi3
      have hl3 := wIt_len h i
      refine ⟨_, _, tg_name, StP.m (P := fun _ => False) (PG' := fun G => ∃ z14, G = [some (.at a), some (aI (m : Int)), some (aI (low : Int)), some (aQ l), some (.d (dPls ps)), none, y6, some (aP ps l), some (aT (vs.map dQ)), some (aT (dNs ns)), y10, none, some (aL (ws.map dQ)), some (aL ((wIt ps l m (i + 1)).map dQ)), z14]) (st_seq (PG1 := fun G => G = [some (.at a), some (aI (m : Int)), some (aI (low : Int)), some (aQ l), some (.d (dPls ps)), none, y6, some (aP ps l), some (aT (vs.map dQ)), some (aT (dNs ns)), y10, none, some (aL (ws.map dQ)), some (aL ((wIt ps l m i).map dQ)), some (aI (i : Int))]) (st_if (b := false) (et_test (ev_opP (Pa := fun v => v = aL ((wIt ps l m i).map dQ)) (Pb := fun v => v = aL ((wIt ps l m i).map dQ)) (ev_cbP (ea_consP (P := fun v => v = aT ((wIt ps l m i).map dQ)) (ev_opP (Pa := fun v => ∃ ns : PyData, v = aT [.tuple ((wIt ps l m i).map dQ), ns]) (Pb := fun v => v = aI 0) (ev_meth1 (as := [aI (i : Int)]) (ev_var rfl) no_fs (ea_cons (ev_is (ev_var rfl) (by congr 2; omega)) ea_nil) ⟨m, ps, l, i, h, hi3, rfl, fun ns => ⟨ns, rfl⟩⟩) ev_int ?_) ea_nil) ?_) (ev_var rfl) ?_)) (fun h => absurd h (by simp)) fun _ => st_next (by rw [show (0 : Int) + (i : Int) = (i : Int) by omega]; rfl)) ?_) (fun G' ⟨z, hz⟩ => ⟨z, rfl, hz⟩) fun _ z => z.elim⟩
      · rintro v w ⟨ns', rfl⟩ rfl
        exact rv_ixT (n := 0) rfl
      · rintro as ⟨v, vs', rfl, rfl, rfl⟩
        exact rc_lstT
      · rintro v w rfl rfl
        have := rv_neLQ (c := c) (M := N1 ++ (a, IsDice (r - 1)) :: N2) (a := wIt ps l m i) (b := wIt ps l m i)
        rw [show (!decide (wIt ps l m i = wIt ps l m i)) = false by simp] at this
        exact this
      · rintro G rfl
        refine st_set (ev_lc (es := (wIt ps l m (i + 1)).map dQ) (it_range1 (n := m) (ea_cons (ev_var rfl) ea_nil) (by omega)) (by rw [rngD_len]; omega) (by rw [rngD_len, List.length_map, wIt_len h]) ?_) ⟨_, rfl⟩
        intro M' hM k d e hd he
        obtain ⟨hk, rfl⟩ := rngD_at hd
        obtain ⟨q, hq, rfl⟩ := map_at he
        rw [wIt_at h i hk] at hq
        obtain rfl := someI hq
        have hne := h.ne _ (chs0_mem h hk)
        have hle := h.le _ (chs0_mem h hk)
        obtain ⟨z0, r0, hz0⟩ := List.exists_cons_of_ne_nil hne
        refine ⟨_, _, tg_name, by simp, ev_call (ea_cons (ev_lc (es := ((chs0 ps k).map fun z => wof l z (wIt ps l m i)).map dQ) (it_list (ds := (chs0 ps k).map dChc) (ev_op (a := .d (dPls ps)) (b := aI (k : Int)) (ev_var rfl) (ev_is (ev_var rfl) (by congr 2; omega)) (rv_ixL (pls_at h hk)))) (by rw [List.length_map]; omega) (by simp) ?_) ea_nil) ⟨wof l z0 (wIt ps l m i), r0.map (fun z => wof l z (wIt ps l m i)), by rw [hz0]; rfl, by rw [List.length_map]; rw [hz0] at hle; simp at hle; omega, ?_, by rw [hz0]; rfl⟩⟩
        · intro M2 hM2 j d e hd he
          rw [List.map_map] at he
          obtain ⟨z, hz, rfl, rfl⟩ := map2_at hd he
          exact ⟨_, _, tg_name, by simp, ev_call (ea_cons (ev_var rfl) (ea_cons (ev_var rfl) (ea_cons (ev_var rfl) ea_nil))) (lcR hk (List.mem_of_getElem? hz) hl3 W3 hv3 _ (.inr rfl) rfl)⟩
        · have := waysFit (ws := wIt ps l m i) hk W3 hv3
          rw [hz0] at this
          exact this
    · rintro M' G ⟨z14, rfl, rfl⟩
      exact ⟨r - 1, by omega, rfl⟩
  rintro M' G ⟨r', hr', rfl⟩
  exact sm_ret (EvP.m ev_bl fun v e => by subst e; exact hp r' hr')
end
end LW

/-! The law's dice and rounds, the law. -/
namespace LW
open L2 PySem PySem.Spec PyProof.Rows
theorem Ex.all {c : Cf} {M : Mu} {H H' : Hp} (e : Ex c [] H H') (k0 : Ok c [] H) : Ex c M H H' := by
  have kp : ∀ b o, H b = some o → (∀ ps, o ≠ .tbl ps) → H' b = some o := fun b o h n => e.1 b o h n (by simp)
  exact ⟨fun b o h n _ => kp b o h n, fun k => ⟨(e.2 k0).g, (e.2 k0).l, fun p hp => by
    obtain ⟨xs, h1, h2⟩ := k.m p hp
    exact ⟨xs, kp _ _ h1 (fun _ z => nomatch z), h2⟩⟩, e.3⟩
theorem Ok.bare {c : Cf} {M : Mu} {H : Hp} (k : Ok c M H) : Ok c [] H := ⟨k.g, k.l, fun _ h => by simp at h⟩
def diceL (x y z : Int) : HO := .lst [.int x, .int y, .int z]
/-- a new list of three -/
def spDice (c : Cf) : Sp := fun vs H Q _ => ∃ i : Int, vs = [.int i] ∧ i.natAbs < xB ∧ Ok c [] H ∧ ∀ (a : Addr) (x y z : Int) (H' : Hp), Ex c [] H H' → H' a = some (diceL x y z) → x.natAbs < xB → 0 ≤ y → y ≤ 1009 → Q (.ref a) H'
def spRounds (c : Cf) : Sp := fun vs H Q _ => ∃ (s : Addr) (ns : List Int), vs = [.ref s, .int 1] ∧ SqL c.K H s (ns.map V.int) ∧ (∀ z ∈ ns, z.natAbs < xB) ∧ Ok c [] H ∧
  ∀ (l a : Addr) (x y z : Int) (H' : Hp), Ex c [] H H' → H' l = some (.lst [.ref a]) → H' a = some (diceL x y z) → x.natAbs < xB → 0 ≤ y → y ≤ 1009 → Q (.ref l) H'
def spLaw (c : Cf) : Sp := fun vs H Q _ => ∃ (s : Addr) (ns : List Int), vs = [.ref s] ∧ SqL c.K H s (ns.map V.int) ∧ (∀ z ∈ ns, z.natAbs < xB) ∧ Ok c [] H ∧ ∀ H', Q (.bl true) H'
section
variable {c : Cf} {M : Mu} {G : Env'} {H : Hp} {σ : L2.St} {D : Ends} {t1 t2 : TS} {PG : Env' → Prop} {tt : TT} {te : TE}
theorem run_then (h : StP c M t1 G PG fun _ => False) (s : Sig c M H σ G) (k : Ok c M H) (n : ∀ σ' H' G', PG G' → Ex c M H H' → Sig c M H' σ' G' → t2 D σ' H') : tSeq t1 t2 D σ H :=
  h σ H s k { D with nx := t2 D } n fun v H' a z _ _ => z.elim
theorem run_if {b : Bool} (h : EvB c M tt G b) (s : Sig c M H σ G) (k : Ok c M H) (n1 : b = true → ∀ H', Ex c M H H' → t1 D σ H') (n2 : b = false → ∀ H', Ex c M H H' → t2 D σ H') : tIfS tt t1 t2 D σ H :=
  h σ H s k _ fun x H1 e e1 => by
    subst e
    cases x with
    | true => exact n1 rfl H1 e1
    | false => exact n2 rfl H1 e1
theorem run_ifret {b : Bool} (h : EvB c M tt G b) (s : Sig c M H σ G) (k : Ok c M H) (n1 : b = true → ∀ H', Ex c M H H' → tRet te D σ H') (n2 : b = false → ∀ H', Ex c M H H' → t2 D σ H') : tSeq (tIfS tt (tRet te) tNext) t2 D σ H :=
  h σ H s k _ fun x H1 e e1 => by
    subst e
    cases x with
    | true => exact n1 rfl H1 e1
    | false => exact n2 rfl H1 e1
theorem run_ret3 {x y z : Int} {tl : L2.TA} (h : EvA c [] tl G [aI x, aI y, aI z]) (s : Sig c [] H σ G) (k : Ok c [] H) (n : ∀ a H', Ex c [] H H' → H' a = some (diceL x y z) → D.rt (.ref a) H') : tRet (tLst tl) D σ H :=
  en_lst (ds := [.int x, .int y, .int z]) h (by show 3 ≤ 1000; decide) σ H s k _ fun l H' xs nl e hl hd => by
    have := dpAll_ints (ns := [x, y, z]) hd
    rw [this] at hl
    exact n l H' e hl
/-- a comprehension over one item, whose element is a new list of three -/
theorem lc_one {wi : TI} {g : TG} {vs us : List Nat} {d : PyData} {G2 : Env'} {Q : VK} (h : ItD c M wi G [d]) (s : Sig c M H σ G) (k : Ok c M H) (hg : ∀ M', TgP c M' g us (.d d) (wipG G vs) G2) (hus : ∀ k ∈ us, k ∈ vs)
    (he : ∀ M' σ2 H2, Sig c M' H2 σ2 G2 → Ok c M' H2 → ∀ Q' : VK, (∀ a x y z H3, Ex c M' H2 H3 → H3 a = some (diceL x y z) → x.natAbs < xB → 0 ≤ y → y ≤ 1009 → Q' (.ref a) H3) → te σ2 H2 Q')
    (q : ∀ l a x y z H', Ex c M H H' → H' l = some (.lst [.ref a]) → H' a = some (diceL x y z) → x.natAbs < xB → 0 ≤ y → y ≤ 1009 → Q (.ref l) H') : tLc wi g tYes te vs σ H Q :=
  h σ H s k _ fun J H1 Wk e1 w1 wk => by
    have k1 := e1.2 k
    have s1 := s.mono e1
    intro D nD
    have nDM : D ∉ M.map (·.1) := k1.fresh nD
    refine ⟨fun i m H' => (i = 0 ∧ m = 1 ∧ H' = upd H1 D (.lst [])) ∨ (i = 1 ∧ ∃ a x y z, Wk (hid ((D, fun _ => True) :: M) H') ∧ Ok c M H' ∧ Ex c ((D, fun _ => True) :: M) H1 H' ∧ H' D = some (.lst [.ref a]) ∧ H' a = some (diceL x y z) ∧ x.natAbs < xB ∧ 0 ≤ y ∧ y ≤ 1009), ⟨1, .inl ⟨rfl, rfl, rfl⟩⟩, ?_⟩
    rintro i m H' (⟨rfl, rfl, rfl⟩ | ⟨rfl, a, x, y, z, wH, kH, eH, hD, ha, hx, hy, hy2⟩)
    · have e0 : Ex c M H1 (upd H1 D (.lst [])) := Ex.new nD
      have kM : Ok c ((D, isL []) :: M) (upd H1 D (.lst [])) := (e0.2 k1).push (w := isL []) upd_same rfl
      have eH' : Ex c ((D, isL []) :: M) H1 (upd H1 D (.lst [])) := ⟨(e0.push (w := isL []) nD).1, fun _ => kM, e0.3⟩
      have wH : Wk (hid ((D, isL []) :: M) (upd H1 D (.lst []))) := wk.keep _ _ (by rw [hid_fresh nD]; exact w1) eH'.hid
      refine .inr ⟨wk.go _ 0 _ (by show 0 < 1; decide) wH kM, fun H2 => ∃ a x y z, Wk (hid ((D, fun _ => True) :: M) H2) ∧ Ok c M H2 ∧ Ex c ((D, fun _ => True) :: M) H1 H2 ∧ H2 D = some (.lst [.ref a]) ∧ H2 a = some (diceL x y z) ∧ x.natAbs < xB ∧ 0 ≤ y ∧ y ≤ 1009, fun H2 hh => ⟨0, by omega, .inr ⟨rfl, hh⟩⟩, fun x H2 hy => ?_⟩
      obtain ⟨e2, d', hd', rd⟩ := wk.yld _ 0 _ x H2 (by show 0 < 1; decide) wH kM hy
      obtain rfl : d = d' := by simpa using hd'
      have k2 := e2.2 kM
      have sD : Sig c ((D, isL []) :: M) H1 σ G := s1.fresh nD
      refine hg ((D, isL []) :: M) (L2.wipe σ vs) H2 x ((sD.mono (eH'.trans e2)).wipe vs) k2 rd _ fun σ2 s2 kk ll => ⟨by rw [wipe_eq ll kk hus, wipe_wipe], ?_⟩
      show te σ2 H2 _
      refine he _ σ2 H2 s2 k2 _ fun a x y z H3 e3 ha hx hy hy2 => ?_
      have k3 := e3.2 k2
      have hD3 : H3 D = some (.lst []) := k3.word List.mem_cons_self
      have haD : a ≠ D := fun w => by
        rw [w, hD3] at ha
        cases ha
      have e13 := (eH'.trans e2).trans e3
      refine ⟨[], hD3, by show 0 < sizeLine; decide, a, x, y, z, ?_, k3.pop.upd nDM hD3, ?_, upd_same, by rw [upd_ne haD]; exact ha, hx, hy, hy2⟩
      · rw [List.nil_append, hid_upd_in]
        exact wk.keep _ _ wH (e2.trans e3).hid
      · exact Ex.upd (xs := []) (w := fun _ => True) ⟨e13.1, fun k => by
          obtain ⟨_, h1, _⟩ := k.m _ List.mem_cons_self
          rw [show H1 D = none from nD] at h1
          exact absurd h1 (by simp), e13.3⟩ nD
    · refine .inl ⟨wk.stop ((D, isL [.ref a]) :: M) H' wH (kH.push (w := isL [.ref a]) hD rfl), q D a x y z H' (e1.trans (eH.pop nD kH)) hD ha hx hy hy2⟩
end
section
variable {P : Program} {w : World} {c : Cf} {mg : Str → Option Value} {base : Heap} {cA T bp bt : Addr}
theorem ok_law_dice (B : Bt mg) (D : Def c mg "_law_dice" s_law_dice []) : Cal P w c mg base CX0 1 "_law_dice" ["cell"] (spDice c) := by
  refine D.cal sc_law_dice bd_law_dice (fun vs H Q E ⟨_, e, _⟩ => by rw [e]; rfl) fun f cdv A outer s H E hr => ⟨_, PSs.nox ((pss_cons (ps_if (pt_chain op_lt op_lt (pe_op op_sub pe_int pe_int) (pv 0) pe_int) (pss_one (ps_ret (pe_lst (pa_cons (pe_callB call_absQ (by rfl) B.abs (by decide +kernel) (pa_cons (pv 0) pa_nil)) (pa_cons pe_int (pa_cons pe_int pa_nil)))))) pss_nil)
      (pss_one (ps_ret (pe_lst (pa_cons (pv 0) (pa_cons (pe_op op_add pe_int (pe_op op_mod (pe_callTy call_intQ (by rfl) B.int (by decide +kernel) (pa_cons (pv 0) pa_nil)) pe_int)) (pa_cons (pe_callTy call_intQ (by rfl) B.int (by decide +kernel) (pa_cons (pe_cmpR op_ge (pv 0) (pe_op op_pow pe_int pe_int) (nomark _)) pa_nil)) pa_nil)))))))), ?_⟩
  rintro vs Q ⟨i, rfl, hi, k, q⟩
  have sg : Sig c [] H (L2.start N_law_dice [.int i]) (startG 1 [aI i]) := sig_start (N := N_law_dice) (vs := [.int i]) (as := [aI i]) ⟨Dp.int i, trivial⟩
  refine run_ifret (b := decide ((0 : Int) - 10 < i) && decide (i < 10)) (et_test (ev_chain (x := aI (0 - 10)) (y := aI i) (z := aI 10) (ev_op ev_int ev_int rv_I0) (ev_var rfl) rv_B0 (fun _ => ev_int) fun _ => rv_B0)) sg k (fun hb H1 e1 => ?_) fun hb H1 e1 => ?_
  · rw [Bool.and_eq_true, decide_eq_true_eq, decide_eq_true_eq] at hb
    refine run_ret3 (x := if i < 0 then -i else i) (y := 0) (z := 2) (ea_cons (ev_cb (ea_cons (ev_var rfl) ea_nil) rc_abs) (ea_cons ev_int (ea_cons ev_int ea_nil))) (sg.mono e1) (e1.2 k) fun a H2 e2 ha => q a _ _ _ H2 (e1.trans e2) ha ?_ (by omega) (by omega)
    split <;> omega
  · have hm1 := Int.emod_nonneg i (b := 1009) (by omega)
    have hm2 := Int.emod_lt_of_pos i (b := 1009) (by omega)
    refine run_ret3 (x := i) (y := 1 + i % 1009) (z := if decide ((10 : Int) ^ (18 : Int).toNat ≤ i) then 1 else 0) (ea_cons (ev_var rfl) (ea_cons (ev_op ev_int (ev_op (ev_cb (ea_cons (ev_var rfl) ea_nil) rc_int) ev_int (rv_I (by decide))) rv_I0) (ea_cons (ev_cb (ea_cons (ev_op (ev_var rfl) (ev_op (b := aI 18) ev_int ev_int (rv_I (g := fun i j => i ^ j.toNat) ⟨by decide, by decide, by decide⟩)) rv_B0) ea_nil) rc_intB) ea_nil))) (sg.mono e1) (e1.2 k) fun a H2 e2 ha => q a _ _ _ H2 (e1.trans e2) ha hi (by omega) (by omega)
theorem dpI_of {K : PySem.W.Frag} {H : Hp} : ∀ ns : List Int, DpAll K H (ns.map V.int) (ns.map PyData.int)
  | [] => .nil
  | i :: r => .cons (.int i) (dpI_of r)
theorem lay_Z : ∀ ns : List Int, PyData.canLayAll0 (ns.map PyData.int) = true ∧ PyData.depthAll (ns.map PyData.int) ≤ 1
  | [] => by simp [PyData.canLayAll0, PyData.depthAll]
  | k :: r => by
    have h := lay_Z r
    refine ⟨by simp [PyData.canLayAll0, PyData.canLay0, h.1], ?_⟩
    simp only [PyData.depthAll, List.map_cons, PyData.depth]
    have := h.2
    omega
theorem shaped_Z (ns : List Int) : SeqAt.shaped (.list (ns.map PyData.int)) = true := by
  have h := lay_Z ns
  unfold SeqAt.shaped
  rw [Bool.and_eq_true]
  exact ⟨by simp only [PyData.canLay0]; exact h.1, decide_eq_true (by simp only [PyData.depth]; omega)⟩
theorem ok_law_rounds (B : Bt mg) (D : Def c mg "_law_rounds" s_law_rounds []) (c_law_dice : Cal P w c mg base CX0 1 "_law_dice" ["cell"] (spDice c)) : Cal P w c mg base CX0 2 "_law_rounds" ["script", "most"] (spRounds c) := by
  refine D.cal sc_law_rounds bd_law_rounds (fun vs H Q E ⟨_, _, e, _⟩ => by rw [e]; rfl) fun f cdv A outer s H E hr => ⟨_, PSs.nox ((pss_cons (ps_set (i := 2) sc_law_rounds.nd rfl (.inl rfl) (pe_slice sl_list (pv 0) po_none (po_some (pv 1))))
      (pss_cons (ps_if (pt_cmpR (op_eqD hr.units) (pv 2) (pe_lst pa_nil) (nomark _)) (pss_one (ps_set (i := 2) sc_law_rounds.nd rfl (.inl rfl) (pe_lst (pa_cons pe_int pa_nil)))) pss_nil)
      (pss_one (ps_ret (pe_lc (own := [("cell", 3)]) (g := (gName 3)) (tt := tYes) rfl sc_law_rounds.nd (pi_list (pv 2)) (blkOk_by (N := N_law_rounds) (sc := defScope s_law_rounds) (by decide +kernel)) (fun _ _ _ _ _ => (pg_name (i := 3) sc_law_rounds.nd rfl (.inl rfl))) (fun _ _ _ _ _ => pts_nil) (fun _ _ _ _ _ => (pe_cal rfl (c_law_dice.mono (by omega)) hr (by rfl) pass0 (pa_cons (pv 3) pa_nil))))))))), ?_⟩
  rintro vs Q ⟨sA, ns, rfl, hs, hb, k, q⟩
  have hs' : SqL c.K (hid [] H) sA (ns.map V.int) := by rw [hid_nil]; exact hs
  have sg : Sig c [] H (L2.start N_law_rounds [.ref sA, .int 1]) (startG 4 [aL (ns.map PyData.int), aI 1]) := sig_start (N := N_law_rounds) (vs := [.ref sA, .int 1]) (as := [aL (ns.map PyData.int), aI 1]) ⟨Dp.lst hs' (dpI_of ns), Dp.int 1, trivial⟩
  refine run_then (PG := fun G => G = [some (aL (ns.map PyData.int)), some (aI 1), some (aL ((ns.map PyData.int).take 1)), none]) (st_set (ev_upto (n := 1) (ev_var rfl) (ev_var rfl)) rfl) sg k ?_
  rintro σ1 H1 G rfl e1 s1
  have k1 := e1.2 k
  refine run_then (PG := fun G => ∃ i : Int, i.natAbs < xB ∧ G = [some (aL (ns.map PyData.int)), some (aI 1), some (aL [.int i]), none]) ?_ s1 k1 ?_
  · cases ns with
    | nil =>
      have h := rv_eqD (c := c) (M := []) (shaped_Z []) (shaped_Z [])
      rw [show PyData.eqv (.list (([] : List Int).map PyData.int)) (.list (([] : List Int).map PyData.int)) = true by simp [PyData.eqv, PyData.eqvAll]] at h
      exact st_if (b := true) (et_test (ev_op (ev_var rfl) (ev_lst (ds := []) ea_nil (by decide)) h)) (fun _ => st_set (ev_lst (ds := [.int 0]) (ea_cons ev_int ea_nil) (by decide)) ⟨0, xB_big (by decide), rfl⟩) fun h => absurd h (by simp)
    | cons z r =>
      have h := rv_eqD (c := c) (M := []) (shaped_Z [z]) (shaped_Z [])
      rw [show PyData.eqv (.list ([z].map PyData.int)) (.list (([] : List Int).map PyData.int)) = false by simp [PyData.eqv, PyData.eqvAll]] at h
      exact st_if (b := false) (et_test (ev_op (ev_var rfl) (ev_lst (ds := []) ea_nil (by decide)) h)) (fun h => absurd h (by simp)) fun _ => st_next ⟨z, hb z List.mem_cons_self, rfl⟩
  rintro σ2 H2 G ⟨i, hi, rfl⟩ e2 s2
  have k2 := e2.2 k1
  refine lc_one (d := .int i) (it_list (ds := [.int i]) (ev_var rfl)) s2 k2 (fun M' => tg_name) (by simp) ?_ fun l a x y z H' e3 hl ha hx hy hy2 => q l a x y z H' ((e1.trans e2).trans e3) hl ha hx hy hy2
  intro M' σ3 H3 s3 k3 Q' q'
  have k0 := k3.bare
  refine (ea_cons (ev_var rfl) ea_nil : EvA c M' _ _ [aI i]) σ3 H3 s3 k3 _ fun vs H4 as eas e4 r4 => ?_
  subst eas
  obtain ⟨v, rfl, r5⟩ := relAll_one r4
  obtain rfl := dp_int r5
  have k4 := e4.2 k3
  exact ⟨i, rfl, hi, k4.bare, fun a x y z H' e5 ha hx hy hy2 => q' a x y z H' (e4.trans (Ex.all e5 k4.bare)) ha hx hy hy2⟩
end
end LW

/-! The law. -/
namespace LW
open L2 PySem PySem.Spec PyProof.Rows
/-! ### plans are alike to themselves -/
theorem depthAll_le {ds : List PyData} {n : Nat} (h : ∀ d ∈ ds, d.depth ≤ n) : PyData.depthAll ds ≤ n := by
  induction ds with
  | nil => simp [PyData.depthAll]
  | cons d r ih =>
    have h1 := h d List.mem_cons_self
    have h2 := ih fun x hx => h x (List.mem_cons_of_mem _ hx)
    simp only [PyData.depthAll]
    omega
theorem layAll_of {ds : List PyData} (h : ∀ d ∈ ds, d.canLay0 = true) : PyData.canLayAll0 ds = true := by
  induction ds with
  | nil => simp [PyData.canLayAll0]
  | cons d r ih =>
    simp only [PyData.canLayAll0]
    rw [h d List.mem_cons_self, ih fun x hx => h x (List.mem_cons_of_mem _ hx)]
    rfl
theorem eqvAll_self {ds : List PyData} (h : ∀ d ∈ ds, PyData.eqv d d = true) : PyData.eqvAll ds ds = true := by
  induction ds with
  | nil => simp [PyData.eqvAll]
  | cons d r ih =>
    simp only [PyData.eqvAll]
    rw [h d List.mem_cons_self, ih fun x hx => h x (List.mem_cons_of_mem _ hx)]
    rfl
theorem TreeD.alike {n : Nat} {t : Nd} (h : TreeD n t) : t.p.canLay0 = true ∧ t.p.depth ≤ n ∧ PyData.eqv t.p t.p = true := by
  induction h with
  | ends n q hb => exact ⟨by simp [PyData.canLay0, PyData.canLayAll0], by simp [PyData.depth, PyData.depthAll], by simp [PyData.eqv, PyData.eqvAll]⟩
  | choose n ts h0 hl h j t hj hf hb ih =>
    obtain ⟨i1, i2, i3⟩ := ih t (List.mem_of_getElem? hj)
    refine ⟨?_, ?_, ?_⟩
    · simp only [PyData.canLay0, PyData.canLayAll0]
      rw [i1]
      rfl
    · simp only [PyData.depth, PyData.depthAll]
      omega
    · simp only [PyData.eqv, PyData.eqvAll]
      rw [i3]
      simp
  | luck n cs h0 hl h hc hb ih =>
    refine ⟨?_, ?_, ?_⟩
    · simp only [PyData.canLay0]
      exact layAll_of fun d hd => by
        obtain ⟨x, hx, rfl⟩ := List.mem_map.mp hd
        exact (ih x hx).1
    · simp only [PyData.depth]
      have := depthAll_le (ds := cs.map (·.2.p)) (n := n) fun d hd => by
        obtain ⟨x, hx, rfl⟩ := List.mem_map.mp hd
        exact (ih x hx).2.1
      omega
    · simp only [PyData.eqv]
      exact eqvAll_self fun d hd => by
        obtain ⟨x, hx, rfl⟩ := List.mem_map.mp hd
        exact (ih x hx).2.2
theorem TreeD.shaped {n : Nat} {t : Nd} (h : TreeD n t) (hn : n ≤ 7) : SeqAt.shaped t.p = true := by
  obtain ⟨a, b, _⟩ := h.alike
  unfold SeqAt.shaped
  rw [Bool.and_eq_true]
  exact ⟨a, decide_eq_true (by omega)⟩
section
variable {c : Cf} {M : Mu} {G : Env'} {te : TE} {tt : TT} {t1 t2 : TS} {PG : Mu → Env' → Prop} {PP : Mu → AV → Prop} {PB : Mu → Bool → Prop}
theorem rv_nePlan {n : Nat} {t : Nd} (h : TreeD n t) (hn : n ≤ 7) : RvD c M (rNeD c.K) (.d t.p) (.d t.p) (aB false) := by
  have e := rv_neD (c := c) (M := M) (h.shaped hn) (h.shaped hn)
  rw [h.alike.2.2] at e
  exact e
theorem et_BM (h : EvM c M te G fun M' v => ∃ b, v = aB b ∧ PB M' b) : EvBM c M (tB te) G PB := fun σ H s k Q q => h σ H s k _ fun v H' M' a ⟨b, e, p⟩ st r => by
  subst e
  exact ⟨b, dp_bool r, q b H' M' p st⟩
theorem et_notM (h : EvBM c M tt G fun M' b => PB M' (!b)) : EvBM c M (tNot tt) G PB := fun σ H s k Q q => h σ H s k _ fun b H' M' p st => q (!b) H' M' p st
theorem sm_ifM (h : EvBM c M tt G PB) (h1 : ∀ M', PB M' true → StM c M' t1 G PG PP) (h2 : ∀ M', PB M' false → StM c M' t2 G PG PP) : StM c M (tIfS tt t1 t2) G PG PP := fun σ H s k D n q => h σ H s k _ fun b H1 M1 p st => by
  have s1 := s.step st
  cases b with
  | true => exact h1 M1 p σ H1 s1 st.ok D (fun σ' H' M' G' p' e s' => n σ' H' M' G' p' (st.trans e) s') (q.step st)
  | false => exact h2 M1 p σ H1 s1 st.ok D (fun σ' H' M' G' p' e s' => n σ' H' M' G' p' (st.trans e) s') (q.step st)
end
theorem run_restM {c : Cf} {M : Mu} {t : TS} {G : Env'} {PG : Mu → Env' → Prop} {σ : L2.St} {H : Hp} {D : Ends} (body : StM c M t G PG fun _ _ => False) (s : Sig c M H σ G) (k : Ok c M H) (n : ∀ σ' H' M', Step c M M' H H' → D.nx σ' H') : t D σ H :=
  body σ H s k D (fun σ' H' M' G' _ st _ => n σ' H' M' st) fun _ _ _ _ z _ _ => z.elim
theorem run_forcall {K : PySem.W.Frag} {sp : Sp} {E : XK} {ta : L2.TA} {g : TG} {t1 t2 : TS} {D : Ends} {σ : L2.St} {H : Hp}
    (h : ta σ H fun vs H1 => sp (vs ++ []) H1 (fun v H2 => ∃ l, v = .ref l ∧ (∃ xs, SqL K H2 l xs) ∧ ∃ W : Nat → Nat → L2.St → Hp → Prop, (∃ m, W 0 m σ H2) ∧ ∀ i m σ H, W i m σ H →
      ((Itl K l).stop i H ∧ t2 D σ H) ∨ ((Itl K l).go i H ∧ ∃ N : L2.St → Hp → Prop, (∀ σ' H', N σ' H' → ∃ m', m' < m ∧ W (i + 1) m' σ' H') ∧ ∀ x H', (Itl K l).yld i H x H' → g x σ H' fun σ2 H2 => t1 { nx := N, rt := D.rt, ct := N, bk := t2 D } σ2 H2)) E) :
    tSeq (tFor (iList K (tCall sp [] E ta)) g t1) t2 D σ H := h
theorem run_name {i : Nat} {v : V} {σ : L2.St} {H : Hp} {Q : L2.St → Hp → Prop} (h : Q (σ.set i (some v)) H) : gName i v σ H Q := h
theorem TC_le : ∀ d, d ≤ 6 → TC d ≤ 6000 := by decide
theorem seventh : dQ (Rat.divInt 1 7) = .tuple [.int 1, .int 7] := by
  have h1 : (Rat.divInt 1 7).num = 1 := by decide +kernel
  have h2 : (Rat.divInt 1 7).den = 7 := by decide +kernel
  unfold dQ
  rw [h1, h2]
  rfl
theorem seventh_pos : (0 : Rat) < Rat.divInt 1 7 := by decide +kernel
theorem less_fit {q : Rat} (h : BdT 6 q) : Fit2 q (Rat.divInt 1 7) ∧ Fit (q - Rat.divInt 1 7) ∧ q - Rat.divInt 1 7 < q := by
  have b7 : Bd 1 7 (Rat.divInt 1 7) := ⟨by decide +kernel, by decide +kernel⟩
  refine ⟨Bd.fit2 h b7 TA_six (by decide +kernel) (by decide +kernel), Bd.fit (Bd.sub h b7) (by decide +kernel) (by decide +kernel), ?_⟩
  have := seventh_pos
  grind
section
variable {P : Program} {w : World} {c : Cf} {mg : Str → Option Value} {base : Heap} {cA T bp bt : Addr}
theorem sig_dice {H : Hp} {a : Addr} {xs : List (Option V)} {Mx : Mu} (hl : xs.length = 6) (h : xs[1]? = some (some (.ref a))) : Sig c Mx H xs [none, some (.at a), none, none, none, none] := ⟨hl, fun i v e => by
  match i, e with
  | 0, e => cases e
  | 1, e => cases e; exact ⟨.ref a, h, rfl⟩
  | 2, e => cases e
  | 3, e => cases e
  | 4, e => cases e
  | 5, e => cases e
  | i + 6, e => simp at e⟩
theorem ok_law (B : Bt mg) (bP : BadP c mg "BadPaper" bp) (gT : mg "BadTree" = some (.ref bt)) (D_taken : Def c mg "_law_taken" s_law_taken []) (lt : LamT c mg base "law" (defScope s_law) cA T bp bt)
    {f : Addr} {fd : FuncData} (F : FunD c.K "law" "law" (defArgs s_law) (defBody s_law) (defScope s_law) [] [] f fd) (hcode : CodeAt c.K f cA)
    (c_law_rounds : Cal P w c mg base CX0 2 "_law_rounds" ["script", "most"] (spRounds c)) (ct : ∀ n, Cal P w c mg base CX0 (3 + 1 + n) "_law_tree" ["dice", "deep"] (spM c (R_tree n))) (c_law_roll : CalRoll P w c mg base)
    (clw : CalLw P w c mg base) (cvo : ∀ n, Cal P w c mg base CX0 (6 + 1 + n) "values_of" ["tree"] (spR c (R_vo n))) (cwo : CalWo P w c mg base) (cpl : ∀ n, Cal P w c mg base CX0 (5 + 1 + n) "plan" ["tree"] (spR c (R_plan n))) (clf : ∀ n, Cal P w c mg base CX0 (5 + 1 + n) "_law_first" ["tree"] (spR c (R_plan n)))
    (cwb : CalWb P w c mg base) (ccp : ∀ n, Cal P w c mg base (L2.CX P w) (6 + n) "check_plan" ["tree", "steps", "paper"] (spX c (.ref bp) (R_cp n))) (c_minus : Cal P w c mg base CX0 3 "minus" ["one", "other"] (spR c R_minus)) (c_law_for_ever : Cal P w c mg base CX0 15 "_law_for_ever" ["dice"] (spM c R_ever)) :
    FnOk P w c.K mg base CX0 17 f fd ["script"] (spLaw c) := by
  refine okT F hcode sc_law (fun vs H Q E ⟨_, _, e, _⟩ => by rw [e]; rfl) fun A outer s H vs Q E hr hsp => ?_
  have tbL := lt.tb
  have c_law_tree := ct 7
  have c_law_worth := clw 7
  have c_values_of := cvo 7
  have c_worth := cwo 7
  have c_plan := cpl 7
  have c_law_first := clf 7
  have c_worth_by := cwb 7
  have c_check_plan := ccp 7
  refine ⟨_, PSs.nox (X := cxOf CX0 P w c.K mg base N_law "law" (defScope s_law) f (.ref cA) A outer s H E) (((pss_cons (ps_for PassesOwn.never rfl (pi_list (pe_cal rfl (c_law_rounds.mono (by omega)) hr (by rfl) pass0 (pa_cons (pv 0) (pa_cons pe_int pa_nil)))) (pg_name (i := 1) sc_law.nd rfl (.inl rfl)) (pss_cons (ps_set (i := 2) sc_law.nd rfl (.inr rfl) (pe_cal rfl (c_law_tree.mono (by omega)) hr (by rfl) pass0 (pa_cons (pv 1) (pa_cons (pe_op op_add pe_int (pe_cal rfl (c_law_roll.mono (by omega)) hr (by rfl) pass0 (pa_cons (pv 1) (pa_cons pe_int pa_nil)))) pa_nil))))
      (pss_cons (ps_par (by rfl) sc_law.nd (i := 3) (j := 4) rfl rfl (by decide) rfl rfl (pa_cons (pe_cal rfl (c_law_worth.mono (by omega)) hr (by rfl) pass0 (pa_cons (pv 2) pa_nil)) (pa_cons (pe_cal rfl (c_values_of.mono (by omega)) hr (by rfl) pass0 (pa_cons (pv 2) pa_nil)) pa_nil)) (by rfl))
      (pss_cons (ps_if (PW.pt (pw_or (pt_cmpR (op_neD hr.units) (pe_cal rfl (c_worth.mono (by omega)) hr (by rfl) pass0 (pa_cons (pv 2) pa_nil)) (pv 3) (nomark _)) (pw_or (pt_cmpR (op_neD hr.units) (pe_cal rfl (c_plan.mono (by omega)) hr (by rfl) pass0 (pa_cons (pv 2) pa_nil)) (pe_cal rfl (c_law_first.mono (by omega)) hr (by rfl) pass0 (pa_cons (pv 2) pa_nil)) (nomark _)) (pw_or1 (pt_cmpR (op_neD hr.units) (pe_cal rfl (c_worth_by.mono (by omega)) hr (by rfl) pass0 (pa_cons (pv 2) (pa_cons (pe_cal rfl (c_plan.mono (by omega)) hr (by rfl) pass0 (pa_cons (pv 2) pa_nil)) pa_nil))) (pv 3) (nomark _)))))) (pss_one (ps_ret pe_bl)) pss_nil)
      (pss_cons (ps_if (pt_cmpR (op_neD hr.units) (pe_cal rfl (c_check_plan.mono (by omega)) hr (by rfl) pass_never (pa_cons (pv 2) (pa_cons (pe_cal rfl (c_plan.mono (by omega)) hr (by rfl) pass0 (pa_cons (pv 2) pa_nil)) (pa_cons (pv 4) pa_nil)))) (pv 3) (nomark _)) (pss_one (ps_ret pe_bl)) pss_nil)
      (pss_cons (ps_set (i := 5) sc_law.nd rfl (.inr rfl) (pe_tup (pa_cons (pe_cal rfl (c_minus.mono (by omega)) hr (by rfl) pass0 (pa_cons (pe_ix ix_seq (pv 4) pe_int (fun _ _ => rfl)) (pa_cons (pe_tup (pa_cons pe_int (pa_cons pe_int pa_nil))) pa_nil))) (pa_cons (pe_ix ix_seq (pv 4) pe_int (fun _ _ => rfl)) pa_nil))))
      (pss_cons (ps_if (pt_cmp (pc_notN (pe_taken (t := fun E => tCall (spX c (.ref bp) (R_cp 7)) [] E (tCons (tVar 2) (tCons (tCall (spR c (R_plan 7)) [] E0 (tCons (tVar 2) tNil)) (tCons (tVar 5) tNil)))) (k := 14) rfl D_taken bP.g gT (by rfl) tbL rfl (hr.mono (by omega)) (LamX.lamS_by (sc := defScope s_law) (by decide +kernel)) rfl (fun _ _ _ _ _ => rfl) (fun A outer s H E f c' hr => (pe_cal rfl (c_check_plan.mono (by omega)) hr (by rfl) (passes_call (takes_of rfl rfl rfl rfl) (fun _ _ _ _ h => h)) (pa_cons (pv 2) (pa_cons (pe_cal rfl (c_plan.mono (by omega)) hr (by rfl) pass0 (pa_cons (pv 2) pa_nil)) (pa_cons (pv 5) pa_nil))))))) rfl) (pss_one (ps_ret pe_bl)) pss_nil)
      (pss_one (ps_if (pt_not (pt_val (pe_cal rfl (c_law_for_ever.mono (by omega)) hr (by rfl) pass0 (pa_cons (pv 1) pa_nil)))) (pss_one (ps_ret pe_bl)) pss_nil)))))))))
      (pss_one (ps_ret pe_bl))))), ?_ ⟩
  obtain ⟨sA, ns, rfl, hs, hb, k, q⟩ := hsp
  have sg : Sig c [] H (L2.start N_law [.ref sA]) (startG 6 [aL (ns.map PyData.int)]) := sig_start (N := N_law) (vs := [.ref sA]) (as := [aL (ns.map PyData.int)]) ⟨Dp.lst (by rw [hid_nil]; exact hs) (dpI_of ns), trivial⟩
  refine run_forcall ?_
  refine (ea_cons (ev_var (i := 0) rfl) (ea_cons ev_int ea_nil) : EvA c [] _ _ [aL (ns.map PyData.int), aI 1]) _ H sg k _ fun vs H0 as eas e0 r0 => ?_
  subst eas
  obtain ⟨v1, v2, rfl, ra, rb⟩ := relAll_two r0
  obtain ⟨sA2, xs2, rfl, hs2, hd2⟩ := dp_lst ra
  obtain rfl := dp_int rb
  have hxs := dpAll_ints hd2
  subst hxs
  refine ⟨sA2, ns, rfl, sqL_hid hs2, hb, e0.2 k, fun l a x y z H1 e1 hl ha hx hy hy2 => ?_⟩
  have k1 := e1.2 (e0.2 k)
  have hla : l ≠ a := fun w => by
    rw [w, ha] at hl
    cases hl
  have hsql : SqL c.K H1 l [.ref a] := .inl (.inl hl)
  refine ⟨l, rfl, ⟨_, hsql⟩, ?_⟩
  refine Exists.intro (fun (i m : Nat) (σ' : L2.St) (H' : Hp) => (i = 0 ∧ m = 1 ∧ H' = H1 ∧ σ' = L2.start N_law [.ref sA]) ∨ (i = 1 ∧ H' l = some (.lst [.ref a]))) ⟨⟨1, .inl ⟨rfl, rfl, rfl, rfl⟩⟩, ?_⟩
  rintro i m σ' H' (⟨rfl, rfl, rfl, rfl⟩ | ⟨rfl, hl'⟩)
  rotate_left
  · exact .inl ⟨⟨_, .inl (.inl hl'), by show 1 ≤ 1; decide⟩, q H'⟩
  refine .inr ⟨⟨_, .ref a, hsql, rfl⟩, fun σ' H' => H' l = some (.lst [.ref a]), fun σ' H' h => ⟨0, by omega, .inr ⟨rfl, h⟩⟩, ?_⟩
  rintro v H2 ⟨rfl, hv⟩
  have ev : V.ref a = v := by
    have := hv _ hsql
    simpa using this
  subst ev
  have kD : Ok c ((a, IsDice 10000) :: []) H2 := k1.push ha ⟨x, y, z, rfl, hx, hy, by unfold yB; omega⟩
  refine run_name ?_
  refine run_restM (M := (a, IsDice 10000) :: []) (G := [none, some (.at a), none, none, none, none]) (PG := fun _ _ => True) ?_ (sig_dice (xs := (L2.start N_law [V.ref sA]).set 1 (some (V.ref a))) rfl rfl) kD ?_
  rotate_left
  · intro σ' H' M' st
    exact st.keep l _ hl (fun _ z => nomatch z) (by simpa using hla)
  -- the tree
  refine sm_seq (PG1 := fun M' G => ∃ (t : Nd) (r : Nat), TreeD 7 t ∧ 300 ≤ r ∧ M' = (a, IsDice r) :: [] ∧ G = [none, some (.at a), some (.d t.d), none, none, none]) (sm_set (em_callM (eam_cons (PA := fun M' v => M' = (a, IsDice 10000) :: [] ∧ v = .at a) (EvP.m (ev_var rfl) fun v e => ⟨rfl, e⟩) ?_))) ?_
  · rintro M1 v ⟨rfl, rfl⟩
    refine eam_cons (PA := fun M' v => ∃ d : Nat, 1 ≤ d ∧ d ≤ 6 ∧ M' = (a, IsDice 9999) :: [] ∧ v = aI (d : Int)) (em_op (PA := fun M' v => M' = (a, IsDice 10000) :: [] ∧ v = aI 1) (EvP.m ev_int fun v e => ⟨rfl, e⟩) ?_) ?_
    · rintro M1 v ⟨rfl, rfl⟩
      refine EvM.mono (em_roll (N1 := []) (N2 := []) (a := a) (n := 9999) (many := 6) (i := 1) rfl (by simp) (by simp) rfl ev_int (by decide) (by decide)) ?_
      rintro M1 v ⟨rfl, y', hy', rfl⟩
      exact RvP_of rv_I0 fun b e => ⟨y' + 1, by omega, by omega, rfl, by rw [e]; congr 2; omega⟩
    · rintro M1 v ⟨d, hd1, hd6, rfl, rfl⟩
      have hTC := TC_le d hd6
      refine eam_nil ⟨[], [], a, 9999 - TC d, d, by omega, hd6, by rw [show 9999 - TC d + TC d = 9999 by omega]; rfl, by simp, by simp, rfl, fun t ht n' hn' => ⟨t, n', ht.le (by omega), by omega, rfl, rfl⟩⟩
  rintro M' G ⟨t, r, ht, hr0, rfl, rfl⟩
  obtain ⟨ps, hps⟩ := ht.paper
  have htf := ht.fit (Nat.le_refl 7)
  generalize hMd : (a, IsDice r) :: ([] : Mu) = Md
  have still : ∀ {ts : TS} {G : Env'} {PGx : Env' → Prop}, StP c Md ts G PGx (fun _ => False) → StM c Md ts G (fun M' G' => M' = Md ∧ PGx G') (fun _ _ => False) := fun {ts G PGx} hs => StP.m hs (fun G' hg => ⟨rfl, hg⟩) fun _ z => z.elim
  refine sm_seq (still (PGx := fun G => G = [none, some (.at a), some (.d t.d), some (aQ t.w), some (.d t.pp), none]) (st_par (x := aQ t.w) (y := .d t.pp) (ea_cons (ev_call (P := fun v => v = aQ t.w) (ea_cons (ev_var rfl) ea_nil) ⟨t, ht, Nat.le_refl 7, rfl, rfl⟩) (ea_cons (ev_call (P := fun v => v = .d t.pp) (ea_cons (ev_var rfl) ea_nil) ⟨t, ht, Nat.le_refl 7, rfl, rfl⟩) ea_nil)) rfl)) ?_
  rintro M' G ⟨rfl, rfl⟩
  refine sm_seq (still (PGx := fun G => G = [none, some (.at a), some (.d t.d), some (aQ t.w), some (.d t.pp), none]) (st_if (b := false) (et_is (et_or (et_test (ev_op (ev_call (P := fun v => v = aQ t.w) (ea_cons (ev_var rfl) ea_nil) ⟨t, ht, Nat.le_refl 7, rfl, rfl⟩) (ev_var rfl) rv_neDQ)) fun _ => et_or (et_test (ev_op (ev_call (P := fun v => v = .d t.p) (ea_cons (ev_var rfl) ea_nil) ⟨t, ht, Nat.le_refl 7, rfl, rfl⟩) (ev_call (P := fun v => v = .d t.p) (ea_cons (ev_var rfl) ea_nil) ⟨t, ht, Nat.le_refl 7, rfl, rfl⟩) (rv_nePlan ht (Nat.le_refl 7)))) fun _ => et_test (ev_op (ev_call (P := fun v => v = aQ t.w) (ea_cons (ev_var rfl) (ea_cons (ev_call (P := fun v => v = .d t.p) (ea_cons (ev_var rfl) ea_nil) ⟨t, ht, Nat.le_refl 7, rfl, rfl⟩) ea_nil)) ⟨t, ht, Nat.le_refl 7, rfl, rfl⟩) (ev_var rfl) rv_neDQ)) (by simp)) (fun h => absurd h (by simp)) fun _ => st_next rfl)) ?_
  rintro M' G ⟨rfl, rfl⟩
  refine sm_seq (still (PGx := fun G => G = [none, some (.at a), some (.d t.d), some (aQ t.w), some (.d t.pp), none]) (st_if (b := false) (et_is (et_test (ev_op (ev_callX (P := fun v => v = aQ t.w) (ea_cons (ev_var rfl) (ea_cons (ev_call (P := fun v => v = .d t.p) (ea_cons (ev_var rfl) ea_nil) ⟨t, ht, Nat.le_refl 7, rfl, rfl⟩) (ea_cons (ev_var rfl) ea_nil))) ⟨t, t.w, ps, ht, Nat.le_refl 7, hps, htf, ⟨False.elim, fun z => absurd z Rat.lt_irrefl⟩, fun _ => rfl, by rw [← hps], rfl⟩) (ev_var rfl) rv_neDQ)) (by simp)) (fun h => absurd h (by simp)) fun _ => st_next rfl)) ?_
  rintro M' G ⟨rfl, rfl⟩
  -- less
  obtain ⟨lf1, lf2, lf3⟩ := less_fit ht.bd'
  refine sm_seq (still (PGx := fun G => G = [none, some (.at a), some (.d t.d), some (aQ t.w), some (.d t.pp), some (.d (dPap (t.w - Rat.divInt 1 7) ps))]) (st_set (ev_tup (ds := [dQ (t.w - Rat.divInt 1 7), .tuple ps]) (ea_cons (ev_call (P := fun v => v = aQ (t.w - Rat.divInt 1 7)) (ea_cons (ev_op (ev_var rfl) ev_int (rv_ppw ht)) (ea_cons (a := aQ (Rat.divInt 1 7)) (ev_is (ev_tup (ds := [.int 1, .int 7]) (ea_cons ev_int (ea_cons ev_int ea_nil)) (by show 2 ≤ 1000; decide)) (congrArg AV.d seventh.symm)) ea_nil)) ⟨t.w, _, rfl, lf1, rfl⟩) (ea_cons (ev_op (b := aI 1) (ev_var rfl) ev_int (by rw [hps]; exact rv_ixT (n := 1) rfl)) ea_nil)) (by show 2 ≤ 1000; decide)) rfl)) ?_
  rintro M' G ⟨rfl, rfl⟩
  refine sm_seq (still (PGx := fun G => G = [none, some (.at a), some (.d t.d), some (aQ t.w), some (.d t.pp), some (.d (dPap (t.w - Rat.divInt 1 7) ps))]) (st_if (b := false) (et_B (ev_notN (ev_taken lt.mem lt.one lt.out lt.ex (Pa := fun _ => True) (ea_cons (ev_var rfl) (ea_cons (ev_call (P := fun v => v = .d t.p) (ea_cons (ev_var rfl) ea_nil) ⟨t, ht, Nat.le_refl 7, rfl, rfl⟩) (ea_cons (ev_var rfl) ea_nil))) ⟨t, _, ps, ht, Nat.le_refl 7, hps, lf2, ⟨fun _ => lf3, fun _ => trivial⟩, fun z => absurd trivial z, rfl, trivial⟩))) (fun h => absurd h (by simp)) fun _ => st_next rfl)) ?_
  rintro M' G ⟨rfl, rfl⟩
  subst hMd
  refine sm_ifM (PB := fun _ b => b = false) (et_notM (et_BM (em_callM (EvA.m (as := [.at a]) (ea_cons (ev_var rfl) ea_nil) ?_)))) (fun M' h => absurd h (by simp)) fun M' _ => sm_next trivial
  exact ⟨[], [], a, r - 300, by rw [show r - 300 + 300 = r by omega]; rfl, by simp, by simp, rfl, fun n' hn' => ⟨true, rfl, rfl⟩⟩
end
end LW

set_option maxHeartbeats 0
/-! The head: facts by names. -/
namespace LW
open L2 PySem PySem.Spec PyProof.Rows
def fnH : List He.DefD := [⟨("shared", none), "shared", "shared", defArgs s_shared, defBody s_shared, defScope s_shared, [], []⟩,
  ⟨("part", none), "part", "part", defArgs s_part, defBody s_part, defScope s_part, [.int 1], []⟩,
  ⟨("plus", none), "plus", "plus", defArgs s_plus, defBody s_plus, defScope s_plus, [], []⟩,
  ⟨("minus", none), "minus", "minus", defArgs s_minus, defBody s_minus, defScope s_minus, [], []⟩,
  ⟨("times", none), "times", "times", defArgs s_times, defBody s_times, defScope s_times, [], []⟩,
  ⟨("over", none), "over", "over", defArgs s_over, defBody s_over, defScope s_over, [], []⟩,
  ⟨("is_less", none), "is_less", "is_less", defArgs s_is_less, defBody s_is_less, defScope s_is_less, [], []⟩,
  ⟨("greater", none), "greater", "greater", defArgs s_greater, defBody s_greater, defScope s_greater, [], []⟩,
  ⟨("total", none), "total", "total", defArgs s_total, defBody s_total, defScope s_total, [], []⟩,
  ⟨("check_chance", none), "check_chance", "check_chance", defArgs s_check_chance, defBody s_check_chance, defScope s_check_chance, [], []⟩,
  ⟨("greatest_of", none), "greatest_of", "greatest_of", defArgs s_greatest_of, defBody s_greatest_of, defScope s_greatest_of, [], []⟩,
  ⟨("solved", none), "solved", "solved", defArgs s_solved, defBody s_solved, defScope s_solved, [], []⟩,
  ⟨("by_row", none), "by_row", "by_row", defArgs s_by_row, defBody s_by_row, defScope s_by_row, [], []⟩,
  ⟨("check_best", none), "check_best", "check_best", defArgs s_check_best, defBody s_check_best, defScope s_check_best, [], []⟩,
  ⟨("worth", none), "worth", "worth", defArgs s_worth, defBody s_worth, defScope s_worth, [], []⟩,
  ⟨("plan", none), "plan", "plan", defArgs s_plan, defBody s_plan, defScope s_plan, [], []⟩,
  ⟨("worth_by", none), "worth_by", "worth_by", defArgs s_worth_by, defBody s_worth_by, defScope s_worth_by, [], []⟩,
  ⟨("values_of", none), "values_of", "values_of", defArgs s_values_of, defBody s_values_of, defScope s_values_of, [], []⟩,
  ⟨("inner_trees", none), "inner_trees", "inner_trees", defArgs s_inner_trees, defBody s_inner_trees, defScope s_inner_trees, [], []⟩,
  ⟨("check_plan", none), "check_plan", "check_plan", defArgs s_check_plan, defBody s_check_plan, defScope s_check_plan, [], []⟩,
  ⟨("check_values", none), "check_values", "check_values", defArgs s_check_values, defBody s_check_values, defScope s_check_values, [], []⟩,
  ⟨("_law_dice", none), "_law_dice", "_law_dice", defArgs s_law_dice, defBody s_law_dice, defScope s_law_dice, [], []⟩,
  ⟨("_law_roll", none), "_law_roll", "_law_roll", defArgs s_law_roll, defBody s_law_roll, defScope s_law_roll, [], []⟩,
  ⟨("_law_rounds", none), "_law_rounds", "_law_rounds", defArgs s_law_rounds, defBody s_law_rounds, defScope s_law_rounds, [], []⟩,
  ⟨("_law_row", none), "_law_row", "_law_row", defArgs s_law_row, defBody s_law_row, defScope s_law_row, [], []⟩,
  ⟨("_law_taken", none), "_law_taken", "_law_taken", defArgs s_law_taken, defBody s_law_taken, defScope s_law_taken, [], []⟩,
  ⟨("_law_tree", none), "_law_tree", "_law_tree", defArgs s_law_tree, defBody s_law_tree, defScope s_law_tree, [], []⟩,
  ⟨("_law_worth", none), "_law_worth", "_law_worth", defArgs s_law_worth, defBody s_law_worth, defScope s_law_worth, [], []⟩,
  ⟨("_law_first", none), "_law_first", "_law_first", defArgs s_law_first, defBody s_law_first, defScope s_law_first, [], []⟩,
  ⟨("_law_choice", none), "_law_choice", "_law_choice", defArgs s_law_choice, defBody s_law_choice, defScope s_law_choice, [], []⟩,
  ⟨("_law_for_ever", none), "_law_for_ever", "_law_for_ever", defArgs s_law_for_ever, defBody s_law_for_ever, defScope s_law_for_ever, [], []⟩,
  ⟨("law", none), "law", "law", defArgs s_law, defBody s_law, defScope s_law, [], []⟩,
  ⟨("Plans", some "__init__"), "__init__", "Plans.__init__", defArgs s_P_init, defBody s_P_init, defScope s_P_init, [], []⟩,
  ⟨("Plans", some "worth_of"), "worth_of", "Plans.worth_of", defArgs s_P_worth_of, defBody s_P_worth_of, defScope s_P_worth_of, [], []⟩,
  ⟨("Plans", some "for_steps"), "for_steps", "Plans.for_steps", defArgs s_P_for_steps, defBody s_P_for_steps, defScope s_P_for_steps, [], []⟩,
  ⟨("Plans", some "best_choice"), "best_choice", "Plans.best_choice", defArgs s_P_best_choice, defBody s_P_best_choice, defScope s_P_best_choice, [], []⟩,
  ⟨("Plans", some "worth_by"), "worth_by", "Plans.worth_by", defArgs s_P_worth_by, defBody s_P_worth_by, defScope s_P_worth_by, [], []⟩,
  ⟨("Plans", some "best"), "best", "Plans.best", defArgs s_P_best, defBody s_P_best, defScope s_P_best, [], []⟩]
def faH : List He.Fa := [.glo "shared", .glo "part", .glo "plus", .glo "minus", .glo "times", .glo "over", .glo "is_less", .glo "greater", .glo "total", .glo "check_chance", .glo "greatest_of", .glo "solved", .glo "by_row", .glo "check_best", .glo "worth", .glo "plan", .glo "worth_by", .glo "values_of", .glo "inner_trees", .glo "check_plan", .glo "check_values", .glo "_law_dice", .glo "_law_roll", .glo "_law_rounds", .glo "_law_row", .glo "_law_taken", .glo "_law_tree", .glo "_law_worth", .glo "_law_first", .glo "_law_choice", .glo "_law_for_ever", .glo "law", .free "len", .free "tuple", .free "list", .free "int", .free "abs", .free "sum", .free "range", .free "zip", .free "enumerate", .free "isinstance", .free "any", .glo "Plans", .cls "Plans", .noat "Plans" "places", .noat "Plans" "later", .mkr "Plans", .meth "Plans" "worth_of", .meth "Plans" "for_steps", .meth "Plans" "best_choice", .meth "Plans" "worth_by", .meth "Plans" "best", .glo "BadPaper", .exc "BadPaper", .glo "BadTree", .glo "NOUGHT"]
def tfH : List He.Defn := [("law", none), ("_law_for_ever", none), ("solved", none), ("Plans", some "__init__")]
def exH (K : PySem.W.Frag) : Bool := He.tupB K "NOUGHT" [.int 0, .int 1] && (decide (PySem.W.exmAny K (.ref (He.ga K "BadPaper")) [.ref (He.ga K "BadPaper"), .ref (He.ga K "BadTree")] = some true) && decide (((tfH.map fun p => (He.cT K p).2)).Nodup))
abbrev RowH : PySem.W.OpenRow := PySem.W.OpenLaw.row PySem.Challenge.rw_luckwright_k64_whole_plans_at_any_size
abbrev hkH : PySem.W.Hook := He.hookX 5 faH fnH [] tfH exH
def obH (s : PySem.W.SharedT) : He.AlX := He.obsX 5 faH fnH [] tfH exH (HandSHeadRun.getT s)
theorem obH_eq (s : PySem.W.SharedT) : obH s = hkH.obs s.abs := He.obsX_eq (HandSHeadRun.getT_eq s)
def looseH0 : List Str := ["ChanceFault", "BadPart", "BadTree", "BadPaper", "NOUGHT", "shared", "part", "plus", "minus", "times"]
def looseH1 : List Str := ["over", "is_less", "greater", "total", "check_chance", "greatest_of", "solved", "by_row", "Plans", "check_best"]
def looseH2 : List Str := ["worth", "plan", "worth_by", "values_of", "inner_trees", "check_plan", "check_values", "_law_dice", "_law_roll", "_law_rounds"]
def looseH3 : List Str := ["_law_row", "_law_taken", "_law_tree", "_law_worth", "_law_first", "_law_choice", "_law_for_ever"]
abbrev looseH : List Str := looseH0 ++ (looseH1 ++ (looseH2 ++ looseH3))
theorem runH (w : World) : HandSHeadRun.RunEq RowH (PySem.W.view RowH.prog [43]) hkH obH 2400 looseH w := by
  intro os
  kernel_rfl
end LW

set_option maxHeartbeats 4100000
/-! All parts joined. -/
namespace LW
open L2 PySem PySem.Spec PyProof.Rows
def cTH (K : PySem.W.Frag) (p : He.Defn) : Addr × Addr := He.cT K p
def cfH (K : PySem.W.Frag) : Cf where
  K := K
  C := He.ga K "Plans"
  gs := [(He.cT K ("solved", none)).2, (He.cT K ("Plans", some "__init__")).2]
  ls := [((He.cT K ("law", none)).2, lamQ "law" (defScope s_law)), ((He.cT K ("_law_for_ever", none)).2, lamQ "_law_for_ever" (defScope s_law_for_ever))]
def csH (K : PySem.W.Frag) : List (Addr × Addr) := tfH.map fun p => He.cT K p
theorem codeAtH {K : PySem.W.Frag} {p : He.Defn} : CodeAt K (He.fAd K p) (He.cT K p).1 := fun oc od fd osl a lk e => (He.codeOf_eq lk e).symm
theorem tbG {base : Heap} {mg : Str → Option Value} {a b : Addr} (t : LamX.TabB base mg a b) : GxR.TabB base mg a b := ⟨t.code, t.bm, t.gP⟩
structure ExH (K : PySem.W.Frag) : Prop where
  nought : ∀ H : Hp, SqT K H (He.ga K "NOUGHT") [.int 0, .int 1]
  catch_ : PySem.W.exmAny K (.ref (He.ga K "BadPaper")) [.ref (He.ga K "BadPaper"), .ref (He.ga K "BadTree")] = some true
  apart : (tfH.map fun p => (He.cT K p).2).Nodup
theorem exH_ok {K : PySem.W.Frag} (h : exH K = true) : ExH K := by
  unfold exH at h
  rw [Bool.and_eq_true, Bool.and_eq_true] at h
  exact ⟨fun H => He.tupB_ok h.1 H, of_decide_eq_true h.2.1, of_decide_eq_true h.2.2⟩
section
variable {P : Program} {w : World} {K : PySem.W.Frag} {mg : Str → Option Value} {base h : Heap}
theorem def_of (KX : K.In h) (G : h.Ns mainGlobals mg) (c : He.SaysD faH fnH K) {x : Str} {st : Stmt} (i j : Nat) {dfl : List He.Dv} (hi : fnH[i]? = some ⟨(x, none), x, x, defArgs st, defBody st, defScope st, dfl, []⟩) (hj : faH[j]? = some (.glo x)) : Def (cfH K) mg x st (dfl.map (He.Dv.v K)) := by
  obtain ⟨fd, F⟩ := c.def_ i hi
  exact ⟨_, fd, F, He.glo_ok KX G (c.fact j hj)⟩
theorem defM_of (c : He.SaysD faH fnH K) {m q : Str} {st : Stmt} (i j : Nat) (hi : fnH[i]? = some ⟨("Plans", some m), m, q, defArgs st, defBody st, defScope st, [], []⟩) (hj : faH[j]? = some (.meth "Plans" m)) : DefM (cfH K) m q st := by
  obtain ⟨fd, F⟩ := c.def_ i hi
  exact ⟨_, fd, F, He.meth_ok (c.fact j hj)⟩
theorem intB_lt {z : Int} (h : Builtin.Int.intBits z ≤ 1048576) : z.natAbs < xB := by
  have h2 : z.natAbs < 2 ^ (z.natAbs.log2 + 1) := Nat.lt_log2_self
  have h1 : z.natAbs.log2 + 1 ≤ 1048600 := by
    rw [Builtin.Int.intBits] at h
    split at h
    · rename_i e
      have : z.natAbs = 0 := by simpa using e
      rw [this]
      decide
    · omega
  exact Nat.lt_of_lt_of_le h2 (Nat.pow_le_pow_right (by decide) h1)
theorem law_ok (KX : K.In h) (G : h.Ns mainGlobals mg) (c : He.SaysD faH fnH K) (e : ExH K) (TB : ∀ p ∈ csH K, LamX.TabB base mg p.1 p.2) {fd : FuncData}
    (F : FunD K "law" "law" (defArgs s_law) (defBody s_law) (defScope s_law) [] [] (He.fAd K ("law", none)) fd) : FnOk P w K mg base CX0 17 (He.fAd K ("law", none)) fd ["script"] (spLaw (cfH K)) := by
  have B : Bt mg := ⟨He.free_ok KX G (c.fact 32 rfl), He.free_ok KX G (c.fact 33 rfl), He.free_ok KX G (c.fact 34 rfl), He.free_ok KX G (c.fact 35 rfl), He.free_ok KX G (c.fact 36 rfl), He.free_ok KX G (c.fact 37 rfl), He.free_ok KX G (c.fact 38 rfl), He.free_ok KX G (c.fact 39 rfl), He.free_ok KX G (c.fact 40 rfl), He.free_ok KX G (c.fact 41 rfl), He.free_ok KX G (c.fact 42 rfl)⟩
  have Tp : PlTxt (cfH K) := ⟨He.cls_ok (c.fact 44 rfl), He.noat_ok (c.fact 45 rfl), He.noat_ok (c.fact 46 rfl)⟩
  have gPl : mg "Plans" = some (.ref (He.ga K "Plans")) := He.glo_ok KX G (c.fact 43 rfl)
  have ex := He.exc_ok (c.fact (f := .exc "BadPaper") 54 rfl)
  have bP : BadP (cfH K) mg "BadPaper" (He.ga K "BadPaper") := ⟨He.glo_ok KX G (c.fact 53 rfl), ex.2.1, ⟨_, _, _, _, PySem.F.excBase_ValueError, ex.1⟩, ex.2.2.1, ex.2.2.2⟩
  have gT : mg "BadTree" = some (.ref (He.ga K "BadTree")) := He.glo_ok KX G (c.fact 55 rfl)
  have gN : ∃ a, mg "NOUGHT" = some (.ref a) ∧ ∀ H, SqT (cfH K).K H a [.int 0, .int 1] := ⟨_, He.glo_ok KX G (c.fact 56 rfl), e.nought⟩
  have tL := TB _ (List.mem_map.mpr ⟨("law", none), by simp [tfH], rfl⟩)
  have tE := TB _ (List.mem_map.mpr ⟨("_law_for_ever", none), by simp [tfH], rfl⟩)
  have tS := TB _ (List.mem_map.mpr ⟨("solved", none), by simp [tfH], rfl⟩)
  have tI := TB _ (List.mem_map.mpr ⟨("Plans", some "__init__"), by simp [tfH], rfl⟩)
  have ap := e.apart
  simp only [tfH, List.map_cons, List.map_nil, List.nodup_cons, List.mem_cons, List.not_mem_nil, or_false, not_or, not_false_eq_true, and_true, List.nodup_nil] at ap
  obtain ⟨⟨a1, a2, a3⟩, ⟨a4, a5⟩, a6⟩ := ap
  have hlS : ∀ p ∈ (cfH K).ls, p.1 ≠ (He.cT K ("solved", none)).2 := fun p hp => by
    rcases memC hp with z | z
    · rw [z]; exact a2
    · rcases memC z with z | z
      · rw [z]; exact a4
      · simp at z
  have hlI : ∀ p ∈ (cfH K).ls, p.1 ≠ (He.cT K ("Plans", some "__init__")).2 := fun p hp => by
    rcases memC hp with z | z
    · rw [z]; exact a3
    · rcases memC z with z | z
      · rw [z]; exact a5
      · simp at z
  have ltL : LamT (cfH K) mg base "law" (defScope s_law) (He.cT K ("law", none)).1 (He.cT K ("law", none)).2 (He.ga K "BadPaper") (He.ga K "BadTree") := ⟨tL, List.mem_cons_self, fun p hp hq => by
    rcases memC hp with z | z
    · rw [z]
    · rcases memC z with z | z
      · rw [z] at hq; exact absurd hq.symm a1
      · simp at z, fun z => by
    rcases memC z with z | z
    · exact a2 z
    · rcases memC z with z | z
      · exact a3 z
      · simp at z, e.catch_⟩
  have ltE : LamT (cfH K) mg base "_law_for_ever" (defScope s_law_for_ever) (He.cT K ("_law_for_ever", none)).1 (He.cT K ("_law_for_ever", none)).2 (He.ga K "BadPaper") (He.ga K "BadTree") := ⟨tE, List.mem_cons_of_mem _ List.mem_cons_self, fun p hp hq => by
    rcases memC hp with z | z
    · rw [z] at hq; exact absurd hq a1
    · rcases memC z with z | z
      · rw [z]
      · simp at z, fun z => by
    rcases memC z with z | z
    · exact a4 z
    · rcases memC z with z | z
      · exact a5 z
      · simp at z, e.catch_⟩
  have d_shared : Def (cfH K) mg "shared" s_shared [] := def_of KX G c 0 0 rfl rfl
  have d_part : Def (cfH K) mg "part" s_part [.int 1] := def_of KX G c 1 1 rfl rfl
  have d_plus : Def (cfH K) mg "plus" s_plus [] := def_of KX G c 2 2 rfl rfl
  have d_minus : Def (cfH K) mg "minus" s_minus [] := def_of KX G c 3 3 rfl rfl
  have d_times : Def (cfH K) mg "times" s_times [] := def_of KX G c 4 4 rfl rfl
  have d_over : Def (cfH K) mg "over" s_over [] := def_of KX G c 5 5 rfl rfl
  have d_is_less : Def (cfH K) mg "is_less" s_is_less [] := def_of KX G c 6 6 rfl rfl
  have d_greater : Def (cfH K) mg "greater" s_greater [] := def_of KX G c 7 7 rfl rfl
  have d_total : Def (cfH K) mg "total" s_total [] := def_of KX G c 8 8 rfl rfl
  have d_check_chance : Def (cfH K) mg "check_chance" s_check_chance [] := def_of KX G c 9 9 rfl rfl
  have d_greatest_of : Def (cfH K) mg "greatest_of" s_greatest_of [] := def_of KX G c 10 10 rfl rfl
  have d_by_row : Def (cfH K) mg "by_row" s_by_row [] := def_of KX G c 12 12 rfl rfl
  have d_check_best : Def (cfH K) mg "check_best" s_check_best [] := def_of KX G c 13 13 rfl rfl
  have d_worth : Def (cfH K) mg "worth" s_worth [] := def_of KX G c 14 14 rfl rfl
  have d_plan : Def (cfH K) mg "plan" s_plan [] := def_of KX G c 15 15 rfl rfl
  have d_worth_by : Def (cfH K) mg "worth_by" s_worth_by [] := def_of KX G c 16 16 rfl rfl
  have d_values_of : Def (cfH K) mg "values_of" s_values_of [] := def_of KX G c 17 17 rfl rfl
  have d_inner_trees : Def (cfH K) mg "inner_trees" s_inner_trees [] := def_of KX G c 18 18 rfl rfl
  have d_check_plan : Def (cfH K) mg "check_plan" s_check_plan [] := def_of KX G c 19 19 rfl rfl
  have d_check_values : Def (cfH K) mg "check_values" s_check_values [] := def_of KX G c 20 20 rfl rfl
  have d_law_dice : Def (cfH K) mg "_law_dice" s_law_dice [] := def_of KX G c 21 21 rfl rfl
  have d_law_roll : Def (cfH K) mg "_law_roll" s_law_roll [] := def_of KX G c 22 22 rfl rfl
  have d_law_rounds : Def (cfH K) mg "_law_rounds" s_law_rounds [] := def_of KX G c 23 23 rfl rfl
  have d_law_row : Def (cfH K) mg "_law_row" s_law_row [] := def_of KX G c 24 24 rfl rfl
  have d_law_taken : Def (cfH K) mg "_law_taken" s_law_taken [] := def_of KX G c 25 25 rfl rfl
  have d_law_tree : Def (cfH K) mg "_law_tree" s_law_tree [] := def_of KX G c 26 26 rfl rfl
  have d_law_worth : Def (cfH K) mg "_law_worth" s_law_worth [] := def_of KX G c 27 27 rfl rfl
  have d_law_first : Def (cfH K) mg "_law_first" s_law_first [] := def_of KX G c 28 28 rfl rfl
  have d_law_choice : Def (cfH K) mg "_law_choice" s_law_choice [] := def_of KX G c 29 29 rfl rfl
  have d_P_worth_of : DefM (cfH K) "worth_of" "Plans.worth_of" s_P_worth_of := defM_of c 33 48 rfl rfl
  have d_P_for_steps : DefM (cfH K) "for_steps" "Plans.for_steps" s_P_for_steps := defM_of c 34 49 rfl rfl
  have d_P_best_choice : DefM (cfH K) "best_choice" "Plans.best_choice" s_P_best_choice := defM_of c 35 50 rfl rfl
  have d_P_worth_by : DefM (cfH K) "worth_by" "Plans.worth_by" s_P_worth_by := defM_of c 36 51 rfl rfl
  have d_P_best : DefM (cfH K) "best" "Plans.best" s_P_best := defM_of c 37 52 rfl rfl
  have d_solved : DefT (cfH K) mg base "solved" s_solved (He.cT K ("solved", none)).1 (He.cT K ("solved", none)).2 := by
    obtain ⟨fd2, F2⟩ := c.def_ (d := ⟨("solved", none), "solved", "solved", defArgs s_solved, defBody s_solved, defScope s_solved, [], []⟩) 11 rfl
    exact ⟨⟨_, fd2, F2, He.glo_ok KX G (c.fact 11 rfl), codeAtH⟩, tbG tS⟩
  have d_init : DefIT (cfH K) mg base s_P_init (He.cT K ("Plans", some "__init__")).1 (He.cT K ("Plans", some "__init__")).2 := by
    obtain ⟨fd2, F2⟩ := c.def_ (d := ⟨("Plans", some "__init__"), "__init__", "Plans.__init__", defArgs s_P_init, defBody s_P_init, defScope s_P_init, [], []⟩) 32 rfl
    exact ⟨⟨_, fd2, F2, He.mkr_ok (c.fact 47 rfl), gPl, codeAtH⟩, tbG tI⟩
  have d_ever : ∃ (f : Addr) (fd : FuncData), FunD (cfH K).K "_law_for_ever" "_law_for_ever" (defArgs s_law_for_ever) (defBody s_law_for_ever) (defScope s_law_for_ever) [] [] f fd ∧ mg "_law_for_ever" = some (.ref f) ∧ CodeAt (cfH K).K f (He.cT K ("_law_for_ever", none)).1 := by
    obtain ⟨fd2, F2⟩ := c.def_ (d := ⟨("_law_for_ever", none), "_law_for_ever", "_law_for_ever", defArgs s_law_for_ever, defBody s_law_for_ever, defScope s_law_for_ever, [], []⟩) 30 rfl
    exact ⟨_, fd2, F2, He.glo_ok KX G (c.fact 30 rfl), codeAtH⟩
  have c_shared := ok_shared (P := P) (w := w) (base := base) B d_shared
  have c_part := ok_part B d_part c_shared
  have c_plus := ok_plus d_plus c_part
  have c_minus := ok_minus d_minus c_part
  have c_times := ok_times d_times c_part
  have c_over := ok_over d_over c_part
  have c_is_less := ok_is_less (P := P) (w := w) (base := base) d_is_less
  have c_greater := ok_greater d_greater c_is_less
  have c_total := ok_total d_total gN c_plus
  have c_check_chance := ok_check_chance d_check_chance c_part
  have c_greatest_of := ok_greatest_of B d_greatest_of c_greater
  have c_worth := ok_worth d_worth c_greatest_of c_total c_times
  have c_law_worth := ok_law_worth B d_law_worth c_greatest_of c_plus c_times
  have c_plan := ok_plan B d_plan c_greatest_of c_worth
  have c_law_first := ok_law_first B d_law_first c_greatest_of c_law_worth
  have c_worth_by := ok_worth_by B d_worth_by c_total c_times
  have c_inner_trees := ok_inner_trees (P := P) (w := w) (base := base) B d_inner_trees
  have c_values_of := ok_values_of B d_values_of c_inner_trees c_worth
  have c_check_values := ok_check_values B bP d_check_values c_inner_trees c_total c_times c_greatest_of
  have c_check_plan := fun n => ok_check_plan d_check_plan n c_check_values c_worth_by
  have c_law_roll := ok_law_roll (P := P) (w := w) (base := base) B d_law_roll
  have c_law_row := ok_law_row B d_law_row c_law_roll c_part
  have c_law_tree := ok_law_tree B d_law_tree c_law_roll c_part c_law_row
  have c_by_row := ok_by_row B d_by_row c_total c_times
  have c_worth_of := ok_P_worth_of Tp d_P_worth_of c_by_row c_plus c_times
  have c_best_choice := ok_P_best_choice B Tp d_P_best_choice c_worth_of c_is_less
  have c_law_choice := ok_law_choice B d_law_choice c_plus c_times
  have c_for_steps := ok_P_for_steps B Tp d_P_for_steps c_worth_of c_best_choice
  have c_solved := ok_solved B List.mem_cons_self hlS d_solved c_over c_minus c_times
  have c_P_worth_by := ok_P_worth_by B Tp d_P_worth_by c_solved c_minus c_times
  have c_best := ok_P_best B Tp d_P_best c_P_worth_by c_worth_of c_best_choice c_is_less
  have c_check_best := ok_check_best B Tp bP d_check_best c_P_worth_by c_worth_of c_is_less
  have c_init := ok_P_init B Tp (List.mem_cons_of_mem _ List.mem_cons_self) hlI d_init c_part c_check_chance c_total
  have c_ever := ok_law_for_ever B Tp bP gT d_law_taken ltE d_ever c_law_roll c_law_row c_part c_init c_best c_law_choice c_greatest_of c_check_best c_plus c_for_steps
  have c_law_dice := ok_law_dice (P := P) (w := w) (base := base) B d_law_dice
  have c_law_rounds := ok_law_rounds B d_law_rounds c_law_dice
  exact ok_law B bP gT d_law_taken ltL F codeAtH c_law_rounds c_law_tree c_law_roll c_law_worth c_values_of c_worth c_plan c_law_first c_worth_by c_check_plan c_minus c_ever
end
end LW
open PySem.Calls PySem PySem.W PyProof.Rows
theorem PySem.Challenge.cw_luckwright_k64_whole_plans_at_any_size_holds : PySem.Challenge.rw_luckwright_k64_whole_plans_at_any_size.Holds := by
  w_on; o_law
  refine HandSHeadRun.head_any (r := LW.RowH) (q := view LW.RowH.prog [43]) (H := LW.hkH) (ob := LW.obH) (M := 2400) (loose := LW.looseH) (d := HandSHeadRun.topDef LW.RowH.prog 43) (kwd := []) LW.obH_eq
    (by kernel_rfl) (fun s => by kernel_rfl) LW.runH (by kernel_rfl) (by kernel_rfl) (by kernel_rfl) (by rfl) (by first | assumption | decide +kernel) (by decide +kernel) ⟨rfl, rfl, rfl, rfl, rfl, by decide +kernel⟩ ?hw ?hc
  case hw => w_witness2
  case hc =>
    refine LamX.walk_ofTsE (l := PySem.Challenge.rw_luckwright_k64_whole_plans_at_any_size) (n := 63) (k := 17) (x := "script") (CX := fun _ => L2.CX0) rfl (by decide) (by kernel_rfl) ⟨rfl, by decide, by decide⟩ ?F (fun _ _ _ _ _ z => z)
    intro w mg fa h Y G hmg0
    obtain ⟨K, KX, c⟩ := Y
    have at_ : mg ("law" : PySem.Str) = some (.ref fa) := by
      have e : (HandSHeadRun.topDef LW.RowH.prog 43).name = ("law" : PySem.Str) := by kernel_rfl
      rw [← e]
      exact hmg0
    have cd := c.t.d
    obtain ⟨fd, F⟩ := cd.def_ (d := ⟨("law", none), "law", "law", L2.defArgs LW.s_law, L2.defBody LW.s_law, L2.defScope LW.s_law, [], []⟩) 31 rfl
    have e := at_.symm.trans (He.glo_ok KX G (cd.fact (f := .glo "law") 31 rfl))
    cases e
    have b := L2.FunD.bindsA (ps := ["script"]) F LW.bd_law
    have ex := LW.exH_ok c.more
    refine ⟨K, KX, fd, LW.csH K, LW.spLaw (LW.cfH K), fun p hp => ?_, fun p hp => ?_, fun p hp => ?_, fun s v => b s [v] rfl, fun H a ns _ hbits hT hS => ?_, fun base KB GB TB => LW.law_ok KX G cd ex TB F⟩
    · obtain ⟨q, hq, rfl⟩ := List.mem_map.mp hp
      exact c.empty q hq
    · obtain ⟨q, hq, rfl⟩ := List.mem_map.mp hp
      exact c.out q hq
    · obtain ⟨q, hq, rfl⟩ := List.mem_map.mp hp
      exact PySem.W.codeHd_of_K KX (c.hd q hq)
    · refine ⟨a, ns, rfl, hS, fun z hz => LW.intB_lt (hbits z hz), ⟨fun P hP => ?_, fun p hp => ?_, fun p hp => absurd hp (by simp)⟩, fun _ => rfl⟩
      · rcases LW.memC hP with z | z
        · rw [z]
          exact ⟨_, hT _ (List.mem_map.mpr ⟨("solved", none), by simp [LW.tfH], rfl⟩), (show TriplesOk [] from trivial)⟩
        · rcases LW.memC z with z | z
          · rw [z]
            exact ⟨_, hT _ (List.mem_map.mpr ⟨("Plans", some "__init__"), by simp [LW.tfH], rfl⟩), (show TriplesOk [] from trivial)⟩
          · simp at z
      · rcases LW.memC hp with z | z
        · rw [z]
          exact LamX.TabS.nil (hT _ (List.mem_map.mpr ⟨("law", none), by simp [LW.tfH], rfl⟩))
        · rcases LW.memC z with z | z
          · rw [z]
            exact LamX.TabS.nil (hT _ (List.mem_map.mpr ⟨("_law_for_ever", none), by simp [LW.tfH], rfl⟩))
          · simp at z

