import PyProof.Rows.All
import Wide.All
import OpenK.AllK
import Wide.FinOn
import HandS.ForMost
import HandS.Evl
import HandS.Wide
import HandS.IsInst
import HandS.TupAny
import HandS.TupMul
import HandS.Exc
import HandS.TryOnly
import HandS.ExcOwn
import HandS.WordsExc
import HandS.Flow
import HandS.FStr
import HandS.Text
import HandS.OwnEq
import HandS.Conv
import HandS.Iter
import PyProof.Rows.SortShellAny
import PyProof.StrLawsChain
import HandS.ExcInit
import HandS.ExcField
import HandS.TryMany
import HandS.DictComp
import HandS.More
import HandS.SortInts
import PySem.Challenge.RW_wholecodes_k13_errors_are_apart
set_option Elab.async false
set_option linter.all false
set_option maxRecDepth 100000
set_option autoImplicit false
set_option maxHeartbeats 4000000
set_option exponentiation.threshold 9000
/-! Dl: plain data behind values; frames of data; what a reading makes of them. -/
namespace Dl
open PySem L2 Evl

theorem sz_of {n : Nat} (h : n ≤ 1000000) : n ≤ sizeLine := Nat.le_trans h (by decide)
theorem sz_lt {n : Nat} (h : n < 1000000) : n < sizeLine := Nat.lt_of_lt_of_le h (by decide)
inductive D where
  | non | bl (b : Bool) | int (i : Int) | str (x : Str) | lst (xs : List D) | tup (xs : List D) | obj (C : Addr) (ns : List Str) (xs : List D) | ty (n : String) | cls (C : Addr)

mutual
inductive Rep (K : PySem.W.Frag) (H : Hp) : V → D → Prop where
  | non : Rep K H .non .non
  | bl (b : Bool) : Rep K H (.bl b) (.bl b)
  | int (i : Int) : Rep K H (.int i) (.int i)
  | str (x : Str) : Rep K H (.str x) (.str x)
  | lst {a : Addr} {xs : List V} {ds : List D} : H a = some (.lst xs) → Reps K H xs ds → Rep K H (.ref a) (.lst ds)
  | tup {a : Addr} {xs : List V} {ds : List D} : SqT K H a xs → Reps K H xs ds → Rep K H (.ref a) (.tup ds)
  | obj {a C dx : Addr} {fs : List (Str × V)} {ns : List Str} {ds : List D} : H a = some (.ins C dx fs) → fs.map (·.1) = ns → Reps K H (fs.map (·.2)) ds → Rep K H (.ref a) (.obj C ns ds)
  | ty (n : String) : Rep K H (.ty n) (.ty n)
  | cls (C : Addr) : Rep K H (.ref C) (.cls C)
inductive Reps (K : PySem.W.Frag) (H : Hp) : List V → List D → Prop where
  | nil : Reps K H [] []
  | cons {v : V} {d : D} {vs : List V} {ds : List D} : Rep K H v d → Reps K H vs ds → Reps K H (v :: vs) (d :: ds)
end

section
variable {K : PySem.W.Frag} {H H' G : Hp} {v : V} {d : D} {vs ws : List V} {ds es : List D}
theorem Rep.mono (e : Ex H H') (h : Rep K H v d) : Rep K H' v d :=
  Rep.rec (motive_1 := fun v d _ => Rep K H' v d) (motive_2 := fun vs ds _ => Reps K H' vs ds) .non (fun b => .bl b) (fun i => .int i) (fun x => .str x)
    (fun h _ r => .lst (e _ _ h) r) (fun h _ r => .tup (ex_t e h) r) (fun h n _ r => .obj (e _ _ h) n r) (fun n => .ty n) (fun C => .cls C) .nil (fun _ _ a b => .cons a b) h
theorem Reps.mono (e : Ex H H') (h : Reps K H vs ds) : Reps K H' vs ds := by
  induction vs generalizing ds with
  | nil => cases h; exact .nil
  | cons v vs ih => cases h with | cons a b => exact .cons (a.mono e) (ih b)
theorem Reps.len (h : Reps K H vs ds) : vs.length = ds.length := by
  induction vs generalizing ds with
  | nil => cases h; rfl
  | cons v vs ih => cases h with | cons a b => simp [ih b]
theorem Reps.get (h : Reps K H vs ds) {i : Nat} {v : V} (e : vs[i]? = some v) : ∃ d, ds[i]? = some d ∧ Rep K H v d := by
  induction vs generalizing ds i with
  | nil => simp at e
  | cons w vs ih => cases h with
    | cons a b => cases i with
      | zero => simp at e; subst e; exact ⟨_, rfl, a⟩
      | succ i => obtain ⟨d, h1, h2⟩ := ih b (i := i) (by simpa using e); exact ⟨d, by simpa using h1, h2⟩
theorem Reps.getD (h : Reps K H vs ds) {i : Nat} {d : D} (e : ds[i]? = some d) : ∃ v, vs[i]? = some v ∧ Rep K H v d := by
  induction vs generalizing ds i with
  | nil => cases h; simp at e
  | cons w vs ih => cases h with
    | cons a b => cases i with
      | zero => simp at e; subst e; exact ⟨_, rfl, a⟩
      | succ i => obtain ⟨v, h1, h2⟩ := ih b (i := i) (by simpa using e); exact ⟨v, by simpa using h1, h2⟩
theorem Reps.app (h : Reps K H vs ds) (h' : Reps K H ws es) : Reps K H (vs ++ ws) (ds ++ es) := by
  induction vs generalizing ds with
  | nil => cases h; exact h'
  | cons v vs ih => cases h with | cons a b => exact .cons a (ih b)
theorem Reps.drop (h : Reps K H vs ds) (n : Nat) : Reps K H (vs.drop n) (ds.drop n) := by
  induction vs generalizing ds n with
  | nil => cases h; simp; exact .nil
  | cons v vs ih => cases h with
    | cons a b => cases n with
      | zero => exact .cons a b
      | succ n => exact ih b n
theorem Reps.take (h : Reps K H vs ds) (n : Nat) : Reps K H (vs.take n) (ds.take n) := by
  induction vs generalizing ds n with
  | nil => cases h; simp; exact .nil
  | cons v vs ih => cases h with
    | cons a b => cases n with
      | zero => exact .nil
      | succ n => exact .cons a (ih b n)
theorem Reps.ints {ns : List Int} (h : Reps K H vs (ns.map D.int)) : vs = ns.map V.int := by
  induction vs generalizing ns with
  | nil => cases ns with | nil => rfl | cons n ns => cases h
  | cons v vs ih => cases ns with
    | nil => cases h
    | cons n ns => cases h with | cons a b => cases a; rw [ih b]; rfl
theorem Reps.of_ints (ns : List Int) : Reps K H (ns.map V.int) (ns.map D.int) := by
  induction ns with
  | nil => exact .nil
  | cons n ns ih => exact .cons (.int n) ih
theorem Reps.bls {ns : List Bool} (h : Reps K H vs (ns.map D.bl)) : vs = ns.map V.bl := by
  induction vs generalizing ns with
  | nil => cases ns with | nil => rfl | cons n ns => cases h
  | cons v vs ih => cases ns with
    | nil => cases h
    | cons n ns => cases h with | cons a b => cases a; rw [ih b]; rfl
theorem Reps.strs {ns : List Str} (h : Reps K H vs (ns.map D.str)) : vs = ns.map V.str := by
  induction vs generalizing ns with
  | nil => cases ns with | nil => rfl | cons n ns => cases h
  | cons v vs ih => cases ns with
    | nil => cases h
    | cons n ns => cases h with | cons a b => cases a; rw [ih b]; rfl
theorem Reps.of_strs (ns : List Str) : Reps K H (ns.map V.str) (ns.map D.str) := by
  induction ns with
  | nil => exact .nil
  | cons n ns ih => exact .cons (.str n) ih
end

/-- the law's draws stand at b -/
def DrawsOk (H : Hp) (b a : Addr) : Prop := ∃ (ns : List Int) (i j s : Int), H b = some (.lst [.ref a, .int i, .int j, .int s]) ∧ H a = some (.lst (ns.map V.int)) ∧ a ≠ b ∧ 0 ≤ i ∧ 0 ≤ j ∧ 0 ≤ s ∧ s < 2147483647

/-- b is not the draws' list; not the list that they read -/
def NotL (l : Option (Addr × Addr)) (b : Addr) : Prop := ∀ a, l ≠ some (b, a)
def NotI (l : Option (Addr × Addr)) (a : Addr) : Prop := ∀ b, l ≠ some (b, a)
structure Ext (l : Option (Addr × Addr)) (G H G1 H1 : Hp) : Prop where
  g : Ex G G1
  h : ∀ b o, NotL l b → H b = some o → H1 b = some o
  n : ∀ b, H b ≠ none → G b = none → G1 b = none
  t : ∀ b, H b ≠ none → H1 b ≠ none
  dr : ∀ b a, l = some (b, a) → DrawsOk H b a → DrawsOk H1 b a
section
variable {l : Option (Addr × Addr)} {G H G1 H1 G2 H2 : Hp} {p : Addr} {o : HO}
theorem Ext.refl : Ext l G H G H := ⟨Ex.refl _, fun _ _ _ e => e, fun _ _ e => e, fun _ e => e, fun _ _ _ e => e⟩
theorem Ext.trans (a : Ext l G H G1 H1) (b : Ext l G1 H1 G2 H2) : Ext l G H G2 H2 :=
  ⟨a.g.trans b.g, fun x o e q => b.h x o e (a.h x o e q), fun x e q => b.n x (a.t x e) (a.n x e q), fun x e => b.t x (a.t x e), fun x y e q => b.dr x y e (a.dr x y e q)⟩
theorem Ext.ex (a : Ext none G H G1 H1) : Ex H H1 := fun b o e => a.h b o (fun _ z => nomatch z) e
theorem DrawsOk.mono {b a : Addr} (e : Ex H H1) (h : DrawsOk H b a) : DrawsOk H1 b a := by
  obtain ⟨ns, i, j, s, h1, h2, r⟩ := h
  exact ⟨ns, i, j, s, e _ _ h1, e _ _ h2, r⟩
theorem Ext.all (a : Ext none G H G1 H1) : Ext l G H G1 H1 := ⟨a.g, fun b o _ e => a.ex b o e, a.n, a.t, fun b _ _ q => q.mono a.ex⟩
/-- a new thing, known from now on -/
theorem Ext.new (hp : H p = none) (hg : G p = none) : Ext none G H (upd G p o) (upd H p o) := by
  refine ⟨Ex.new hg, fun b u _ e => ?_, fun b e q => ?_, fun b e q => ?_, fun b _ z => nomatch z⟩
  · rw [upd_ne (ne_of_none e hp)]; exact e
  · rw [upd_ne (fun z => e (by rw [z]; exact hp))]; exact q
  · rw [upd_ne (fun z => e (by rw [z]; exact hp))] at q; exact e q
theorem Ext.hid (hp : H p = none) : Ext none G H G (upd H p o) := by
  refine ⟨Ex.refl _, fun b u _ e => ?_, fun b e q => q, fun b e q => ?_, fun b _ z => nomatch z⟩
  · rw [upd_ne (ne_of_none e hp)]; exact e
  · rw [upd_ne (fun z => e (by rw [z]; exact hp))] at q; exact e q
/-- a hidden thing changes -/
theorem Ext.mut (e : Ext l G H G1 H1) (hp : H p = none) : Ext l G H G1 (upd H1 p o) := by
  refine ⟨e.g, fun b u hb q => ?_, e.n, fun b q => ?_, fun b a hb q => ?_⟩
  · rw [upd_ne (ne_of_none q hp)]; exact e.h b u hb q
  · rw [upd_ne (fun z => q (by rw [z]; exact hp))]; exact e.t b q
  · obtain ⟨_, _, _, _, h1, h2, _⟩ := id q
    obtain ⟨ns, i, j, s, k1, k2, r⟩ := e.dr b a hb q
    exact ⟨ns, i, j, s, by rw [upd_ne (ne_of_none h1 hp)]; exact k1, by rw [upd_ne (ne_of_none h2 hp)]; exact k2, r⟩
theorem sub_none (s : Ex G H) (hp : H p = none) : G p = none := fresh_back s hp
theorem sub_upd (s : Ex G H) : Ex (upd G p o) (upd H p o) := fun b u e => by
  by_cases hb : b = p
  · subst hb; rw [upd_same] at e ⊢; exact e
  · rw [upd_ne hb] at e ⊢; exact s b u e
theorem sub_hid (s : Ex G H) (hp : G p = none) : Ex G (upd H p o) := fun b u e => by
  rw [upd_ne (ne_of_none e hp)]; exact s b u e
end

/-- K: the written part; l: the draws' address; X: where an exception goes; W: what stood at the entry; M: what of it may change -/
structure Ctx where
  K : PySem.W.Frag
  l : Option (Addr × Addr)
  X : XK
  W : Addr → Prop
  M : Addr → Prop
/-- what a statement may do -/
structure Exs (c : Ctx) (G H G1 H1 : Hp) : Prop where
  g : Ex G G1
  h : ∀ b o, c.W b → ¬ c.M b → NotL c.l b → H b = some o → H1 b = some o
  n : ∀ b, c.W b → H b ≠ none → G b = none → G1 b = none
  t : ∀ b, H b ≠ none → H1 b ≠ none
  dr : ∀ b a, c.l = some (b, a) → DrawsOk H b a → DrawsOk H1 b a
theorem Exs.refl {c : Ctx} {G H : Hp} : Exs c G H G H := ⟨Ex.refl _, fun _ _ _ _ _ e => e, fun _ _ _ e => e, fun _ e => e, fun _ _ _ e => e⟩
theorem Exs.trans {c : Ctx} {G H G1 H1 G2 H2 : Hp} (a : Exs c G H G1 H1) (b : Exs c G1 H1 G2 H2) : Exs c G H G2 H2 :=
  ⟨a.g.trans b.g, fun x o w m e q => b.h x o w m e (a.h x o w m e q), fun x w e q => b.n x w (a.t x e) (a.n x w e q), fun x e => b.t x (a.t x e), fun x y e q => b.dr x y e (a.dr x y e q)⟩
theorem Ext.s {c : Ctx} {G H G1 H1 : Hp} (a : Ext c.l G H G1 H1) : Exs c G H G1 H1 := ⟨a.g, fun b o _ _ e q => a.h b o e q, fun b _ e q => a.n b e q, a.t, a.dr⟩
inductive Sl where
  | no | v (d : D) | own (xs : List D) | drw | self (p dx C : Addr) (ns : List Str) (xs : List D)
  | rdr (w : Bool) (p q dx C : Addr) (d : D) (xs : List D)
abbrev Fm := List Sl
def isRdr : Sl → Bool
  | .rdr _ _ _ _ _ _ _ => true
  | _ => false
/-- an instance with the fields code, fed, fed a list of its own: both hidden -/
def RdH (K : PySem.W.Frag) (G H : Hp) (p q dx C : Addr) (d : D) (xs : List D) : Prop := ∃ u vs, G p = none ∧ G q = none ∧ H p = some (.ins C dx [("code", u), ("fed", .ref q)]) ∧ H q = some (.lst vs) ∧ Rep K G u d ∧ Reps K G vs xs
def SlOk (c : Ctx) (G H : Hp) (x : Option (Option V)) : Sl → Prop
  | .no => True
  | .v d => ∃ u, x = some (some u) ∧ Rep c.K G u d
  | .own xs => ∃ a vs, x = some (some (.ref a)) ∧ G a = none ∧ H a = some (.lst vs) ∧ Reps c.K G vs xs ∧ NotL c.l a ∧ ¬ c.W a ∧ NotI c.l a
  | .drw => ∃ b a, c.l = some (b, a) ∧ x = some (some (.ref b)) ∧ G b = none ∧ DrawsOk H b a
  | .self p dx C ns xs => ∃ fs, x = some (some (.ref p)) ∧ G p = none ∧ H p = some (.ins C dx fs) ∧ fs.map (·.1) = ns ∧ Reps c.K G (fs.map (·.2)) xs ∧ NotL c.l p ∧ c.M p
  | .rdr w p q dx C d xs => x = some (some (.ref p)) ∧ RdH c.K G H p q dx C d xs ∧ NotL c.l p ∧ NotL c.l q ∧ NotI c.l p ∧ NotI c.l q ∧ (w = true → (c.W p → c.M p) ∧ (c.W q → c.M q))
structure Fr (c : Ctx) (G H : Hp) (σ : L2.St) (ds : Fm) : Prop where
  len : σ.length = ds.length
  ok : ∀ (i : Nat) s, ds[i]? = some s → SlOk c G H σ[i]? s
  ap : ∀ (i j : Nat) a xs ys, i ≠ j → ds[i]? = some (.own xs) → ds[j]? = some (.own ys) → σ[i]? = some (some (.ref a)) → σ[j]? ≠ some (some (.ref a))
structure At (c : Ctx) (G H : Hp) (σ : L2.St) (ds : Fm) : Prop where
  sub : Ex G H
  fr : Fr c G H σ ds
  lk : ∀ b a, c.l = some (b, a) → H b ≠ none ∧ G b = none ∧ H a ≠ none
  tr : ∀ b, c.W b → H b ≠ none
section
variable {c : Ctx} {G H G1 H1 : Hp} {σ : L2.St} {ds : Fm}
theorem SlOk.go {x : Option (Option V)} {s : Sl} (e : Ext c.l G H G1 H1) (h : SlOk c G H x s) : SlOk c G1 H1 x s := by
  cases s with
  | no => trivial
  | v d => obtain ⟨u, h1, h2⟩ := h; exact ⟨u, h1, h2.mono e.g⟩
  | own xs =>
    obtain ⟨a, vs, h1, h2, h3, h4, h5, h6⟩ := h
    exact ⟨a, vs, h1, e.n a (by rw [h3]; simp) h2, e.h a _ h5 h3, h4.mono e.g, h5, h6⟩
  | self p dx C ns xs =>
    obtain ⟨fs, h1, h2, h3, h4, h5, h6, h7⟩ := h
    exact ⟨fs, h1, e.n p (by rw [h3]; simp) h2, e.h p _ h6 h3, h4, h5.mono e.g, h6, h7⟩
  | rdr w p q dx C d xs =>
    obtain ⟨h1, ⟨u, vs, k1, k2, k3, k4, k5, k6⟩, h3, h4, h5⟩ := h
    exact ⟨h1, ⟨u, vs, e.n p (by rw [k3]; simp) k1, e.n q (by rw [k4]; simp) k2, e.h p _ h3 k3, e.h q _ h4 k4, k5.mono e.g, k6.mono e.g⟩, h3, h4, h5⟩
  | drw =>
    obtain ⟨b, a, h1, h2, h3, h4⟩ := h
    refine ⟨b, a, h1, h2, e.n b ?_ h3, e.dr b a h1 h4⟩
    obtain ⟨_, _, _, _, h, _⟩ := h4
    rw [h]; simp
theorem Fr.go (f : Fr c G H σ ds) (e : Ext c.l G H G1 H1) : Fr c G1 H1 σ ds := ⟨f.len, fun i s h => (f.ok i s h).go e, f.ap⟩
theorem At.go (a : At c G H σ ds) (e : Ext c.l G H G1 H1) (s : Ex G1 H1) : At c G1 H1 σ ds := ⟨s, a.fr.go e, fun b y hb => ⟨e.t b (a.lk b y hb).1, e.n b (a.lk b y hb).1 (a.lk b y hb).2.1, e.t y (a.lk b y hb).2.2⟩, fun b hb => e.t b (a.tr b hb)⟩
theorem Fr.set {i : Nat} {u : V} {d : D} (f : Fr c G H σ ds) (r : Rep c.K G u d) (hi : i < ds.length) : Fr c G H (σ.set i (some u)) (ds.set i (.v d)) := by
  refine ⟨by simp [f.len], fun j s h => ?_, fun j k a xs ys hjk hj hk e1 e2 => ?_⟩
  · by_cases hj : i = j
    · subst hj
      rw [List.getElem?_set_self hi] at h
      cases h
      rw [List.getElem?_set_self (by rw [f.len]; exact hi)]
      exact ⟨u, rfl, r⟩
    · rw [List.getElem?_set_ne hj] at h ⊢
      exact f.ok j s h
  · have nj : i ≠ j := fun z => by subst z; rw [List.getElem?_set_self hi] at hj; cases hj
    have nk : i ≠ k := fun z => by subst z; rw [List.getElem?_set_self hi] at hk; cases hk
    rw [List.getElem?_set_ne nj] at hj e1
    rw [List.getElem?_set_ne nk] at hk e2
    exact f.ap j k a xs ys hjk hj hk e1 e2
theorem At.set {i : Nat} {u : V} {d : D} (a : At c G H σ ds) (r : Rep c.K G u d) (hi : i < ds.length) : At c G H (σ.set i (some u)) (ds.set i (.v d)) := ⟨a.sub, a.fr.set r hi, a.lk, a.tr⟩
theorem Fr.no {i : Nat} (f : Fr c G H σ ds) (x : Option V) : Fr c G H (σ.set i x) (ds.set i .no) := by
  refine ⟨by simp [f.len], fun j s h => ?_, fun j k a xs ys hjk hj hk e1 e2 => ?_⟩
  · by_cases hj : i = j
    · subst hj
      by_cases hi : i < ds.length
      · rw [List.getElem?_set_self hi] at h
        cases h; trivial
      · rw [List.getElem?_eq_none (by simpa using hi)] at h; cases h
    · rw [List.getElem?_set_ne hj] at h ⊢
      exact f.ok j s h
  · have nj : i ≠ j := fun z => by
      subst z
      by_cases hi : i < ds.length
      · rw [List.getElem?_set_self hi] at hj; cases hj
      · rw [List.getElem?_eq_none (by simpa using hi)] at hj; cases hj
    have nk : i ≠ k := fun z => by
      subst z
      by_cases hi : i < ds.length
      · rw [List.getElem?_set_self hi] at hk; cases hk
      · rw [List.getElem?_eq_none (by simpa using hi)] at hk; cases hk
    rw [List.getElem?_set_ne nj] at hj e1
    rw [List.getElem?_set_ne nk] at hk e2
    exact f.ap j k a xs ys hjk hj hk e1 e2
def wipeD (ds : Fm) : List Nat → Fm
  | [] => ds
  | v :: vs => (wipeD ds vs).set v .no
theorem Fr.wipe (f : Fr c G H σ ds) : ∀ vs : List Nat, Fr c G H (wipe σ vs) (wipeD ds vs)
  | [] => f
  | v :: vs => by
    unfold L2.wipe wipeD
    exact (Fr.wipe f vs).no none
theorem At.wipe (a : At c G H σ ds) (vs : List Nat) : At c G H (wipe σ vs) (wipeD ds vs) := ⟨a.sub, a.fr.wipe vs, a.lk, a.tr⟩
theorem wipe_get (σ : L2.St) (i : Nat) : ∀ vs : List Nat, (wipe σ vs)[i]? = if i ∈ vs ∧ i < σ.length then some none else σ[i]?
  | [] => by simp [L2.wipe]
  | v :: vs => by
    unfold L2.wipe
    have ih := wipe_get σ i vs
    by_cases h : v = i
    · subst h
      by_cases hl : v < σ.length
      · rw [List.getElem?_set_self (by rw [wipe_length]; exact hl), if_pos ⟨by simp, hl⟩]
      · rw [List.getElem?_eq_none (by rw [List.length_set, wipe_length]; omega), if_neg (fun z => hl z.2), List.getElem?_eq_none (by omega)]
    · rw [List.getElem?_set_ne h, ih]
      have e : (i ∈ v :: vs) ↔ i ∈ vs := by simp [Ne.symm h]
      simp only [e]
theorem wipe_same {τ : L2.St} {vs : List Nat} (hl : τ.length = σ.length) (h : ∀ i, i ∉ vs → τ[i]? = (wipe σ vs)[i]?) : wipe τ vs = wipe σ vs := by
  apply List.ext_getElem?
  intro i
  rw [wipe_get, wipe_get]
  by_cases hi : i ∈ vs
  · by_cases hz : i < σ.length
    · rw [if_pos ⟨hi, by omega⟩, if_pos ⟨hi, hz⟩]
    · rw [if_neg (by omega), if_neg (by omega), List.getElem?_eq_none (by omega), List.getElem?_eq_none (by omega)]
  · rw [if_neg (fun z => hi z.1), if_neg (fun z => hi z.1), h i hi, wipe_get, if_neg (fun z => hi z.1)]
end

/-! ### what readings make of data -/
def Ee (c : Ctx) (te : TE) (ds : Fm) (d : D) : Prop := ∀ G H σ, At c G H σ ds → ∀ Q : VK, (∀ v G1 H1, Ext c.l G H G1 H1 → Ex G1 H1 → Rep c.K G1 v d → Q v H1) → te σ H Q
def Et (c : Ctx) (tt : TT) (ds : Fm) (b : Bool) : Prop := ∀ G H σ, At c G H σ ds → ∀ Q : Bool → Hp → Prop, (∀ G1 H1, Ext c.l G H G1 H1 → Ex G1 H1 → Q b H1) → tt σ H Q
def Ea (c : Ctx) (ta : TA) (ds : Fm) (xs : List D) : Prop := ∀ G H σ, At c G H σ ds → ∀ Q : List V → Hp → Prop, (∀ vs G1 H1, Ext c.l G H G1 H1 → Ex G1 H1 → Reps c.K G1 vs xs → Q vs H1) → ta σ H Q
def Eo (c : Ctx) (to : TO) (ds : Fm) (o : Option Int) : Prop := ∀ G H σ, At c G H σ ds → ∀ Q : Option Int → Hp → Prop, (∀ G1 H1, Ext c.l G H G1 H1 → Ex G1 H1 → Q o H1) → to σ H Q
/-- what follows a value-level rule -/
def Then (K : PySem.W.Frag) (G H : Hp) (z : D) (Q : VK) : Prop := ∀ u G1 H1, Ext none G H G1 H1 → Ex G1 H1 → Rep K G1 u z → Q u H1
def Rb (K : PySem.W.Frag) (r : R2) (x y z : D) : Prop := ∀ G H v w, Ex G H → Rep K G v x → Rep K G w y → ∀ Q : VK, Then K G H z Q → r v w H Q
def Ru (K : PySem.W.Frag) (r : V → Hp → VK → Prop) (x z : D) : Prop := ∀ G H v, Ex G H → Rep K G v x → ∀ Q : VK, Then K G H z Q → r v H Q
def Rc (K : PySem.W.Frag) (r : List V → Hp → VK → Prop) (xs : List D) (z : D) : Prop := ∀ G H vs, Ex G H → Reps K G vs xs → ∀ Q : VK, Then K G H z Q → r vs H Q
def Rm (K : PySem.W.Frag) (r : V → List V → Hp → VK → Prop) (x : D) (xs : List D) (z : D) : Prop := ∀ G H v vs, Ex G H → Rep K G v x → Reps K G vs xs → ∀ Q : VK, Then K G H z Q → r v vs H Q
theorem Then.same {K : PySem.W.Frag} {G H : Hp} {z : D} {Q : VK} (t : Then K G H z Q) (s : Ex G H) {u : V} (r : Rep K G u z) : Q u H := t u G H Ext.refl s r
theorem Then.tup {K : PySem.W.Frag} {G H : Hp} {zs : List D} {Q : VK} (t : Then K G H (.tup zs) Q) (s : Ex G H) {us : List V} (r : Reps K G us zs) : ∀ p, H p = none → Q (.ref p) (upd H p (.tup us)) := fun p hp =>
  t _ (upd G p (.tup us)) _ (Ext.new hp (sub_none s hp)) (sub_upd s) (.tup (SqT.of upd_same) (r.mono (Ex.new (sub_none s hp))))
theorem Then.lst {K : PySem.W.Frag} {G H : Hp} {zs : List D} {Q : VK} (t : Then K G H (.lst zs) Q) (s : Ex G H) {us : List V} (r : Reps K G us zs) : ∀ p, H p = none → Q (.ref p) (upd H p (.lst us)) := fun p hp =>
  t _ (upd G p (.lst us)) _ (Ext.new hp (sub_none s hp)) (sub_upd s) (.lst upd_same (r.mono (Ex.new (sub_none s hp))))

section
variable {c : Ctx} {ds : Fm} {ta tb te : TE} {x y z d : D} {xs : List D} {t u : TT}
theorem ee_var {i : Nat} (h : ds[i]? = some (.v d)) : Ee c (tVar i) ds d := fun G H σ a Q q => by
  obtain ⟨v, h1, h2⟩ := a.fr.ok i _ h
  exact ⟨v, h1, q v G H Ext.refl a.sub h2⟩
theorem ee_int {i : Int} : Ee c (tC (.int i)) ds (.int i) := fun G H σ a Q q => q _ G H Ext.refl a.sub (.int i)
theorem ee_str {i : Str} : Ee c (tC (.str i)) ds (.str i) := fun G H σ a Q q => q _ G H Ext.refl a.sub (.str i)
theorem ee_bl {i : Bool} : Ee c (tC (.bl i)) ds (.bl i) := fun G H σ a Q q => q _ G H Ext.refl a.sub (.bl i)
theorem ee_non : Ee c (tC .non) ds .non := fun G H σ a Q q => q _ G H Ext.refl a.sub .non
theorem ee_ty {n : String} : Ee c (tC (.ty n)) ds (.ty n) := fun G H σ a Q q => q _ G H Ext.refl a.sub (.ty n)
theorem ee_cls {C : Addr} : Ee c (tC (.ref C)) ds (.cls C) := fun G H σ a Q q => q _ G H Ext.refl a.sub (.cls C)
/-- a tuple of the module's own -/
theorem ee_kt {a : Addr} (h : ∀ G, Rep c.K G (.ref a) d) : Ee c (tC (.ref a)) ds d := fun G H σ a Q q => q _ G H Ext.refl a.sub (h G)
theorem ee_op {r : R2} (ha : Ee c ta ds x) (hb : Ee c tb ds y) (hr : Rb c.K r x y z) : Ee c (tOp r ta tb) ds z := fun G H σ a Q q =>
  ha G H σ a _ fun v G1 H1 e1 s1 r1 => hb G1 H1 σ (a.go e1 s1) _ fun w G2 H2 e2 s2 r2 => hr G2 H2 v w s2 (r1.mono e2.g) r2 Q fun u G3 H3 e3 s3 r3 => q u G3 H3 ((e1.trans e2).trans e3.all) s3 r3
theorem ee_un {r : V → Hp → VK → Prop} (ha : Ee c ta ds x) (hr : Ru c.K r x z) : Ee c (tUn r ta) ds z := fun G H σ a Q q =>
  ha G H σ a _ fun v G1 H1 e1 s1 r1 => hr G1 H1 v s1 r1 Q fun u G3 H3 e3 s3 r3 => q u G3 H3 (e1.trans e3.all) s3 r3
theorem ea_nil : Ea c tNil ds [] := fun G H σ a Q q => q [] G H Ext.refl a.sub .nil
theorem ea_cons {tr : TA} (ha : Ee c ta ds x) (hr : Ea c tr ds xs) : Ea c (tCons ta tr) ds (x :: xs) := fun G H σ a Q q =>
  ha G H σ a _ fun v G1 H1 e1 s1 r1 => hr G1 H1 σ (a.go e1 s1) _ fun vs G2 H2 e2 s2 r2 => q _ G2 H2 (e1.trans e2) s2 (.cons (r1.mono e2.g) r2)
theorem ee_cb {r : List V → Hp → VK → Prop} {tr : TA} (ha : Ea c tr ds xs) (hr : Rc c.K r xs z) : Ee c (tCB r tr) ds z := fun G H σ a Q q =>
  ha G H σ a _ fun v G1 H1 e1 s1 r1 => hr G1 H1 v s1 r1 Q fun u G3 H3 e3 s3 r3 => q u G3 H3 (e1.trans e3.all) s3 r3
theorem ee_tup {tr : TA} (ha : Ea c tr ds xs) (hl : xs.length ≤ 1000000) : Ee c (tTup tr) ds (.tup xs) := fun G H σ a Q q =>
  ha G H σ a _ fun v G1 H1 e1 s1 r1 => ⟨by rw [r1.len]; exact sz_of hl, Then.tup (fun u G3 H3 e3 s3 r3 => q u G3 H3 (e1.trans e3.all) s3 r3) s1 r1⟩
theorem ee_lst {tr : TA} (ha : Ea c tr ds xs) (hl : xs.length ≤ 1000000) : Ee c (tLst tr) ds (.lst xs) := fun G H σ a Q q =>
  ha G H σ a _ fun v G1 H1 e1 s1 r1 => ⟨by rw [r1.len]; exact sz_of hl, Then.lst (fun u G3 H3 e3 s3 r3 => q u G3 H3 (e1.trans e3.all) s3 r3) s1 r1⟩
theorem ee_bm0 {T : String} {r : V → List V → Hp → VK → Prop} (ha : Ee c te ds x) (hty : ∀ G H v, Ex G H → Rep c.K G v x → tyV c.K T v H) (hr : Rm c.K r x [] z) : Ee c (tBM0 c.K T r te) ds z := fun G H σ a Q q =>
  ha G H σ a _ fun v G1 H1 e1 s1 r1 => ⟨hty G1 H1 v s1 r1, hr G1 H1 v [] s1 r1 .nil Q fun u G3 H3 e3 s3 r3 => q u G3 H3 (e1.trans e3.all) s3 r3⟩
theorem ee_bm {T : String} {r : V → List V → Hp → VK → Prop} {tr : TA} (ha : Ee c te ds x) (hb : Ea c tr ds xs) (hty : ∀ G H v, Ex G H → Rep c.K G v x → tyV c.K T v H) (hr : Rm c.K r x xs z) : Ee c (tBM c.K T r te tr) ds z := fun G H σ a Q q =>
  ha G H σ a _ fun v G1 H1 e1 s1 r1 => ⟨hty G1 H1 v s1 r1, hb G1 H1 σ (a.go e1 s1) _ fun vs G2 H2 e2 s2 r2 => hr G2 H2 v vs s2 (r1.mono e2.g) r2 Q fun u G3 H3 e3 s3 r3 => q u G3 H3 ((e1.trans e2).trans e3.all) s3 r3⟩
theorem ee_m1 {r : V → List V → Hp → VK → Prop} {s : Str} (ha : Ee c te ds (.str s)) (hb : Ee c tb ds y) (hr : Rm c.K r (.str s) [y] z) : Ee c (tM1 r te tb) ds z := fun G H σ a Q q =>
  ha G H σ a _ fun v G1 H1 e1 s1 r1 => ⟨by cases r1; exact ⟨_, rfl⟩, hb G1 H1 σ (a.go e1 s1) _ fun w G2 H2 e2 s2 r2 => hr G2 H2 v [w] s2 (r1.mono e2.g) (.cons r2 .nil) Q fun u G3 H3 e3 s3 r3 => q u G3 H3 ((e1.trans e2).trans e3.all) s3 r3⟩
theorem ee_if {b : Bool} (h : Et c t ds b) (h1 : b = true → Ee c ta ds d) (h2 : b = false → Ee c tb ds d) : Ee c (tIf t ta tb) ds d := fun G H σ a Q q => h G H σ a _ fun G1 H1 e1 s1 => by
  cases b with
  | true => exact h1 rfl G1 H1 σ (a.go e1 s1) Q fun v G2 H2 e2 => q v G2 H2 (e1.trans e2)
  | false => exact h2 rfl G1 H1 σ (a.go e1 s1) Q fun v G2 H2 e2 => q v G2 H2 (e1.trans e2)
theorem ee_andV {a b : Bool} (h1 : Ee c ta ds (.bl a)) (h2 : a = true → Ee c tb ds (.bl b)) : Ee c (tAndV ta tb) ds (.bl (a && b)) := fun G H σ at' Q q => h1 G H σ at' _ fun v G1 H1 e1 s1 r1 => by
  cases r1
  refine ⟨a, rfl, ?_⟩
  cases a with
  | true => exact h2 rfl G1 H1 σ (at'.go e1 s1) Q fun v G2 H2 e2 => q v G2 H2 (e1.trans e2)
  | false => exact q _ G1 H1 e1 s1 (.bl false)
theorem ee_orV {a b : Bool} (h1 : Ee c ta ds (.bl a)) (h2 : a = false → Ee c tb ds (.bl b)) : Ee c (tOrV ta tb) ds (.bl (a || b)) := fun G H σ at' Q q => h1 G H σ at' _ fun v G1 H1 e1 s1 r1 => by
  cases r1
  refine ⟨a, rfl, ?_⟩
  cases a with
  | true => exact q _ G1 H1 e1 s1 (.bl true)
  | false => exact h2 rfl G1 H1 σ (at'.go e1 s1) Q fun v G2 H2 e2 => q v G2 H2 (e1.trans e2)
theorem ee_notV {a : Bool} (h1 : Ee c ta ds (.bl a)) : Ee c (tNotV ta) ds (.bl (!a)) := fun G H σ at' Q q => h1 G H σ at' _ fun v G1 H1 e1 s1 r1 => by
  cases r1
  exact ⟨a, rfl, q _ G1 H1 e1 s1 (.bl _)⟩
theorem et_test {b : Bool} (h : Ee c te ds (.bl b)) : Et c (tTest te) ds b := fun G H σ a Q q => h G H σ a _ fun v G1 H1 e1 s1 r1 => by
  cases r1
  exact ⟨b, rfl, q G1 H1 e1 s1⟩
theorem et_B {b : Bool} (h : Ee c te ds (.bl b)) : Et c (tB te) ds b := fun G H σ a Q q => h G H σ a _ fun v G1 H1 e1 s1 r1 => by
  cases r1
  exact ⟨b, rfl, q G1 H1 e1 s1⟩
theorem et_and {a b : Bool} (h1 : Et c t ds a) (h2 : a = true → Et c u ds b) : Et c (tAnd t u) ds (a && b) := fun G H σ at' Q q => h1 G H σ at' _ fun G1 H1 e1 s1 => by
  cases a with
  | true => exact h2 rfl G1 H1 σ (at'.go e1 s1) Q fun G2 H2 e2 => q G2 H2 (e1.trans e2)
  | false => exact q G1 H1 e1 s1
theorem et_or {a b : Bool} (h1 : Et c t ds a) (h2 : a = false → Et c u ds b) : Et c (tOr t u) ds (a || b) := fun G H σ at' Q q => h1 G H σ at' _ fun G1 H1 e1 s1 => by
  cases a with
  | true => exact q G1 H1 e1 s1
  | false => exact h2 rfl G1 H1 σ (at'.go e1 s1) Q fun G2 H2 e2 => q G2 H2 (e1.trans e2)
theorem et_not {a : Bool} (h1 : Et c t ds a) : Et c (tNot t) ds (!a) := fun G H σ at' Q q => h1 G H σ at' _ fun G1 H1 e1 s1 => q G1 H1 e1 s1
theorem et_yes : Et c tYes ds true := fun G H σ a Q q => q G H Ext.refl a.sub
/-- the truth of data -/
def truD : D → Bool
  | .non => false
  | .bl b => b
  | .int i => i != 0
  | .str y => ((y.length : Int) != 0)
  | .lst xs => !xs.isEmpty
  | .tup xs => !xs.isEmpty
  | .obj _ _ _ => true
  | .ty _ => true
  | .cls _ => true
def truOk : D → Prop
  | .str y => y.length ≤ 1000000
  | .obj _ _ _ => False
  | .ty _ => False
  | .cls _ => False
  | _ => True
theorem empty_reps {K : PySem.W.Frag} {H : Hp} {vs : List V} {ds : List D} (r : Reps K H vs ds) : vs.isEmpty = ds.isEmpty := by cases r <;> rfl
theorem tru_of {K : PySem.W.Frag} {G H : Hp} {v : V} (s : Ex G H) (r : Rep K G v x) (h : truOk x) : TruV K v H (truD x) := by
  cases r with
  | non => rfl
  | bl b => rfl
  | int i => rfl
  | str y => exact ⟨sz_of h, rfl⟩
  | lst e q => exact .inl ⟨_, SqL.of (s _ _ e), by rw [empty_reps q]; rfl⟩
  | tup e q => exact .inr (.inl ⟨_, ex_t s e, by rw [empty_reps q]; rfl⟩)
  | obj _ _ _ => exact h.elim
  | ty _ => exact h.elim
  | cls _ => exact h.elim
theorem et_tru (h : Ee c te ds x) (hx : truOk x) : Et c (fun σ H Q => te σ H fun x H' => ∃ k, TruV c.K x H' k ∧ Q k H') ds (truD x) := fun G H σ a Q q => h G H σ a _ fun v G1 H1 e1 s1 r1 =>
  ⟨_, tru_of s1 r1 hx, q G1 H1 e1 s1⟩
theorem ee_is {x y : D} (h : Ee c te ds x) (e : x = y) : Ee c te ds y := e ▸ h
theorem et_is {a b : Bool} (h : Et c t ds a) (e : a = b) : Et c t ds b := e ▸ h
theorem ea_is {tr : TA} {xs ys : List D} (h : Ea c tr ds xs) (e : xs = ys) : Ea c tr ds ys := e ▸ h
theorem eo_none : Eo c tNoPart ds none := fun G H σ a Q q => q G H Ext.refl a.sub
theorem eo_some {i : Int} (h : Ee c te ds (.int i)) : Eo c (tPart te) ds (some i) := fun G H σ a Q q => h G H σ a _ fun v G1 H1 e1 s1 r1 => by
  cases r1
  exact ⟨i, rfl, q G1 H1 e1 s1⟩
def Rs (K : PySem.W.Frag) (r : V → Option Int → Option Int → Hp → VK → Prop) (x : D) (lo hi : Option Int) (z : D) : Prop := ∀ G H v, Ex G H → Rep K G v x → ∀ Q : VK, Then K G H z Q → r v lo hi H Q
theorem ee_sl {r : V → Option Int → Option Int → Hp → VK → Prop} {tl th : TO} {lo hi : Option Int} (ha : Ee c te ds x) (h1 : Eo c tl ds lo) (h2 : Eo c th ds hi) (hr : Rs c.K r x lo hi z) : Ee c (tSl r te tl th) ds z := fun G H σ a Q q =>
  ha G H σ a _ fun v G1 H1 e1 s1 r1 => h1 G1 H1 σ (a.go e1 s1) _ fun G2 H2 e2 s2 => h2 G2 H2 σ (a.go (e1.trans e2) s2) _ fun G3 H3 e3 s3 => hr G3 H3 v s3 (r1.mono (e2.trans e3).g) Q fun u G4 H4 e4 s4 r4 => q u G4 H4 (((e1.trans e2).trans e3).trans e4.all) s4 r4
/-- x < y < z -/
theorem et_chain {r r' : R2} {tc : TE} {w : D} {a b : Bool} (h1 : Ee c ta ds x) (h2 : Ee c tb ds y) (hr : Rb c.K r x y (.bl a)) (h3 : a = true → Ee c tc ds w) (hr' : a = true → Rb c.K r' y w (.bl b)) : Ee c (tChain r r' ta tb tc) ds (.bl (a && b)) := fun G H σ at' Q q =>
  h1 G H σ at' _ fun v G1 H1 e1 s1 r1 => h2 G1 H1 σ (at'.go e1 s1) _ fun w G2 H2 e2 s2 r2 => hr G2 H2 v w s2 (r1.mono e2.g) r2 _ fun u G3 H3 e3 s3 r3 => by
    cases r3
    have e03 : Ext c.l G H G3 H3 := (e1.trans e2).trans e3.all
    cases a with
    | true =>
      exact ⟨true, rfl, h3 rfl G3 H3 σ (at'.go e03 s3) _ fun z G4 H4 e4 s4 r4 => hr' rfl G4 H4 w z s4 (r2.mono (e3.g.trans e4.g)) r4 _ fun u G5 H5 e5 s5 r5 => q u G5 H5 ((e03.trans e4).trans e5.all) s5 r5⟩
    | false => exact ⟨false, rfl, q _ G3 H3 e03 s3 (.bl false)⟩
end
end Dl

/-! Ds: statements, loops, comprehensions over plain data. -/
namespace Dl
open PySem L2 Evl

/-- what is wanted behind a statement, by data -/
structure DE where
  nx : Fm → Prop
  rt : D → Prop
  bk : Fm → Prop := fun _ => False
  ct : Fm → Prop := fun _ => False
  er : Value → Option Int → Prop := fun _ _ => False
  rf : D → Fm → Prop := fun _ _ => False
  ef : Value → Fm → Prop := fun _ _ => False
/-- an exception leaves: its class, its line -/
def Flies (X : XK) (C : Value) (o : Option Int) (H : Hp) : Prop := match o with
  | none => X C none H
  | some i => ∀ dd, H dd = none → X C (some dd) (upd H dd (.xd [("line", .int i)]))
structure Le (c : Ctx) (G H : Hp) (n : DE) (E : Ends) : Prop where
  nx : ∀ G' H' σ ds, Exs c G H G' H' → At c G' H' σ ds → n.nx ds → E.nx σ H'
  rt : ∀ G' H' v d, Exs c G H G' H' → Ex G' H' → Rep c.K G' v d → n.rt d → E.rt v H'
  bk : ∀ G' H' σ ds, Exs c G H G' H' → At c G' H' σ ds → n.bk ds → E.bk σ H'
  ct : ∀ G' H' σ ds, Exs c G H G' H' → At c G' H' σ ds → n.ct ds → E.ct σ H'
  er : ∀ G' H' C o, Exs c G H G' H' → Ex G' H' → n.er C o → Flies c.X C o H'
  rf : ∀ G' H' σ ds v d, Exs c G H G' H' → At c G' H' σ ds → Rep c.K G' v d → n.rf d ds → E.rt v H'
  ef : ∀ G' H' σ ds C, Exs c G H G' H' → At c G' H' σ ds → n.ef C ds → c.X C none H'
def St (c : Ctx) (t : TS) (n : DE) (ds : Fm) : Prop := ∀ G H σ, At c G H σ ds → ∀ E : Ends, Le c G H n E → t E σ H
theorem Le.go {c : Ctx} {G H G1 H1 : Hp} {n : DE} {E : Ends} (l : Le c G H n E) (e : Exs c G H G1 H1) : Le c G1 H1 n E :=
  ⟨fun G' H' σ ds x => l.nx G' H' σ ds (e.trans x), fun G' H' v d x => l.rt G' H' v d (e.trans x), fun G' H' σ ds x => l.bk G' H' σ ds (e.trans x), fun G' H' σ ds x => l.ct G' H' σ ds (e.trans x), fun G' H' C o x => l.er G' H' C o (e.trans x), fun G' H' σ ds v d x => l.rf G' H' σ ds v d (e.trans x), fun G' H' σ ds C x => l.ef G' H' σ ds C (e.trans x)⟩
/-- a target -/
def Eg (c : Ctx) (g : TG) (d : D) (ds ds' : Fm) (js : List Nat) : Prop := ∀ G H σ v, At c G H σ ds → Rep c.K G v d → ∀ Q : L2.St → Hp → Prop,
  (∀ σ', At c G H σ' ds' → σ'.length = σ.length → (∀ i, i ∉ js → σ'[i]? = σ[i]?) → Q σ' H) → g v σ H Q
def Egs (c : Ctx) (g : TGs) (xs : List D) (ds ds' : Fm) (js : List Nat) : Prop := ∀ G H σ vs, At c G H σ ds → Reps c.K G vs xs → ∀ Q : L2.St → Hp → Prop,
  (∀ σ', At c G H σ' ds' → σ'.length = σ.length → (∀ i, i ∉ js → σ'[i]? = σ[i]?) → Q σ' H) → g vs σ H Q
section
variable {c : Ctx} {ds ds' ds2 : Fm} {ta tb te : TE} {x y z d : D} {xs : List D} {tc u : TT} {n : DE} {t1 t2 t3 : TS} {g : TG}
theorem eg_name {i : Nat} (hi : i < ds.length) : Eg c (gName i) d ds (ds.set i (.v d)) [i] := fun G H σ v a r Q q =>
  q _ (a.set r hi) (by simp) fun j hj => List.getElem?_set_ne (fun e => hj (by simp [e]))
theorem egs_nil : Egs c gNil [] ds ds [] := fun G H σ v a r Q q => by
  cases r
  exact ⟨rfl, q σ a rfl fun _ _ => rfl⟩
theorem egs_cons {gs : TGs} {js ks : List Nat} (h1 : Eg c g d ds ds' js) (h2 : Egs c gs xs ds' ds2 ks) : Egs c (gCons g gs) (d :: xs) ds ds2 (js ++ ks) := fun G H σ v a r Q q => by
  cases r with
  | cons r1 r2 =>
    refine ⟨_, _, rfl, h1 G H σ _ a r1 _ fun σ1 a1 l1 k1 => h2 G H σ1 _ a1 r2 Q fun σ2 a2 l2 k2 => q σ2 a2 (l2.trans l1) fun i hi => ?_⟩
    rw [List.mem_append, not_or] at hi
    rw [k2 i hi.2, k1 i hi.1]
theorem eg_tup {m : Nat} {gs : TGs} {js : List Nat} (hl : xs.length = m) (h : Egs c gs xs ds ds' js) : Eg c (gTup c.K m gs) (.tup xs) ds ds' js := fun G H σ v a r Q q => by
  cases r with
  | tup s r => exact ⟨_, _, rfl, ex_t a.sub s, by rw [r.len, hl], h G H σ _ a r Q q⟩
/-! ### blocks -/
theorem st_next (h : n.nx ds) : St c tNext n ds := fun G H σ a E l => l.nx G H σ ds Exs.refl a h
theorem st_seq (h : St c t1 { n with nx := fun ds' => St c t2 n ds' } ds) : St c (tSeq t1 t2) n ds := fun G H σ a E l =>
  h G H σ a { E with nx := t2 E } ⟨fun G' H' σ ds x a h => h G' H' σ a E (l.go x), l.rt, l.bk, l.ct, l.er, l.rf, l.ef⟩
theorem st_imp {n' : DE} (h : St c t1 n ds) (h1 : ∀ ds, n.nx ds → n'.nx ds) (h2 : ∀ d, n.rt d → n'.rt d) (h3 : ∀ ds, n.bk ds → n'.bk ds) (h4 : ∀ ds, n.ct ds → n'.ct ds) (h5 : ∀ C o, n.er C o → n'.er C o) (h6 : n'.rf = n.rf := by rfl) (h7 : n'.ef = n.ef := by rfl) : St c t1 n' ds := fun G H σ a E l =>
  h G H σ a E ⟨fun G H σ ds x a z => l.nx G H σ ds x a (h1 ds z), fun G H v d e s r z => l.rt G H v d e s r (h2 d z), fun G H σ ds x a z => l.bk G H σ ds x a (h3 ds z), fun G H σ ds x a z => l.ct G H σ ds x a (h4 ds z), fun G H C o x s z => l.er G H C o x s (h5 C o z), fun G H σ ds v d x a r z => l.rf G H σ ds v d x a r (by rw [h6]; exact z), fun G H σ ds C x a z => l.ef G H σ ds C x a (by rw [h7]; exact z)⟩
theorem st_brk (h : n.bk ds) : St c tBreak n ds := fun G H σ a E l => l.bk G H σ ds Exs.refl a h
theorem st_cont (h : n.ct ds) : St c tCont n ds := fun G H σ a E l => l.ct G H σ ds Exs.refl a h
theorem st_ret (h : Ee c te ds d) (k : n.rt d) : St c (tRet te) n ds := fun G H σ a E l => h G H σ a _ fun v G1 H1 e1 s1 r1 => l.rt G1 H1 v d e1.s s1 r1 k
theorem st_retN (k : n.rt .non) : St c tRetN n ds := fun G H σ a E l => l.rt G H _ _ Exs.refl a.sub .non k
theorem st_drop (h : Ee c te ds d) (k : n.nx ds) : St c (tDrop te) n ds := fun G H σ a E l => h G H σ a _ fun v G1 H1 e1 s1 r1 => l.nx G1 H1 σ ds e1.s (a.go e1 s1) k
theorem st_asgG {js : List Nat} (h : Ee c te ds d) (hg : Eg c g d ds ds' js) (k : n.nx ds') : St c (tAsg te g) n ds := fun G H σ a E l => h G H σ a _ fun v G1 H1 e1 s1 r1 =>
  hg G1 H1 σ v (a.go e1 s1) r1 _ fun σ' a2 _ _ => l.nx G1 H1 σ' ds' e1.s a2 k
theorem st_asg {i : Nat} (h : Ee c te ds d) (hi : i < ds.length) (k : n.nx (ds.set i (.v d))) : St c (tAsg te (gName i)) n ds := st_asgG h (eg_name hi) k
theorem st_par {i j : Nat} {tr : TA} (h : Ea c tr ds [x, y]) (hi : i < ds.length) (hj : j < ds.length) (k : n.nx ((ds.set i (.v x)).set j (.v y))) : St c (tPar i j tr) n ds := fun G H σ a E l => h G H σ a _ fun vs G1 H1 e1 s1 r1 => by
  cases r1 with
  | cons r1 r2 => cases r2 with
    | cons r2 r3 =>
      cases r3
      exact ⟨_, _, rfl, l.nx G1 H1 _ _ e1.s (((a.go e1 s1).set r1 hi).set r2 (by simpa using hj)) k⟩
theorem st_if {b : Bool} (h : Et c tc ds b) (h1 : b = true → St c t1 n ds) (h2 : b = false → St c t2 n ds) : St c (tIfS tc t1 t2) n ds := fun G H σ a E l => h G H σ a _ fun G1 H1 e1 s1 => by
  cases b with
  | true => exact h1 rfl G1 H1 σ (a.go e1 s1) E (l.go e1.s)
  | false => exact h2 rfl G1 H1 σ (a.go e1 s1) E (l.go e1.s)
theorem st_aug {i : Nat} {ti : TIp} {w : D} (hx : ds[i]? = some (.v x)) (h : Ee c te ds y) (hr : ∀ G H v u, Ex G H → Rep c.K G v x → Rep c.K G u y → ∀ Q : VK, Then c.K G H w Q → ti v u H Q) (k : n.nx (ds.set i (.v w))) : St c (tAug i te ti) n ds := fun G H σ a E l => by
  obtain ⟨v, h1, h2⟩ := a.fr.ok i _ hx
  refine ⟨v, h1, h G H σ a _ fun u G1 H1 e1 s1 r1 => hr G1 H1 v u s1 (h2.mono e1.g) r1 _ fun w G2 H2 e2 s2 r2 => l.nx G2 H2 _ _ (e1.trans e2.all).s ((a.go (e1.trans e2.all) s2).set r2 ?_) k⟩
  exact (List.getElem?_eq_some_iff.mp hx).1
/-- forgetting -/
inductive Fle : Fm → Fm → Prop where
  | nil : Fle [] []
  | keep {s s' : Sl} {a b : Fm} : s = s' → Fle a b → Fle (s :: a) (s' :: b)
  | drop {s : Sl} {a b : Fm} : Fle a b → Fle (s :: a) (.no :: b)
theorem Fle.refl : ∀ a : Fm, Fle a a
  | [] => .nil
  | _ :: a => .keep rfl (Fle.refl a)
theorem Fle.get {a b : Fm} (h : Fle a b) : a.length = b.length ∧ ∀ (i : Nat) s, b[i]? = some s → s = .no ∨ a[i]? = some s := by
  induction h with
  | nil => exact ⟨rfl, fun i s e => by simp at e⟩
  | keep e _ ih =>
    refine ⟨by simp [ih.1], fun i s q => ?_⟩
    cases i with
    | zero => subst e; exact .inr q
    | succ i => exact ih.2 i s q
  | drop _ ih =>
    refine ⟨by simp [ih.1], fun i s q => ?_⟩
    cases i with
    | zero => simp at q; exact .inl q.symm
    | succ i => exact ih.2 i s q
theorem At.le {G H : Hp} {σ : L2.St} (h : Fle ds ds') (a : At c G H σ ds) : At c G H σ ds' := by
  obtain ⟨h1, h2⟩ := h.get
  refine ⟨a.sub, ⟨a.fr.len.trans h1, fun i s e => ?_, fun i j b xs ys hij e1 e2 => ?_⟩, a.lk, a.tr⟩
  · rcases h2 i s e with rfl | q
    · trivial
    · exact a.fr.ok i s q
  · have q1 := (h2 i _ e1).resolve_left (by simp)
    have q2 := (h2 j _ e2).resolve_left (by simp)
    exact a.fr.ap i j b xs ys hij q1 q2
theorem st_le (h : Fle ds ds') (k : St c t1 n ds') : St c t1 n ds := fun G H σ a => k G H σ (a.le h)
/-! ### while -/
theorem st_while {α : Type} (F : α → Fm) (I : α → Prop) (μ : α → Nat) (h0 : ∃ a, Fle ds (F a) ∧ I a)
    (hs : ∀ a, I a → ∃ b, Et c tc (F a) b ∧ (b = true → St c t1 { n with nx := fun ds' => ∃ a', Fle ds' (F a') ∧ I a' ∧ μ a' < μ a, ct := fun ds' => ∃ a', Fle ds' (F a') ∧ I a' ∧ μ a' < μ a, bk := n.nx } (F a)) ∧ (b = false → n.nx (F a))) : St c (tWhile tc t1) n ds := fun G0 H0 σ0 at' E l => by
  obtain ⟨a0, f0, i0⟩ := h0
  refine ⟨fun m σ H => ∃ G a, Exs c G0 H0 G H ∧ At c G H σ (F a) ∧ I a ∧ m = μ a, ⟨μ a0, G0, a0, Exs.refl, at'.le f0, i0, rfl⟩, ?_⟩
  rintro m σ H ⟨G, a, e0, at1, ia, rfl⟩
  obtain ⟨b, hb, h1, h2⟩ := hs a ia
  refine hb G H σ at1 _ fun G1 H1 e1 s1 => ?_
  cases b with
  | true =>
    refine ⟨fun σ' H' => ∃ m', m' < μ a ∧ ∃ G a', Exs c G0 H0 G H' ∧ At c G H' σ' (F a') ∧ I a' ∧ m' = μ a', fun σ' H' z => z, ?_⟩
    have go : ∀ (G' H' : Hp) (σ : L2.St) (ds : Fm), Exs c G1 H1 G' H' → At c G' H' σ ds → (∃ a', Fle ds (F a') ∧ I a' ∧ μ a' < μ a) → ∃ m', m' < μ a ∧ ∃ G a', Exs c G0 H0 G H' ∧ At c G H' σ (F a') ∧ I a' ∧ m' = μ a' :=
      fun G' H' σ ds x a2 ⟨a', f, i, m⟩ => ⟨μ a', m, G', a', (e0.trans e1.s).trans x, a2.le f, i, rfl⟩
    exact h1 rfl G1 H1 σ (at1.go e1 s1) _ ⟨go, (l.go (e0.trans e1.s)).rt, (l.go (e0.trans e1.s)).nx, go, (l.go (e0.trans e1.s)).er, (l.go (e0.trans e1.s)).rf, (l.go (e0.trans e1.s)).ef⟩
  | false => exact l.nx G1 H1 σ _ (e0.trans e1.s) (at1.go e1 s1) (h2 rfl)
/-! ### what is walked -/
structure ItD (K : PySem.W.Frag) (J : It) (xs : List D) (G1 : Hp) : Prop where
  go : ∀ i G H, Ex G1 G → Ex G H → i < xs.length → J.go i H
  yld : ∀ i G H v H', Ex G1 G → Ex G H → i < xs.length → J.yld i H v H' → ∃ d G', xs[i]? = some d ∧ Ext none G H G' H' ∧ Ex G' H' ∧ Rep K G' v d
  stop : ∀ G H, Ex G1 G → Ex G H → J.stop xs.length H
def Ei (c : Ctx) (wi : TI) (ds : Fm) (xs : List D) : Prop := ∀ G H σ, At c G H σ ds → ∀ R : It → Hp → Prop, (∀ J G1 H1, Ext c.l G H G1 H1 → Ex G1 H1 → ItD c.K J xs G1 → R J H1) → wi σ H R
theorem ei_list {tl : TE} (h : Ee c tl ds (.lst xs)) : Ei c (iList c.K tl) ds xs := fun G H σ a R q => h G H σ a _ fun v G1 H1 e1 s1 r1 => by
  cases r1 with
  | lst e r =>
    refine ⟨_, rfl, ⟨_, SqL.of (s1 _ _ e)⟩, q _ G1 H1 e1 s1 ⟨fun i G H e1 e2 hi => ?_, fun i G H v H' e1 e2 hi y => ?_, fun G H e1 e2 => ?_⟩⟩
    · rw [← r.len] at hi
      exact ⟨_, _, SqL.of (e2 _ _ (e1 _ _ e)), List.getElem?_eq_getElem hi⟩
    · obtain ⟨rfl, y⟩ := y
      have q := y _ (SqL.of (e2 _ _ (e1 _ _ e)))
      obtain ⟨d, h1, h2⟩ := r.get q
      exact ⟨d, G, h1, Ext.refl, e2, h2.mono e1⟩
    · exact ⟨_, SqL.of (e2 _ _ (e1 _ _ e)), by rw [r.len]; exact Nat.le_refl _⟩
theorem ei_tup {tl : TE} (h : Ee c tl ds (.tup xs)) : Ei c (iTup c.K tl) ds xs := fun G H σ a R q => h G H σ a _ fun v G1 H1 e1 s1 r1 => by
  cases r1 with
  | tup e r =>
    refine ⟨_, rfl, ⟨_, ex_t s1 e⟩, q _ G1 H1 e1 s1 ⟨fun i G H e1 e2 hi => ?_, fun i G H v H' e1 e2 hi y => ?_, fun G H e1 e2 => ?_⟩⟩
    · rw [← r.len] at hi
      exact ⟨_, _, ex_t (e1.trans e2) e, List.getElem?_eq_getElem hi⟩
    · obtain ⟨rfl, y⟩ := y
      have q := y _ (ex_t (e1.trans e2) e)
      obtain ⟨d, h1, h2⟩ := r.get q
      exact ⟨d, G, h1, Ext.refl, e2, h2.mono e1⟩
    · exact ⟨_, ex_t (e1.trans e2) e, by rw [r.len]; exact Nat.le_refl _⟩
def signs (s : Str) : List D := s.cps.toList.map fun k => D.str ⟨#[k]⟩
theorem ei_str {tl : TE} {s : Str} (h : Ee c tl ds (.str s)) : Ei c (iStr tl) ds (signs s) := fun G H σ a R q => h G H σ a _ fun v G1 H1 e1 s1 r1 => by
  cases r1
  have el : (signs s).length = s.cps.size := by simp [signs]
  refine ⟨s, rfl, q _ G1 H1 e1 s1 ⟨fun i G H e1 e2 hi => (by rw [el] at hi; exact hi : i < s.cps.size), fun i G H v H' e1 e2 hi y => ?_, fun G H e1 e2 => (by rw [el]; exact Nat.le_refl _ : s.cps.size ≤ (signs s).length)⟩⟩
  obtain ⟨rfl, k, hk, rfl⟩ := y
  exact ⟨.str ⟨#[k]⟩, G, by unfold signs; rw [List.getElem?_map, Array.getElem?_toList, hk]; rfl, Ext.refl, e2, .str _⟩
def upto (j : Int) : List D := (List.range j.toNat).map fun (i : Nat) => D.int (i : Int)
theorem upto_len (j : Int) : (upto j).length = j.toNat := by simp [upto]
theorem ei_rng1 {tr : TA} {j : Int} (h : Ea c tr ds [.int j]) (h1 : j ≤ 1000000000) (h2 : -1000000000 ≤ j) : Ei c (iRng1 tr) ds (upto j) := fun G H σ a R q => h G H σ a _ fun vs G1 H1 e1 s1 r1 => by
  cases r1 with
  | cons r r' =>
    cases r; cases r'
    refine ⟨j, rfl, by omega, by omega, q _ G1 H1 e1 s1 ⟨fun i G H e1 e2 hi => (by rw [upto_len] at hi; exact hi : i < j.toNat), fun i G H v H' e1 e2 hi y => ?_, fun G H e1 e2 => (by rw [upto_len]; exact Nat.le_refl _ : j.toNat ≤ (upto j).length)⟩⟩
    obtain ⟨rfl, rfl⟩ := y
    refine ⟨.int (i : Int), G, ?_, Ext.refl, e2, ?_⟩
    · rw [upto_len] at hi
      unfold upto
      rw [List.getElem?_map, List.getElem?_range hi]; rfl
    · have e0 : (0 : Int) + (i : Int) = (i : Int) := Int.zero_add _
      rw [e0]; exact .int _
/-! ### for -/
theorem for_core {α : Type} {J : It} {G1 H1 : Hp} {σ : L2.St} {E : Ends} (it : ItD c.K J xs G1) (at' : At c G1 H1 σ ds) (l : Le c G1 H1 n E) (F : Nat → α → Fm) (I : Nat → α → Prop) (h0 : ∃ a, Fle ds (F 0 a) ∧ I 0 a)
    (hs : ∀ i d a, xs[i]? = some d → I i a → ∃ ds2 js, Eg c g d (F i a) ds2 js ∧ St c t1 { n with nx := fun ds' => ∃ a', Fle ds' (F (i + 1) a') ∧ I (i + 1) a', ct := fun ds' => ∃ a', Fle ds' (F (i + 1) a') ∧ I (i + 1) a', bk := n.nx } ds2)
    (hd : ∀ a, I xs.length a → n.nx (F xs.length a)) : ∃ W : Nat → Nat → L2.St → Hp → Prop, (∃ m, W 0 m σ H1) ∧ ∀ i m σ H, W i m σ H →
  (J.stop i H ∧ E.nx σ H) ∨ (J.go i H ∧ ∃ N : L2.St → Hp → Prop, (∀ σ' H', N σ' H' → ∃ m', m' < m ∧ W (i + 1) m' σ' H') ∧ ∀ x H', J.yld i H x H' → g x σ H' fun σ2 H2 => t1 { E with nx := N, ct := N, bk := E.nx } σ2 H2) := by
  obtain ⟨a0, f0, i0⟩ := h0
  refine ⟨fun i m σ H => ∃ G a, Exs c G1 H1 G H ∧ At c G H σ (F i a) ∧ I i a ∧ i ≤ xs.length ∧ m = xs.length - i, ⟨xs.length, G1, a0, Exs.refl, at'.le f0, i0, Nat.zero_le _, rfl⟩, ?_⟩
  rintro i m σ H ⟨G, a, eg, at1, ia, il, rfl⟩
  by_cases hlt : i < xs.length
  · refine .inr ⟨it.go i G H eg.g at1.sub hlt, fun σ' H' => ∃ G a, Exs c G1 H1 G H' ∧ At c G H' σ' (F (i + 1) a) ∧ I (i + 1) a, fun σ' H' ⟨G, a, x1, x2, x3⟩ => ⟨xs.length - (i + 1), by omega, G, a, x1, x2, x3, hlt, rfl⟩, fun x H' y => ?_⟩
    obtain ⟨d, G', hd', ex, sb, rp⟩ := it.yld i G H x H' eg.g at1.sub hlt y
    obtain ⟨ds2, js, hg, hb⟩ := hs i d a hd' ia
    have e2 : Exs c G1 H1 G' H' := eg.trans (Ext.all ex).s
    refine hg G' H' σ x (at1.go ex.all sb) rp _ fun σ2 a2 _ _ => ?_
    have go : ∀ (G2 H2 : Hp) (σ : L2.St) (ds : Fm), Exs c G' H' G2 H2 → At c G2 H2 σ ds → (∃ a', Fle ds (F (i + 1) a') ∧ I (i + 1) a') → ∃ G a, Exs c G1 H1 G H2 ∧ At c G H2 σ (F (i + 1) a) ∧ I (i + 1) a :=
      fun G2 H2 σ ds x a3 ⟨a', f, i⟩ => ⟨G2, a', e2.trans x, a3.le f, i⟩
    exact hb G' H' σ2 a2 _ ⟨go, (l.go e2).rt, (l.go e2).nx, go, (l.go e2).er, (l.go e2).rf, (l.go e2).ef⟩
  · have e : i = xs.length := by omega
    subst e
    exact .inl ⟨it.stop G H eg.g at1.sub, l.nx G H σ _ eg at1 (hd a ia)⟩
theorem st_for {α : Type} {wi : TI} (hi : Ei c wi ds xs) (F : Nat → α → Fm) (I : Nat → α → Prop) (h0 : ∃ a, Fle ds (F 0 a) ∧ I 0 a)
    (hs : ∀ i d a, xs[i]? = some d → I i a → ∃ ds2 js, Eg c g d (F i a) ds2 js ∧ St c t1 { n with nx := fun ds' => ∃ a', Fle ds' (F (i + 1) a') ∧ I (i + 1) a', ct := fun ds' => ∃ a', Fle ds' (F (i + 1) a') ∧ I (i + 1) a', bk := n.nx } ds2)
    (hd : ∀ a, I xs.length a → n.nx (F xs.length a)) : St c (tFor wi g t1) n ds := fun G0 H0 σ at' E l => hi G0 H0 σ at' _ fun J G1 H1 e1 s1 it => for_core it (at'.go e1 s1) (l.go e1.s) F I h0 hs hd
/-! ### a list by a comprehension: out i is what stands behind i turns -/
theorem ee_lc {wi : TI} {tt : TT} {vs js : List Nat} (hi : Ei c wi ds xs) (out : Nat → List D) (h0 : out 0 = []) (hz : xs.length ≤ 1000000)
    (hl : ∀ i, i ≤ xs.length → (out i).length ≤ i) (hv : ∀ j ∈ js, j ∈ vs)
    (hs : ∀ i d, xs[i]? = some d → ∃ ds2 b, Eg c g d (wipeD ds vs) ds2 js ∧ Et c tt ds2 b ∧ (b = true → ∃ e, Ee c te ds2 e ∧ out (i + 1) = out i ++ [e]) ∧ (b = false → out (i + 1) = out i)) :
    Ee c (tLc wi g tt te vs) ds (.lst (out xs.length)) := fun G0 H0 σ at' Q q => hi G0 H0 σ at' _ fun J G1 H1 e1 s1 it => by
  intro Dl hDl
  have at1 : At c G1 H1 σ ds := at'.go e1 s1
  have hg1 : G1 Dl = none := sub_none s1 hDl
  have hne : NotL c.l Dl := fun y z => (at1.lk Dl y z).1 hDl
  -- what holds behind i turns: the known part G, the list at Dl
  let P : Nat → Hp → Prop := fun i H => ∃ G ys, Ext c.l G1 H1 G H ∧ Ex G H ∧ G Dl = none ∧ H Dl = some (.lst ys) ∧ Reps c.K G ys (out i)
  refine ⟨fun i m H => i ≤ xs.length ∧ m = xs.length - i ∧ P i H, ⟨xs.length, Nat.zero_le _, rfl, G1, [], Ext.refl.mut hDl, sub_hid s1 hg1, hg1, upd_same, by rw [h0]; exact .nil⟩, ?_⟩
  rintro i m H ⟨il, rfl, G, ys, eg, sb, gd, hd, rp⟩
  by_cases hlt : i < xs.length
  · refine .inr ⟨it.go i G H eg.g sb hlt, P (i + 1), fun H' p => ⟨xs.length - (i + 1), by omega, hlt, rfl, p⟩, fun x H' y => ?_⟩
    obtain ⟨d, G2, hd', ex, sb2, rx⟩ := it.yld i G H x H' eg.g sb hlt y
    obtain ⟨ds2, b, hg, ht, hT, hF⟩ := hs i d hd'
    have e2 : Ext c.l G1 H1 G2 H' := eg.trans ex.all
    have at2 : At c G2 H' (wipe σ vs) (wipeD ds vs) := (at1.go e2 sb2).wipe vs
    refine hg G2 H' _ x at2 rx _ fun σ2 a2 len2 keep => ⟨wipe_same (by rw [len2, wipe_length]) fun k hk => keep k fun z => hk (hv k z), ?_⟩
    have nd : ∀ {G3 H3}, Ext c.l G2 H' G3 H3 → G3 Dl = none ∧ H3 Dl = some (.lst ys) := fun e3 => by
      have h1 : H' Dl = some (.lst ys) := ex.h Dl _ (fun _ z => nomatch z) hd
      refine ⟨e3.n Dl (by rw [h1]; simp) (ex.n Dl (by rw [hd]; simp) gd), e3.h Dl _ hne h1⟩
    refine ht G2 H' σ2 a2 _ fun G3 H3 e3 s3 => ?_
    cases b with
    | true =>
      obtain ⟨e, he, ho⟩ := hT rfl
      refine he G3 H3 σ2 (a2.go e3 s3) _ fun v G4 H4 e4 s4 r4 => ?_
      obtain ⟨n1, n2⟩ := nd (e3.trans e4)
      have g4 : Ext c.l G1 H1 G4 H4 := (e2.trans e3).trans e4
      have len : ys.length ≤ i := by rw [rp.len]; exact hl i il
      refine ⟨ys, n2, sz_lt (by omega), G4, ys ++ [v], g4.mut hDl, sub_hid s4 n1, n1, upd_same, ?_⟩
      rw [ho]
      exact (rp.mono ((ex.g.trans e3.g).trans e4.g)).app (.cons r4 .nil)
    | false =>
      obtain ⟨n1, n2⟩ := nd e3
      exact ⟨G3, ys, e2.trans e3, s3, n1, n2, by rw [hF rfl]; exact rp.mono (ex.g.trans e3.g)⟩
  · have e : i = xs.length := by omega
    subst e
    -- the list becomes known
    refine .inl ⟨it.stop G H eg.g sb, q _ (upd G Dl (.lst ys)) H ⟨eg.g.trans (Ex.new gd) |> e1.g.trans, (e1.trans eg).h, fun b hb hn => ?_, (e1.trans eg).t, (e1.trans eg).dr⟩ (fun b u e => ?_) (.lst upd_same (rp.mono (Ex.new gd)))⟩
    · have h1 : H1 b ≠ none := e1.t b hb
      rw [upd_ne (fun z => h1 (by rw [z]; exact hDl))]
      exact (e1.trans eg).n b hb hn
    · by_cases hb : b = Dl
      · subst hb; rw [upd_same] at e; rw [hd, e]
      · rw [upd_ne hb] at e; exact sb b u e
/-- .. without a test -/
theorem ee_lcM {wi : TI} {vs js : List Nat} {f : D → D} (hi : Ei c wi ds xs) (hz : xs.length ≤ 1000000) (hv : ∀ j ∈ js, j ∈ vs)
    (hs : ∀ (i : Nat) d, xs[i]? = some d → ∃ ds2, Eg c g d (wipeD ds vs) ds2 js ∧ Ee c te ds2 (f d)) :
    Ee c (tLc wi g tYes te vs) ds (.lst (xs.map f)) := by
  have h := ee_lc (tt := tYes) (te := te) (g := g) (vs := vs) (js := js) hi (fun i => (xs.take i).map f) (by simp) hz (fun i hi => by simp; omega) hv (fun i d hd => by
    obtain ⟨ds2, h1, h2⟩ := hs i d hd
    refine ⟨ds2, true, h1, et_yes, fun _ => ⟨f d, h2, ?_⟩, fun z => nomatch z⟩
    have hlt := (List.getElem?_eq_some_iff.mp hd).1
    rw [List.take_succ, List.map_append, hd]; rfl)
  rw [List.take_of_length_le (Nat.le_refl _)] at h
  exact h
end

section
variable {c : Ctx} {ds : Fm} {te : TE} {g : TG} {α : Type} {ys : List α} {gD h : α → D} {wi : TI} {vs js : List Nat} {tt : TT}
theorem ee_lcA (hi : Ei c wi ds (ys.map gD)) (h : α → D) (hz : ys.length ≤ 1000000) (hv : ∀ j ∈ js, j ∈ vs)
    (hs : ∀ (i : Nat) y, ys[i]? = some y → ∃ ds2, Eg c g (gD y) (wipeD ds vs) ds2 js ∧ Ee c te ds2 (h y)) : Ee c (tLc wi g tYes te vs) ds (.lst (ys.map h)) := by
  have q := ee_lc (tt := tYes) (te := te) (g := g) (vs := vs) (js := js) hi (fun i => (ys.take i).map h) (by simp) (by rw [List.length_map]; exact hz) (fun i hi => by simp; omega) hv (fun i d hd => by
    rw [List.getElem?_map] at hd
    cases e : ys[i]? with
    | none => rw [e] at hd; cases hd
    | some y =>
      rw [e] at hd
      have hd' : gD y = d := Option.some.inj hd
      subst hd'
      obtain ⟨ds2, h1, h2⟩ := hs i y e
      refine ⟨ds2, true, h1, et_yes, fun _ => ⟨h y, h2, ?_⟩, fun z => nomatch z⟩
      rw [List.take_succ, List.map_append, e]; rfl)
  rw [List.length_map, List.take_of_length_le (Nat.le_refl _)] at q
  exact q
/-- .. with a test -/
theorem ee_lcF (hi : Ei c wi ds (ys.map gD)) (b : α → Bool) (h : α → D) (hz : ys.length ≤ 1000000) (hv : ∀ j ∈ js, j ∈ vs)
    (hs : ∀ (i : Nat) y, ys[i]? = some y → ∃ ds2, Eg c g (gD y) (wipeD ds vs) ds2 js ∧ Et c tt ds2 (b y) ∧ (b y = true → Ee c te ds2 (h y))) : Ee c (tLc wi g tt te vs) ds (.lst ((ys.filter b).map h)) := by
  have q := ee_lc (tt := tt) (te := te) (g := g) (vs := vs) (js := js) hi (fun i => ((ys.take i).filter b).map h) (by simp) (by rw [List.length_map]; exact hz) (fun i hi => by
      rw [List.length_map]
      exact Nat.le_trans (List.length_filter_le _ _) (by simp; omega)) hv (fun i d hd => by
    rw [List.getElem?_map] at hd
    cases e : ys[i]? with
    | none => rw [e] at hd; cases hd
    | some y =>
      rw [e] at hd
      have hd' : gD y = d := Option.some.inj hd
      subst hd'
      obtain ⟨ds2, h1, h2, h3⟩ := hs i y e
      have st : (ys.take (i + 1)).filter b = (ys.take i).filter b ++ [y].filter b := by
        rw [List.take_succ, List.filter_append, e]; rfl
      refine ⟨ds2, b y, h1, h2, fun hb => ⟨h y, h3 hb, ?_⟩, fun hb => ?_⟩
      · rw [st, List.map_append, List.filter_cons, if_pos hb]; rfl
      · rw [st, List.map_append, List.filter_cons, if_neg (by rw [hb]; decide)]; simp)
  rw [List.length_map, List.take_of_length_le (Nat.le_refl _)] at q
  exact q
end
/-! ### defs: what they take, what they give -/
inductive Res where
  | ok (d : D) | err (C : Value) (o : Option Int)
def spA {α : Type} (K : PySem.W.Frag) (args : α → List D) (pre : α → Prop) (res : α → Res) : Sp := fun vs H Q E => ∃ G a, Ex G H ∧ Reps K G vs (args a) ∧ pre a ∧
  (∀ d, res a = .ok d → Then K G H d Q) ∧ ∀ C o, res a = .err C o → ∀ G1 H1, Ext none G H G1 H1 → Ex G1 H1 → Flies E C o H1
theorem spA_len {α : Type} {K : PySem.W.Frag} {args : α → List D} {pre : α → Prop} {res : α → Res} {k : Nat} (hk : ∀ a, (args a).length = k) : ∀ vs H Q E, spA K args pre res vs H Q E → vs.length = k := fun vs H Q E h => by
  obtain ⟨G, a, _, r, _⟩ := h
  rw [r.len, hk]
section
variable {α : Type} {args : α → List D} {pre : α → Prop} {res : α → Res} {c : Ctx} {ds : Fm} {ta : TA} {te : TE} {d : D} {a : α} {n : DE} {K : PySem.W.Frag}
theorem ee_call {E : XK} {xs : List D} (h : Ea c ta ds xs) (hx : xs = args a) (hp : pre a) (hr : res a = .ok d) : Ee c (tCall (spA c.K args pre res) [] E ta) ds d := fun G H σ at' Q q =>
  h G H σ at' _ fun vs G1 H1 e1 s1 r1 => by
    rw [List.append_nil]
    subst hx
    exact ⟨G1, a, s1, r1, hp, fun d' hd => by rw [hr] at hd; cases hd; exact fun u G2 H2 e2 s2 r2 => q u G2 H2 (e1.trans e2.all) s2 r2, fun C o z => by rw [hr] at z; cases z⟩
/-- a call that may raise, as a statement -/
theorem st_call {xs : List D} (h : Ea c ta ds xs) (hx : xs = args a) (hp : pre a) (h1 : ∀ d, res a = .ok d → n.nx ds) (h2 : ∀ C o, res a = .err C o → n.er C o) : St c (tDrop (tCall (spA c.K args pre res) [] c.X ta)) n ds := fun G H σ at' E l =>
  h G H σ at' _ fun vs G1 H1 e1 s1 r1 => by
    rw [List.append_nil]
    subst hx
    exact ⟨G1, a, s1, r1, hp, fun d' hd => fun u G2 H2 e2 s2 r2 => l.nx G2 H2 σ ds (e1.trans e2.all).s (at'.go (e1.trans e2.all) s2) (h1 d' hd), fun C o z G2 H2 e2 s2 => l.er G2 H2 C o (e1.trans e2.all).s s2 (h2 C o z)⟩
/-- .. returned -/
theorem st_retcall {xs : List D} (h : Ea c ta ds xs) (hx : xs = args a) (hp : pre a) (h1 : ∀ d, res a = .ok d → n.rt d) (h2 : ∀ C o, res a = .err C o → n.er C o) : St c (tRet (tCall (spA c.K args pre res) [] c.X ta)) n ds := fun G H σ at' E l =>
  h G H σ at' _ fun vs G1 H1 e1 s1 r1 => by
    rw [List.append_nil]
    subst hx
    exact ⟨G1, a, s1, r1, hp, fun d' hd => fun u G2 H2 e2 s2 r2 => l.rt G2 H2 u d' (e1.trans e2.all).s s2 r2 (h1 d' hd), fun C o z G2 H2 e2 s2 => l.er G2 H2 C o (e1.trans e2.all).s s2 (h2 C o z)⟩
/-- f(x) of a def or method by its frame: the whole body by data -/
theorem slots {G H : Hp} {vs : List V} {xs : List D} {N : List Str} (s : Ex G H) (r : Reps c.K G vs xs) : Fr c G H (L2.start N vs) (xs.map Sl.v ++ List.replicate (N.length - xs.length) Sl.no) := by
  have hl := r.len
  refine ⟨by unfold L2.start; simp [hl], fun i s e => ?_, fun i j b ys zs _ e1 _ _ => ?_⟩
  · rw [List.getElem?_append] at e
    split at e
    · rename_i hi
      simp at hi
      rw [List.getElem?_map] at e
      cases h : xs[i]? with
      | none => rw [h] at e; cases e
      | some d =>
        rw [h] at e
        have e' : Sl.v d = s := Option.some.inj e
        subst e'
        obtain ⟨v, h1, h2⟩ := r.getD h
        refine ⟨v, ?_, h2⟩
        unfold L2.start
        rw [List.getElem?_append_left (by simp; omega), List.getElem?_map, h1]; rfl
    · rw [List.getElem?_replicate] at e
      split at e
      · cases e; trivial
      · cases e
  · rw [List.getElem?_append] at e1
    split at e1
    · rw [List.getElem?_map] at e1
      cases h : xs[i]? with
      | none => rw [h] at e1; cases e1
      | some d => rw [h] at e1; cases e1
    · rw [List.getElem?_replicate] at e1
      split at e1
      · cases e1
      · cases e1
theorem go_fn {N : List Str} {t : TS} {vs : List V} {H : Hp} {Q : VK} {E : XK} (h : spA K args pre res vs H Q E)
    (k : ∀ (a : α) (W : Addr → Prop), pre a → St ⟨K, none, E, W, fun _ => False⟩ t { nx := fun _ => res a = .ok .non, rt := fun d => res a = .ok d, er := fun C o => res a = .err C o } ((args a).map Sl.v ++ List.replicate (N.length - (args a).length) Sl.no)) :
    t { nx := fun _ H' => Q .non H', rt := Q } (L2.start N vs) H := by
  obtain ⟨G, a, s, r, p, h1, h2⟩ := h
  have up : ∀ {G' H'}, Exs ⟨K, none, E, fun b => H b ≠ none, fun _ => False⟩ G H G' H' → Ext none G H G' H' := fun e =>
    ⟨e.g, fun b o _ q => e.h b o (by show H b ≠ none; rw [q]; simp) (fun z => z) (fun _ z => nomatch z) q, fun b q z => e.n b q q z, e.t, fun b _ z => (nomatch z)⟩
  refine k a (fun b => H b ≠ none) p G H _ ⟨s, slots s r, fun b _ z => (nomatch z), fun b z => z⟩ _ ⟨fun G' H' σ ds x a' z => h1 _ z .non G' H' (up x) a'.sub .non, fun G' H' v d x s' r' z => h1 d z v G' H' (up x) s' r', fun _ _ _ _ _ _ z => z.elim, fun _ _ _ _ _ _ z => z.elim, fun G' H' C o x s' z => h2 C o z G' H' (up x) s', fun _ _ _ _ _ _ _ _ _ z => z.elim, fun _ _ _ _ _ _ _ z => z.elim⟩
/-- fields of an instance -/
theorem lookup_reps {G : Hp} {f : Str} : ∀ {fs : List (Str × V)} {xs : List D}, Reps K G (fs.map (·.2)) xs → ((fs.map (·.1)).zip xs).lookup f = some d → ∃ v, fs.lookup f = some v ∧ Rep K G v d
  | [], xs, r, h => by simp [List.lookup] at h
  | (g, v) :: fs, xs, r, h => by
    cases r with
    | cons a b =>
      simp only [List.map_cons, List.zip_cons_cons, List.lookup] at h ⊢
      split at h
      · rename_i e; cases h; exact ⟨v, rfl, a⟩
      · rename_i e; exact lookup_reps b h
theorem ee_fld {C : Addr} {ns : List Str} {xs : List D} {f : Str} (h : Ee c te ds (.obj C ns xs)) (hc : Cls c.K C) (hn : NoAttr c.K C f) (hl : (ns.zip xs).lookup f = some d) : Ee c (tFld c.K te f) ds d := fun G H σ a Q q =>
  h G H σ a _ fun v G1 H1 e1 s1 r1 => by
    cases r1 with
    | obj e en r =>
      subst en
      obtain ⟨v, h1, h2⟩ := lookup_reps r hl
      exact ⟨_, C, _, _, v, rfl, s1 _ _ e, hc, hn, h1, q v G1 H1 e1 s1 h2⟩
end
end Dl

/-! Dv: operators on plain data; one rule of each operator for all its kinds. -/
namespace Dl
open PySem L2 Evl PySem.Spec PyProof.Rows
section
variable {X : Cx}
def CMulS (x : Str) (n : Int) : Prop := -(2 ^ 63) ≤ n ∧ n < 2 ^ 63 ∧ (x.length : Int) * n ≤ 1000000
theorem op_mulS : OpR X (binaryOp .Mult) (fun x y H Q => ∃ i n, x = .str i ∧ y = .int n ∧ MulOk i n ∧ Q (.str (Txt.mul i n)) H) := by
  intro pins s σ H x y v u Q I r1 r2 h
  obtain ⟨i, n, rfl, rfl, hc, q⟩ := h
  obtain ⟨t, rfl⟩ := r1
  obtain ⟨t', rfl⟩ := r2
  exact SB.mul hc fun t' k => ⟨.str _, H, I.tok _, ⟨_, rfl⟩, q⟩
def rAddG (K : PySem.W.Frag) : R2 := fun x y H Q => (rI0 fun i j => .int (i + j)) x y H Q ∨ (fun x y H Q => ∃ i j, x = .str i ∧ y = .str j ∧ i.length + j.length ≤ sizeLine ∧ Q (.str (i ++ j)) H : R2) x y H Q ∨ rCat x y H Q ∨ rCatA K x y H Q
theorem op_addG : OpR X (binaryOp .Add) (rAddG X.K) := op_add.or (op_add_str.or (op_cat.or op_catA))
def rMulG (K : PySem.W.Frag) : R2 := fun x y H Q => (rI CMulW fun i j => .int (i * j)) x y H Q ∨ (rI CMul fun i j => .int (i * j)) x y H Q ∨ (fun x y H Q => ∃ i n, x = .str i ∧ y = .int n ∧ MulOk i n ∧ Q (.str (Txt.mul i n)) H : R2) x y H Q ∨ rRep x y H Q ∨ rRepT K x y H Q
theorem op_mulG : OpR X (binaryOp .Mult) (rMulG X.K) := op_mulW.or (op_mul.or (op_mulS.or (op_rep.or op_repT)))
def rSubG : R2 := rI0 fun i j => .int (i - j)
theorem op_subG : OpR X (binaryOp .Sub) rSubG := op_sub
def rDivG : R2 := rI CDivW fun i j => .int (i / j)
theorem op_divG : OpR X (binaryOp .FloorDiv) rDivG := op_fdivW
def rModG : R2 := rI (fun _ j => 0 < j) fun i j => .int (i % j)
theorem op_modG : OpR X (binaryOp .Mod) rModG := op_mod
def rPowG : R2 := rI CPow fun i j => .int (i ^ j.toNat)
theorem op_powG : OpR X (binaryOp .Pow) rPowG := op_pow
def rLtG : R2 := fun x y H Q => (rI0 fun i j => .bl (decide (i < j))) x y H Q ∨ (fun x y H Q => ∃ i j, x = .str i ∧ y = .str j ∧ Q (.bl (decide (i.cps.toList < j.cps.toList))) H : R2) x y H Q
theorem op_ltG : OpR X (compareOp .Lt) rLtG := op_lt.or op_lt_str
def rLeG : R2 := rI0 fun i j => .bl (decide (i ≤ j))
theorem op_leG : OpR X (compareOp .LtE) rLeG := op_le
def rGtG : R2 := rI0 fun i j => .bl (decide (j < i))
theorem op_gtG : OpR X (compareOp .Gt) rGtG := op_gt
def rGeG : R2 := rI0 fun i j => .bl (decide (j ≤ i))
theorem op_geG : OpR X (compareOp .GtE) rGeG := op_ge
def rEqG (K : PySem.W.Frag) : R2 := fun x y H Q => rEq x y H Q ∨ rEqD K x y H Q
theorem op_eqG (hu : X.A.units + 64 < cLine) : OpR X (compareOp .Eq) (Dl.rEqG X.K) := op_eq.or (op_eqD hu)
def rNeG (K : PySem.W.Frag) : R2 := fun x y H Q => rNe x y H Q ∨ rNeD K x y H Q
theorem op_neG (hu : X.A.units + 64 < cLine) : OpR X (compareOp .NotEq) (rNeG X.K) := op_ne.or (op_neD hu)
def rIsG : R2 := fun x y H Q => y = .non ∧ Q (.bl (decide (x = .non))) H
theorem op_isG : OpR X (compareOp .Is) rIsG := op_isN
def rNisG : R2 := fun x y H Q => y = .non ∧ Q (.bl (!decide (x = .non))) H
theorem op_nisG : OpR X (compareOp .IsNot) rNisG := op_notN
def rInG (K : PySem.W.Frag) : R2 := rIn K false
theorem op_inG : OpR X (compareOp .In) (rInG X.K) := op_in_seq
def rNinG (K : PySem.W.Frag) : R2 := rIn K true
theorem op_ninG : OpR X (compareOp .NotIn) (rNinG X.K) := op_notIn_seq
def rIxG (K : PySem.W.Frag) : R2 := rIx K
theorem ix_G : IxR X (rIxG X.K) := ix_seq
def rLenG (K : PySem.W.Frag) : List V → Hp → VK → Prop := fun xs H Q => ∃ x n, xs = [x] ∧ LenV K x H n ∧ Q (.int (n : Nat)) H
theorem call_lenG : CallR X (.builtin "len") (rLenG X.K) := call_len
def rSlG (K : PySem.W.Frag) : V → Option Int → Option Int → Hp → VK → Prop := fun x lo hi H Q => rSlL K x lo hi H Q ∨ rSlS x lo hi H Q ∨ rSlA K x lo hi H Q
theorem sl_G : SlR X (rSlG X.K) := sl_list.or (sl_str.or sl_tupA)
def rIntG : List V → Hp → VK → Prop := fun xs H Q => (∃ i, xs = [.int i] ∧ Q (.int i) H) ∨ ∃ k, xs = [.bl k] ∧ Q (.int (if k then 1 else 0)) H
theorem call_intG : CallR X (.type "int") rIntG := call_int1
/-- truth, as a test -/
def tTruG (K : PySem.W.Frag) (ta : TE) : TT := fun σ H Q => ta σ H fun x H' => ∃ k, TruV K x H' k ∧ Q k H'
theorem pt_truG {a : Expr} {ta : TE} (ha : PE X a ta) (he : ∀ whole, isTrue a X.env whole = (do let v ← whole; standAt a.pos; holding [v] (truthy v)) := by intro _; rfl) : PT X a (tTruG X.K ta) := pt_truth ha he
end

section
variable {K : PySem.W.Frag} {c : Ctx} {ds : Fm}
theorem rb_addI {i j : Int} : Rb K (rAddG K) (.int i) (.int j) (.int (i + j)) := fun G H v w s r1 r2 Q t => by
  cases r1; cases r2
  exact .inl ⟨i, j, rfl, rfl, t.same s (.int _)⟩
theorem rb_addS {x y : Str} (h : x.length + y.length ≤ 1000000) : Rb K (rAddG K) (.str x) (.str y) (.str (x ++ y)) := fun G H v w s r1 r2 Q t => by
  cases r1; cases r2
  exact .inr (.inl ⟨x, y, rfl, rfl, sz_of h, t.same s (.str _)⟩)
theorem rb_addL {x y : List D} (h : x.length + y.length ≤ 1000000) : Rb K (rAddG K) (.lst x) (.lst y) (.lst (x ++ y)) := fun G H v w s r1 r2 Q t => by
  cases r1 with
  | lst e1 q1 => cases r2 with
    | lst e2 q2 => exact .inr (.inr (.inl ⟨_, _, _, _, rfl, rfl, s _ _ e1, s _ _ e2, by rw [q1.len, q2.len]; exact sz_of h, t.lst s (q1.app q2)⟩))
theorem rb_subI {i j : Int} : Rb K rSubG (.int i) (.int j) (.int (i - j)) := fun G H v w s r1 r2 Q t => by
  cases r1; cases r2
  exact ⟨i, j, rfl, rfl, t.same s (.int _)⟩
/-- products: one factor small, or both of a bounded size -/
theorem rb_mulL {i j : Int} (h : -(2 ^ 64) < i ∧ i < 2 ^ 64) : Rb K (rMulG K) (.int i) (.int j) (.int (i * j)) := fun G H v w s r1 r2 Q t => by
  cases r1; cases r2
  exact .inr (.inl ⟨i, j, rfl, rfl, .inl h, t.same s (.int _)⟩)
theorem rb_mulR {i j : Int} (h : -(2 ^ 64) < j ∧ j < 2 ^ 64) : Rb K (rMulG K) (.int i) (.int j) (.int (i * j)) := fun G H v w s r1 r2 Q t => by
  cases r1; cases r2
  exact .inr (.inl ⟨i, j, rfl, rfl, .inr h, t.same s (.int _)⟩)
theorem rb_mulW {i j : Int} (h : CMulW i j) : Rb K (rMulG K) (.int i) (.int j) (.int (i * j)) := fun G H v w s r1 r2 Q t => by
  cases r1; cases r2
  exact .inl ⟨i, j, rfl, rfl, h, t.same s (.int _)⟩
theorem rb_mulS {x : Str} {j : Int} (h : MulOk x j) : Rb K (rMulG K) (.str x) (.int j) (.str (Txt.mul x j)) := fun G H v w s r1 r2 Q t => by
  cases r1; cases r2
  exact .inr (.inr (.inl ⟨x, j, rfl, rfl, h, t.same s (.str _)⟩))
theorem rb_div {i j : Int} (h : CDivW i j) : Rb K rDivG (.int i) (.int j) (.int (i / j)) := fun G H v w s r1 r2 Q t => by
  cases r1; cases r2
  exact ⟨i, j, rfl, rfl, h, t.same s (.int _)⟩
theorem rb_mod {i j : Int} (h : 0 < j) : Rb K rModG (.int i) (.int j) (.int (i % j)) := fun G H v w s r1 r2 Q t => by
  cases r1; cases r2
  exact ⟨i, j, rfl, rfl, h, t.same s (.int _)⟩
theorem rb_pow {i j : Int} (h : CPow i j) : Rb K rPowG (.int i) (.int j) (.int (i ^ j.toNat)) := fun G H v w s r1 r2 Q t => by
  cases r1; cases r2
  exact ⟨i, j, rfl, rfl, h, t.same s (.int _)⟩
theorem rb_ltI {i j : Int} : Rb K rLtG (.int i) (.int j) (.bl (decide (i < j))) := fun G H v w s r1 r2 Q t => by
  cases r1; cases r2
  exact .inl ⟨i, j, rfl, rfl, t.same s (.bl _)⟩
theorem rb_ltS {i j : Str} : Rb K rLtG (.str i) (.str j) (.bl (decide (i.cps.toList < j.cps.toList))) := fun G H v w s r1 r2 Q t => by
  cases r1; cases r2
  exact .inr ⟨i, j, rfl, rfl, t.same s (.bl _)⟩
theorem rb_le {i j : Int} : Rb K rLeG (.int i) (.int j) (.bl (decide (i ≤ j))) := fun G H v w s r1 r2 Q t => by
  cases r1; cases r2
  exact ⟨i, j, rfl, rfl, t.same s (.bl _)⟩
theorem rb_gt {i j : Int} : Rb K rGtG (.int i) (.int j) (.bl (decide (j < i))) := fun G H v w s r1 r2 Q t => by
  cases r1; cases r2
  exact ⟨i, j, rfl, rfl, t.same s (.bl _)⟩
theorem rb_ge {i j : Int} : Rb K rGeG (.int i) (.int j) (.bl (decide (j ≤ i))) := fun G H v w s r1 r2 Q t => by
  cases r1; cases r2
  exact ⟨i, j, rfl, rfl, t.same s (.bl _)⟩
theorem rb_eqI {i j : Int} : Rb K (Dl.rEqG K) (.int i) (.int j) (.bl (decide (i = j))) := fun G H v w s r1 r2 Q t => by
  cases r1; cases r2
  refine .inl ⟨rfl, ?_⟩
  have e : decide (V.int i = V.int j) = decide (i = j) := by simp
  rw [e]
  exact t.same s (.bl _)
theorem rb_neI {i j : Int} : Rb K (rNeG K) (.int i) (.int j) (.bl (!decide (i = j))) := fun G H v w s r1 r2 Q t => by
  cases r1; cases r2
  refine .inl ⟨rfl, ?_⟩
  have e : decide (V.int i = V.int j) = decide (i = j) := by simp
  rw [e]
  exact t.same s (.bl _)
theorem rb_eqS {i j : Str} : Rb K (Dl.rEqG K) (.str i) (.str j) (.bl (decide (i = j))) := fun G H v w s r1 r2 Q t => by
  cases r1; cases r2
  refine .inl ⟨rfl, ?_⟩
  have e : decide (V.str i = V.str j) = decide (i = j) := by simp
  rw [e]
  exact t.same s (.bl _)
theorem rb_neS {i j : Str} : Rb K (rNeG K) (.str i) (.str j) (.bl (!decide (i = j))) := fun G H v w s r1 r2 Q t => by
  cases r1; cases r2
  refine .inl ⟨rfl, ?_⟩
  have e : decide (V.str i = V.str j) = decide (i = j) := by simp
  rw [e]
  exact t.same s (.bl _)
def isNonD : D → Bool
  | .non => true
  | _ => false
theorem non_of {G : Hp} {v : V} {d : D} (r : Rep K G v d) : decide (v = .non) = isNonD d := by cases r <;> simp [isNonD]
theorem rb_is {x : D} : Rb K rIsG x .non (.bl (isNonD x)) := fun G H v w s r1 r2 Q t => by
  cases r2
  exact ⟨rfl, by rw [non_of r1]; exact t.same s (.bl _)⟩
theorem rb_nis {x : D} : Rb K rNisG x .non (.bl (!isNonD x)) := fun G H v w s r1 r2 Q t => by
  cases r2
  exact ⟨rfl, by rw [non_of r1]; exact t.same s (.bl _)⟩
/-- places -/
theorem atI_reps {G : Hp} {vs : List V} {xs : List D} {i : Int} {d : D} (r : Reps K G vs xs) (h : atI xs i = some d) : ∃ v, atI vs i = some v ∧ Rep K G v d := by
  unfold atI at h ⊢
  rw [r.len]
  cases e : ixN xs.length i with
  | none => rw [e] at h; cases h
  | some j =>
    rw [e] at h
    exact r.getD h
theorem rb_ixL {xs : List D} {i : Int} {d : D} (h : atI xs i = some d) : Rb K (rIxG K) (.lst xs) (.int i) d := fun G H v w s r1 r2 Q t => by
  cases r2
  cases r1 with
  | lst e q =>
    obtain ⟨v, h1, h2⟩ := atI_reps q h
    exact .inl ⟨_, _, i, v, rfl, rfl, SqL.of (s _ _ e), h1, t.same s h2⟩
theorem rb_ixT {xs : List D} {i : Int} {d : D} (h : atI xs i = some d) : Rb K (rIxG K) (.tup xs) (.int i) d := fun G H v w s r1 r2 Q t => by
  cases r2
  cases r1 with
  | tup e q =>
    obtain ⟨v, h1, h2⟩ := atI_reps q h
    exact .inr (.inl ⟨_, _, i, v, rfl, rfl, ex_t s e, h1, t.same s h2⟩)
theorem rb_ixS {x : Str} {i : Int} {k : Nat} (hz : x.length ≤ 1000000) (h : atI x.cps.toList i = some k) : Rb K (rIxG K) (.str x) (.int i) (.str ⟨#[k]⟩) := fun G H v w s r1 r2 Q t => by
  cases r2; cases r1
  exact .inr (.inr ⟨x, i, k, rfl, rfl, sz_of hz, h, t.same s (.str _)⟩)
theorem rc_lenL {xs : List D} : Rc K (rLenG K) [.lst xs] (.int (xs.length : Nat)) := fun G H vs s r Q t => by
  cases r with
  | cons r r' =>
    cases r'
    cases r with
    | lst e q => exact ⟨_, xs.length, rfl, .inl ⟨_, SqL.of (s _ _ e), by rw [q.len]⟩, t.same s (.int _)⟩
theorem rc_lenT {xs : List D} : Rc K (rLenG K) [.tup xs] (.int (xs.length : Nat)) := fun G H vs s r Q t => by
  cases r with
  | cons r r' =>
    cases r'
    cases r with
    | tup e q => exact ⟨_, xs.length, rfl, .inr ⟨_, ex_t s e, by rw [q.len]⟩, t.same s (.int _)⟩
theorem rc_lenS {x : Str} (h : x.length ≤ 1000000) : Rc K (rLenG K) [.str x] (.int (x.length : Nat)) := fun G H vs s r Q t => by
  cases r with
  | cons r r' =>
    cases r'
    cases r
    exact ⟨_, x.length, rfl, ⟨sz_of h, rfl⟩, t.same s (.int _)⟩
theorem rc_int {i : Int} : Rc K rIntG [.int i] (.int i) := fun G H vs s r Q t => by
  cases r with
  | cons r r' =>
    cases r'; cases r
    exact .inl ⟨i, rfl, t.same s (.int _)⟩
theorem rc_intB {k : Bool} : Rc K rIntG [.bl k] (.int (if k then 1 else 0)) := fun G H vs s r Q t => by
  cases r with
  | cons r r' =>
    cases r'; cases r
    exact .inr ⟨k, rfl, t.same s (.int _)⟩
theorem rc_sum {ns : List Int} : Rc K (rSum K) [.lst (ns.map D.int)] (.int ns.sum) := fun G H vs s r Q t => by
  cases r with
  | cons r r' =>
    cases r'
    cases r with
    | lst e q => exact ⟨_, ns, rfl, by rw [← q.ints]; exact SqL.of (s _ _ e), t.same s (.int _)⟩
theorem rc_all {ns : List Bool} : Rc K (rAll K) [.lst (ns.map D.bl)] (.bl (ns.all id)) := fun G H vs s r Q t => by
  cases r with
  | cons r r' =>
    cases r'
    cases r with
    | lst e q => exact ⟨_, ns, rfl, by rw [← q.bls]; exact SqL.of (s _ _ e), t.same s (.bl _)⟩
theorem rc_any {ns : List Bool} : Rc K (rAny K) [.lst (ns.map D.bl)] (.bl (ns.any id)) := fun G H vs s r Q t => by
  cases r with
  | cons r r' =>
    cases r'
    cases r with
    | lst e q => exact ⟨_, ns, rfl, by rw [← q.bls]; exact SqL.of (s _ _ e), t.same s (.bl _)⟩
theorem Reps.cut {G : Hp} {vs : List V} {xs : List D} (r : Reps K G vs xs) (lo hi : Option Int) : Reps K G (cutV vs lo hi) ((xs.drop (HT.sIx xs.length 0 lo)).take (HT.sIx xs.length xs.length hi - HT.sIx xs.length 0 lo)) := by
  unfold cutV
  rw [r.len]
  exact (r.drop _).take _
theorem rs_lst {xs : List D} {lo hi : Option Int} : Rs K (rSlG K) (.lst xs) lo hi (.lst ((xs.drop (HT.sIx xs.length 0 lo)).take (HT.sIx xs.length xs.length hi - HT.sIx xs.length 0 lo))) := fun G H v s r Q t => by
  cases r with
  | lst e q => exact .inl ⟨_, _, rfl, SqL.of (s _ _ e), t.lst s (q.cut lo hi)⟩
theorem rs_str {x : Str} {lo hi : Option Int} (h : x.length ≤ 1000000) : Rs K (rSlG K) (.str x) lo hi (.str (cutS x lo hi)) := fun G H v s r Q t => by
  cases r
  exact .inr (.inl ⟨x, rfl, sz_of h, t.same s (.str _)⟩)
theorem whole_cut {xs : List D} {lo hi : Option Int} (h : HT.sIx xs.length 0 lo = 0 ∧ HT.sIx xs.length xs.length hi = xs.length) : (xs.drop (HT.sIx xs.length 0 lo)).take (HT.sIx xs.length xs.length hi - HT.sIx xs.length 0 lo) = xs := by
  rw [h.1, h.2, List.drop_zero, Nat.sub_zero, List.take_of_length_le (Nat.le_refl _)]
theorem rs_tup {xs : List D} {lo hi : Option Int} : Rs K (rSlG K) (.tup xs) lo hi (.tup ((xs.drop (HT.sIx xs.length 0 lo)).take (HT.sIx xs.length xs.length hi - HT.sIx xs.length 0 lo))) := fun G H v s r Q t => by
  cases r with
  | @tup a vs _ e q =>
    refine .inr (.inr ⟨_, vs, rfl, ex_t s e, fun h => ?_, fun h => t.tup s (q.cut lo hi)⟩)
    rw [q.len] at h
    rw [whole_cut h] at t
    exact t.same s (.tup e q)
theorem rb_addT {x y : List D} (h : x.length + y.length ≤ 1000000) : Rb K (rAddG K) (.tup x) (.tup y) (.tup (x ++ y)) := fun G H v w s r1 r2 Q t => by
  cases r1 with
  | @tup a vs _ e1 q1 => cases r2 with
    | @tup b ws _ e2 q2 =>
      refine .inr (.inr (.inr ⟨_, _, vs, ws, rfl, rfl, ex_t s e1, ex_t s e2, by rw [q1.len, q2.len]; exact sz_of h, fun e => ?_, fun _ e => ?_, fun _ _ => t.tup s (q1.app q2)⟩))
      · subst e; cases q1; exact t.same s (.tup e2 q2)
      · subst e; cases q2; rw [List.append_nil] at t; exact t.same s (.tup e1 q1)
theorem et_truG {te : TE} {x : D} (h : Ee c te ds x) (hx : truOk x) : Et c (tTruG c.K te) ds (truD x) := et_tru h hx
end
end Dl

/-! Dx: defs by name, their calls; own errors without arguments. -/
namespace Dl
open PySem L2 Evl PySem.Spec PyProof.Rows
/-- a def of the text's top -/
structure Has (K : PySem.W.Frag) (mg : Str → Option Value) (x : Str) (st : Stmt) (ps : List Str) : Prop where
  ex : ∃ f fd, Fun K x x st f fd ∧ mg x = some (.ref f) ∧ Binds K fd ps []
/-- a method of the class at C -/
structure HasM (K : PySem.W.Frag) (C : Addr) (x qual : Str) (st : Stmt) (ps : List Str) : Prop where
  ex : ∃ f fd, Fun K x qual st f fd ∧ Meth K C x f ∧ Binds K fd ps []
/-- .. that keeps its promise -/
structure Ok (P : Program) (w : World) (K : PySem.W.Frag) (mg : Str → Option Value) (base : Heap) (CX : CXT) (k : Nat) (x : Str) (ps : List Str) (sp : Sp) : Prop where
  ex : ∃ f fd, FnOk P w K mg base CX k f fd ps sp ∧ mg x = some (.ref f) ∧ PySem.W.keepIn K (.ref f) = true ∧ Binds K fd ps []
structure OkM (P : Program) (w : World) (K : PySem.W.Frag) (mg : Str → Option Value) (base : Heap) (CX : CXT) (k : Nat) (C : Addr) (x : Str) (ps : List Str) (sp : Sp) : Prop where
  ex : ∃ f fd, FnOk P w K mg base CX k f fd ps sp ∧ Meth K C x f ∧ Binds K fd ps []
section
variable {P : Program} {w : World} {K : PySem.W.Frag} {mg : Str → Option Value} {base : Heap} {x qual : Str} {st : Stmt} {ps N : List Str} {k : Nat} {C : Addr}
theorem Has.ok {sp : Sp} (h : Has K mg x st ps) (S : FnScope N ps (defScope st)) (len : ∀ vs H Q E, sp vs H Q E → vs.length = ps.length)
    (hbody : ∀ (f : Addr) (cdv : Value) (A : Around) (outer : List Env) (s : Shared) (H : Hp) (vs : List V) (Q : VK) (E : XK), Room k (A.deeper (envOfC x (defScope st) s.heap.objs.size f cdv)) → sp vs H Q E →
      ∃ t, PSs (cxOf CX0 P w K mg base N x (defScope st) f cdv A outer s H E).nox (defBody st) t ∧ t { nx := fun _ H' => Q .non H', rt := Q } (L2.start N vs) H) : Ok P w K mg base CX0 (k + 1) x ps sp := by
  obtain ⟨f, fd, F, m, b⟩ := h.ex
  exact ⟨f, fd, F.ok S len (hbody f), m, F.kp, b⟩
theorem Has.okX {sp : Sp} (h : Has K mg x st ps) (S : FnScope N ps (defScope st)) (len : ∀ vs H Q E, sp vs H Q E → vs.length = ps.length)
    (hbody : ∀ (f : Addr) (cdv : Value) (A : Around) (outer : List Env) (s : Shared) (H : Hp) (vs : List V) (Q : VK) (E : XK), Room k (A.deeper (envOfC x (defScope st) s.heap.objs.size f cdv)) → sp vs H Q E →
      ∃ t, PSs (cxOf (L2.CX P w) P w K mg base N x (defScope st) f cdv A outer s H E) (defBody st) t ∧ t { nx := fun _ H' => Q .non H', rt := Q } (L2.start N vs) H) : Ok P w K mg base (L2.CX P w) (k + 1) x ps sp := by
  obtain ⟨f, fd, F, m, b⟩ := h.ex
  exact ⟨f, fd, F.okX S len (hbody f), m, F.kp, b⟩
theorem HasM.ok {sp : Sp} (h : HasM K C x qual st ps) (S : FnScope N ps (defScope st)) (len : ∀ vs H Q E, sp vs H Q E → vs.length = ps.length)
    (hbody : ∀ (f : Addr) (cdv : Value) (A : Around) (outer : List Env) (s : Shared) (H : Hp) (vs : List V) (Q : VK) (E : XK), Room k (A.deeper (envOfC qual (defScope st) s.heap.objs.size f cdv)) → sp vs H Q E →
      ∃ t, PSs (cxOf CX0 P w K mg base N qual (defScope st) f cdv A outer s H E).nox (defBody st) t ∧ t { nx := fun _ H' => Q .non H', rt := Q } (L2.start N vs) H) : OkM P w K mg base CX0 (k + 1) C x ps sp := by
  obtain ⟨f, fd, F, m, b⟩ := h.ex
  exact ⟨f, fd, F.ok S len (hbody f), m, b⟩
theorem HasM.okX {sp : Sp} (h : HasM K C x qual st ps) (S : FnScope N ps (defScope st)) (len : ∀ vs H Q E, sp vs H Q E → vs.length = ps.length)
    (hbody : ∀ (f : Addr) (cdv : Value) (A : Around) (outer : List Env) (s : Shared) (H : Hp) (vs : List V) (Q : VK) (E : XK), Room k (A.deeper (envOfC qual (defScope st) s.heap.objs.size f cdv)) → sp vs H Q E →
      ∃ t, PSs (cxOf (L2.CX P w) P w K mg base N qual (defScope st) f cdv A outer s H E) (defBody st) t ∧ t { nx := fun _ H' => Q .non H', rt := Q } (L2.start N vs) H) : OkM P w K mg base (L2.CX P w) (k + 1) C x ps sp := by
  obtain ⟨f, fd, F, m, b⟩ := h.ex
  exact ⟨f, fd, F.okX S len (hbody f), m, b⟩
end
section
variable {X : Cx} {CX : CXT} {k : Nat} {C : Addr} {x m : Str} {ps : List Str} {sp : Sp} {E : XK} {p pos apos : Pos} {e o : Expr} {es : List Expr} {t : TA} {ta : TE}
theorem pe_callH (h : Ok X.prog X.w X.K X.mg X.base CX k x ps sp) (hr : Room k X.A) (hg : Gl X x) (hx : Passes CX X E) (ha : PA X (e :: es) t) (hdb : (x == ("__debug__" : Str)) = false := by decide)
    (he : starEach (e :: es) X.env = (false, eval e X.env) :: starEach es X.env := by rfl) (hpl : (backTo pos (starEach es X.env)).any (·.1) = false := by rfl) : PE X (.Call (.Name x p) (e :: es) [] pos) (tCall sp [] E t) := by
  obtain ⟨f, fd, G, hm, kp, b⟩ := h.ex
  exact pe_call G hr hg hm kp b .nil hx ha hdb he hpl
theorem pe_callMH {pl : Sem Bool} (ho : PE X o ta) (c : Cls X.K C) (h : OkM X.prog X.w X.K X.mg X.base CX k C m ps sp) (hr : Room k X.A) (hx : Passes CX X E) (ha : PA X (e :: es) t)
    (hst : starEach (e :: es) X.env = (false, eval e X.env) :: starEach es X.env := by rfl) (hpl : (backTo pos (starEach es X.env)).any (·.1) = false := by rfl)
    (ht : eval (.Call (.Attribute o m apos) (e :: es) [] pos) X.env = (do
      let ov ← eval o X.env
      standAt apos.atName
      let (f, first) ← holding [ov] (getMethod ov m pl)
      callWith pos f first (backTo pos (starEach (e :: es) X.env)) (backToKw pos (keywordEach [] X.env))) := by rfl) : PE X (.Call (.Attribute o m apos) (e :: es) [] pos) (tMeth C m sp [] E ta t) := by
  obtain ⟨f, fd, G, hm, b⟩ := h.ex
  exact pe_meth ho c hm G hr b .nil hx ha hst hpl ht
/-- X(), X an own exception class without own __init__ -/
theorem pmk_own0 {C : Addr} {bmB : List Value} {B newId initId : String} {x : Str} {p pos : Pos} (F : ExcBaseFacts B newId initId bmB) (q : PySem.W.excIn X.K C bmB newId = true) (gC : X.mg x = some (.ref C))
    (kC : PySem.W.keepIn X.K (.ref C) = true) (r : Raises X (.ref C)) (hg : Gl X x) (hdb : (x == ("__debug__" : Str)) = false := by decide) :
    PMk X (.Call (.Name x p) [] [] pos) (fun _ H Q => Q (.ref C) none H) := by
  intro pins s σ H Q I h
  refine wpAny_Call_Name_kw (ld_glob I hg gC ?_ hdb)
  refine PySem.W.callWith_K0 I.kIn kC ?_
  show wpAny _ _ (call (.ref C) []) _ _ _
  obtain ⟨bm, N, nm, qn, bs, hdct, sn, sub, ab, col, dd, k0, k1, k2, k3, k5, mN, hC, hN, hni, T⟩ := exc_obj I.kIn q
  refine wpAny_call_exc_subT F T hC hN hni (fun h' e hm => ?_) (Nat.zero_le _)
  exact mk_of I hm r h (I.hok.gone hm.new)
end
/-- an own error class over ValueError without own __init__ -/
structure Err (K : PySem.W.Frag) (mg : Str → Option Value) (x : Str) (C : Addr) : Prop where
  g : mg x = some (.ref C)
  q : PySem.W.excIn K C [.type "ValueError", .type "Exception", .type "BaseException", .type "object"] "ValueError.__new__" = true
  kp : PySem.W.keepIn K (.ref C) = true
  b : PySem.W.subIn K (.ref C) (.type "BaseException") = some true
  t : PySem.W.typeIn K (.ref C) = some (.type "type")
/-- raise X() -/
def tRaise0 (W : WX) (C : Addr) : TS := fun _ σ H => (fun _ H Q => Q (.ref C) none H : L2.St → Hp → XK → Prop) σ H fun cls d H' => W cls d σ H'
theorem ps_raise0 {X : Cx} {W : WX} {C : Addr} {x : Str} {p pos pos2 : Pos} (hc : X.calm = true) (tk : Takes X W) (e : Err X.K X.mg x C) (hg : Gl X x) (hdb : (x == ("__debug__" : Str)) = false := by decide) :
    PS X (.Raise (some (.Call (.Name x p) [] [] pos)) none pos2) (tRaise0 W C) := ps_raise hc tk (pmk_own0 PySem.F.excBase_ValueError e.q e.g e.kp (raises_own e.b e.t) hg hdb)
theorem st_raise0 {c : Ctx} {n : DE} {ds : Fm} {C : Addr} (h : n.er (.ref C) none) : St c (tRaise0 (fun cls d _ H => c.X cls d H) C) n ds := fun G H σ a E l => l.er G H (.ref C) none Exs.refl a.sub h
end Dl

/-! Db: bits as lists of Bool; codes, rows, numbers: plain mathematics. -/
namespace Dl
open PySem L2 Evl

/-! ### bits as texts -/
def sg (b : Bool) : Nat := if b then 49 else 48
def bs (l : List Bool) : Str := ⟨(l.map sg).toArray⟩
theorem bs_cps (l : List Bool) : (bs l).cps.toList = l.map sg := by simp [bs]
theorem bs_len (l : List Bool) : (bs l).length = l.length := by simp [bs, Str.length]
theorem sg_inj {a b : Bool} (h : sg a = sg b) : a = b := by cases a <;> cases b <;> simp [sg] at h ⊢
theorem map_sg_inj : ∀ {a b : List Bool}, a.map sg = b.map sg → a = b
  | [], [], _ => rfl
  | [], _ :: _, h => by simp at h
  | _ :: _, [], h => by simp at h
  | x :: a, y :: b, h => by
    simp only [List.map_cons, List.cons.injEq] at h
    rw [sg_inj h.1, map_sg_inj h.2]
theorem str_ext {x y : Str} (h : x.cps.toList = y.cps.toList) : x = y := by
  cases x with | mk a => cases y with | mk b =>
    have : a = b := by simpa using congrArg List.toArray h
    rw [this]
theorem bs_inj {a b : List Bool} (h : bs a = bs b) : a = b := map_sg_inj (by rw [← bs_cps, ← bs_cps, h])
theorem bs_eq (a b : List Bool) : decide (bs a = bs b) = decide (a = b) := by
  by_cases h : a = b
  · subst h; simp
  · rw [decide_eq_false h, decide_eq_false (fun z => h (bs_inj z))]
theorem str_app (x y : Str) : (x ++ y).cps.toList = x.cps.toList ++ y.cps.toList := by
  show (Str.cps (Append.append x y)).toList = _
  first
    | rfl
    | (cases x; cases y; simp [Append.append, Str.append])
theorem bs_app (a b : List Bool) : bs a ++ bs b = bs (a ++ b) := str_ext (by rw [str_app, bs_cps, bs_cps, bs_cps, List.map_append])
theorem bs_nil : ("" : Str) = bs [] := by decide
theorem bs_zero : ("0" : Str) = bs [false] := by decide
theorem bs_one : ("1" : Str) = bs [true] := by decide
def rep (l : List Bool) : Nat → List Bool
  | 0 => []
  | n + 1 => l ++ rep l n
theorem rep_len (l : List Bool) : ∀ n, (rep l n).length = n * l.length
  | 0 => by simp [rep]
  | n + 1 => by rw [rep, List.length_append, rep_len l n, Nat.succ_mul, Nat.add_comm]
theorem rep_add (l : List Bool) : ∀ m n, rep l (m + n) = rep l m ++ rep l n
  | 0, n => by simp [rep]
  | m + 1, n => by rw [Nat.succ_add, rep, rep, rep_add l m n, List.append_assoc]
theorem foldl_reps (a : Array Nat) : ∀ (n : Nat) (acc : Array Nat), ((List.replicate n a).foldl (· ++ ·) acc).toList = acc.toList ++ (List.replicate n a.toList).flatten
  | 0, acc => by simp
  | n + 1, acc => by
    rw [List.replicate_succ, List.foldl_cons, foldl_reps a n, List.replicate_succ, List.flatten_cons]
    simp
theorem flat_rep (l : List Bool) : ∀ n : Nat, (List.replicate n (l.map sg)).flatten = (rep l n).map sg
  | 0 => rfl
  | n + 1 => by rw [List.replicate_succ, List.flatten_cons, flat_rep l n, rep, List.map_append]
theorem bs_mul (l : List Bool) (n : Nat) : Txt.mul (bs l) (n : Int) = bs (rep l n) := by
  apply str_ext
  unfold Txt.mul
  by_cases h0 : n = 0
  · subst h0; rw [if_pos (by decide)]; rfl
  · rw [if_neg (by omega)]
    by_cases h1 : ((n : Int) == 1 || (bs l).length == 0) = true
    · rw [if_pos h1, bs_cps, bs_cps]
      rcases Bool.or_eq_true_iff.mp h1 with h | h
      · have : n = 1 := by have := beq_iff_eq.mp h; omega
        subst this
        simp [rep]
      · have : l = [] := by have := beq_iff_eq.mp h; rw [bs_len] at this; exact List.length_eq_zero_iff.mp this
        subst this
        have : rep [] n = [] := List.length_eq_zero_iff.mp (by rw [rep_len]; simp)
        rw [this]
    · rw [if_neg h1]
      show ((List.replicate n (bs l).cps).foldl (· ++ ·) #[]).toList = _
      rw [foldl_reps, bs_cps, bs_cps, flat_rep]
      rfl
theorem bs_mulOk (l : List Bool) (n : Nat) (h : n * l.length ≤ 1000000) (hn : n ≤ 1000000000) : MulOk (bs l) (n : Int) := by
  have hz : sizeLine = 16777216 := sizeLine_eq
  refine ⟨?_, fun h1 h2 => ?_, fun h1 h2 => ?_⟩
  · simp; omega
  · rw [bs_len]
    have : (l.length : Int) ≤ 1000000 := by
      have : 1 ≤ n := by omega
      have := Nat.le_mul_of_pos_left l.length this
      omega
    have : (1000000 : Int) ≤ (2 ^ 63 - 1) / (n : Int) := by
      rw [Int.le_ediv_iff_mul_le (by omega)]
      omega
    omega
  · unfold Builtin.Str.tooLong
    rw [bs_len]
    simp only [Int.toNat_natCast]
    have e : l.length * n ≤ sizeLine := by rw [hz, Nat.mul_comm]; omega
    exact decide_eq_false (Nat.not_lt.mpr e)
theorem prefix_iff {a b : List Bool} : b.isPrefixOf a = true ↔ a.take b.length = b := by
  rw [List.isPrefixOf_iff_prefix]
  constructor
  · intro h; exact (List.prefix_iff_eq_take.mp h).symm
  · intro h; exact List.prefix_iff_eq_take.mpr h.symm
theorem bs_starts (a b : List Bool) : Txt.startswith (bs a) (bs b) = b.isPrefixOf a := by
  unfold Txt.startswith
  rw [bs_len, bs_len, StrLaws.subAt_eq, bs_cps, bs_cps, bs_len, List.drop_zero, ← List.map_take]
  have h : ((a.take b.length).map sg == b.map sg) = decide (a.take b.length = b) := by
    by_cases e : a.take b.length = b
    · rw [e]; simp
    · rw [decide_eq_false e]
      exact beq_eq_false_iff_ne.mpr fun z => e (map_sg_inj z)
  rw [h, Bool.eq_iff_iff, prefix_iff, Bool.and_eq_true, decide_eq_true_eq, decide_eq_true_eq]
  constructor
  · exact fun z => z.2
  · intro z
    refine ⟨?_, z⟩
    have := congrArg List.length z
    rw [List.length_take] at this
    omega
theorem bs_cutS (l : List Bool) (lo hi : Option Int) : cutS (bs l) lo hi = bs ((l.drop (HT.sIx l.length 0 lo)).take (HT.sIx l.length l.length hi - HT.sIx l.length 0 lo)) := by
  apply str_ext
  unfold cutS
  rw [bs_len, bs_cps, bs_cps, List.map_take, List.map_drop]
theorem bs_from (l : List Bool) (k : Nat) : cutS (bs l) (some (k : Int)) none = bs (l.drop k) := by
  rw [bs_cutS, HT.sIx_nat, HT.sIx_none]
  congr 1
  by_cases h : k ≤ l.length
  · rw [Nat.min_eq_left h, List.take_of_length_le (by rw [List.length_drop]; omega)]
  · rw [Nat.min_eq_right (by omega), List.drop_eq_nil_of_le (Nat.le_refl _), List.drop_eq_nil_of_le (by omega)]; simp
theorem bs_upto (l : List Bool) (k : Nat) : cutS (bs l) none (some (k : Int)) = bs (l.take k) := by
  rw [bs_cutS, HT.sIx_nat, HT.sIx_none, List.drop_zero, Nat.sub_zero]
  congr 1
  by_cases h : k ≤ l.length
  · rw [Nat.min_eq_left h]
  · rw [Nat.min_eq_right (by omega), List.take_of_length_le (Nat.le_refl _), List.take_of_length_le (by omega)]
theorem bs_mid (l : List Bool) (j k : Nat) (h : j ≤ k) : cutS (bs l) (some (j : Int)) (some (k : Int)) = bs ((l.drop j).take (k - j)) := by
  rw [bs_cutS, HT.sIx_nat, HT.sIx_nat]
  congr 1
  by_cases h1 : j ≤ l.length
  · rw [Nat.min_eq_left h1]
    by_cases h2 : k ≤ l.length
    · rw [Nat.min_eq_left h2]
    · rw [Nat.min_eq_right (by omega), List.take_of_length_le (by rw [List.length_drop]; omega), List.take_of_length_le (by rw [List.length_drop]; omega)]
  · have e : min j l.length = l.length := Nat.min_eq_right (by omega)
    rw [e, List.drop_eq_nil_of_le (Nat.le_refl _), List.drop_eq_nil_of_le (by omega : l.length ≤ j)]; simp

/-! ### codes -/
structure CodeM where
  rows : List (List Bool × Nat)
  again : List Bool
  stop : List Bool
  k : Nat
  d : Nat
structure Wf (c : CodeM) : Prop where
  rl : c.rows.length ≤ 6
  rb : ∀ r ∈ c.rows, 1 ≤ r.1.length ∧ r.1.length ≤ 8 ∧ r.2 ≤ 8
  al : 1 ≤ c.again.length
  au : c.again.length ≤ 4
  sl : c.stop.length ≤ 4
  kl : c.k ≤ 8
  dl : c.d ≤ 3
namespace CodeM
def beg (c : CodeM) : Nat := (c.rows.map fun r => 2 ^ r.2).sum
def row (c : CodeM) (r : Nat) : List Bool × Nat := match c.rows[r]? with
  | some x => x
  | none => (rep c.again (r - c.rows.length) ++ c.stop, c.k + c.d * (r - c.rows.length))
def head (c : CodeM) (r : Nat) : List Bool := (c.row r).1
def kk (c : CodeM) (r : Nat) : Nat := (c.row r).2
def first (c : CodeM) : Nat → Nat
  | 0 => 0
  | r + 1 => c.first r + 2 ^ c.kk r
def before (c : CodeM) (i : Nat) : Nat := if c.d = 0 then i * 2 ^ c.k else 2 ^ c.k * (2 ^ (c.d * i) - 1) / (2 ^ c.d - 1)
variable {c : CodeM}
theorem row_lt {r : Nat} (h : r < c.rows.length) : c.row r = c.rows[r] := by
  unfold row; rw [List.getElem?_eq_getElem h]
theorem row_ge {r : Nat} (h : c.rows.length ≤ r) : c.row r = (rep c.again (r - c.rows.length) ++ c.stop, c.k + c.d * (r - c.rows.length)) := by
  unfold row; rw [List.getElem?_eq_none h]
theorem row_tail (i : Nat) : c.row (c.rows.length + i) = (rep c.again i ++ c.stop, c.k + c.d * i) := by
  rw [row_ge (by omega), Nat.add_sub_cancel_left]
theorem first_succ (r : Nat) : c.first (r + 1) = c.first r + 2 ^ c.kk r := rfl
theorem first_lt (r : Nat) : c.first r < c.first (r + 1) := by
  have := Nat.pow_pos (n := c.kk r) (show 0 < 2 by decide)
  rw [first_succ]; omega
theorem first_mono {r s : Nat} (h : r ≤ s) : c.first r ≤ c.first s := by
  induction h with
  | refl => exact Nat.le_refl _
  | step _ ih => exact Nat.le_trans ih (Nat.le_of_lt (first_lt _))
theorem first_smono {r s : Nat} (h : r < s) : c.first r < c.first s := Nat.lt_of_lt_of_le (first_lt r) (first_mono h)
theorem le_first : ∀ r, r ≤ c.first r
  | 0 => Nat.zero_le _
  | r + 1 => Nat.lt_of_le_of_lt (le_first r) (first_lt r)
theorem first_rows {r : Nat} (h : r ≤ c.rows.length) : c.first r = ((c.rows.take r).map fun x => 2 ^ x.2).sum := by
  induction r with
  | zero => rfl
  | succ r ih =>
    rw [first_succ, ih (by omega), kk, row_lt h]
    have e : c.rows.take (r + 1) = c.rows.take r ++ [c.rows[r]] := by rw [List.take_succ, List.getElem?_eq_getElem h]; rfl
    rw [e, List.map_append, List.sum_append]
    simp only [List.map_cons, List.map_nil, List.sum_cons, List.sum_nil, Nat.add_zero]
theorem first_beg : c.first c.rows.length = c.beg := by
  rw [first_rows (Nat.le_refl _), List.take_of_length_le (Nat.le_refl _)]; rfl
theorem pow_ge_one (n : Nat) : 1 ≤ 2 ^ n := Nat.pow_pos (by decide)
theorem before_succ (i : Nat) : c.before (i + 1) = c.before i + 2 ^ (c.k + c.d * i) := by
  unfold before
  by_cases h : c.d = 0
  · rw [if_pos h, if_pos h, h]; simp [Nat.succ_mul]
  · rw [if_neg h, if_neg h]
    have hd : 1 < 2 ^ c.d := Nat.one_lt_two_pow h
    -- by a closed sum S with (2 ^ d - 1) * S i = 2 ^ (d * i) - 1
    have key : ∀ i, ∃ S, 2 ^ (c.d * i) - 1 = (2 ^ c.d - 1) * S ∧ 2 ^ (c.d * (i + 1)) - 1 = (2 ^ c.d - 1) * (S + 2 ^ (c.d * i)) := by
      intro i
      have step : ∀ j S, 2 ^ (c.d * j) - 1 = (2 ^ c.d - 1) * S → 2 ^ (c.d * (j + 1)) - 1 = (2 ^ c.d - 1) * (S + 2 ^ (c.d * j)) := fun j S e => by
        have e1 : 2 ^ (c.d * (j + 1)) = 2 ^ c.d * 2 ^ (c.d * j) := by rw [Nat.mul_succ, Nat.pow_add, Nat.mul_comm]
        have p1 := pow_ge_one (c.d * j)
        have e2 : (2 ^ c.d - 1) * 2 ^ (c.d * j) = 2 ^ c.d * 2 ^ (c.d * j) - 2 ^ (c.d * j) := by rw [Nat.sub_mul, Nat.one_mul]
        have p2 : 2 ^ (c.d * j) ≤ 2 ^ c.d * 2 ^ (c.d * j) := Nat.le_mul_of_pos_left _ (by omega)
        have e3 : (2 ^ c.d - 1) * (S + 2 ^ (c.d * j)) = (2 ^ c.d - 1) * S + (2 ^ c.d - 1) * 2 ^ (c.d * j) := Nat.mul_add _ _ _
        omega
      induction i with
      | zero => exact ⟨0, by simp, step 0 0 (by simp)⟩
      | succ i ih =>
        obtain ⟨S, _, e⟩ := ih
        exact ⟨S + 2 ^ (c.d * i), e, step _ _ e⟩
    obtain ⟨S, e1, e2⟩ := key i
    have hp : 0 < 2 ^ c.d - 1 := by omega
    rw [e1, e2, Nat.mul_left_comm, Nat.mul_div_cancel_left _ hp, Nat.mul_left_comm, Nat.mul_div_cancel_left _ hp, Nat.mul_add, ← Nat.pow_add]
theorem before_zero : c.before 0 = 0 := by unfold before; split <;> simp
theorem first_tail (i : Nat) : c.first (c.rows.length + i) = c.beg + c.before i := by
  induction i with
  | zero => rw [Nat.add_zero, first_beg, before_zero, Nat.add_zero]
  | succ i ih =>
    rw [← Nat.add_assoc, first_succ, ih, before_succ, kk, row_tail]; simp only []; omega
/-- the row of a number -/
theorem row_uniq {n r s : Nat} (h1 : c.first r ≤ n) (h2 : n < c.first (r + 1)) (h3 : c.first s ≤ n) (h4 : n < c.first (s + 1)) : r = s := by
  rcases Nat.lt_trichotomy r s with h | h | h
  · have := first_mono (c := c) (show r + 1 ≤ s from h); omega
  · exact h
  · have := first_mono (c := c) (show s + 1 ≤ r from h); omega
def rowFrom (c : CodeM) (n : Nat) : Nat → Nat → Nat
  | 0, r => r
  | f + 1, r => if n < c.first (r + 1) then r else rowFrom c n f (r + 1)
def rowOf (c : CodeM) (n : Nat) : Nat := rowFrom c n n 0
theorem rowFrom_ok (n : Nat) : ∀ f r, c.first r ≤ n → n < c.first (r + f + 1) → c.first (rowFrom c n f r) ≤ n ∧ n < c.first (rowFrom c n f r + 1)
  | 0, r, h1, h2 => ⟨h1, h2⟩
  | f + 1, r, h1, h2 => by
    unfold rowFrom
    split
    · exact ⟨h1, by assumption⟩
    · exact rowFrom_ok n f (r + 1) (by omega) (by rw [show r + 1 + f + 1 = r + (f + 1) + 1 by omega]; exact h2)
theorem rowOf_ok (n : Nat) : c.first (c.rowOf n) ≤ n ∧ n < c.first (c.rowOf n + 1) := rowFrom_ok n n 0 (Nat.zero_le _) (by
  have := le_first (c := c) (0 + n + 1); omega)
theorem rowOf_eq {n r : Nat} (h1 : c.first r ≤ n) (h2 : n < c.first (r + 1)) : c.rowOf n = r := row_uniq (rowOf_ok n).1 (rowOf_ok n).2 h1 h2
/-- a number as k bits, the greatest place first -/
def plc (v : Nat) : Nat → List Bool
  | 0 => []
  | k + 1 => plc (v / 2) k ++ [v % 2 == 1]
theorem plc_len (v : Nat) (k : Nat) : (plc v k).length = k := by
  induction k generalizing v with
  | zero => rfl
  | succ k ih => simp [plc, ih]
theorem snoc_ind {P : List Bool → Prop} (h0 : P []) (hs : ∀ l b, P l → P (l ++ [b])) (l : List Bool) : P l := by
  have h : ∀ l : List Bool, P l.reverse := fun l => by
    induction l with
    | nil => exact h0
    | cons b l ih => rw [List.reverse_cons]; exact hs _ _ ih
  have := h l.reverse
  rwa [List.reverse_reverse] at this
def num (l : List Bool) : Nat := l.foldl (fun t b => 2 * t + (if b then 1 else 0)) 0
theorem num_snoc (l : List Bool) (b : Bool) : num (l ++ [b]) = 2 * num l + (if b then 1 else 0) := by simp [num, List.foldl_append]
theorem num_plc (v k : Nat) : num (plc v k) = v % 2 ^ k := by
  induction k generalizing v with
  | zero => simp [plc, num, Nat.mod_one]
  | succ k ih =>
    rw [plc, num_snoc, ih, Nat.pow_succ, Nat.mul_comm (2 ^ k) 2, Nat.mod_mul]
    have : v % 2 = 0 ∨ v % 2 = 1 := by omega
    rcases this with h | h <;> simp [h] <;> omega
theorem num_lt (l : List Bool) : num l < 2 ^ l.length := by
  induction l using snoc_ind with
  | h0 => simp [num]
  | hs l b ih =>
    rw [num_snoc, List.length_append, List.length_singleton, Nat.pow_succ]
    split <;> omega
theorem plc_num (l : List Bool) : plc (num l) l.length = l := by
  induction l using snoc_ind with
  | h0 => rfl
  | hs l b ih =>
    rw [num_snoc, List.length_append, List.length_singleton, plc]
    have h1 : (2 * num l + (if b then 1 else 0)) / 2 = num l := by cases b <;> simp <;> omega
    have h2 : ((2 * num l + (if b then 1 else 0)) % 2 == 1) = b := by cases b <;> simp <;> omega
    rw [h1, h2, ih]
def bits (c : CodeM) (n : Nat) : List Bool := c.head (c.rowOf n) ++ plc (n - c.first (c.rowOf n)) (c.kk (c.rowOf n))
def size (c : CodeM) (n : Nat) : Nat := (c.head (c.rowOf n)).length + c.kk (c.rowOf n)
theorem bits_len (n : Nat) : (c.bits n).length = c.size n := by unfold bits size; rw [List.length_append, plc_len]
end CodeM
@[reducible] def rowD (r : List Bool × Nat) : D := .tup [.str (bs r.1), .int (r.2 : Nat)]
@[reducible] def rowsD (c : CodeM) : D := .tup (c.rows.map rowD)
@[reducible] def tailD (c : CodeM) : D := .tup [.str (bs c.again), .str (bs c.stop), .int (c.k : Nat), .int (c.d : Nat)]
@[reducible] def codeD (C : Addr) (c : CodeM) : D := .obj C ["rows", "tail", "begin"] [rowsD c, tailD c, .int (c.beg : Nat)]
/-- what the law's own account is over: [rows, tail] -/
@[reducible] def partsD (c : CodeM) : D := .lst [rowsD c, tailD c]
end Dl

/-! Dn: operators on natural numbers and on bits; calls of several arguments. -/
namespace Dl
open PySem L2 Evl PySem.Spec PyProof.Rows
section
variable {K : PySem.W.Frag} {c : Ctx} {ds : Fm}
theorem cast_sub' {a b : Nat} (h : b ≤ a) : ((a : Nat) : Int) - ((b : Nat) : Int) = ((a - b : Nat) : Int) := by omega
theorem rb_addN {a b : Nat} : Rb K (rAddG K) (.int (a : Nat)) (.int (b : Nat)) (.int ((a + b : Nat) : Int)) := rb_addI
theorem rb_addN1 {a : Nat} : Rb K (rAddG K) (.int (a : Nat)) (.int 1) (.int ((a + 1 : Nat) : Int)) := rb_addI
theorem rb_addN2 {a : Nat} : Rb K (rAddG K) (.int (a : Nat)) (.int 2) (.int ((a + 2 : Nat) : Int)) := rb_addI
theorem rb_addN3 {a : Nat} : Rb K (rAddG K) (.int (a : Nat)) (.int 3) (.int ((a + 3 : Nat) : Int)) := rb_addI
theorem rb_subN {a b : Nat} (h : b ≤ a) : Rb K rSubG (.int (a : Nat)) (.int (b : Nat)) (.int ((a - b : Nat) : Int)) := by
  rw [← cast_sub' h]; exact rb_subI
theorem rb_subN1 {a : Nat} (h : 1 ≤ a) : Rb K rSubG (.int (a : Nat)) (.int 1) (.int ((a - 1 : Nat) : Int)) := by
  have e : ((a : Nat) : Int) - 1 = ((a - 1 : Nat) : Int) := by omega
  rw [← e]; exact rb_subI
theorem rb_subN8 {a : Nat} (h : a ≤ 8) : Rb K rSubG (.int 8) (.int (a : Nat)) (.int ((8 - a : Nat) : Int)) := by
  have e : (8 : Int) - ((a : Nat) : Int) = ((8 - a : Nat) : Int) := by omega
  rw [← e]; exact rb_subI
theorem rb_mulNL {a b : Nat} (h : a < 2 ^ 64) : Rb K (rMulG K) (.int (a : Nat)) (.int (b : Nat)) (.int ((a * b : Nat) : Int)) := by
  rw [Int.natCast_mul]; exact rb_mulL ⟨by omega, by omega⟩
theorem rb_mulNR {a b : Nat} (h : b < 2 ^ 64) : Rb K (rMulG K) (.int (a : Nat)) (.int (b : Nat)) (.int ((a * b : Nat) : Int)) := by
  rw [Int.natCast_mul]; exact rb_mulR ⟨by omega, by omega⟩
theorem rb_mulNW {a b : Nat} (m n : Nat) (ha : a < 2 ^ m) (hb : b < 2 ^ n) (h0 : 0 < m) (h1 : 0 < n) (h : m + n ≤ 900000) : Rb K (rMulG K) (.int (a : Nat)) (.int (b : Nat)) (.int ((a * b : Nat) : Int)) := by
  rw [Int.natCast_mul]; exact rb_mulW (wide_mul (by simpa using ha) (by simpa using hb) h0 h1 (by omega))
theorem rb_mul2N {b : Nat} : Rb K (rMulG K) (.int 2) (.int (b : Nat)) (.int ((2 * b : Nat) : Int)) := rb_mulL ⟨by decide, by decide⟩
theorem rb_modN {a b : Nat} (h : 0 < b) : Rb K rModG (.int (a : Nat)) (.int (b : Nat)) (.int ((a % b : Nat) : Int)) := rb_mod (by omega)
theorem rb_mod2N {a : Nat} : Rb K rModG (.int (a : Nat)) (.int 2) (.int ((a % 2 : Nat) : Int)) := rb_mod (by decide)
theorem rb_div2N {a : Nat} : Rb K rDivG (.int (a : Nat)) (.int 2) (.int ((a / 2 : Nat) : Int)) := rb_div ⟨by decide, by decide⟩
theorem rb_divN {a b : Nat} (h : 0 < b) (hb : b < 2 ^ 8000) : Rb K rDivG (.int (a : Nat)) (.int (b : Nat)) (.int ((a / b : Nat) : Int)) := rb_div (wide_div (b := 8000) (by omega) (by simpa using hb) (by decide) (by decide))
theorem rb_ltN {a b : Nat} : Rb K rLtG (.int (a : Nat)) (.int (b : Nat)) (.bl (decide (a < b))) := by
  have e : decide (((a : Nat) : Int) < ((b : Nat) : Int)) = decide (a < b) := by simp
  rw [← e]; exact rb_ltI
theorem rb_leN {a b : Nat} : Rb K rLeG (.int (a : Nat)) (.int (b : Nat)) (.bl (decide (a ≤ b))) := by
  have e : decide (((a : Nat) : Int) ≤ ((b : Nat) : Int)) = decide (a ≤ b) := by simp
  rw [← e]; exact rb_le
theorem rb_gtN {a b : Nat} : Rb K rGtG (.int (a : Nat)) (.int (b : Nat)) (.bl (decide (b < a))) := by
  have e : decide (((b : Nat) : Int) < ((a : Nat) : Int)) = decide (b < a) := by simp
  rw [← e]; exact rb_gt
theorem rb_geN {a b : Nat} : Rb K rGeG (.int (a : Nat)) (.int (b : Nat)) (.bl (decide (b ≤ a))) := by
  have e : decide (((b : Nat) : Int) ≤ ((a : Nat) : Int)) = decide (b ≤ a) := by simp
  rw [← e]; exact rb_ge
theorem rb_eqN {a b : Nat} : Rb K (Dl.rEqG K) (.int (a : Nat)) (.int (b : Nat)) (.bl (decide (a = b))) := by
  have e : decide (((a : Nat) : Int) = ((b : Nat) : Int)) = decide (a = b) := by simp [Int.natCast_inj]
  rw [← e]; exact rb_eqI
theorem rb_eqN0 {a : Nat} : Rb K (Dl.rEqG K) (.int (a : Nat)) (.int 0) (.bl (decide (a = 0))) := rb_eqN (b := 0)
theorem rb_neN {a b : Nat} : Rb K (rNeG K) (.int (a : Nat)) (.int (b : Nat)) (.bl (!decide (a = b))) := by
  have e : decide (((a : Nat) : Int) = ((b : Nat) : Int)) = decide (a = b) := by simp [Int.natCast_inj]
  rw [← e]; exact rb_neI
theorem rb_mulB {l : List Bool} {n : Nat} (h : n * l.length ≤ 1000000) (hn : n ≤ 1000000000) : Rb K (rMulG K) (.str (bs l)) (.int (n : Nat)) (.str (bs (rep l n))) := by
  rw [← bs_mul]; exact rb_mulS (bs_mulOk l n h hn)
theorem rb_addB {a b : List Bool} (h : a.length + b.length ≤ 1000000) : Rb K (rAddG K) (.str (bs a)) (.str (bs b)) (.str (bs (a ++ b))) := by
  rw [← bs_app]; exact rb_addS (by rw [bs_len, bs_len]; exact h)
theorem rb_eqB {a b : List Bool} : Rb K (Dl.rEqG K) (.str (bs a)) (.str (bs b)) (.bl (decide (a = b))) := by rw [← bs_eq]; exact rb_eqS
theorem rb_neB {a b : List Bool} : Rb K (rNeG K) (.str (bs a)) (.str (bs b)) (.bl (!decide (a = b))) := by rw [← bs_eq]; exact rb_neS
theorem rc_lenB {l : List Bool} (h : l.length ≤ 1000000) : Rc K (rLenG K) [.str (bs l)] (.int (l.length : Nat)) := by
  have := rc_lenS (K := K) (x := bs l) (by rw [bs_len]; exact h)
  rwa [bs_len] at this
theorem rs_fromB {l : List Bool} {k : Nat} (h : l.length ≤ 1000000) : Rs K (rSlG K) (.str (bs l)) (some (k : Int)) none (.str (bs (l.drop k))) := by
  rw [← bs_from]; exact rs_str (by rw [bs_len]; exact h)
theorem rs_uptoB {l : List Bool} {k : Nat} (h : l.length ≤ 1000000) : Rs K (rSlG K) (.str (bs l)) none (some (k : Int)) (.str (bs (l.take k))) := by
  rw [← bs_upto]; exact rs_str (by rw [bs_len]; exact h)
theorem rs_midB {l : List Bool} {j k : Nat} (hj : j ≤ k) (h : l.length ≤ 1000000) : Rs K (rSlG K) (.str (bs l)) (some (j : Int)) (some (k : Int)) (.str (bs ((l.drop j).take (k - j)))) := by
  rw [← bs_mid _ _ _ hj]; exact rs_str (by rw [bs_len]; exact h)
/-- x.startswith(y) -/
def rStarts : V → List V → Hp → VK → Prop := fun x xs H Q => ∃ a b, x = .str a ∧ xs = [.str b] ∧ Q (.bl (Txt.startswith a b)) H
theorem ee_startsB {te tb : TE} {a b : List Bool} (h1 : Ee c te ds (.str (bs a))) (h2 : Ee c tb ds (.str (bs b))) : Ee c (tM1 (fun x xs H Q => ∃ a b, x = .str a ∧ xs = [.str b] ∧ Q (.bl (Txt.startswith a b)) H) te tb) ds (.bl (b.isPrefixOf a)) :=
  ee_m1 h1 h2 fun G H v vs s r1 r2 Q t => by
    cases r1
    cases r2 with
    | cons r2 r3 =>
      cases r3; cases r2
      exact ⟨_, _, rfl, rfl, by rw [bs_starts]; exact t.same s (.bl _)⟩
theorem rs_uptoT {xs : List D} {k : Nat} : Rs K (rSlG K) (.tup xs) none (some (k : Int)) (.tup (xs.take k)) := by
  have h := rs_tup (K := K) (xs := xs) (lo := none) (hi := some (k : Int))
  rw [HT.sIx_nat, HT.sIx_none, List.drop_zero, Nat.sub_zero] at h
  by_cases hk : k ≤ xs.length
  · rwa [Nat.min_eq_left hk] at h
  · rw [Nat.min_eq_right (by omega), List.take_of_length_le (Nat.le_refl _)] at h
    rwa [List.take_of_length_le (by omega)]
theorem rc_lenM {α : Type} {f : α → D} {xs : List α} : Rc K (rLenG K) [.tup (xs.map f)] (.int (xs.length : Nat)) := by
  have := rc_lenT (K := K) (xs := xs.map f)
  rwa [List.length_map] at this
theorem rc_lenML {α : Type} {f : α → D} {xs : List α} : Rc K (rLenG K) [.lst (xs.map f)] (.int (xs.length : Nat)) := by
  have := rc_lenL (K := K) (xs := xs.map f)
  rwa [List.length_map] at this
theorem sum_cast {α : Type} (f : α → Nat) : ∀ ys : List α, (ys.map fun y => ((f y : Nat) : Int)).sum = (((ys.map f).sum : Nat) : Int)
  | [] => rfl
  | y :: ys => by simp only [List.map_cons, List.sum_cons, sum_cast f ys]; omega
theorem rc_sumN {α : Type} {f : α → Nat} {ys : List α} : Rc K (rSum K) [.lst (ys.map fun y => .int ((f y : Nat) : Int))] (.int (((ys.map f).sum : Nat) : Int)) := by
  have := rc_sum (K := K) (ns := ys.map fun y => ((f y : Nat) : Int))
  rw [List.map_map, sum_cast] at this
  exact this
theorem truB {l : List Bool} : truD (.str (bs l)) = !l.isEmpty := by
  show (((bs l).length : Int) != 0) = _
  rw [bs_len]
  cases l <;> simp <;> omega
theorem truOkB {l : List Bool} (h : l.length ≤ 1000000) : truOk (.str (bs l)) := by show (bs l).length ≤ 1000000; rw [bs_len]; exact h
theorem atI_map {α : Type} {f : α → D} {xs : List α} {j : Nat} {x : α} (h : xs[j]? = some x) : atI (xs.map f) (j : Int) = some (f x) := atI_nat (by rw [List.getElem?_map, h]; rfl)
end
theorem st_aug1 {c : Ctx} {ds : Fm} {n : DE} {i a : Nat} (hx : ds[i]? = some (.v (.int (a : Nat)))) (k : n.nx (ds.set i (.v (.int ((a + 1 : Nat) : Int))))) : St c (tAug i (tC (.int 1)) (ipI fun i j => i + j)) n ds :=
  st_aug (w := .int ((a + 1 : Nat) : Int)) hx ee_int (fun G H v u s r1 r2 Q t => by
    cases r1; cases r2
    exact ⟨_, _, rfl, rfl, t.same s (.int _)⟩) k
/-! ### calls of two, three arguments -/
@[reducible] def spA2 {α β : Type} (K : PySem.W.Frag) (args : α → β → List D) (pre : α → β → Prop) (res : α → β → Res) : Sp := spA K (fun p : α × β => args p.1 p.2) (fun p => pre p.1 p.2) (fun p => res p.1 p.2)
@[reducible] def spA3 {α β γ : Type} (K : PySem.W.Frag) (args : α → β → γ → List D) (pre : α → β → γ → Prop) (res : α → β → γ → Res) : Sp := spA K (fun p : α × β × γ => args p.1 p.2.1 p.2.2) (fun p => pre p.1 p.2.1 p.2.2) (fun p => res p.1 p.2.1 p.2.2)
section
variable {α β γ : Type} {c : Ctx} {ds : Fm} {ta : TA} {te : TE} {d : D} {x : α} {y : β} {z : γ} {E : XK} {xs : List D} {n : DE}
theorem ee_call2 {args : α → β → List D} {pre : α → β → Prop} {res : α → β → Res} (h : Ea c ta ds xs) (hx : xs = args x y) (hp : pre x y) (hr : res x y = .ok d) : Ee c (tCall (spA2 c.K args pre res) [] E ta) ds d :=
  ee_call (a := (x, y)) h hx hp hr
theorem ee_call3 {args : α → β → γ → List D} {pre : α → β → γ → Prop} {res : α → β → γ → Res} (h : Ea c ta ds xs) (hx : xs = args x y z) (hp : pre x y z) (hr : res x y z = .ok d) : Ee c (tCall (spA3 c.K args pre res) [] E ta) ds d :=
  ee_call (a := (x, y, z)) h hx hp hr
end
/-- a method's call: the instance is the first argument -/
theorem ee_meth {α : Type} {c : Ctx} {ds : Fm} {ta : TA} {te : TE} {d : D} {a : α} {args : α → List D} {pre : α → Prop} {res : α → Res} {C : Addr} {m : Str} {ns : List Str} {fs xs : List D} {E : XK} (h : Ee c te ds (.obj C ns fs)) (hm : m ∉ ns) (ha : Ea c ta ds xs) (hx : D.obj C ns fs :: xs = args a) (hp : pre a) (hr : res a = .ok d) :
    Ee c (tMeth C m (spA c.K args pre res) [] E te ta) ds d := fun G H σ at' Q q =>
  h G H σ at' _ fun v G1 H1 e1 s1 r1 => by
    cases r1 with
    | @obj a' C' dx fs' ns' ds' e en r =>
      subst en
      refine ⟨_, _, _, rfl, s1 _ _ e, ?_, ha G1 H1 σ (at'.go e1 s1) _ fun vs G2 H2 e2 s2 r2 => ?_⟩
      · cases hl : fs'.lookup m with
        | none => rfl
        | some w =>
          exfalso
          have : (m, w) ∈ fs' := by
            have := hl
            clear hl hm e r ha hx q at' h
            induction fs' with
            | nil => simp [List.lookup] at this
            | cons p fs' ih =>
              obtain ⟨g, u⟩ := p
              simp only [List.lookup] at this
              split at this
              · rename_i e; cases this; have := beq_iff_eq.mp e; subst this; exact List.mem_cons_self
              · exact List.mem_cons_of_mem _ (ih this)
          exact hm (List.mem_map.mpr ⟨_, this, rfl⟩)
      · rw [List.append_nil]
        refine ⟨G2, a, s2, ?_, hp, fun d' hd => by rw [hr] at hd; cases hd; exact fun u G3 H3 e3 s3 r3 => q u G3 H3 ((e1.trans e2).trans e3.all) s3 r3, fun C o z => by rw [hr] at z; cases z⟩
        rw [← hx]
        exact .cons ((Rep.obj e rfl r).mono e2.g) r2
end Dl

/-! Dk: the rules with the written part K named (for a comprehension's block). -/
namespace Dl
open PySem L2 Evl PySem.Spec PyProof.Rows
section
variable {X : Cx} (K : PySem.W.Frag) {e a b o : Expr} {es : List Expr} {ta tb te to : TE} {t : TA} {f x : Str} {p pos apos : Pos} {tg it : Expr}
theorem k_add (hK : X.K = K) : OpR X (binaryOp .Add) (rAddG K) := by subst hK; exact op_addG
theorem k_mul (hK : X.K = K) : OpR X (binaryOp .Mult) (rMulG K) := by subst hK; exact op_mulG
theorem k_eq (hK : X.K = K) (hu : X.A.units + 64 < cLine) : OpR X (compareOp .Eq) (Dl.rEqG K) := by subst hK; exact Dl.op_eqG hu
theorem k_ne (hK : X.K = K) (hu : X.A.units + 64 < cLine) : OpR X (compareOp .NotEq) (rNeG K) := by subst hK; exact op_neG hu
theorem k_in (hK : X.K = K) : OpR X (compareOp .In) (rInG K) := by subst hK; exact op_inG
theorem k_nin (hK : X.K = K) : OpR X (compareOp .NotIn) (rNinG K) := by subst hK; exact op_ninG
theorem k_ix (hK : X.K = K) : IxR X (rIxG K) := by subst hK; exact ix_G
theorem k_sl (hK : X.K = K) : SlR X (rSlG K) := by subst hK; exact sl_G
theorem k_len (hK : X.K = K) : CallR X (.builtin "len") (rLenG K) := by subst hK; exact call_lenG
theorem k_sum (hK : X.K = K) (hc : X.calm = true) : CallR X (.builtin "sum") (rSum K) := by subst hK; exact cr_sum hc
theorem k_all (hK : X.K = K) (hc : X.calm = true) : CallR X (.builtin "all") (rAll K) := by subst hK; exact cr_all hc
theorem k_any (hK : X.K = K) (hc : X.calm = true) : CallR X (.builtin "any") (rAny K) := by subst hK; exact cr_any hc
theorem k_max (hK : X.K = K) (hc : X.calm = true) : CallR X (.builtin "max") (rMax K) := by subst hK; exact cr_max hc
theorem k_min (hK : X.K = K) (hc : X.calm = true) : CallR X (.builtin "min") (rMin K) := by subst hK; exact cr_min hc
theorem k_isi (hK : X.K = K) : CallR X (.builtin "isinstance") (rIsi K) := by subst hK; exact call_isi
def rListG (K : PySem.W.Frag) : List V → Hp → VK → Prop := fun xs H Q => ∃ p ys, xs = [.ref p] ∧ (SqL K H p ys ∨ SqT K H p ys) ∧ ∀ l, H l = none → Q (.ref l) (upd H l (.lst ys))
theorem k_list (hK : X.K = K) : CallR X (.type "list") (rListG K) := by subst hK; exact call_list_of
def rTupleG (K : PySem.W.Frag) : List V → Hp → VK → Prop := fun xs H Q => ∃ p ys, xs = [.ref p] ∧ ((SqL K H p ys ∧ ∀ l, H l = none → Q (.ref l) (upd H l (.tup ys))) ∨ (SqT K H p ys ∧ Q (.ref p) H))
theorem k_tuple (hK : X.K = K) : CallR X (.type "tuple") (rTupleG K) := by subst hK; exact call_tuple_of
theorem k_fld (hK : X.K = K) (he : PE X e ta) (hb : attributeBase e f X.env (eval e X.env) = eval e X.env) : PE X (.Attribute e f pos) (tFld K ta f) := by subst hK; exact pe_fld he hb
theorem k_sfld {value : Expr} {tv : TE} {pos' : Pos} (hK : X.K = K) (ha : PE X o ta) (hv : PE X value tv) (hs : swapsWith value (some (.Attribute o f pos')) pos.line X.env = pure false) : PS X (.Assign [.Attribute o f pos'] value pos) (sFld K ta tv f) := by subst hK; exact ps_fld ha hv hs
theorem k_tru (hK : X.K = K) (ha : PE X a ta) (he : ∀ whole, isTrue a X.env whole = (do let v ← whole; standAt a.pos; holding [v] (truthy v)) := by intro _; rfl) : PT X a (tTruG K ta) := by subst hK; exact pt_truG ha he
theorem k_ilist (hK : X.K = K) (h : PE X e te) : PI X tg e (iList K te) := by subst hK; exact pi_list h
theorem k_itup (hK : X.K = K) (h : PE X e te) : PI X tg e (iTup K te) := by subst hK; exact pi_tup h
theorem k_tup {k : Nat} {n : Nat} {ts : TGs} (hK : X.K = K) (hc : X.calm = true) (h : PGs X es ts) (hn : (assignEach es X.env).length = n := by rfl) (hst : (assignEach es X.env).findIdx? (·.1) = none := by rfl) : PG X (.Tuple es k pos) (gTup K n ts) := by subst hK; exact pg_tup hc h hn hst
theorem k_orT {rest : List Expr} (hK : X.K = K) (ha : PE X a ta) (hb : PE X (.BoolOp .Or (b :: rest) pos) tb) : PE X (.BoolOp .Or (a :: b :: rest) pos) (tOrT K ta tb) := by subst hK; exact pe_orT ha hb
/-- x.join(y) -/
def rJoin (K : PySem.W.Frag) : V → List V → Hp → VK → Prop := fun x xs H Q => ∃ a p, ∃ ys : List Str, x = .str a ∧ xs = [.ref p] ∧ (SqL K H p (ys.map V.str) ∨ SqT K H p (ys.map V.str)) ∧
    (ys.map (·.length)).sum + ys.length * a.length ≤ 16777216 ∧ Q (.str (Txt.join a ys)) H
theorem k_join (hK : X.K = K) (ho : PE X o to) (he : PE X e te) (hs : starEach [e] X.env = [(false, eval e X.env)] := by rfl) (hbase : attributeBase o "join" X.env (eval o X.env) = eval o X.env := by rfl) (hline : (apos.endLine == pos.line) = true := by rfl) :
    PE X (.Call (.Attribute o "join" apos) [e] [] pos) (tM1 (rJoin K) to te) := by subst hK; exact pe_join ho he hs hbase hline
theorem k_lst {k : Nat} {n : Nat} {ts : TGs} (hK : X.K = K) (hc : X.calm = true) (h : PGs X es ts) (hn : (assignEach es X.env).length = n := by rfl) (hst : (assignEach es X.env).findIdx? (·.1) = none := by rfl) : PG X (.Tuple es k pos) (gLst K n ts) := by subst hK; exact pg_lst hc h hn hst
end
end Dl

/-! Di: instances made; isinstance; lists that grow. -/
namespace Dl
open PySem L2 Evl PySem.Spec PyProof.Rows

/-! ### what is not determined -/
def En (c : Ctx) (te : TE) (ds : Fm) (P : D → Prop) : Prop := ∀ G H σ, At c G H σ ds → ∀ Q : VK, (∀ v d G1 H1, P d → Ext c.l G H G1 H1 → Ex G1 H1 → Rep c.K G1 v d → Q v H1) → te σ H Q
def Ena (c : Ctx) (ta : TA) (ds : Fm) (P : List D → Prop) : Prop := ∀ G H σ, At c G H σ ds → ∀ Q : List V → Hp → Prop, (∀ vs xs G1 H1, P xs → Ext c.l G H G1 H1 → Ex G1 H1 → Reps c.K G1 vs xs → Q vs H1) → ta σ H Q
def Ent (c : Ctx) (tt : TT) (ds : Fm) (P : Bool → Prop) : Prop := ∀ G H σ, At c G H σ ds → ∀ Q : Bool → Hp → Prop, (∀ b G1 H1, P b → Ext c.l G H G1 H1 → Ex G1 H1 → Q b H1) → tt σ H Q
def Eni (c : Ctx) (wi : TI) (ds : Fm) (P : List D → Prop) : Prop := ∀ G H σ, At c G H σ ds → ∀ R : It → Hp → Prop, (∀ J xs G1 H1, P xs → Ext c.l G H G1 H1 → Ex G1 H1 → ItD c.K J xs G1 → R J H1) → wi σ H R
section
variable {c : Ctx} {ds ds' : Fm} {n : DE} {te ta tb : TE} {tr : TA} {x y d : D} {xs : List D} {P P' : D → Prop} {R R' : List D → Prop} {i : Nat}
theorem en_of (h : Ee c te ds d) : En c te ds (fun d' => d' = d) := fun G H σ a Q q => h G H σ a Q fun v G1 H1 e s r => q v d G1 H1 rfl e s r
theorem ena_of (h : Ea c tr ds xs) : Ena c tr ds (fun d' => d' = xs) := fun G H σ a Q q => h G H σ a Q fun v G1 H1 e s r => q v xs G1 H1 rfl e s r
theorem eni_of {wi : TI} (h : Ei c wi ds xs) : Eni c wi ds (fun d' => d' = xs) := fun G H σ a Q q => h G H σ a Q fun J G1 H1 e s r => q J xs G1 H1 rfl e s r
theorem en_imp (h : En c te ds P) (k : ∀ d, P d → P' d) : En c te ds P' := fun G H σ a Q q => h G H σ a Q fun v d G1 H1 p => q v d G1 H1 (k d p)
theorem ena_nil : Ena c tNil ds (fun xs => xs = []) := ena_of ea_nil
theorem ena_cons (h : En c te ds P) (hr : Ena c tr ds R) : Ena c (tCons te tr) ds (fun xs => ∃ x r, xs = x :: r ∧ P x ∧ R r) := fun G H σ a Q q =>
  h G H σ a _ fun v d G1 H1 p e1 s1 r1 => hr G1 H1 σ (a.go e1 s1) _ fun vs xs G2 H2 p2 e2 s2 r2 => q _ _ G2 H2 ⟨d, xs, rfl, p, p2⟩ (e1.trans e2) s2 (.cons (r1.mono e2.g) r2)
theorem en_op {r : R2} {Pb : D → Prop} {z : D → D → D} (ha : En c ta ds P) (hb : En c tb ds Pb) (hr : ∀ x y, P x → Pb y → Rb c.K r x y (z x y)) : En c (tOp r ta tb) ds (fun d => ∃ x y, P x ∧ Pb y ∧ d = z x y) := fun G H σ a Q q =>
  ha G H σ a _ fun v x G1 H1 p e1 s1 r1 => hb G1 H1 σ (a.go e1 s1) _ fun w y G2 H2 p2 e2 s2 r2 => hr x y p p2 G2 H2 v w s2 (r1.mono e2.g) r2 Q fun u G3 H3 e3 s3 r3 => q u _ G3 H3 ⟨x, y, p, p2, rfl⟩ ((e1.trans e2).trans e3.all) s3 r3
theorem en_cb {r : List V → Hp → VK → Prop} {z : List D → D} (ha : Ena c tr ds R) (hr : ∀ xs, R xs → Rc c.K r xs (z xs)) : En c (tCB r tr) ds (fun d => ∃ xs, R xs ∧ d = z xs) := fun G H σ a Q q =>
  ha G H σ a _ fun v xs G1 H1 p e1 s1 r1 => hr xs p G1 H1 v s1 r1 Q fun u G3 H3 e3 s3 r3 => q u _ G3 H3 ⟨xs, p, rfl⟩ (e1.trans e3.all) s3 r3
theorem en_tup (ha : Ena c tr ds R) (hl : ∀ xs, R xs → xs.length ≤ 1000000) : En c (tTup tr) ds (fun d => ∃ xs, R xs ∧ d = .tup xs) := fun G H σ a Q q =>
  ha G H σ a _ fun v xs G1 H1 p e1 s1 r1 => ⟨by rw [r1.len]; exact sz_of (hl xs p), Then.tup (fun u G3 H3 e3 s3 r3 => q u _ G3 H3 ⟨xs, p, rfl⟩ (e1.trans e3.all) s3 r3) s1 r1⟩
theorem en_lst (ha : Ena c tr ds R) (hl : ∀ xs, R xs → xs.length ≤ 1000000) : En c (tLst tr) ds (fun d => ∃ xs, R xs ∧ d = .lst xs) := fun G H σ a Q q =>
  ha G H σ a _ fun v xs G1 H1 p e1 s1 r1 => ⟨by rw [r1.len]; exact sz_of (hl xs p), Then.lst (fun u G3 H3 e3 s3 r3 => q u _ G3 H3 ⟨xs, p, rfl⟩ (e1.trans e3.all) s3 r3) s1 r1⟩
theorem en_m1 {r : V → List V → Hp → VK → Prop} {s : Str} {z : D → D} (ha : Ee c te ds (.str s)) (hb : En c tb ds P) (hr : ∀ y, P y → Rm c.K r (.str s) [y] (z y)) : En c (tM1 r te tb) ds (fun d => ∃ y, P y ∧ d = z y) := fun G H σ a Q q =>
  ha G H σ a _ fun v G1 H1 e1 s1 r1 => ⟨by cases r1; exact ⟨_, rfl⟩, hb G1 H1 σ (a.go e1 s1) _ fun w y G2 H2 p e2 s2 r2 => hr y p G2 H2 v [w] s2 (r1.mono e2.g) (.cons r2 .nil) Q fun u G3 H3 e3 s3 r3 => q u _ G3 H3 ⟨y, p, rfl⟩ ((e1.trans e2).trans e3.all) s3 r3⟩
theorem ent_test {B : Bool → Prop} (h : En c te ds (fun d => ∃ b, d = .bl b ∧ B b)) : Ent c (tTest te) ds B := fun G H σ a Q q => h G H σ a _ fun v d G1 H1 p e1 s1 r1 => by
  obtain ⟨b, rfl, hb⟩ := p
  cases r1
  exact ⟨b, rfl, q b G1 H1 hb e1 s1⟩
theorem sn_asg (h : En c te ds P) (hi : i < ds.length) (k : ∀ d, P d → n.nx (ds.set i (.v d))) : St c (tAsg te (gName i)) n ds := fun G H σ a E l => h G H σ a _ fun v d G1 H1 p e1 s1 r1 =>
  l.nx G1 H1 _ _ e1.s ((a.go e1 s1).set r1 hi) (k d p)
theorem sn_ret (h : En c te ds P) (k : ∀ d, P d → n.rt d) : St c (tRet te) n ds := fun G H σ a E l => h G H σ a _ fun v d G1 H1 p e1 s1 r1 => l.rt G1 H1 v d e1.s s1 r1 (k d p)
theorem sn_if {tc : TT} {t1 t2 : TS} {B : Bool → Prop} (h : Ent c tc ds B) (h1 : B true → St c t1 n ds) (h2 : B false → St c t2 n ds) : St c (tIfS tc t1 t2) n ds := fun G H σ a E l => h G H σ a _ fun b G1 H1 p e1 s1 => by
  cases b with
  | true => exact h1 p G1 H1 σ (a.go e1 s1) E (l.go e1.s)
  | false => exact h2 p G1 H1 σ (a.go e1 s1) E (l.go e1.s)
theorem eni_rng1 (h : En c te ds (fun d => ∃ j : Int, d = .int j ∧ 0 ≤ j ∧ j ≤ 1000000000 ∧ R (upto j))) : Eni c (iRng1 (tCons te tNil)) ds R := fun G H σ a Q q => h G H σ a _ fun v d G1 H1 p e1 s1 r1 => by
  obtain ⟨j, rfl, h0, h1, hR⟩ := p
  cases r1
  refine ⟨j, rfl, by omega, by omega, q _ (upto j) G1 H1 hR e1 s1 ⟨fun i G H e1 e2 hi => (by rw [upto_len] at hi; exact hi : i < j.toNat), fun i G H v H' e1 e2 hi y => ?_, fun G H e1 e2 => (by rw [upto_len]; exact Nat.le_refl _ : j.toNat ≤ (upto j).length)⟩⟩
  obtain ⟨rfl, rfl⟩ := y
  refine ⟨.int (i : Int), G, ?_, Ext.refl, e2, ?_⟩
  · rw [upto_len] at hi
    unfold upto
    rw [List.getElem?_map, List.getElem?_range hi]; rfl
  · have e0 : (0 : Int) + (i : Int) = (i : Int) := Int.zero_add _
    rw [e0]; exact .int _
/-- a loop over what is not determined -/
theorem sn_for {α : Type} {wi : TI} {g : TG} {t1 : TS} (hi : Eni c wi ds R) (F : List D → Nat → α → Fm) (I : List D → Nat → α → Prop) (h0 : ∀ xs, R xs → ∃ a, Fle ds (F xs 0 a) ∧ I xs 0 a)
    (hs : ∀ xs, R xs → ∀ i d a, xs[i]? = some d → I xs i a → ∃ ds2 js, Eg c g d (F xs i a) ds2 js ∧ St c t1 { n with nx := fun ds' => ∃ a', Fle ds' (F xs (i + 1) a') ∧ I xs (i + 1) a', ct := fun ds' => ∃ a', Fle ds' (F xs (i + 1) a') ∧ I xs (i + 1) a', bk := n.nx } ds2)
    (hd : ∀ xs, R xs → ∀ a, I xs xs.length a → n.nx (F xs xs.length a)) : St c (tFor wi g t1) n ds := fun G H σ a E l => hi G H σ a _ fun J xs G1 H1 p e1 s1 it =>
  for_core it (a.go e1 s1) (l.go e1.s) (F xs) (I xs) (h0 xs p) (hs xs p) (hd xs p)
/-- a list whose elements are not determined -/
theorem en_lc {wi : TI} {g : TG} {vs js : List Nat} (hi : Ei c wi ds xs) (hz : xs.length ≤ 1000000) (hv : ∀ j ∈ js, j ∈ vs) (hs : ∀ (i : Nat) d, xs[i]? = some d → ∃ ds2, Eg c g d (wipeD ds vs) ds2 js ∧ En c te ds2 P) :
    En c (tLc wi g tYes te vs) ds (fun d => ∃ ys : List D, d = .lst ys ∧ ys.length = xs.length ∧ ∀ y ∈ ys, P y) := fun G0 H0 σ at' Q q => hi G0 H0 σ at' _ fun J G1 H1 e1 s1 it => by
  intro Dl hDl
  have at1 : At c G1 H1 σ ds := at'.go e1 s1
  have hg1 : G1 Dl = none := sub_none s1 hDl
  have hne : NotL c.l Dl := fun y z => (at1.lk Dl y z).1 hDl
  let Pv : Nat → Hp → Prop := fun i H => ∃ G ys zs, Ext c.l G1 H1 G H ∧ Ex G H ∧ G Dl = none ∧ H Dl = some (.lst ys) ∧ Reps c.K G ys zs ∧ zs.length = i ∧ ∀ z ∈ zs, P z
  refine ⟨fun i m H => i ≤ xs.length ∧ m = xs.length - i ∧ Pv i H, ⟨xs.length, Nat.zero_le _, rfl, G1, [], [], Ext.refl.mut hDl, sub_hid s1 hg1, hg1, upd_same, .nil, rfl, fun z hz => nomatch hz⟩, ?_⟩
  rintro i m H ⟨il, rfl, G, ys, zs, eg, sb, gd, hd, rp, zl, zP⟩
  by_cases hlt : i < xs.length
  · refine .inr ⟨it.go i G H eg.g sb hlt, Pv (i + 1), fun H' p => ⟨xs.length - (i + 1), by omega, hlt, rfl, p⟩, fun x H' y => ?_⟩
    obtain ⟨d, G2, hd', ex, sb2, rx⟩ := it.yld i G H x H' eg.g sb hlt y
    obtain ⟨ds2, hg, he⟩ := hs i d hd'
    have e2 : Ext c.l G1 H1 G2 H' := eg.trans ex.all
    have at2 : At c G2 H' (wipe σ vs) (wipeD ds vs) := (at1.go e2 sb2).wipe vs
    refine hg G2 H' _ x at2 rx _ fun σ2 a2 len2 keep => ⟨wipe_same (by rw [len2, wipe_length]) fun k hk => keep k fun z => hk (hv k z), ?_⟩
    refine he G2 H' σ2 a2 _ fun v e G4 H4 pe e4 s4 r4 => ?_
    have h1 : H' Dl = some (.lst ys) := ex.h Dl _ (fun _ z => nomatch z) hd
    have n1 : G4 Dl = none := e4.n Dl (by rw [h1]; simp) (ex.n Dl (by rw [hd]; simp) gd)
    have n2 : H4 Dl = some (.lst ys) := e4.h Dl _ hne h1
    have g4 : Ext c.l G1 H1 G4 H4 := e2.trans e4
    have len : ys.length ≤ i := by rw [rp.len]; omega
    exact ⟨ys, n2, sz_lt (by omega), G4, ys ++ [v], zs ++ [e], g4.mut hDl, sub_hid s4 n1, n1, upd_same, (rp.mono (ex.g.trans e4.g)).app (.cons r4 .nil), by simp [zl], fun z hz => by
      rcases List.mem_append.mp hz with h | h
      · exact zP z h
      · rw [List.mem_singleton.mp h]; exact pe⟩
  · have e : i = xs.length := by omega
    subst e
    refine .inl ⟨it.stop G H eg.g sb, q _ (.lst zs) (upd G Dl (.lst ys)) H ⟨zs, rfl, zl, zP⟩ ⟨eg.g.trans (Ex.new gd) |> e1.g.trans, (e1.trans eg).h, fun b hb hn => ?_, (e1.trans eg).t, (e1.trans eg).dr⟩ (fun b u e => ?_) (.lst upd_same (rp.mono (Ex.new gd)))⟩
    · have h1 : H1 b ≠ none := e1.t b hb
      rw [upd_ne (fun z => h1 (by rw [z]; exact hDl))]
      exact (e1.trans eg).n b hb hn
    · by_cases hb : b = Dl
      · subst hb; rw [upd_same] at e; rw [hd, e]
      · rw [upd_ne hb] at e; exact sb b u e
end
/-! ### defs that draw -/
def spD {α : Type} (K : PySem.W.Frag) (args : α → List D) (pre : α → Prop) (R : α → D → Prop) : Sp := fun vs H Q E => ∃ G a b sc us, Ex G H ∧ vs = .ref b :: us ∧ Reps K G us (args a) ∧ pre a ∧ G b = none ∧ DrawsOk H b sc ∧
  ∀ d, R a d → ∀ u G1 H1, Ext (some (b, sc)) G H G1 H1 → Ex G1 H1 → Rep K G1 u d → Q u H1
theorem spD_len {α : Type} {K : PySem.W.Frag} {args : α → List D} {pre : α → Prop} {R : α → D → Prop} {k : Nat} (hk : ∀ a, (args a).length + 1 = k) : ∀ vs H Q E, spD K args pre R vs H Q E → vs.length = k := fun vs H Q E h => by
  obtain ⟨G, a, b, sc, us, _, e, r, _⟩ := h
  rw [e, List.length_cons, r.len, hk]
theorem en_draw {α : Type} {args : α → List D} {pre : α → Prop} {R : α → D → Prop} {c : Ctx} {ds : Fm} {tr : TA} {xs : List D} {i : Nat} {a : α} {E : XK} (hx : ds[i]? = some .drw) (h : Ea c tr ds xs) (he : xs = args a) (hp : pre a) :
    En c (tCall (spD c.K args pre R) [] E (tCons (tVar i) tr)) ds (R a) := fun G H σ at' Q q => by
  obtain ⟨b, sc, h1, h2, h3, h4⟩ := at'.fr.ok i _ hx
  refine ⟨_, h2, h G H σ at' _ fun us G1 H1 e1 s1 r1 => ?_⟩
  subst he
  rw [List.append_nil]
  have nb : H b ≠ none := by obtain ⟨_, _, _, _, z, _⟩ := h4; rw [z]; simp
  refine ⟨G1, a, b, sc, us, s1, rfl, r1, hp, e1.n b nb h3, e1.dr b sc h1 h4, fun d hd u G2 H2 e2 s2 r2 => q u d G2 H2 hd (e1.trans (by rw [h1]; exact e2)) s2 r2⟩
theorem go_draw {α : Type} {K : PySem.W.Frag} {args : α → List D} {pre : α → Prop} {R : α → D → Prop} {N : List Str} {t : TS} {vs : List V} {H : Hp} {Q : VK} {E : XK} (h : spD K args pre R vs H Q E)
    (k : ∀ (a : α) (l : Option (Addr × Addr)) (W : Addr → Prop), pre a → St ⟨K, l, E, W, fun _ => False⟩ t { nx := fun _ => R a .non, rt := R a } (.drw :: ((args a).map Sl.v ++ List.replicate (N.length - 1 - (args a).length) Sl.no))) (hN : 0 < N.length) :
    t { nx := fun _ H' => Q .non H', rt := Q } (L2.start N vs) H := by
  obtain ⟨G, a, b, sc, us, s, rfl, r, hp, gb, hd, h1⟩ := h
  have nb : H b ≠ none := by obtain ⟨_, _, _, _, z, _⟩ := id hd; rw [z]; simp
  have nsc : H sc ≠ none := by obtain ⟨_, _, _, _, _, z, _⟩ := id hd; rw [z]; simp
  have up : ∀ {G' H'}, Exs ⟨K, some (b, sc), E, fun b => H b ≠ none, fun _ => False⟩ G H G' H' → Ext (some (b, sc)) G H G' H' := fun e =>
    ⟨e.g, fun x o hx q => e.h x o (by show H x ≠ none; rw [q]; simp) (fun z => z) hx q, fun b q z => e.n b q q z, e.t, e.dr⟩
  refine k a (some (b, sc)) (fun b => H b ≠ none) hp G H _ ⟨s, ?_, fun x y z => ?_, fun b z => z⟩ _ ⟨fun G' H' σ ds x a' z => h1 _ z .non G' H' (up x) a'.sub .non, fun G' H' v d x s' r' z => h1 d z v G' H' (up x) s' r', fun _ _ _ _ _ _ z => z.elim, fun _ _ _ _ _ _ z => z.elim, fun _ _ _ _ _ _ z => z.elim, fun _ _ _ _ _ _ _ _ _ z => z.elim, fun _ _ _ _ _ _ _ z => z.elim⟩
  · obtain ⟨N0, Nr, rfl⟩ : ∃ a l, N = a :: l := by cases N with | nil => simp at hN | cons a l => exact ⟨a, l, rfl⟩
    have f := slots (c := ⟨K, some (b, sc), E, fun b => H b ≠ none, fun _ => False⟩) (N := Nr) s r
    have e : L2.start (N0 :: Nr) (.ref b :: us) = some (.ref b) :: L2.start Nr us := by unfold L2.start; simp
    rw [e]
    refine ⟨?_, fun i s' hs => ?_, fun i j b ys zs hij hi hj e1 e2 => ?_⟩
    · have := f.len; simp only [List.length_cons, Nat.add_sub_cancel]; omega
    · cases i with
      | zero =>
        simp at hs
        subst hs
        exact ⟨b, sc, rfl, rfl, gb, hd⟩
      | succ i => exact f.ok i s' (by simpa using hs)
    · cases i with
      | zero => simp at hi
      | succ i => cases j with
        | zero => simp at hj
        | succ j => exact f.ap i j b ys zs (by omega) (by simpa using hi) (by simpa using hj) (by simpa using e1) (by simpa using e2)
  · have z' : (b, sc) = (x, y) := Option.some.inj z
    cases z'
    exact ⟨nb, gb, nsc⟩

/-! ### lists that a frame owns -/
section
variable {c : Ctx} {ds : Fm} {n : DE} {te ta tl : TE} {x d : D} {xs : List D} {i : Nat}
/-- x = [..]: a list of the frame's own -/
theorem Fr.own {G H : Hp} {σ : L2.St} {a : Addr} {vs : List V} (f : Fr c G H σ ds) (hi : i < ds.length) (hg : G a = none) (hh : H a = some (.lst vs)) (r : Reps c.K G vs xs) (hl : NotL c.l a) (hw : ¬ c.W a) (hq : NotI c.l a)
    (new : ∀ (j : Nat) ys, ds[j]? = some (.own ys) → σ[j]? ≠ some (some (.ref a))) : Fr c G H (σ.set i (some (.ref a))) (ds.set i (.own xs)) := by
  refine ⟨by simp [f.len], fun j s h => ?_, fun j k b ys zs hjk hj hk e1 e2 => ?_⟩
  · by_cases hj : i = j
    · subst hj
      rw [List.getElem?_set_self hi] at h
      cases h
      rw [List.getElem?_set_self (by rw [f.len]; exact hi)]
      exact ⟨a, vs, rfl, hg, hh, r, hl, hw, hq⟩
    · rw [List.getElem?_set_ne hj] at h ⊢
      exact f.ok j s h
  · by_cases nj : i = j
    · subst nj
      rw [List.getElem?_set_self (by rw [f.len]; exact hi)] at e1
      have e1' : V.ref a = V.ref b := Option.some.inj (Option.some.inj e1)
      cases e1'
      rw [List.getElem?_set_ne hjk] at hk e2
      exact new k zs hk e2
    · rw [List.getElem?_set_ne nj] at hj e1
      by_cases nk : i = k
      · subst nk
        rw [List.getElem?_set_self (by rw [f.len]; exact hi)] at e2
        have e2' : V.ref a = V.ref b := Option.some.inj (Option.some.inj e2)
        cases e2'
        exact new j ys hj e1
      · rw [List.getElem?_set_ne nk] at hk e2
        exact f.ap j k b ys zs hjk hj hk e1 e2
theorem st_own {ta : TA} (h : Ea c ta ds xs) (hz : xs.length ≤ 1000000) (hi : i < ds.length) (k : n.nx (ds.set i (.own xs))) : St c (tAsg (tLst ta) (gName i)) n ds := fun G H σ a E l => h G H σ a _ fun vs G1 H1 e1 s1 r1 => by
  refine ⟨by rw [r1.len]; exact sz_of hz, fun p hp => ?_⟩
  have a1 := a.go e1 s1
  have hg : G1 p = none := sub_none s1 hp
  have e2 : Ext c.l G1 H1 G1 (upd H1 p (.lst vs)) := Ext.refl.mut hp
  have a2 := a1.go e2 (sub_hid s1 hg)
  have hne : NotL c.l p := fun y z => (a1.lk p y z).1 hp
  refine l.nx G1 _ _ _ (e1.trans e2).s ⟨a2.sub, a2.fr.own hi hg upd_same r1 hne (fun w => a1.tr p w hp) (fun b z => (a1.lk b p z).2.2 hp) fun j ys hj e => ?_, a2.lk, a2.tr⟩ k
  obtain ⟨b, ws, q1, _, q3, _⟩ := a1.fr.ok j _ hj
  rw [e] at q1
  have q : V.ref p = V.ref b := Option.some.inj (Option.some.inj q1)
  cases q
  rw [hp] at q3; cases q3
/-- own.append(e) -/
theorem sn_app {P : D → Prop} (hx : ds[i]? = some (.own xs)) (h : En c te ds P) (hz : xs.length < 1000000) (k : ∀ d, P d → n.nx (ds.set i (.own (xs ++ [d])))) (nr : ds.any isRdr = false := by rfl) : St c (tDrop (tBM c.K "list" rAppend (tVar i) (tCons te tNil))) n ds := fun G H σ a E l => by
  obtain ⟨p, vs, h1, h2, h3, h4, h5, h6, h7⟩ := a.fr.ok i _ hx
  refine ⟨_, h1, .inl ⟨rfl, _, SqL.of h3⟩, h G H σ a _ fun v d G1 H1 pd e1 s1 r1 => ?_⟩
  have a1 := a.go e1 s1
  obtain ⟨p', vs', k1, k2, k3, k4, k5, k6, k7⟩ := a1.fr.ok i _ hx
  rw [h1] at k1
  have q : V.ref p = V.ref p' := Option.some.inj (Option.some.inj k1)
  cases q
  refine ⟨p, vs', v, rfl, rfl, k3, sz_lt (by rw [k4.len]; exact hz), ?_⟩
  have hi : i < ds.length := (List.getElem?_eq_some_iff.mp hx).1
  have dr : ∀ b b', c.l = some (b, b') → DrawsOk H1 b b' → DrawsOk (upd H1 p (.lst (vs' ++ [v]))) b b' := fun b b' hb q => by
    obtain ⟨ns, i', j, s, q1, q2, r⟩ := q
    have nb : b ≠ p := fun z => k5 b' (by rw [← z]; exact hb)
    have nb' : b' ≠ p := fun z => k7 b (by rw [← z]; exact hb)
    exact ⟨ns, i', j, s, by rw [upd_ne nb]; exact q1, by rw [upd_ne nb']; exact q2, r⟩
  have ht : ∀ b, H1 b ≠ none → upd H1 p (.lst (vs' ++ [v])) b ≠ none := fun b q => by
    by_cases hb : b = p
    · subst hb; rw [upd_same]; simp
    · rw [upd_ne hb]; exact q
  have ex : Exs c G1 H1 G1 (upd H1 p (.lst (vs' ++ [v]))) :=
    ⟨Ex.refl _, fun b o w _ _ q => by rw [upd_ne (fun z => k6 (by rw [← z]; exact w))]; exact q, fun b _ _ q => q, ht, dr⟩
  refine l.nx G1 _ σ _ (e1.s.trans ex) ⟨sub_hid s1 k2, ⟨by rw [List.length_set]; exact a1.fr.len, fun j s hs => ?_, fun j j' b ys zs hjj hj hj' e2 e3 => ?_⟩, fun b y hb => ⟨ht b (a1.lk b y hb).1, (a1.lk b y hb).2.1, ht y (a1.lk b y hb).2.2⟩, fun b w => ht b (a1.tr b w)⟩ (k d pd)
  · by_cases hj : i = j
    · subst hj
      rw [List.getElem?_set_self hi] at hs
      cases hs
      exact ⟨p, vs' ++ [v], h1, k2, upd_same, k4.app (.cons r1 .nil), k5, k6, k7⟩
    · rw [List.getElem?_set_ne hj] at hs
      have o := a1.fr.ok j s hs
      cases s with
      | no => trivial
      | v d => exact o
      | own ys =>
        obtain ⟨a', ws, o1, o2, o3, o4, o5, o6, o7⟩ := o
        have na : a' ≠ p := fun z => a1.fr.ap i j p xs ys hj hx hs h1 (by rw [← z]; exact o1)
        exact ⟨a', ws, o1, o2, by rw [upd_ne na]; exact o3, o4, o5, o6, o7⟩
      | drw =>
        obtain ⟨b, b', o1, o2, o3, o4⟩ := o
        exact ⟨b, b', o1, o2, o3, dr b b' o1 o4⟩
      | rdr w p' q' dx' C' d' ys => exact absurd (List.any_eq_true.mpr ⟨_, List.mem_of_getElem? hs, rfl⟩) (by rw [nr]; simp)
      | self p' dx C ns ys =>
        obtain ⟨fs, o1, o2, o3, o4⟩ := o
        have na : p' ≠ p := fun z => by rw [z, k3] at o3; cases o3
        exact ⟨fs, o1, o2, by rw [upd_ne na]; exact o3, o4⟩
  · by_cases hj1 : i = j
    · subst hj1
      rw [List.getElem?_set_ne hjj] at hj'
      exact a1.fr.ap i j' b xs zs hjj hx hj' e2 e3
    · rw [List.getElem?_set_ne hj1] at hj
      by_cases hj2 : i = j'
      · subst hj2
        exact a1.fr.ap j i b ys xs hjj hj hx e2 e3
      · rw [List.getElem?_set_ne hj2] at hj'
        exact a1.fr.ap j j' b ys zs hjj hj hj' e2 e3
theorem st_app (hx : ds[i]? = some (.own xs)) (h : Ee c te ds d) (hz : xs.length < 1000000) (k : n.nx (ds.set i (.own (xs ++ [d])))) (nr : ds.any isRdr = false := by rfl) : St c (tDrop (tBM c.K "list" rAppend (tVar i) (tCons te tNil))) n ds :=
  sn_app hx (en_of h) hz (fun d' e => by subst e; exact k) nr
/-- what is owned is known from now on -/
theorem st_frz {t : TS} (hx : ds[i]? = some (.own xs)) (k : St c t n (ds.set i (.v (.lst xs)))) (nr : ds.any isRdr = false := by rfl) : St c t n ds := fun G H σ a E l => by
  obtain ⟨p, vs, h1, h2, h3, h4, h5, h6, h7⟩ := a.fr.ok i _ hx
  have hi : i < ds.length := (List.getElem?_eq_some_iff.mp hx).1
  have gx : Ex G (upd G p (.lst vs)) := Ex.new h2
  have ne : ∀ b o, H b = some o → o ≠ .lst vs → b ≠ p := fun b o hb ho z => by rw [z, h3] at hb; exact ho (Option.some.inj hb).symm
  refine k (upd G p (.lst vs)) H σ ⟨fun b u e => ?_, ⟨by rw [List.length_set]; exact a.fr.len, fun j s hs => ?_, fun j j' b ys zs hjj hj hj' e2 e3 => ?_⟩, fun b y hb => ⟨(a.lk b y hb).1, ?_, (a.lk b y hb).2.2⟩, a.tr⟩ E (l.go ⟨gx, fun _ _ _ _ _ q => q, fun b w _ q => ?_, fun _ q => q, fun _ _ _ q => q⟩)
  · by_cases hb : b = p
    · subst hb; rw [upd_same] at e; rw [h3, e]
    · rw [upd_ne hb] at e; exact a.sub b u e
  · by_cases hj : i = j
    · subst hj
      rw [List.getElem?_set_self hi] at hs
      cases hs
      exact ⟨.ref p, h1, .lst upd_same (h4.mono gx)⟩
    · rw [List.getElem?_set_ne hj] at hs
      have o := a.fr.ok j s hs
      cases s with
      | no => trivial
      | v d => obtain ⟨u, o1, o2⟩ := o; exact ⟨u, o1, o2.mono gx⟩
      | own ys =>
        obtain ⟨a', ws, o1, o2, o3, o4, o5⟩ := o
        have na : a' ≠ p := fun z => a.fr.ap i j p xs ys hj hx hs h1 (by rw [← z]; exact o1)
        exact ⟨a', ws, o1, by rw [upd_ne na]; exact o2, o3, o4.mono gx, o5⟩
      | drw =>
        obtain ⟨b, b', o1, o2, o3, o4⟩ := o
        have nb : b ≠ p := fun z => h5 b' (by rw [← z]; exact o1)
        exact ⟨b, b', o1, o2, by rw [upd_ne nb]; exact o3, o4⟩
      | rdr w p' q' dx' C' d' ys => exact absurd (List.any_eq_true.mpr ⟨_, List.mem_of_getElem? hs, rfl⟩) (by rw [nr]; simp)
      | self p' dx C ns ys =>
        obtain ⟨fs, o1, o2, o3, o4, o5, o6⟩ := o
        have na : p' ≠ p := fun z => by rw [z, h3] at o3; cases o3
        exact ⟨fs, o1, by rw [upd_ne na]; exact o2, o3, o4, o5.mono gx, o6⟩
  · have nj : i ≠ j := fun z => by subst z; rw [List.getElem?_set_self hi] at hj; cases hj
    have nj' : i ≠ j' := fun z => by subst z; rw [List.getElem?_set_self hi] at hj'; cases hj'
    rw [List.getElem?_set_ne nj] at hj
    rw [List.getElem?_set_ne nj'] at hj'
    exact a.fr.ap j j' b ys zs hjj hj hj' e2 e3
  · rw [upd_ne (fun z => h5 y (by rw [← z]; exact hb))]; exact (a.lk b y hb).2.1
  · rw [upd_ne (fun z => h6 (by rw [← z]; exact w))]; exact q
end

/-! ### instances under way -/
def isSelf : Sl → Bool
  | .self _ _ _ _ _ => true
  | _ => false
section
variable {c : Ctx} {ds : Fm} {n : DE} {te ta tl : TE} {x d : D} {xs : List D} {i : Nat} {p dx C : Addr} {ns : List Str} {f : Str}
theorem putF_new {y : V} : ∀ {fs : List (Str × V)}, f ∉ fs.map (·.1) → putF f y fs = fs ++ [(f, y)]
  | [], _ => rfl
  | (g, u) :: fs, h => by
    simp only [List.map_cons, List.mem_cons, not_or] at h
    unfold putF
    rw [if_neg (fun z => h.1 z.symm), putF_new h.2]; rfl
theorem st_put (hx : ds[i]? = some (.self p dx C ns xs)) (h : Ee c te ds d) (hc : Cls c.K C) (hn : NoAttr c.K C f) (hf : f ∉ ns) (hz : ns.length < 1000) (k : n.nx (ds.set i (.self p dx C (ns ++ [f]) (xs ++ [d])))) (one : ds.map isSelf = (List.replicate ds.length false).set i true := by rfl) (nr : ds.any isRdr = false := by rfl) : St c (sFld c.K (tVar i) te f) n ds := fun G H σ a E l => h G H σ a _ fun v G1 H1 e1 s1 r1 => by
  have a1 := a.go e1 s1
  obtain ⟨fs, h1, h2, h3, h4, h5, h6, h7⟩ := a1.fr.ok i _ hx
  subst h4
  have hi : i < ds.length := (List.getElem?_eq_some_iff.mp hx).1
  refine ⟨_, h1, p, C, dx, fs, rfl, h3, hc, hn, by simpa using hz, ?_⟩
  rw [putF_new hf]
  have dr : ∀ b b', c.l = some (b, b') → DrawsOk H1 b b' → DrawsOk (upd H1 p (.ins C dx (fs ++ [(f, v)]))) b b' := fun b b' hb q => by
    obtain ⟨ns, i', j, s, q1, q2, r⟩ := q
    have nb : b ≠ p := fun z => by rw [z, h3] at q1; cases q1
    have nb' : b' ≠ p := fun z => by rw [z, h3] at q2; cases q2
    exact ⟨ns, i', j, s, by rw [upd_ne nb]; exact q1, by rw [upd_ne nb']; exact q2, r⟩
  have ht : ∀ b, H1 b ≠ none → upd H1 p (.ins C dx (fs ++ [(f, v)])) b ≠ none := fun b q => by
    by_cases hb : b = p
    · subst hb; rw [upd_same]; simp
    · rw [upd_ne hb]; exact q
  have ex : Exs c G1 H1 G1 (upd H1 p (.ins C dx (fs ++ [(f, v)]))) :=
    ⟨Ex.refl _, fun b o w m _ q => by rw [upd_ne (fun z => m (by rw [z]; exact h7))]; exact q, fun b _ _ q => q, ht, dr⟩
  refine l.nx G1 _ σ _ (e1.s.trans ex) ⟨sub_hid s1 h2, ⟨by rw [List.length_set]; exact a1.fr.len, fun j s hs => ?_, fun j j' b ys zs hjj hj hj' e2 e3 => ?_⟩, fun b y hb => ⟨ht b (a1.lk b y hb).1, (a1.lk b y hb).2.1, ht y (a1.lk b y hb).2.2⟩, fun b w => ht b (a1.tr b w)⟩ k
  · by_cases hj : i = j
    · subst hj
      rw [List.getElem?_set_self hi] at hs
      cases hs
      exact ⟨fs ++ [(f, v)], h1, h2, upd_same, by simp, by rw [List.map_append]; exact h5.app (.cons r1 .nil), h6, h7⟩
    · rw [List.getElem?_set_ne hj] at hs
      have o := a1.fr.ok j s hs
      cases s with
      | no => trivial
      | v d => exact o
      | own ys =>
        obtain ⟨a', ws, o1, o2, o3, o4⟩ := o
        have na : a' ≠ p := fun z => by rw [z, h3] at o3; cases o3
        exact ⟨a', ws, o1, o2, by rw [upd_ne na]; exact o3, o4⟩
      | drw =>
        obtain ⟨b, b', o1, o2, o3, o4⟩ := o
        exact ⟨b, b', o1, o2, o3, dr b b' o1 o4⟩
      | rdr w p' q' dx' C' d' ys =>
        exact absurd (List.any_eq_true.mpr ⟨_, List.mem_of_getElem? hs, rfl⟩) (by rw [nr]; simp)
      | self p' dx' C' ns' ys =>
        exfalso
        have q := congrArg (fun l : List Bool => l[j]?) one
        rw [List.getElem?_map, hs, List.getElem?_set_ne hj, List.getElem?_replicate] at q
        split at q <;> simp [isSelf] at q
  · have nj : i ≠ j := fun z => by subst z; rw [List.getElem?_set_self hi] at hj; cases hj
    have nj' : i ≠ j' := fun z => by subst z; rw [List.getElem?_set_self hi] at hj'; cases hj'
    rw [List.getElem?_set_ne nj] at hj
    rw [List.getElem?_set_ne nj'] at hj'
    exact a1.fr.ap j j' b ys zs hjj hj hj' e2 e3
end

/-! ### classes of the text: made by __init__ -/
structure HasI (K : PySem.W.Frag) (C : Addr) (qual : Str) (st : Stmt) (ps : List Str) : Prop where
  ex : ∃ f fd, Fun K "__init__" qual st f fd ∧ Mk K C f ∧ Binds K fd ps []
structure OkI (P : Program) (w : World) (K : PySem.W.Frag) (mg : Str → Option Value) (base : Heap) (CX : CXT) (k : Nat) (C : Addr) (ps : List Str) (sp : Sp) : Prop where
  ex : ∃ f fd, FnOk P w K mg base CX k f fd ps sp ∧ Mk K C f ∧ Binds K fd ps []
theorem HasI.ok {P : Program} {w : World} {K : PySem.W.Frag} {mg : Str → Option Value} {base : Heap} {qual : Str} {st : Stmt} {ps N : List Str} {k : Nat} {C : Addr} {sp : Sp} (h : HasI K C qual st ps) (S : FnScope N ps (defScope st)) (len : ∀ vs H Q E, sp vs H Q E → vs.length = ps.length)
    (hbody : ∀ (f : Addr) (cdv : Value) (A : Around) (outer : List Env) (s : Shared) (H : Hp) (vs : List V) (Q : VK) (E : XK), Room k (A.deeper (envOfC qual (defScope st) s.heap.objs.size f cdv)) → sp vs H Q E →
      ∃ t, PSs (cxOf CX0 P w K mg base N qual (defScope st) f cdv A outer s H E).nox (defBody st) t ∧ t { nx := fun _ H' => Q .non H', rt := Q } (L2.start N vs) H) : OkI P w K mg base CX0 (k + 1) C ps sp := by
  obtain ⟨f, fd, F, m, b⟩ := h.ex
  exact ⟨f, fd, F.ok S len (hbody f), m, b⟩
theorem HasI.okX {P : Program} {w : World} {K : PySem.W.Frag} {mg : Str → Option Value} {base : Heap} {qual : Str} {st : Stmt} {ps N : List Str} {k : Nat} {C : Addr} {sp : Sp} (h : HasI K C qual st ps) (S : FnScope N ps (defScope st)) (len : ∀ vs H Q E, sp vs H Q E → vs.length = ps.length)
    (hbody : ∀ (f : Addr) (cdv : Value) (A : Around) (outer : List Env) (s : Shared) (H : Hp) (vs : List V) (Q : VK) (E : XK), Room k (A.deeper (envOfC qual (defScope st) s.heap.objs.size f cdv)) → sp vs H Q E →
      ∃ t, PSs (cxOf (L2.CX P w) P w K mg base N qual (defScope st) f cdv A outer s H E) (defBody st) t ∧ t { nx := fun _ H' => Q .non H', rt := Q } (L2.start N vs) H) : OkI P w K mg base (L2.CX P w) (k + 1) C ps sp := by
  obtain ⟨f, fd, F, m, b⟩ := h.ex
  exact ⟨f, fd, F.okX S len (hbody f), m, b⟩
theorem pe_makeH {X : Cx} {CX : CXT} {k : Nat} {C : Addr} {x : Str} {ps : List Str} {sp : Sp} {E : XK} {p pos : Pos} {e : Expr} {es : List Expr} {t : TA} (h : OkI X.prog X.w X.K X.mg X.base CX k C ps sp) (hm : X.mg x = some (.ref C)) (hr : Room (k + 1) X.A) (hg : Gl X x) (hx : Passes CX X E) (ha : PA X (e :: es) t) (hdb : (x == ("__debug__" : Str)) = false := by decide)
    (he : starEach (e :: es) X.env = (false, eval e X.env) :: starEach es X.env := by rfl) (hpl : (backTo pos (starEach es X.env)).any (·.1) = false := by rfl) : PE X (.Call (.Name x p) (e :: es) [] pos) (tMake C sp [] E t) := by
  obtain ⟨f, fd, G, m, b⟩ := h.ex
  exact pe_make m G hr hg hm b .nil hx ha hdb he hpl
/-- what an __init__ makes of its instance, or how it refuses -/
inductive Mkr where
  | ok (ns : List Str) (xs : List D) | err (C : Addr)
def spI {α : Type} (K : PySem.W.Frag) (C : Addr) (args : α → List D) (pre : α → Prop) (res : α → Mkr) : Sp := fun vs H Q E => ∃ G a p dx us, Ex G H ∧ vs = .ref p :: us ∧ Reps K G us (args a) ∧ pre a ∧ G p = none ∧ H p = some (.ins C dx []) ∧
  (∀ ns xs, res a = .ok ns xs → ∀ G1 H1 fs, Exs ⟨K, none, E, fun b => H b ≠ none, fun b => b = p⟩ G H G1 H1 → Ex G1 H1 → H1 p = some (.ins C dx fs) → fs.map (·.1) = ns → Reps K G1 (fs.map (·.2)) xs → G1 p = none → Q .non H1) ∧
  ∀ C', res a = .err C' → ∀ G1 H1, Exs ⟨K, none, E, fun b => H b ≠ none, fun b => b = p⟩ G H G1 H1 → Ex G1 H1 → E (.ref C') none H1
theorem spI_len {α : Type} {K : PySem.W.Frag} {C : Addr} {args : α → List D} {pre : α → Prop} {res : α → Mkr} {k : Nat} (hk : ∀ a, (args a).length + 1 = k) : ∀ vs H Q E, spI K C args pre res vs H Q E → vs.length = k := fun vs H Q E h => by
  obtain ⟨G, a, p, dx, us, _, e, r, _⟩ := h
  rw [e, List.length_cons, r.len, hk]
theorem go_init {α : Type} {K : PySem.W.Frag} {C : Addr} {args : α → List D} {pre : α → Prop} {res : α → Mkr} {N : List Str} {t : TS} {vs : List V} {H : Hp} {Q : VK} {E : XK} (h : spI K C args pre res vs H Q E)
    (k : ∀ (a : α) (W M : Addr → Prop) (p dx : Addr), pre a → St ⟨K, none, E, W, M⟩ t { nx := fun ds => ∃ ns xs, res a = .ok ns xs ∧ ds[0]? = some (.self p dx C ns xs), rt := fun _ => False, er := fun C' o => ∃ D', C' = .ref D' ∧ o = none ∧ res a = .err D' } (.self p dx C [] [] :: ((args a).map Sl.v ++ List.replicate (N.length - 1 - (args a).length) Sl.no))) (hN : 0 < N.length) :
    t { nx := fun _ H' => Q .non H', rt := Q } (L2.start N vs) H := by
  obtain ⟨G, a, p, dx, us, s, rfl, r, hp, gp, h0, h1, h2⟩ := h
  refine k a (fun b => H b ≠ none) (fun b => b = p) p dx hp G H _ ⟨s, ?_, fun b _ z => (nomatch z), fun b z => z⟩ _ ⟨fun G' H' σ ds x a' z => ?_, fun _ _ _ _ _ _ _ z => z.elim, fun _ _ _ _ _ _ z => z.elim, fun _ _ _ _ _ _ z => z.elim, fun G' H' C o x s' z => ?_, fun _ _ _ _ _ _ _ _ _ z => z.elim, fun _ _ _ _ _ _ _ z => z.elim⟩
  · obtain ⟨N0, Nr, rfl⟩ : ∃ a l, N = a :: l := by cases N with | nil => simp at hN | cons a l => exact ⟨a, l, rfl⟩
    have f := slots (c := ⟨K, none, E, fun b => H b ≠ none, fun b => b = p⟩) (N := Nr) s r
    have e : L2.start (N0 :: Nr) (.ref p :: us) = some (.ref p) :: L2.start Nr us := by unfold L2.start; simp
    rw [e]
    refine ⟨?_, fun i s' hs => ?_, fun i j b ys zs hij hi hj e1 e2 => ?_⟩
    · have := f.len; simp only [List.length_cons, Nat.add_sub_cancel]; omega
    · cases i with
      | zero =>
        simp at hs
        subst hs
        exact ⟨[], rfl, gp, h0, rfl, .nil, fun _ z => (nomatch z), rfl⟩
      | succ i => exact f.ok i s' (by simpa using hs)
    · cases i with
      | zero => simp at hi
      | succ i => cases j with
        | zero => simp at hj
        | succ j => exact f.ap i j b ys zs (by omega) (by simpa using hi) (by simpa using hj) (by simpa using e1) (by simpa using e2)
  · obtain ⟨ns, xs, e1, e2⟩ := z
    obtain ⟨fs, o1, o2, o3, o4, o5, _⟩ := a'.fr.ok 0 _ e2
    exact h1 ns xs e1 G' H' fs x a'.sub o3 o4 o5 o2
  · obtain ⟨D', rfl, rfl, e⟩ := z
    exact h2 D' e G' H' x s'
section
variable {α : Type} {args : α → List D} {pre : α → Prop} {res : α → Mkr} {c : Ctx} {ds : Fm} {ta : TA} {a : α} {C : Addr} {ns : List Str} {ys xs : List D} {n : DE}
theorem mk_run {E : XK} {G1 H1 : Hp} {vs : List V} (Q : VK) (s1 : Ex G1 H1) (r1 : Reps c.K G1 vs (args a)) (hp : pre a)
    (h1 : ∀ ns ys, res a = .ok ns ys → ∀ x G2 H2, Ext none G1 H1 G2 H2 → Ex G2 H2 → Rep c.K G2 (.ref x) (.obj C ns ys) → Q (.ref x) H2) (h2 : ∀ C', res a = .err C' → ∀ G2 H2, Ext none G1 H1 G2 H2 → Ex G2 H2 → E (.ref C') none H2) :
    ∀ x dx, H1 x = none → H1 dx = none → dx ≠ x → spI c.K C args pre res (.ref x :: (vs ++ [])) (upd (upd H1 dx (.own x)) x (.ins C dx [])) (fun v H2 => v = .non ∧ Q (.ref x) H2) E := fun x dx nx nd ne => by
  rw [List.append_nil]
  have gx : G1 x = none := sub_none s1 nx
  have gd : G1 dx = none := sub_none s1 nd
  have h12 : ∀ b o, H1 b = some o → (upd (upd H1 dx (.own x)) x (.ins C dx [])) b = some o := fun b o e => by rw [upd_ne (ne_of_none e nx), upd_ne (ne_of_none e nd)]; exact e
  have sub : Ex G1 (upd (upd H1 dx (.own x)) x (.ins C dx [])) := fun b o e => h12 b o (s1 b o e)
  have up : ∀ {G2 H2}, Exs ⟨c.K, none, E, fun b => (upd (upd H1 dx (.own x)) x (.ins C dx [])) b ≠ none, fun b => b = x⟩ G1 (upd (upd H1 dx (.own x)) x (.ins C dx [])) G2 H2 → Ext none G1 H1 G2 H2 := fun e => by
    refine ⟨e.g, fun b o _ q => ?_, fun b q z => ?_, fun b q => ?_, fun b _ z => (nomatch z)⟩
    · exact e.h b o (by show _ ≠ none; rw [h12 b o q]; simp) (fun z => (ne_of_none q nx) z) (fun _ z => nomatch z) (h12 b o q)
    · have w : (upd (upd H1 dx (.own x)) x (.ins C dx [])) b ≠ none := by
        cases q' : H1 b with
        | none => exact absurd q' q
        | some o => rw [h12 b o q']; simp
      exact e.n b w w z
    · cases q' : H1 b with
      | none => exact absurd q' q
      | some o => exact e.t b (by rw [h12 b o q']; simp)
  refine ⟨G1, a, x, dx, vs, sub, rfl, r1, hp, gx, upd_same, fun ns ys hr G2 H2 fs e2 s2 hx en r2 g2 => ⟨rfl, ?_⟩, fun C' hr G2 H2 e2 s2 => h2 C' hr G2 H2 (up e2) s2⟩
  -- the instance becomes known
  have e3 := up e2
  have gg : Ex G2 (upd G2 x (.ins C dx fs)) := Ex.new g2
  refine h1 ns ys hr x (upd G2 x (.ins C dx fs)) H2 ⟨e3.g.trans gg, e3.h, fun b q z => ?_, e3.t, e3.dr⟩ (fun b u e => ?_) (.obj upd_same en (r2.mono gg))
  · rw [upd_ne (fun z' => q (by rw [z']; exact nx))]; exact e3.n b q z
  · by_cases hb : b = x
    · subst hb; rw [upd_same] at e; rw [hx, e]
    · rw [upd_ne hb] at e; exact s2 b u e
theorem ee_make {E : XK} (h : Ea c ta ds xs) (hx : xs = args a) (hp : pre a) (hr : res a = .ok ns ys) : Ee c (tMake C (spI c.K C args pre res) [] E ta) ds (.obj C ns ys) := fun G H σ at' Q q =>
  h G H σ at' _ fun vs G1 H1 e1 s1 r1 => by
    subst hx
    exact mk_run Q s1 r1 hp (fun ns' ys' z x G2 H2 e2 s2 r2 => by rw [hr] at z; cases z; exact q _ G2 H2 (e1.trans e2.all) s2 r2) (fun C' z => by rw [hr] at z; cases z)
/-- C(..) as a statement, that may raise -/
theorem st_make (h : Ea c ta ds xs) (hx : xs = args a) (hp : pre a) (h1 : ∀ ns ys, res a = .ok ns ys → n.nx ds) (h2 : ∀ C', res a = .err C' → n.er (.ref C') none) : St c (tDrop (tMake C (spI c.K C args pre res) [] c.X ta)) n ds := fun G H σ at' E l =>
  h G H σ at' _ fun vs G1 H1 e1 s1 r1 => by
    subst hx
    exact mk_run (fun _ H2 => E.nx σ H2) s1 r1 hp (fun ns' ys' z x G2 H2 e2 s2 r2 => l.nx G2 H2 σ ds (e1.trans e2.all).s (at'.go (e1.trans e2.all) s2) (h1 _ _ z)) (fun C' z G2 H2 e2 s2 => l.er G2 H2 (.ref C') none (e1.trans e2.all).s s2 (h2 C' z))
/-- .. returned -/
theorem st_retmake (h : Ea c ta ds xs) (hx : xs = args a) (hp : pre a) (h1 : ∀ ns ys, res a = .ok ns ys → n.rt (.obj C ns ys)) (h2 : ∀ C', res a = .err C' → n.er (.ref C') none) : St c (tRet (tMake C (spI c.K C args pre res) [] c.X ta)) n ds := fun G H σ at' E l =>
  h G H σ at' _ fun vs G1 H1 e1 s1 r1 => by
    subst hx
    exact mk_run E.rt s1 r1 hp (fun ns' ys' z x G2 H2 e2 s2 r2 => l.rt G2 H2 _ _ (e1.trans e2.all).s s2 r2 (h1 _ _ z)) (fun C' z G2 H2 e2 s2 => l.er G2 H2 (.ref C') none (e1.trans e2.all).s s2 (h2 C' z))
end

/-! ### isinstance -/
mutual
def plainD : D → Bool
  | .lst xs => plainL xs
  | .tup xs => plainL xs
  | .obj _ _ _ => false
  | .ty _ => false
  | .cls _ => false
  | _ => true
def plainL : List D → Bool
  | [] => true
  | x :: xs => plainD x && plainL xs
end
def tyN : D → String
  | .non => "NoneType"
  | .bl _ => "bool"
  | .int _ => "int"
  | .str _ => "str"
  | .lst _ => "list"
  | .tup _ => "tuple"
  | _ => "object"
theorem tyx_of {K : PySem.W.Frag} {G H : Hp} {v : V} {x : D} (s : Ex G H) (r : Rep K G v x) (h : plainD x = true) : TyX K H v (.type (tyN x)) := by
  cases r with
  | non => exact .base .non
  | bl b => exact .base (.bl b)
  | int i => exact .base (.int i)
  | str y => exact .base (.str y)
  | lst e _ => exact .base (.lst (s _ _ e))
  | tup e _ =>
    have e' := ex_t s e
    rcases e' with (e' | ⟨o, e'⟩) | ⟨o, its, n, h1, h2, _⟩
    · exact .base (.tup e')
    · exact .fTuple e'
    · exact .kTuple h1 h2
  | obj _ _ _ => cases h
  | ty _ => cases h
  | cls _ => cases h
section
variable {K : PySem.W.Frag} {x : D}
theorem rc_isiT {n : String} {b : Bool} (hx : plainD x = true) (h : kitB (tyN x) n = some b) : Rc K (rIsi K) [x, .ty n] (.bl b) := fun G H vs s r Q t => by
  cases r with
  | cons r r' => cases r' with
    | cons r1 r2 =>
      cases r2; cases r1
      exact ⟨_, _, _, _, b, rfl, .ty n, tyx_of s r hx, kit_ty h, t.same s (.bl b)⟩
def isInt : D → Bool
  | .int _ => true
  | .bl _ => true
  | _ => false
def isBool : D → Bool
  | .bl _ => true
  | _ => false
def isStr : D → Bool
  | .str _ => true
  | _ => false
def isTup : D → Bool
  | .tup _ => true
  | _ => false
def isLst : D → Bool
  | .lst _ => true
  | _ => false
theorem rc_isInt (hx : plainD x = true) : Rc K (rIsi K) [x, .ty "int"] (.bl (isInt x)) := rc_isiT hx (by cases x <;> first | (cases hx; done) | (dsimp only [tyN, isInt, isBool, isStr, Dl.isTup, isLst]; decide +kernel))
theorem rc_isBool (hx : plainD x = true) : Rc K (rIsi K) [x, .ty "bool"] (.bl (isBool x)) := rc_isiT hx (by cases x <;> first | (cases hx; done) | (dsimp only [tyN, isInt, isBool, isStr, Dl.isTup, isLst]; decide +kernel))
theorem rc_isStr (hx : plainD x = true) : Rc K (rIsi K) [x, .ty "str"] (.bl (isStr x)) := rc_isiT hx (by cases x <;> first | (cases hx; done) | (dsimp only [tyN, isInt, isBool, isStr, Dl.isTup, isLst]; decide +kernel))
theorem rc_isTup (hx : plainD x = true) : Rc K (rIsi K) [x, .ty "tuple"] (.bl (Dl.isTup x)) := rc_isiT hx (by cases x <;> first | (cases hx; done) | (dsimp only [tyN, isInt, isBool, isStr, Dl.isTup, isLst]; decide +kernel))
theorem rc_isLst (hx : plainD x = true) : Rc K (rIsi K) [x, .ty "list"] (.bl (isLst x)) := rc_isiT hx (by cases x <;> first | (cases hx; done) | (dsimp only [tyN, isInt, isBool, isStr, Dl.isTup, isLst]; decide +kernel))
theorem rc_isDict (hx : plainD x = true) : Rc K (rIsi K) [x, .ty "dict"] (.bl false) := rc_isiT hx (by cases x <;> first | (cases hx; done) | (dsimp only [tyN, isInt, isBool, isStr, Dl.isTup, isLst]; decide +kernel))
end
/-! ### a sign among texts -/
theorem rb_inS {K : PySem.W.Frag} {s : Str} {ys : List Str} : Rb K (rInG K) (.str s) (.tup (ys.map D.str)) (.bl (ys.any fun y => y == s)) := fun G H v w sb r1 r2 Q t => by
  cases r1
  cases r2 with
  | tup e q =>
    have hv := q.strs
    subst hv
    refine ⟨_, _, rfl, .inr (ex_t sb e), rfl, ?_, ?_⟩
    · rw [List.all_map]; exact List.all_eq_true.mpr fun _ _ => rfl
    · have e' : inV (.str s) (ys.map V.str) = ys.any fun y => y == s := by unfold inV; rw [List.any_map]; rfl
      have := t.same (u := .bl (inV (.str s) (ys.map V.str))) sb (by rw [e']; exact .bl _)
      exact this
end Dl

/-! Dj: texts joined, lists unpacked, tuples of lists. -/
namespace Dl
open PySem L2 Evl PySem.Spec PyProof.Rows
section
variable {K : PySem.W.Frag} {c : Ctx} {ds ds' : Fm} {n : DE} {te ta tb : TE} {x y d : D} {xs : List D}
theorem join_bits : ∀ l : List Bool, Txt.join "" (l.map fun b => bs [b]) = bs l := fun l => by
  rw [TL.join_eq]
  induction l with
  | nil => rfl
  | cons b l ih =>
    cases l with
    | nil => rfl
    | cons b2 l =>
      show bs [b] ++ ("" : Str) ++ Str.join "" ((b2 :: l).map fun b => bs [b]) = _
      rw [ih, bs_nil, bs_app, bs_app]; rfl
theorem join_strs {ys : List Str} {s : Str} (hz : (ys.map (·.length)).sum + ys.length * s.length ≤ 16777216) : Rm K (rJoin K) (.str s) [.lst (ys.map D.str)] (.str (Txt.join s ys)) := fun G H v vs sb r1 r2 Q t => by
  cases r1
  cases r2 with
  | cons r2 r3 =>
    cases r3
    cases r2 with
    | lst e q =>
      have hv := q.strs
      subst hv
      exact ⟨_, _, ys, rfl, rfl, .inl (SqL.of (sb _ _ e)), hz, t.same sb (.str _)⟩
theorem sum_ones : ∀ l : List Bool, ((l.map fun b => bs [b]).map (·.length)).sum = l.length
  | [] => rfl
  | b :: l => by
    simp only [List.map_cons, List.sum_cons, List.length_cons] at *
    rw [sum_ones l, bs_len]; simp; omega
theorem rm_joinB {l : List Bool} (hz : l.length ≤ 1000000) : Rm K (rJoin K) (.str "") [.lst (l.map fun b => .str (bs [b]))] (.str (bs l)) := by
  have h := join_strs (K := K) (s := "") (ys := l.map fun b => bs [b]) (by
    have e0 : ("" : Str).length = 0 := by decide
    rw [sum_ones, e0]; omega)
  rw [join_bits, List.map_map] at h
  exact h
/-- bits joined, that are not determined -/
theorem en_joinB {P : List Bool → Prop} (hl : En c tb ds (fun d => ∃ l : List Bool, d = .lst (l.map fun b => .str (bs [b])) ∧ P l)) (hz : ∀ l, P l → l.length ≤ 1000000) : En c (tM1 (rJoin c.K) (tC (.str "")) tb) ds (fun d => ∃ l, d = .str (bs l) ∧ P l) := fun G H σ a Q q =>
  ⟨⟨_, rfl⟩, hl G H σ a _ fun w y G2 H2 p e2 s2 r2 => by
    obtain ⟨l, rfl, hp⟩ := p
    exact rm_joinB (hz l hp) G2 H2 _ [w] s2 (.str "") (.cons r2 .nil) Q fun u G3 H3 e3 s3 r3 => q u _ G3 H3 ⟨l, rfl, hp⟩ (e2.trans e3.all) s3 r3⟩
theorem list_bits : ∀ {ys : List D}, (∀ y ∈ ys, ∃ b : Bool, y = .str (bs [b])) → ∃ l : List Bool, ys = l.map fun b => .str (bs [b])
  | [], _ => ⟨[], rfl⟩
  | y :: ys, h => by
    obtain ⟨b, rfl⟩ := h y List.mem_cons_self
    obtain ⟨l, rfl⟩ := list_bits fun y hy => h y (List.mem_cons_of_mem _ hy)
    exact ⟨b :: l, rfl⟩
theorem eg_lst {m : Nat} {gs : TGs} {js : List Nat} (hl : xs.length = m) (h : Egs c gs xs ds ds' js) : Eg c (gLst c.K m gs) (.lst xs) ds ds' js := fun G H σ v a r Q q => by
  cases r with
  | lst s r => exact ⟨_, _, rfl, SqL.of (a.sub _ _ s), by rw [r.len, hl], h G H σ _ a r Q q⟩
theorem rc_tupleL : Rc K (rTupleG K) [.lst xs] (.tup xs) := fun G H vs s r Q t => by
  cases r with
  | cons r1 r2 =>
    cases r2
    cases r1 with
    | lst e q => exact ⟨_, _, rfl, .inl ⟨SqL.of (s _ _ e), t.tup s q⟩⟩
theorem rc_listL : Rc K (rListG K) [.lst xs] (.lst xs) := fun G H vs s r Q t => by
  cases r with
  | cons r1 r2 =>
    cases r2
    cases r1 with
    | lst e q => exact ⟨_, _, rfl, .inl (SqL.of (s _ _ e)), t.lst s q⟩
theorem rc_listT : Rc K (rListG K) [.tup xs] (.lst xs) := fun G H vs s r Q t => by
  cases r with
  | cons r1 r2 =>
    cases r2
    cases r1 with
    | tup e q => exact ⟨_, _, rfl, .inr (ex_t s e), t.lst s q⟩
theorem en_asgG {P : D → Prop} {g : TG} (h : En c te ds P) (hg : ∀ d, P d → ∃ ds' js, Eg c g d ds ds' js ∧ n.nx ds') : St c (tAsg te g) n ds := fun G H σ a E l => h G H σ a _ fun v d G1 H1 p e1 s1 r1 => by
  obtain ⟨ds', js, hg, k⟩ := hg d p
  exact hg G1 H1 σ v (a.go e1 s1) r1 _ fun σ' a' _ _ => l.nx G1 H1 _ _ e1.s a' k
end
/-- an item of a list, or nothing -/
def itD (x y : D) : D := match x, y with
  | .lst xs, .int i => (atI xs i).getD .non
  | _, _ => .non
def sgD (x y : D) : D := match y with
  | .int i => .str (bs [i == 1])
  | _ => .non
theorem rb_itD {K : PySem.W.Frag} {xs : List D} {i : Int} {d : D} (h : atI xs i = some d) : Rb K (rIxG K) (.lst xs) (.int i) (itD (.lst xs) (.int i)) := by
  have := rb_ixL (K := K) h
  show Rb K (rIxG K) _ _ ((atI xs i).getD .non)
  rw [h]; exact this
theorem rb_sgD {K : PySem.W.Frag} {x : D} {i : Int} (h0 : 0 ≤ i) (h1 : i < 2) : Rb K (rIxG K) (.str "01") (.int i) (sgD x (.int i)) := by
  have : i = 0 ∨ i = 1 := by omega
  rcases this with h | h <;> subst h
  · exact rb_ixS (by decide) rfl
  · exact rb_ixS (by decide) rfl
/-- str(i) -/
def rStrI : List V → Hp → VK → Prop := fun xs H Q => ∃ i, xs = [.int i] ∧ i.natAbs.log2 < 1920 ∧ Q (.str (toString i)) H
theorem k_str {X : Cx} : CallR X (.type "str") rStrI := call_str_int
theorem rc_strI {K : PySem.W.Frag} {i : Int} (h : i.natAbs.log2 < 1920) : Rc K rStrI [.int i] (.str (toString i)) := fun G H vs s r Q t => by
  cases r with
  | cons r1 r2 =>
    cases r2; cases r1
    exact ⟨_, rfl, h, t.same s (.str _)⟩
theorem rc_strBit {K : PySem.W.Frag} {n : Nat} : Rc K rStrI [.int ((n % 2 : Nat) : Int)] (.str (bs [n % 2 == 1])) := by
  have : n % 2 = 0 ∨ n % 2 = 1 := by omega
  rcases this with h | h <;> rw [h]
  · exact rc_strI (i := 0) (by decide)
  · exact rc_strI (i := 1) (by decide)
section
variable {c : Ctx} {ds : Fm} {ta tb : TE} {t u : TT} {α : Type} {K : PySem.W.Frag}
theorem et_or1 (h : Et c t ds true) : Et c (tOr t u) ds true := et_or (b := true) h fun z => nomatch z
theorem et_and0 (h : Et c t ds false) : Et c (tAnd t u) ds false := et_and (b := false) h fun z => nomatch z
theorem et_or2 {b : Bool} (h : Et c t ds false) (h2 : Et c u ds b) : Et c (tOr t u) ds b := et_is (et_or h fun _ => h2) (Bool.false_or b)
theorem et_and2 {b : Bool} (h : Et c t ds true) (h2 : Et c u ds b) : Et c (tAnd t u) ds b := et_is (et_and h fun _ => h2) (Bool.true_and b)
theorem ee_and0 (h : Ee c ta ds (.bl false)) : Ee c (tAndV ta tb) ds (.bl false) := ee_andV (b := false) h fun z => nomatch z
theorem ee_and2 {b : Bool} (h : Ee c ta ds (.bl true)) (h2 : Ee c tb ds (.bl b)) : Ee c (tAndV ta tb) ds (.bl b) := ee_is (ee_andV h fun _ => h2) (by rw [Bool.true_and])
theorem ee_or1 (h : Ee c ta ds (.bl true)) : Ee c (tOrV ta tb) ds (.bl true) := ee_orV (b := true) h fun z => nomatch z
theorem ee_or2 {b : Bool} (h : Ee c ta ds (.bl false)) (h2 : Ee c tb ds (.bl b)) : Ee c (tOrV ta tb) ds (.bl b) := ee_is (ee_orV h fun _ => h2) (by rw [Bool.false_or])
theorem et_tb {b : Bool} (h : Ee c ta ds (.bl b)) : Et c (tTruG c.K ta) ds b := et_truG h trivial
theorem rc_allF {f : α → Bool} {ys : List α} : Rc K (rAll K) [.lst (ys.map fun y => .bl (f y))] (.bl (ys.all f)) := by
  have := rc_all (K := K) (ns := ys.map f)
  rw [List.map_map, List.all_map] at this
  exact this
theorem rc_anyF {f : α → Bool} {ys : List α} : Rc K (rAny K) [.lst (ys.map fun y => .bl (f y))] (.bl (ys.any f)) := by
  have := rc_any (K := K) (ns := ys.map f)
  rw [List.map_map, List.any_map] at this
  exact this
theorem sign_in (k : Nat) : (["0", "1"] : List Str).any (fun y => y == ⟨#[k]⟩) = (k == 48 || k == 49) := by
  have e0 : ("0" : Str) = ⟨#[48]⟩ := by decide
  have e1 : ("1" : Str) = ⟨#[49]⟩ := by decide
  have ne : ∀ j : Nat, ((⟨#[j]⟩ : Str) == ⟨#[k]⟩) = (k == j) := fun j => by
    by_cases h : k = j
    · subst h; simp
    · have h1 : (k == j) = false := by simpa using h
      rw [h1]
      exact beq_eq_false_iff_ne.mpr fun z => h (by have := congrArg (fun s : Str => s.cps.toList) z; simpa using this.symm)
  simp only [List.any_cons, List.any_nil, Bool.or_false, e0, e1, ne]
end
end Dl

/-! Dq: == of data; == of a class of the text. -/
namespace Dl
open PySem L2 Evl PySem.Spec PyProof.Rows
mutual
def toPy : D → PyData
  | .non => .none
  | .bl b => .bool b
  | .int i => .int i
  | .str s => .str s
  | .lst xs => .list (toPyL xs)
  | .tup xs => .tuple (toPyL xs)
  | .obj _ _ _ => .none
  | .ty _ => .none
  | .cls _ => .none
def toPyL : List D → List PyData
  | [] => []
  | x :: xs => toPy x :: toPyL xs
end
section
variable {K : PySem.W.Frag} {G H : Hp}
mutual
theorem dp_of (s : Ex G H) : ∀ {d : D} {v : V}, Rep K G v d → plainD d = true → Dp K H v (toPy d)
  | .non, v, r, _ => by cases r; exact .non
  | .bl b, v, r, _ => by cases r; exact .bl b
  | .int i, v, r, _ => by cases r; exact .int i
  | .str x, v, r, _ => by cases r; exact .str x
  | .lst xs, v, r, h => by
    cases r with
    | lst e q => exact .lst (SqL.of (s _ _ e)) (dps_of s q h)
  | .tup xs, v, r, h => by
    cases r with
    | tup e q => exact .tup (ex_t s e) (dps_of s q h)
  | .obj _ _ _, v, r, h => nomatch h
  | .ty _, v, r, h => nomatch h
  | .cls _, v, r, h => nomatch h
theorem dps_of (s : Ex G H) : ∀ {ds : List D} {vs : List V}, Reps K G vs ds → plainL ds = true → DpAll K H vs (toPyL ds)
  | [], vs, r, _ => by cases r; exact .nil
  | x :: xs, vs, r, h => by
    cases r with
    | cons r1 r2 =>
      unfold plainL at h
      rw [Bool.and_eq_true] at h
      exact .cons (dp_of s r1 h.1) (dps_of s r2 h.2)
end
-- data that == looks through: no deeper than n, texts of signs
mutual
def shD : Nat → D → Bool
  | _, .non => true
  | _, .bl _ => true
  | _, .int _ => true
  | _, .str s => s.cps.all (· < 0x110000)
  | 0, .lst _ => false
  | 0, .tup _ => false
  | n + 1, .lst xs => shL n xs
  | n + 1, .tup xs => shL n xs
  | _, .obj _ _ _ => false
  | _, .ty _ => false
  | _, .cls _ => false
def shL : Nat → List D → Bool
  | _, [] => true
  | n, x :: xs => shD n x && shL n xs
end
mutual
theorem sh_ok : ∀ {d : D} {n : Nat}, shD n d = true → plainD d = true ∧ (toPy d).canLay0 = true ∧ (toPy d).depth ≤ n
  | .non, n, h => ⟨rfl, rfl, Nat.zero_le _⟩
  | .bl b, n, h => ⟨rfl, rfl, Nat.zero_le _⟩
  | .int i, n, h => ⟨rfl, rfl, Nat.zero_le _⟩
  | .str x, n, h => ⟨rfl, (by unfold shD at h; exact h), Nat.zero_le _⟩
  | .lst xs, 0, h => nomatch h
  | .tup xs, 0, h => nomatch h
  | .lst xs, n + 1, h => by
    unfold shD at h
    obtain ⟨h1, h2, h3⟩ := shs_ok h
    exact ⟨h1, h2, Nat.succ_le_succ h3⟩
  | .tup xs, n + 1, h => by
    unfold shD at h
    obtain ⟨h1, h2, h3⟩ := shs_ok h
    exact ⟨h1, h2, Nat.succ_le_succ h3⟩
  | .obj _ _ _, n, h => by unfold shD at h; cases h
  | .ty _, n, h => by unfold shD at h; cases h
  | .cls _, n, h => by unfold shD at h; cases h
theorem shs_ok : ∀ {ds : List D} {n : Nat}, shL n ds = true → plainL ds = true ∧ PyData.canLayAll0 (toPyL ds) = true ∧ PyData.depthAll (toPyL ds) ≤ n
  | [], n, h => ⟨rfl, rfl, Nat.zero_le _⟩
  | x :: xs, n, h => by
    unfold shL at h
    rw [Bool.and_eq_true] at h
    obtain ⟨a1, a2, a3⟩ := sh_ok h.1
    obtain ⟨b1, b2, b3⟩ := shs_ok h.2
    refine ⟨?_, ?_, ?_⟩
    · unfold plainL; rw [a1, b1]; rfl
    · unfold toPyL PyData.canLayAll0; rw [a2, b2]; rfl
    · unfold toPyL PyData.depthAll; exact Nat.max_le.mpr ⟨a3, b3⟩
end
theorem shaped_of {d : D} {n : Nat} (h : shD n d = true) (hn : n ≤ 64) : SeqAt.shaped (toPy d) = true := by
  obtain ⟨_, h2, h3⟩ := sh_ok h
  unfold SeqAt.shaped
  rw [h2, decide_eq_true (by omega)]; rfl
-- data without truth values: == is sameness
mutual
def nbD : D → Bool
  | .non => true
  | .int _ => true
  | .str _ => true
  | .lst xs => nbL xs
  | .tup xs => nbL xs
  | _ => false
def nbL : List D → Bool
  | [] => true
  | x :: xs => nbD x && nbL xs
end
mutual
theorem eqv_iff : ∀ {x y : D}, nbD x = true → nbD y = true → (PyData.eqv (toPy x) (toPy y) = true ↔ x = y)
  | .non, y, hx, hy => by cases y <;> simp_all [toPy, PyData.eqv, nbD]
  | .bl b, y, hx, hy => nomatch hx
  | .int i, y, hx, hy => by cases y <;> simp_all [toPy, PyData.eqv, nbD]
  | .str i, y, hx, hy => by cases y <;> simp_all [toPy, PyData.eqv, nbD]
  | .lst xs, .lst ys, hx, hy => by
    unfold nbD at hx hy
    have := eqvL_iff hx hy
    show PyData.eqvAll (toPyL xs) (toPyL ys) = true ↔ _
    rw [this]; simp
  | .tup xs, .tup ys, hx, hy => by
    unfold nbD at hx hy
    have := eqvL_iff hx hy
    show PyData.eqvAll (toPyL xs) (toPyL ys) = true ↔ _
    rw [this]; simp
  | .lst xs, .non, _, _ => by simp [toPy, PyData.eqv]
  | .lst xs, .int _, _, _ => by simp [toPy, PyData.eqv]
  | .lst xs, .str _, _, _ => by simp [toPy, PyData.eqv]
  | .lst xs, .tup _, _, _ => by simp [toPy, PyData.eqv]
  | .lst xs, .bl _, _, h => nomatch h
  | .lst xs, .obj _ _ _, _, h => nomatch h
  | .lst xs, .ty _, _, h => nomatch h
  | .lst xs, .cls _, _, h => nomatch h
  | .tup xs, .non, _, _ => by simp [toPy, PyData.eqv]
  | .tup xs, .int _, _, _ => by simp [toPy, PyData.eqv]
  | .tup xs, .str _, _, _ => by simp [toPy, PyData.eqv]
  | .tup xs, .lst _, _, _ => by simp [toPy, PyData.eqv]
  | .tup xs, .bl _, _, h => nomatch h
  | .tup xs, .obj _ _ _, _, h => nomatch h
  | .tup xs, .ty _, _, h => nomatch h
  | .tup xs, .cls _, _, h => nomatch h
  | .obj _ _ _, y, hx, hy => nomatch hx
  | .ty _, y, hx, hy => nomatch hx
  | .cls _, y, hx, hy => nomatch hx
theorem eqvL_iff : ∀ {x y : List D}, nbL x = true → nbL y = true → (PyData.eqvAll (toPyL x) (toPyL y) = true ↔ x = y)
  | [], [], _, _ => by simp [toPyL, PyData.eqvAll]
  | [], y :: ys, _, _ => by simp [toPyL, PyData.eqvAll]
  | x :: xs, [], _, _ => by simp [toPyL, PyData.eqvAll]
  | x :: xs, y :: ys, hx, hy => by
    unfold nbL at hx hy
    rw [Bool.and_eq_true] at hx hy
    have h1 := eqv_iff hx.1 hy.1
    have h2 := eqvL_iff hx.2 hy.2
    unfold toPyL PyData.eqvAll
    rw [Bool.and_eq_true, h1, h2]; simp
end
variable {x y : D}
theorem rb_eqP (m n : Nat) (hx : shD m x = true) (hy : shD n y = true) (hm : m ≤ 64) (hn : n ≤ 64) : Rb K (Dl.rEqG K) x y (.bl (PyData.eqv (toPy x) (toPy y))) := fun G H v w s r1 r2 Q t =>
  .inr ⟨_, _, dp_of s r1 (sh_ok hx).1, dp_of s r2 (sh_ok hy).1, shaped_of hx hm, shaped_of hy hn, t.same s (.bl _)⟩
theorem rb_neP (m n : Nat) (hx : shD m x = true) (hy : shD n y = true) (hm : m ≤ 64) (hn : n ≤ 64) : Rb K (rNeG K) x y (.bl (!PyData.eqv (toPy x) (toPy y))) := fun G H v w s r1 r2 Q t =>
  .inr ⟨_, _, dp_of s r1 (sh_ok hx).1, dp_of s r2 (sh_ok hy).1, shaped_of hx hm, shaped_of hy hn, t.same s (.bl _)⟩
theorem eqv_is {p : Prop} [Decidable p] (hx : nbD x = true) (hy : nbD y = true) (h : x = y ↔ p) : PyData.eqv (toPy x) (toPy y) = decide p := by
  rw [Bool.eq_iff_iff, eqv_iff hx hy, h]; simp
theorem bs_sh (l : List Bool) : (bs l).cps.all (· < 0x110000) = true := by
  rw [← Array.all_toList, bs_cps, List.all_map]
  exact List.all_eq_true.mpr fun b _ => by cases b <;> rfl
end
/-! ### an own == -/
def rOwnEq (K : PySem.W.Frag) (C : Addr) (sp : Sp) (E : XK) : R2 := fun x y H Q => ∃ a dx fs, x = .ref a ∧ H a = some (.ins C dx fs) ∧
  ((∃ b dy gs, y = .ref b ∧ H b = some (.ins C dy gs)) ∨ ∃ n, (∃ b xs, y = .ref b ∧ H b = some (.lst xs) ∧ n = "list") ∧ PySem.W.subIn K (.type n) (.ref C) = some false) ∧ sp [x, y] H (fun v H' => (∃ b, v = .bl b) ∧ Q v H') E
theorem op_ownEq {X : Cx} {CX : CXT} {k : Nat} {C : Addr} {ps : List Str} {sp : Sp} {E : XK} (h : OkM X.prog X.w X.K X.mg X.base CX k C "__eq__" ps sp) (hr : Room k X.A) (hx : Passes CX X E) : OpR X (compareOp .Eq) (rOwnEq X.K C sp E) := by
  obtain ⟨f, fd, F, m, hb⟩ := h.ex
  intro pins s σ H x y u v Q I rx ry d
  obtain ⟨a, dx, fs, rfl, ha, ht, hsp⟩ := d
  cases (show u = Value.ref a from rx)
  obtain ⟨mA, J, _⟩ := ins_get I.hok ha
  obtain ⟨od, J, _⟩ := J.look
  obtain ⟨mm, hF⟩ := I.fr
  have fin : wpAny (model X.prog X.w) X.A (call (.ref f) [.ref a, v]) (PySem.W.CmpBack (EP X pins σ Q)) X.xe s := by
    have hl := F.len _ _ _ _ hsp
    have r2 : Vals [V.ref a, y] [Value.ref a, v] := .cons rfl (.cons ry .nil)
    refine wpAny_call (codeAny_mono (F.run X.A X.stack s H ⟨[.ref a, v], []⟩ [.ref a, v] [.ref a, y] _ E hr I.env0 (by
      have := hb s [.ref a, v] I.kIn (by simpa using hl)
      simpa using this) r2 hsp) fun r s' hq => ?_)
    cases r with
    | error e => exact hx pins σ H s e s' I hq
    | ok fl =>
      cases fl with
      | ret w =>
        obtain ⟨z, H', I', rz, ⟨b, ez⟩, q⟩ := I.after hq
        subst ez
        cases rz
        exact ⟨.bl b, H', I', rfl, q⟩
      | next => exact False.elim hq
      | brk => exact False.elim hq
      | cont => exact False.elim hq
  show wpAny (model X.prog X.w) X.A (richCompare .Eq (.ref a) v) (EP X pins σ Q) X.xe s
  rcases ht with ⟨b, dy, gs, rfl, hb'⟩ | ⟨n, ⟨b, xs, rfl, hb', rfl⟩, hn⟩
  · cases (show v = Value.ref b from ry)
    obtain ⟨mB, J', _⟩ := ins_get I.hok hb'
    obtain ⟨od', J', _⟩ := J'.look
    exact PySem.W.cmp_K (op := .Eq) (tb := .ref C) hr.units0 hF I.ok.mod.kin J J'.type (by simp [PySem.W.notFirst]) m.at_ m.fn fin
  · cases (show v = Value.ref b from ry)
    obtain ⟨_, _, k, _, h1⟩ := (show ObjOk X.prog X.w H s.heap b (.lst xs) from I.hok b _ hb')
    exact PySem.W.cmp_K (op := .Eq) (tb := .type "list") hr.units0 hF I.ok.mod.kin J (fun A Q E s k' q => wpAny_typeOf_ref (k' _ _ h1) q) (by unfold PySem.W.notFirst; rw [hn]; simp) m.at_ m.fn fin
theorem k_own {X : Cx} (K : PySem.W.Frag) (hK : X.K = K) {CX : CXT} {k : Nat} {C : Addr} {ps : List Str} {sp : Sp} {E : XK} (h : OkM X.prog X.w X.K X.mg X.base CX k C "__eq__" ps sp) (hr : Room k X.A) (hx : Passes CX X E) : OpR X (compareOp .Eq) (rOwnEq K C sp E) := by subst hK; exact op_ownEq h hr hx
/-! ### isinstance(x, C), C a class of the text -/
structure OwnCls (K : PySem.W.Frag) (C : Addr) : Prop where
  ha : PySem.W.findIn K (.ref C) "__class__" = some (some (.builtin "object.__class__"))
  hn : PySem.W.specialIn K (.builtin "object.__class__") "__get__" = some (some (.builtin "getset_descriptor.__get__"))
  htk : PySem.W.takesIn K (.builtin "object.__class__") = some true
  hm : PySem.W.mroIn K C (.type "object") = some true
  k : PySem.W.kitOne K (.ref C) (.ref C) = some true
  kl : PySem.W.kitOne K (.type "list") (.ref C) = some false
  sl : PySem.W.subIn K (.type "list") (.ref C) = some false
section
variable {K : PySem.W.Frag} {C : Addr} {ns : List Str} {xs : List D}
theorem rc_isiOwn (o : OwnCls K C) (cl : Cls K C) : Rc K (rIsi K) [.obj C ns xs, .cls C] (.bl true) := fun G H vs s r Q t => by
  cases r with
  | cons r r' => cases r' with
    | cons r1 r2 =>
      cases r2
      cases r1
      cases r with
      | obj e _ _ => exact ⟨_, _, _, _, true, rfl, .own C, .base (.ins (s _ _ e) cl o.ha o.hn o.htk o.hm), o.k, t.same s (.bl true)⟩
theorem rc_isiOwnL (o : OwnCls K C) : Rc K (rIsi K) [.lst xs, .cls C] (.bl false) := fun G H vs s r Q t => by
  cases r with
  | cons r r' => cases r' with
    | cons r1 r2 =>
      cases r2
      cases r1
      cases r with
      | lst e _ => exact ⟨_, _, _, _, false, rfl, .own C, .base (.lst (s _ _ e)), o.kl, t.same s (.bl false)⟩
theorem rb_ownEq {α : Type} {args : α → List D} {pre : α → Prop} {res : α → Res} {E : XK} {a : α} {y : D} {b : Bool} (o : OwnCls K C) (hy : (∃ ns ys, y = .obj C ns ys) ∨ ∃ ys, y = .lst ys) (hx : [.obj C ns xs, y] = args a) (hp : pre a) (hr : res a = .ok (.bl b)) : Rb K (rOwnEq K C (spA K args pre res) E) (.obj C ns xs) y (.bl b) := fun G H v w s r1 r2 Q t => by
  have go : ∀ v : V, Rep K G v (.obj C ns xs) → spA K args pre res [v, w] H (fun v H' => (∃ b, v = .bl b) ∧ Q v H') E := fun v r1 => ⟨G, a, s, by rw [← hx]; exact .cons r1 (.cons r2 .nil), hp, fun d hd u G1 H1 e1 s1 ru => by
    rw [hr] at hd; cases hd
    cases ru
    exact ⟨⟨b, rfl⟩, t _ G1 H1 e1 s1 (.bl b)⟩, fun C o z => by rw [hr] at z; cases z⟩
  have g := go v r1
  cases r1 with
  | obj e _ _ =>
    refine ⟨_, _, _, rfl, s _ _ e, ?_, g⟩
    rcases hy with ⟨ns', ys, rfl⟩ | ⟨ys, rfl⟩
    · cases r2 with
      | obj e2 _ _ => exact .inl ⟨_, _, _, rfl, s _ _ e2⟩
    · cases r2 with
      | lst e2 _ => exact .inr ⟨_, ⟨_, _, rfl, s _ _ e2, rfl⟩, o.sl⟩
end
theorem kit_self {K : PySem.W.Frag} {C : Addr} : PySem.W.kitOne K (.ref C) (.ref C) = some true := by
  unfold PySem.W.kitOne
  rw [if_pos (by simp)]
theorem kit_not {K : PySem.W.Frag} {C : Addr} {n : String} (h1 : PySem.W.isClsIn K C = true) (h2 : PySem.W.typeIn K (.ref C) = some (.type "type")) (h3 : PySem.W.subIn K (.type n) (.ref C) = some false) : PySem.W.kitOne K (.type n) (.ref C) = some false := by
  unfold PySem.W.kitOne
  rw [if_neg (by simp)]
  have h1' : (PySem.W.clsIn K C).isSome = true := h1
  show (if ((PySem.W.clsIn K C).isSome && PySem.W.typeIn K (.ref C) == some (.type "type")) = true then PySem.W.subIn K (.type n) (.ref C) else none) = _
  rw [h1', h2, h3]
  simp
end Dl

/-! Dt: try around what makes an instance. -/
namespace Dl
open PySem L2 Evl PySem.Spec PyProof.Rows
section
variable {X : Cx} {CX : CXT} {k : Nat} {f C : Addr} {fd : FuncData} {ps : List Str} {sp : Sp} {x m : Str} {p pos apos : Pos} {e o : Expr} {es : List Expr} {ta : TE} {t : TA}
theorem run_makeS {pins : List (Addr × Obj)} {σ : L2.St} {H : Hp} {s : Shared} {Q : VK} {us : List Value} {vs : List V} {E : XK} (M : Mk X.K C f) (F : FnOk X.prog X.w X.K X.mg X.base CX k f fd ps sp) (hr : Room (k + 1) X.A) (hb : Binds X.K fd ps [])
    (hx : PassesAt CX X σ E) (I : Inv X pins σ H s) (r : Vals vs us)
    (h : ∀ x dx, H x = none → H dx = none → dx ≠ x → sp (.ref x :: (vs ++ [])) (upd (upd H dx (.own x)) x (.ins C dx [])) (fun v H2 => v = .non ∧ Q (.ref x) H2) E) :
    wpAny (model X.prog X.w) X.A (call (.ref C) us) (EP X pins σ Q) X.xe s := by
  have hq := h (s.heap.objs.size + 1) s.heap.objs.size (I.hok.fresh (Nat.le_succ _)) (I.hok.fresh (Nat.le_refl _)) (Nat.ne_of_lt (Nat.lt_succ_self _))
  have I2 := Inv.made (C := C) I
  have r2 : Vals (V.ref (s.heap.objs.size + 1) :: (vs ++ [])) (Value.ref (s.heap.objs.size + 1) :: (us ++ [])) := .cons rfl (r.append .nil)
  have hl : (Value.ref (s.heap.objs.size + 1) :: us ++ []).length = ps.length := by
    have e := r2.length
    rw [F.len _ _ _ _ hq] at e
    exact e.symm
  refine wpAny_call (make_map (f := f) I.kIn M.makes M.init (beq_iff_eq.mp M.fn) (codeAny_mono (F.run _ X.stack _ _ ⟨Value.ref (s.heap.objs.size + 1) :: us, []⟩ (Value.ref (s.heap.objs.size + 1) :: (us ++ [])) _ _ E (hr.make C us [])
    (I2.env0.make C us []) (by
      have q := hb _ (Value.ref (s.heap.objs.size + 1) :: us) I2.kIn hl
      simp only [List.append_nil] at q ⊢
      exact q) r2 hq) fun r s' hq' => ?_))
  cases r with
  | error e => exact hx pins _ _ e s' I2 hq'
  | ok fl =>
    cases fl with
    | ret u =>
      obtain ⟨v, H', I3, rv, ev, q3⟩ := I2.after hq'
      subst ev
      exact ⟨rv, ⟨V.ref (s.heap.objs.size + 1), H', I3, rfl, q3⟩⟩
    | next => exact False.elim hq'
    | brk => exact False.elim hq'
    | cont => exact False.elim hq'
def tMakeS (C : Addr) (sp : Sp) (E : L2.St → XK) (t : TA) : TE := fun σ H Q => tMake C sp [] (E σ) t σ H Q
theorem pe_makeHS {E : L2.St → XK} (h : OkI X.prog X.w X.K X.mg X.base CX k C ps sp) (hm : X.mg x = some (.ref C)) (hr : Room (k + 1) X.A) (hg : Gl X x) (hx : ∀ σ, PassesAt CX X σ (E σ)) (ha : PA X (e :: es) t) (hdb : (x == ("__debug__" : Str)) = false := by decide)
    (he : starEach (e :: es) X.env = (false, eval e X.env) :: starEach es X.env := by rfl) (hpl : (backTo pos (starEach es X.env)).any (·.1) = false := by rfl) : PE X (.Call (.Name x p) (e :: es) [] pos) (tMakeS C sp E t) := by
  obtain ⟨f, fd, F, M, b⟩ := h.ex
  refine ⟨fun pins s σ H Q I h => ?_⟩
  refine wpAny_Call_Name_kw (ld_glob I hg hm ?_ hdb)
  refine PySem.W.callWith_K (h₀ := X.base) I.ok.mod.kin M.kp (thn (ha.run pos pins s σ H _ I h) fun us s1 ⟨vs, H1, I1, r, q⟩ => ⟨I1.kIn, ?_⟩) he hpl
  exact run_makeS M F hr b (hx σ) I1 r q
theorem pe_callHS {E : L2.St → XK} (h : Ok X.prog X.w X.K X.mg X.base CX k x ps sp) (hr : Room k X.A) (hg : Gl X x) (hx : ∀ σ, PassesAt CX X σ (E σ)) (ha : PA X (e :: es) t) (hdb : (x == ("__debug__" : Str)) = false := by decide)
    (he : starEach (e :: es) X.env = (false, eval e X.env) :: starEach es X.env := by rfl) (hpl : (backTo pos (starEach es X.env)).any (·.1) = false := by rfl) : PE X (.Call (.Name x p) (e :: es) [] pos) (tCallS sp E t) := by
  obtain ⟨f, fd, G, hm, kp, b⟩ := h.ex
  exact pe_callS G hr hg hm kp b hx ha hdb he hpl
end
section
variable {α : Type} {args : α → List D} {pre : α → Prop} {res : α → Mkr} {c : Ctx} {ds : Fm} {ta : TA} {a : α} {C : Addr} {xs : List D} {n : DE} {cv : Value} {ts : Addr → Value → Option Addr → TS} {Wout : WX}
theorem st_try_make (h : Ea c ta ds xs) (hx : xs = args a) (hp : pre a) (h1 : ∀ ns ys, res a = .ok ns ys → n.nx ds)
    (h2 : ∀ C', res a = .err C' → PySem.W.exmOne c.K (.ref C') cv = some true ∧ ∀ p, St c (ts p (.ref C') none) n ds) : St c (fun D σ H => tDrop (tMakeS C (spI c.K C args pre res) (WE (wOnly c.K cv ts Wout D)) ta) D σ H) n ds := fun G H σ at' E l =>
  h G H σ at' _ fun vs G1 H1 e1 s1 r1 => by
    subst hx
    refine mk_run (fun _ H2 => E.nx σ H2) s1 r1 hp (fun ns' ys' z x G2 H2 e2 s2 r2 => l.nx G2 H2 σ ds (e1.trans e2.all).s (at'.go (e1.trans e2.all) s2) (h1 _ _ z)) (fun C' z G2 H2 e2 s2 => ?_)
    obtain ⟨k1, k2⟩ := h2 C' z
    exact ⟨true, k1, fun _ p _ => k2 p G2 H2 σ (at'.go (e1.trans e2.all) s2) E (l.go (e1.trans e2.all).s), fun z => nomatch z⟩
end
section
variable {α : Type} {args : α → List D} {pre : α → Prop} {res : α → Res} {c : Ctx} {ds : Fm} {ta : TA} {a : α} {xs : List D} {n : DE} {cv : Value} {ts : Addr → Value → Option Addr → TS} {Wout : WX}
theorem st_try_call (h : Ea c ta ds xs) (hx : xs = args a) (hp : pre a) (h1 : ∀ d, res a = .ok d → n.nx ds)
    (h2 : ∀ C' o, res a = .err C' o → o = none ∧ PySem.W.exmOne c.K C' cv = some true ∧ ∀ p, St c (ts p C' none) n ds) : St c (fun D σ H => tDrop (tCallS (spA c.K args pre res) (WE (wOnly c.K cv ts Wout D)) ta) D σ H) n ds := fun G H σ at' E l =>
  h G H σ at' _ fun vs G1 H1 e1 s1 r1 => by
    subst hx
    refine ⟨G1, a, s1, r1, hp, fun d' hd u G2 H2 e2 s2 r2 => l.nx G2 H2 σ ds (e1.trans e2.all).s (at'.go (e1.trans e2.all) s2) (h1 d' hd), fun C' o z G2 H2 e2 s2 => ?_⟩
    obtain ⟨rfl, k1, k2⟩ := h2 C' o z
    exact ⟨true, k1, fun _ p _ => k2 p G2 H2 σ (at'.go (e1.trans e2.all) s2) E (l.go (e1.trans e2.all).s), fun z => nomatch z⟩
end
section
variable {K : PySem.W.Frag} {c : Ctx} {ds : Fm} {n : DE} {ta tb : TE} {xs ys : List D} {i : Nat}
theorem rb_mulT {j : Int} (h0 : xs ≠ []) (h1 : 2 ≤ j) (h2 : j ≤ 1000) (h3 : xs.length ≤ 1000) : Rb K (rMulG K) (.tup xs) (.int j) (.tup (List.replicate j.toNat xs).flatten) := fun G H v w s r1 r2 Q t => by
  cases r2
  cases r1 with
  | @tup a vs ds e q =>
    have hr : ∀ m : Nat, Reps K G (List.replicate m vs).flatten (List.replicate m xs).flatten := fun m => by
      induction m with
      | zero => exact .nil
      | succ m ih => rw [List.replicate_succ, List.replicate_succ, List.flatten_cons, List.flatten_cons]; exact q.app ih
    exact .inr (.inr (.inr (.inr ⟨a, j, vs, rfl, rfl, ex_t s e, fun z => h0 (by have := q.len; rw [z] at this; cases xs with | nil => rfl | cons => simp at this), h1, h2, by rw [q.len]; exact h3, t.tup s (hr _)⟩)))
theorem ru_neg {i : Int} : Ru K (rU fun i => .int (-i)) (.int i) (.int (-i)) := fun G H v s r Q t => by
  cases r
  exact ⟨i, rfl, t.same s (.int _)⟩
theorem new_own {G1 H1 : Hp} {σ : L2.St} {vs : List V} {p : Addr} (a1 : At c G1 H1 σ ds) (s1 : Ex G1 H1) (r1 : Reps c.K G1 vs xs) (hp : H1 p = none) (hi : i < ds.length) :
    Ext c.l G1 H1 G1 (upd H1 p (.lst vs)) ∧ At c G1 (upd H1 p (.lst vs)) (σ.set i (some (.ref p))) (ds.set i (.own xs)) := by
  have hg : G1 p = none := sub_none s1 hp
  have e2 : Ext c.l G1 H1 G1 (upd H1 p (.lst vs)) := Ext.refl.mut hp
  have a2 := a1.go e2 (sub_hid s1 hg)
  have hne : NotL c.l p := fun y z => (a1.lk p y z).1 hp
  refine ⟨e2, a2.sub, a2.fr.own hi hg upd_same r1 hne (fun w => a1.tr p w hp) (fun b z => (a1.lk b p z).2.2 hp) fun j ys hj e => ?_, a2.lk, a2.tr⟩
  obtain ⟨b, ws, q1, _, q3, _⟩ := a1.fr.ok j _ hj
  rw [e] at q1
  have q : V.ref p = V.ref b := Option.some.inj (Option.some.inj q1)
  cases q
  rw [hp] at q3; cases q3
/-- x = a + b, lists: a list of the frame's own -/
theorem st_ownAdd (ha : Ee c ta ds (.lst xs)) (hb : Ee c tb ds (.lst ys)) (hz : xs.length + ys.length ≤ 1000000) (hi : i < ds.length) (k : n.nx (ds.set i (.own (xs ++ ys)))) : St c (tAsg (tOp (rAddG c.K) ta tb) (gName i)) n ds := fun G H σ a E l =>
  ha G H σ a _ fun v G1 H1 e1 s1 r1 => hb G1 H1 σ (a.go e1 s1) _ fun w G2 H2 e2 s2 r2 => by
    have r1' := r1.mono e2.g
    cases r1' with
    | lst f1 q1 => cases r2 with
      | lst f2 q2 =>
        refine .inr (.inr (.inl ⟨_, _, _, _, rfl, rfl, s2 _ _ f1, s2 _ _ f2, by rw [q1.len, q2.len]; exact sz_of hz, fun p hp => ?_⟩))
        obtain ⟨e3, a3⟩ := new_own (i := i) (a.go (e1.trans e2) s2) s2 (q1.app q2) hp hi
        exact l.nx G2 _ _ _ ((e1.trans e2).trans e3).s a3 k
end
theorem upto_get {j : Int} {i : Nat} {d : D} (h : (upto j)[i]? = some d) : d = .int (i : Nat) ∧ (i : Int) < j := by
  have hlt := (List.getElem?_eq_some_iff.mp h).1
  rw [upto_len] at hlt
  unfold upto at h
  rw [List.getElem?_map, List.getElem?_range hlt] at h
  exact ⟨(Option.some.inj h).symm, by omega⟩
end Dl

/-! Dm: lists of two clauses; max, min; list(range). -/
namespace Dl
open PySem L2 Evl PySem.Spec PyProof.Rows
structure Ew (l : Option (Addr × Addr)) (G H G1 H1 : Hp) : Prop where
  g : Ex G G1
  n : ∀ b, H b ≠ none → G b = none → G1 b = none
  t : ∀ b, H b ≠ none → H1 b ≠ none
  dr : ∀ b a, l = some (b, a) → DrawsOk H b a → DrawsOk H1 b a
theorem Ext.w {l : Option (Addr × Addr)} {G H G1 H1 : Hp} (e : Ext l G H G1 H1) : Ew l G H G1 H1 := ⟨e.g, e.n, e.t, e.dr⟩
theorem Ew.trans {l : Option (Addr × Addr)} {G H G1 H1 G2 H2 : Hp} (a : Ew l G H G1 H1) (b : Ew l G1 H1 G2 H2) : Ew l G H G2 H2 :=
  ⟨a.g.trans b.g, fun x e q => b.n x (a.t x e) (a.n x e q), fun x e => b.t x (a.t x e), fun x y e q => b.dr x y e (a.dr x y e q)⟩
def flatS : Sl → Bool
  | .no => true
  | .v _ => true
  | .drw => true
  | _ => false
theorem At.keep {c : Ctx} {G H G1 H1 : Hp} {σ : L2.St} {ds : Fm} (a : At c G H σ ds) (pl : ds.all flatS = true) (e : Ew c.l G H G1 H1) (s : Ex G1 H1) : At c G1 H1 σ ds := by
  refine ⟨s, ⟨a.fr.len, fun i x h => ?_, a.fr.ap⟩, fun b y hb => ⟨e.t b (a.lk b y hb).1, e.n b (a.lk b y hb).1 (a.lk b y hb).2.1, e.t y (a.lk b y hb).2.2⟩, fun b hb => e.t b (a.tr b hb)⟩
  have o := a.fr.ok i x h
  have p := List.all_eq_true.mp pl x (List.mem_of_getElem? h)
  cases x with
  | no => trivial
  | v d => obtain ⟨u, h1, h2⟩ := o; exact ⟨u, h1, h2.mono e.g⟩
  | drw =>
    obtain ⟨b, y, h1, h2, h3, h4⟩ := o
    exact ⟨b, y, h1, h2, e.n b (a.lk b y h1).1 h3, e.dr b y h1 h4⟩
  | own _ => cases p
  | self _ _ _ _ _ => cases p
  | rdr _ _ _ _ _ _ _ => cases p
section
variable {c : Ctx} {ds : Fm} {te : TE} {g g1 : TG} {xs ys : List D} {wi wi1 : TI} {vs vs1 js js1 : List Nat}
/-- [f(x, y) for x in xs for y in ys]: out i is what stands behind i turns of the first clause -/
theorem ee_lc2 {f : D → D → D} (hi : Ei c wi ds xs) (hz : xs.length * ys.length ≤ 900000) (hv : ∀ j ∈ js, j ∈ vs) (hv1 : ∀ j ∈ js1, j ∈ vs1)
    (hs : ∀ (i : Nat) x, xs[i]? = some x → ∃ ds2, Eg c g x (wipeD ds vs) ds2 js ∧ ds2.all flatS = true ∧ Ei c wi1 ds2 ys ∧ ∀ (k : Nat) y, ys[k]? = some y → ∃ ds3, Eg c g1 y (wipeD ds2 vs1) ds3 js1 ∧ Ee c te ds3 (f x y)) :
    Ee c (tLc2 wi g tYes wi1 g1 tYes te vs vs1) ds (.lst (xs.flatMap fun x => ys.map (f x))) := fun G0 H0 σ at' Q q => hi G0 H0 σ at' _ fun J G1 H1 e1 s1 it => by
  intro Dl hDl
  have at1 : At c G1 H1 σ ds := at'.go e1 s1
  have hg1 : G1 Dl = none := sub_none s1 hDl
  have hne : NotL c.l Dl := fun y z => (at1.lk Dl y z).1 hDl
  let P : List D → Hp → Prop := fun out H => ∃ G zs, Ext c.l G1 H1 G H ∧ Ex G H ∧ G Dl = none ∧ H Dl = some (.lst zs) ∧ Reps c.K G zs out
  let out : Nat → List D := fun i => (xs.take i).flatMap fun x => ys.map (f x)
  have olen : ∀ i, (out i).length = (xs.take i).length * ys.length := fun i => by
    simp only [out, List.length_flatMap, List.length_map, List.map_const', List.sum_replicate_nat]
  refine ⟨fun i m H => i ≤ xs.length ∧ m = xs.length - i ∧ P (out i) H, ⟨xs.length, Nat.zero_le _, rfl, G1, [], Ext.refl.mut hDl, sub_hid s1 hg1, hg1, upd_same, .nil⟩, ?_⟩
  rintro i m H ⟨il, rfl, G, zs, eg, sb, gd, hd, rp⟩
  by_cases hlt : i < xs.length
  · refine .inr ⟨it.go i G H eg.g sb hlt, P (out (i + 1)), fun H' p => ⟨xs.length - (i + 1), by omega, hlt, rfl, p⟩, fun x H' y => ?_⟩
    obtain ⟨d, G2, hd', ex, sb2, rx⟩ := it.yld i G H x H' eg.g sb hlt y
    obtain ⟨ds2, hg, hpl, hi1, hb⟩ := hs i d hd'
    have e2 : Ext c.l G1 H1 G2 H' := eg.trans ex.all
    have at2 : At c G2 H' (wipe σ vs) (wipeD ds vs) := (at1.go e2 sb2).wipe vs
    have osucc : out (i + 1) = out i ++ ys.map (f d) := by
      simp only [out]; rw [List.take_succ, List.flatMap_append, hd']; simp
    refine hg G2 H' _ x at2 rx _ fun σ2 a2 len2 keep => ⟨wipe_same (by rw [len2, wipe_length]) fun k hk => keep k fun z => hk (hv k z), ?_⟩
    show tYes σ2 H' _
    refine hi1 G2 H' σ2 a2 _ fun J1 G3 H3 e3 s3 it1 => ?_
    have hHD : H' Dl = some (.lst zs) := ex.h Dl _ (fun _ z => nomatch z) hd
    have hGD : G2 Dl = none := ex.n Dl (by rw [hd]; simp) gd
    have hHD3 : H3 Dl = some (.lst zs) := e3.h Dl _ hne hHD
    have hGD3 : G3 Dl = none := e3.n Dl (by rw [hHD]; simp) hGD
    let P1 : Nat → Hp → Prop := fun j H => ∃ G zs, Ext c.l G1 H1 G H ∧ Ew c.l G3 H3 G H ∧ Ex G H ∧ G Dl = none ∧ H Dl = some (.lst zs) ∧ Reps c.K G zs (out i ++ (ys.take j).map (f d))
    have at3 : At c G3 H3 σ2 ds2 := a2.go e3 s3
    refine ⟨fun j m H => j ≤ ys.length ∧ m = ys.length - j ∧ P1 j H, ⟨ys.length, Nat.zero_le _, rfl, G3, zs, e2.trans e3, Ext.refl.w, s3, hGD3, hHD3, by
      rw [List.take_zero, List.map_nil, List.append_nil]; exact rp.mono (ex.g.trans e3.g)⟩, ?_⟩
    rintro j m H ⟨jl, rfl, G4, zs4, f4, e4, s4, g4, h4, r4⟩
    by_cases hj : j < ys.length
    · refine .inr ⟨it1.go j G4 H e4.g s4 hj, P1 (j + 1), fun H' p => ⟨ys.length - (j + 1), by omega, hj, rfl, p⟩, fun y H5 yy => ?_⟩
      obtain ⟨d1, G5, hd1, ex5, sb5, ry⟩ := it1.yld j G4 H y H5 e4.g s4 hj yy
      obtain ⟨ds3, hg1, he⟩ := hb j d1 hd1
      have e5 : Ew c.l G3 H3 G5 H5 := e4.trans ex5.all.w
      have at5 : At c G5 H5 (wipe σ2 vs1) (wipeD ds2 vs1) := (at3.keep hpl e5 sb5).wipe vs1
      refine hg1 G5 H5 _ y at5 ry _ fun σ3 a3 len3 keep3 => ⟨wipe_same (by rw [len3, wipe_length]) fun k hk => keep3 k fun z => hk (hv1 k z), ?_⟩
      show tYes σ3 H5 _
      refine he G5 H5 σ3 a3 _ fun v G6 H6 e6 s6 r6 => ?_
      have h5D : H5 Dl = some (.lst zs4) := ex5.h Dl _ (fun _ z => nomatch z) h4
      have n1 : G6 Dl = none := e6.n Dl (by rw [h5D]; simp) (ex5.n Dl (by rw [h4]; simp) g4)
      have n2 : H6 Dl = some (.lst zs4) := e6.h Dl _ hne h5D
      refine ⟨zs4, n2, sz_lt ?_, G6, zs4 ++ [v], ((f4.trans ex5.all).trans e6).mut hDl, ⟨(e5.trans e6.w).g, (e5.trans e6.w).n, fun b hb => ?_, fun b a hb q => ?_⟩, sub_hid s6 n1, n1, upd_same, ?_⟩
      · rw [r4.len, List.length_append, olen, List.length_map, List.length_take, List.length_take]
        have h1 : min i xs.length = i := by omega
        have h2 : min j ys.length = j := by omega
        rw [h1, h2]
        have : (i + 1) * ys.length ≤ xs.length * ys.length := Nat.mul_le_mul_right _ hlt
        rw [Nat.succ_mul] at this
        omega
      · by_cases z : b = Dl
        · subst z; rw [upd_same]; simp
        · rw [upd_ne z]; exact (e5.trans e6.w).t b hb
      · obtain ⟨ns, i1, i2, i3, k1, k2, r⟩ := (e5.trans e6.w).dr b a hb q
        have l1 := at1.lk b a hb
        exact ⟨ns, i1, i2, i3, by rw [upd_ne (fun z => l1.1 (by rw [z]; exact hDl))]; exact k1, by rw [upd_ne (fun z => l1.2.2 (by rw [z]; exact hDl))]; exact k2, r⟩
      · have st : (ys.take (j + 1)).map (f d) = (ys.take j).map (f d) ++ [f d d1] := by
          rw [List.take_succ, List.map_append, hd1]; rfl
        rw [st, ← List.append_assoc]
        exact (r4.mono (ex5.g.trans e6.g)).app (.cons r6 .nil)
    · have ej : j = ys.length := by omega
      subst ej
      refine .inl ⟨it1.stop G4 H e4.g s4, G4, zs4, f4, s4, g4, h4, ?_⟩
      rw [osucc]
      rw [List.take_of_length_le (Nat.le_refl _)] at r4
      exact r4
  · have e : i = xs.length := by omega
    subst e
    have eo : out xs.length = xs.flatMap fun x => ys.map (f x) := by simp only [out]; rw [List.take_of_length_le (Nat.le_refl _)]
    rw [eo] at rp
    refine .inl ⟨it.stop G H eg.g sb, q _ (upd G Dl (.lst zs)) H ⟨eg.g.trans (Ex.new gd) |> e1.g.trans, (e1.trans eg).h, fun b hb hn => ?_, (e1.trans eg).t, (e1.trans eg).dr⟩ (fun b u e => ?_) (.lst upd_same (rp.mono (Ex.new gd)))⟩
    · have h1 : H1 b ≠ none := e1.t b hb
      rw [upd_ne (fun z => h1 (by rw [z]; exact hDl))]
      exact (e1.trans eg).n b hb hn
    · by_cases hb : b = Dl
      · subst hb; rw [upd_same] at e; rw [hd, e]
      · rw [upd_ne hb] at e; exact sb b u e
end
/-- list(range(n)) -/
theorem rg_reps {K : PySem.W.Frag} {G : Hp} (n : Nat) : Reps K G (rgV 0 (n : Int)) (upto (n : Int)) := by
  unfold rgV upto
  have : ∀ l : List Nat, Reps K G (l.map fun i : Nat => V.int (0 + (i : Int))) (l.map fun i : Nat => D.int (i : Int)) := fun l => by
    induction l with
    | nil => exact .nil
    | cons x l ih => exact .cons (by show Rep K G (.int (0 + (x : Int))) (.int (x : Int)); rw [Int.zero_add]; exact .int _) ih
  rw [Int.sub_zero]
  exact this _
theorem ee_listRg {c : Ctx} {ds : Fm} {te : TE} {n : Nat} (h : Ee c te ds (.int (n : Nat))) (hn : n ≤ 1000000) : Ee c (tLstRg (tRg1 te)) ds (.lst (upto (n : Int))) := fun G H σ a Q q =>
  h G H σ a _ fun v G1 H1 e1 s1 r1 => by
    cases r1
    exact ⟨(n : Int), rfl, RgOk.of_le (Int.le_refl _) (by omega) (by decide) (by omega), Then.lst (fun u G3 H3 e3 s3 r3 => q u G3 H3 (e1.trans e3.all) s3 r3) s1 (rg_reps n)⟩
/-- max of a list of numbers that are not below 0 -/
def maxN (l : List Nat) : Nat := l.foldr max 0
theorem le_maxN : ∀ {l : List Nat} {x : Nat}, x ∈ l → x ≤ maxN l
  | y :: l, x, h => by
    rcases List.mem_cons.mp h with rfl | h
    · exact Nat.le_max_left _ _
    · exact Nat.le_trans (le_maxN h) (Nat.le_max_right _ _)
theorem maxN_mem : ∀ {l : List Nat}, l ≠ [] → maxN l ∈ l
  | [x], _ => by simp [maxN]
  | x :: y :: l, _ => by
    have ih := maxN_mem (l := y :: l) (by simp)
    show max x (maxN (y :: l)) ∈ _
    rcases Nat.le_total x (maxN (y :: l)) with h | h
    · rw [Nat.max_eq_right h]; exact List.mem_cons_of_mem _ ih
    · rw [Nat.max_eq_left h]; exact List.mem_cons_self
theorem rc_maxN {K : PySem.W.Frag} {l : List Nat} (h : l ≠ []) : Rc K (rMax K) [.lst (l.map fun n : Nat => .int (n : Int))] (.int (maxN l : Nat)) := fun G H vs s r Q t => by
  cases r with
  | cons r1 r2 =>
    cases r2
    cases r1 with
    | @lst a ws ds e q =>
      have q' : Reps K G ws ((l.map fun n : Nat => (n : Int)).map D.int) := by rw [List.map_map]; exact q
      have hv := q'.ints
      subst hv
      refine ⟨a, l.map fun n : Nat => (n : Int), rfl, SqL.of (s _ _ e), by rw [List.length_map]; cases l with | nil => exact absurd rfl h | cons => simp, fun m hm hb => ?_⟩
      have em : m = (maxN l : Nat) := by
        obtain ⟨x, hx, rfl⟩ := List.mem_map.mp hm
        have h1 := le_maxN hx
        have h2 := hb _ (List.mem_map.mpr ⟨_, maxN_mem h, rfl⟩)
        omega
      rw [em]
      exact t.same s (.int _)
end Dl

/-! Do: the order of bits. -/
namespace Dl
open PySem L2 Evl PySem.Spec PyProof.Rows
/-- the order of texts of bits -/
def blt : List Bool → List Bool → Bool
  | [], [] => false
  | [], _ :: _ => true
  | _ :: _, [] => false
  | a :: x, b :: y => if a = b then blt x y else b
theorem blt_lt : ∀ {x y : List Bool}, blt x y = true ↔ x.map sg < y.map sg
  | [], [] => by simp [blt]
  | [], b :: y => by simp [blt]
  | a :: x, [] => by simp [blt]
  | a :: x, b :: y => by
    have ih := @blt_lt x y
    rw [List.map_cons, List.map_cons, List.cons_lt_cons_iff]
    unfold blt
    cases a <;> cases b <;> simp [sg, ih]
theorem rb_ltB {K : PySem.W.Frag} {a b : List Bool} : Rb K rLtG (.str (bs a)) (.str (bs b)) (.bl (blt a b)) := by
  have h := rb_ltS (K := K) (i := bs a) (j := bs b)
  have e : decide ((bs a).cps.toList < (bs b).cps.toList) = blt a b := by
    rw [Bool.eq_iff_iff, blt_lt, bs_cps, bs_cps]; simp
  rw [e] at h
  exact h
theorem blt_app (p x y : List Bool) : blt (p ++ x) (p ++ y) = blt x y := by
  induction p with
  | nil => rfl
  | cons b p ih => simp [blt, ih]
/-- heads that don't begin one another decide -/
theorem blt_heads : ∀ {a b : List Bool} (x y : List Bool), ¬ a <+: b → ¬ b <+: a → blt (a ++ x) (b ++ y) = blt a b
  | [], b, x, y, h, _ => absurd (List.nil_prefix) h
  | a :: p, [], x, y, _, h => absurd (List.nil_prefix) h
  | a :: p, b :: q, x, y, h1, h2 => by
    show (if a = b then blt (p ++ x) (q ++ y) else b) = if a = b then blt p q else b
    by_cases e : a = b
    · subst e
      rw [if_pos rfl, if_pos rfl]
      exact blt_heads x y (fun z => h1 (List.cons_prefix_cons.mpr ⟨rfl, z⟩)) (fun z => h2 (List.cons_prefix_cons.mpr ⟨rfl, z⟩))
    · rw [if_neg e, if_neg e]
theorem blt_snoc : ∀ {x y : List Bool} (a b : Bool), x.length = y.length → blt (x ++ [a]) (y ++ [b]) = (blt x y || (decide (x = y) && (!a && b)))
  | [], [], a, b, _ => by cases a <;> cases b <;> rfl
  | c :: x, d :: y, a, b, h => by
    have ih := blt_snoc a b (show x.length = y.length by simpa using h)
    show (if c = d then blt (x ++ [a]) (y ++ [b]) else d) = ((if c = d then blt x y else d) || _)
    by_cases e : c = d
    · subst e; rw [if_pos rfl, if_pos rfl, ih]; simp
    · rw [if_neg e, if_neg e]
      have : ¬ (c :: x = d :: y) := fun z => e (by injection z)
      rw [decide_eq_false this]; simp
  | [], _ :: _, a, b, h => by simp at h
  | _ :: _, [], a, b, h => by simp at h
theorem plc_lt : ∀ (k v w : Nat), v < w → w < 2 ^ k → blt (CodeM.plc v k) (CodeM.plc w k) = true
  | 0, v, w, h, h2 => by simp at h2; omega
  | k + 1, v, w, h, h2 => by
    show blt (CodeM.plc (v / 2) k ++ [v % 2 == 1]) (CodeM.plc (w / 2) k ++ [w % 2 == 1]) = true
    rw [blt_snoc _ _ (by rw [CodeM.plc_len, CodeM.plc_len])]
    rcases Nat.lt_or_ge (v / 2) (w / 2) with z | z
    · rw [plc_lt k _ _ z (by rw [Nat.pow_succ] at h2; omega)]; rfl
    · have e : v / 2 = w / 2 := by omega
      rw [e]
      have h3 : v % 2 = 0 := by omega
      have h4 : w % 2 = 1 := by omega
      rw [h3, h4]; simp
namespace CodeM
variable {c : CodeM}
/-- the question about row r -/
def up (c : CodeM) (r : Nat) : Bool := blt (c.head r) (c.head (r + 1))
theorem up_tail (i : Nat) : c.up (c.rows.length + i) = c.up c.rows.length := by
  induction i with
  | zero => rfl
  | succ i ih =>
    rw [← ih]
    have h : ∀ j, c.head (c.rows.length + j) = rep c.again j ++ c.stop := fun j => by unfold head; rw [row_tail]
    unfold up
    have e1 : c.rows.length + (i + 1) + 1 = c.rows.length + (1 + (i + 1)) := by omega
    have e2 : c.rows.length + (i + 1) = c.rows.length + (1 + i) := by omega
    have e3 : c.rows.length + i + 1 = c.rows.length + (i + 1) := by omega
    rw [e1, e2, e3, h, h, h, h, rep_add, rep_add c.again 1 (i + 1), List.append_assoc, List.append_assoc, blt_app]
/-- the least row whose head isn't less than the next one's -/
def IsLeast (c : CodeM) : Option Nat → Prop
  | none => ∀ r, c.up r = true
  | some r => c.up r = false ∧ ∀ s, s < r → c.up s = true
theorem least_uniq : ∀ {o p : Option Nat}, c.IsLeast o → c.IsLeast p → o = p
  | none, none, _, _ => rfl
  | none, some r, h, g => by have := h r; rw [g.1] at this; cases this
  | some r, none, h, g => by have := g r; rw [h.1] at this; cases this
  | some r, some s, h, g => by
    rcases Nat.lt_trichotomy r s with z | z | z
    · have := g.2 r z; rw [h.1] at this; cases this
    · rw [z]
    · have := h.2 s z; rw [g.1] at this; cases this
theorem least_ex (c : CodeM) : ∃ o, c.IsLeast o := by
  refine Classical.byContradiction fun h => h ⟨none, fun r => ?_⟩
  induction r using Nat.strongRecOn with
  | _ r ih =>
    cases e : c.up r with
    | true => rfl
    | false => exact absurd ⟨some r, e, ih⟩ h
noncomputable def least (c : CodeM) : Option Nat := Classical.choose (least_ex c)
theorem least_eq {o : Option Nat} (h : c.IsLeast o) : c.least = o := least_uniq (Classical.choose_spec (least_ex c)) h
theorem least_none {n : Nat} (hn : c.rows.length < n) (h : ∀ r, r < n → c.up r = true) : c.IsLeast none := fun r => by
  rcases Nat.lt_or_ge r n with z | z
  · exact h r z
  · obtain ⟨i, rfl⟩ : ∃ i, r = c.rows.length + i := ⟨r - c.rows.length, by omega⟩
    rw [up_tail]
    exact h _ hn
/-- number n against the next -/
theorem bits_in {n : Nat} (h : n + 1 < c.first (c.rowOf n + 1)) : blt (c.bits n) (c.bits (n + 1)) = true := by
  have h0 := (rowOf_ok (c := c) n).1
  have e : c.rowOf (n + 1) = c.rowOf n := rowOf_eq (by omega) h
  unfold bits
  rw [e, blt_app]
  refine plc_lt _ _ _ (by omega) ?_
  rw [first_succ] at h; omega
end CodeM
def ordD (c : CodeM) (o : Option Nat) : D := match o with
  | none => .non
  | some r => .int ((c.first (r + 1) - 1 : Nat) : Int)
section
variable {α : Type} {args : α → List D} {pre : α → Prop} {res : α → Res} {c : Ctx} {ds : Fm} {ta : TA} {a : α} {xs : List D} {n : DE} {cv : Value} {ts : Addr → Value → Option Addr → TS} {Wout : WX} {i : Nat}
theorem st_try_asg (h : Ea c ta ds xs) (hx : xs = args a) (hp : pre a) (hi : i < ds.length) (h1 : ∀ d, res a = .ok d → n.nx (ds.set i (.v d)))
    (h2 : ∀ C' o, res a = .err C' o → o = none ∧ PySem.W.exmOne c.K C' cv = some true ∧ ∀ p, St c (ts p C' none) n ds) : St c (fun D σ H => tAsg (tCallS (spA c.K args pre res) (WE (wOnly c.K cv ts Wout D)) ta) (gName i) D σ H) n ds := fun G H σ at' E l =>
  h G H σ at' _ fun vs G1 H1 e1 s1 r1 => by
    subst hx
    refine ⟨G1, a, s1, r1, hp, fun d' hd u G2 H2 e2 s2 r2 => l.nx G2 H2 _ _ (e1.trans e2.all).s ((at'.go (e1.trans e2.all) s2).set r2 hi) (h1 d' hd), fun C' o z G2 H2 e2 s2 => ?_⟩
    obtain ⟨rfl, k1, k2⟩ := h2 C' o z
    exact ⟨true, k1, fun _ p _ => k2 p G2 H2 σ (at'.go (e1.trans e2.all) s2) E (l.go (e1.trans e2.all).s), fun z => nomatch z⟩
end
end Dl

/-! De: enumerate. -/
namespace Dl
open PySem L2 Evl PySem.Spec PyProof.Rows
theorem k_enum {X : Cx} (K : PySem.W.Frag) {e : Expr} {ta : TA} {p pos tpos : Pos} {elts : List Expr} {kk : Nat} (hK : X.K = K) (hg : Gl X "enumerate") (hm : X.mg "enumerate" = none) (ha : PA X [e] ta) (hs : starEach [e] X.env = [(false, eval e X.env)] := by rfl) :
    PI X (.Tuple elts kk tpos) (.Call (.Name "enumerate" p) [e] [] pos) (iEnum K ta) := by subst hK; exact pi_enum hg hm ha hs
/-- place and item -/
def enumD (xs : List D) : List D := xs.zipIdx.map fun p => .tup [.int (p.2 : Nat), p.1]
theorem enumD_get {xs : List D} {i : Nat} {d : D} (h : (enumD xs)[i]? = some d) : ∃ x, xs[i]? = some x ∧ d = .tup [.int (i : Nat), x] := by
  unfold enumD at h
  rw [List.getElem?_map, List.getElem?_zipIdx] at h
  cases e : xs[i]? with
  | none => rw [e] at h; cases h
  | some x =>
    rw [e] at h
    refine ⟨x, rfl, ?_⟩
    have := Option.some.inj h
    simp at this
    exact this.symm
theorem enumD_len {xs : List D} : (enumD xs).length = xs.length := by simp [enumD]
theorem ei_enum {c : Ctx} {ds : Fm} {ta : TA} {xs : List D} (h : Ea c ta ds [.lst xs]) : Ei c (iEnum c.K ta) ds (enumD xs) := fun G H σ a R q => h G H σ a _ fun vs G1 H1 e1 s1 r1 => by
  cases r1 with
  | cons r1 r2 =>
    cases r2
    cases r1 with
    | lst e r =>
      refine ⟨_, _, rfl, SqL.of (s1 _ _ e), q _ G1 H1 e1 s1 ⟨fun i G H e1 e2 hi => ?_, fun i G H v H' e1 e2 hi y => ?_, fun G H e1 e2 => ?_⟩⟩
      · rw [enumD_len, ← r.len] at hi
        exact ⟨_, _, SqL.of (e2 _ _ (e1 _ _ e)), List.getElem?_eq_getElem hi⟩
      · obtain ⟨Tt, x, rfl, hT, rfl, hx⟩ := y
        have q := hx _ (SqL.of (e2 _ _ (e1 _ _ e)))
        obtain ⟨d, h1, h2⟩ := r.get q
        have hg := sub_none e2 hT
        refine ⟨.tup [.int (i : Nat), d], upd G Tt (.tup [.int (i : Nat), x]), ?_, Ext.new hT hg, sub_upd e2, .tup (SqT.of upd_same) (.cons (.int _) (.cons (h2.mono (e1.trans (Ex.new hg))) .nil))⟩
        unfold enumD
        rw [List.getElem?_map, List.getElem?_zipIdx, h1]; simp
      · exact ⟨_, SqL.of (e2 _ _ (e1 _ _ e)), by rw [enumD_len, r.len]; exact Nat.le_refl _⟩
end Dl

/-! Dw: lists drawn over walks that are drawn; the last item. -/
namespace Dl
open PySem L2 Evl PySem.Spec PyProof.Rows
section
variable {c : Ctx} {ds : Fm} {te : TE} {g : TG} {P : D → Prop} {R : List D → Prop}
/-- a list whose elements are not determined, over a walk that is not determined -/
theorem enn_lc {wi : TI} {vs js : List Nat} (hi : Eni c wi ds R) (hz : ∀ xs, R xs → xs.length ≤ 1000000) (hv : ∀ j ∈ js, j ∈ vs) (hs : ∀ xs, R xs → ∀ (i : Nat) d, xs[i]? = some d → ∃ ds2, Eg c g d (wipeD ds vs) ds2 js ∧ En c te ds2 P) :
    En c (tLc wi g tYes te vs) ds (fun d => ∃ xs ys : List D, R xs ∧ d = .lst ys ∧ ys.length = xs.length ∧ ∀ y ∈ ys, P y) := fun G0 H0 σ at' Q q => hi G0 H0 σ at' _ fun J xs G1 H1 hR e1 s1 it => by
  intro Dl hDl
  have at1 : At c G1 H1 σ ds := at'.go e1 s1
  have hg1 : G1 Dl = none := sub_none s1 hDl
  have hne : NotL c.l Dl := fun y z => (at1.lk Dl y z).1 hDl
  have hzz := hz xs hR
  let Pv : Nat → Hp → Prop := fun i H => ∃ G ys zs, Ext c.l G1 H1 G H ∧ Ex G H ∧ G Dl = none ∧ H Dl = some (.lst ys) ∧ Reps c.K G ys zs ∧ zs.length = i ∧ ∀ z ∈ zs, P z
  refine ⟨fun i m H => i ≤ xs.length ∧ m = xs.length - i ∧ Pv i H, ⟨xs.length, Nat.zero_le _, rfl, G1, [], [], Ext.refl.mut hDl, sub_hid s1 hg1, hg1, upd_same, .nil, rfl, fun z hz => nomatch hz⟩, ?_⟩
  rintro i m H ⟨il, rfl, G, ys, zs, eg, sb, gd, hd, rp, zl, zP⟩
  by_cases hlt : i < xs.length
  · refine .inr ⟨it.go i G H eg.g sb hlt, Pv (i + 1), fun H' p => ⟨xs.length - (i + 1), by omega, hlt, rfl, p⟩, fun x H' y => ?_⟩
    obtain ⟨d, G2, hd', ex, sb2, rx⟩ := it.yld i G H x H' eg.g sb hlt y
    obtain ⟨ds2, hg, he⟩ := hs xs hR i d hd'
    have e2 : Ext c.l G1 H1 G2 H' := eg.trans ex.all
    have at2 : At c G2 H' (wipe σ vs) (wipeD ds vs) := (at1.go e2 sb2).wipe vs
    refine hg G2 H' _ x at2 rx _ fun σ2 a2 len2 keep => ⟨wipe_same (by rw [len2, wipe_length]) fun k hk => keep k fun z => hk (hv k z), ?_⟩
    refine he G2 H' σ2 a2 _ fun v e G4 H4 pe e4 s4 r4 => ?_
    have h1 : H' Dl = some (.lst ys) := ex.h Dl _ (fun _ z => nomatch z) hd
    have n1 : G4 Dl = none := e4.n Dl (by rw [h1]; simp) (ex.n Dl (by rw [hd]; simp) gd)
    have n2 : H4 Dl = some (.lst ys) := e4.h Dl _ hne h1
    have g4 : Ext c.l G1 H1 G4 H4 := e2.trans e4
    have len : ys.length ≤ i := by rw [rp.len]; omega
    exact ⟨ys, n2, sz_lt (by omega), G4, ys ++ [v], zs ++ [e], g4.mut hDl, sub_hid s4 n1, n1, upd_same, (rp.mono (ex.g.trans e4.g)).app (.cons r4 .nil), by simp [zl], fun z hz => by
      rcases List.mem_append.mp hz with h | h
      · exact zP z h
      · rw [List.mem_singleton.mp h]; exact pe⟩
  · have e : i = xs.length := by omega
    subst e
    refine .inl ⟨it.stop G H eg.g sb, q _ (.lst zs) (upd G Dl (.lst ys)) H ⟨xs, zs, hR, rfl, zl, zP⟩ ⟨eg.g.trans (Ex.new gd) |> e1.g.trans, (e1.trans eg).h, fun b hb hn => ?_, (e1.trans eg).t, (e1.trans eg).dr⟩ (fun b u e => ?_) (.lst upd_same (rp.mono (Ex.new gd)))⟩
    · have h1 : H1 b ≠ none := e1.t b hb
      rw [upd_ne (fun z => h1 (by rw [z]; exact hDl))]
      exact (e1.trans eg).n b hb hn
    · by_cases hb : b = Dl
      · subst hb; rw [upd_same] at e; rw [hd, e]
      · rw [upd_ne hb] at e; exact sb b u e
end
theorem atI_lastM {α : Type} {f : α → D} {xs : List α} {x : α} : atI ((xs ++ [x]).map f) (-1) = some (f x) := by
  unfold atI ixN
  rw [if_neg (by decide), if_pos (by simp; omega)]
  have e : ((-1 : Int) + (((xs ++ [x]).map f).length : Nat)).toNat = xs.length := by simp; omega
  show ((xs ++ [x]).map f)[((-1 : Int) + (((xs ++ [x]).map f).length : Nat)).toNat]? = _
  rw [e, List.map_append, List.getElem?_append_right (by simp)]
  simp
end Dl

/-! Dy: least numbers; numbers of a row by the first bits of their codes; loops over bits. -/
namespace Dl
open PySem L2 Evl PySem.Spec PyProof.Rows
/-! ### the least number -/
def IsL (P : Nat → Prop) : Option Nat → Prop
  | none => ∀ m, ¬ P m
  | some m => P m ∧ ∀ k, k < m → ¬ P k
theorem IsL.uniq {P : Nat → Prop} : ∀ {o p : Option Nat}, IsL P o → IsL P p → o = p
  | none, none, _, _ => rfl
  | none, some r, h, g => absurd g.1 (h r)
  | some r, none, h, g => absurd h.1 (g r)
  | some r, some s, h, g => by
    rcases Nat.lt_trichotomy r s with z | z | z
    · exact absurd h.1 (g.2 r z)
    · rw [z]
    · exact absurd g.1 (h.2 s z)
theorem IsL.ex (P : Nat → Prop) : ∃ o, IsL P o := by
  refine Classical.byContradiction fun h => h ⟨none, fun r => ?_⟩
  induction r using Nat.strongRecOn with
  | _ r ih => exact fun e => h ⟨some r, e, ih⟩
noncomputable def lst (P : Nat → Prop) : Option Nat := Classical.choose (IsL.ex P)
theorem lst_ok (P : Nat → Prop) : IsL P (lst P) := Classical.choose_spec (IsL.ex P)
theorem lst_eq {P : Nat → Prop} {o : Option Nat} (h : IsL P o) : lst P = o := IsL.uniq (lst_ok P) h
theorem lst_none {P : Nat → Prop} (h : lst P = none) (m : Nat) : ¬ P m := by have := lst_ok P; rw [h] at this; exact this m
theorem lst_some {P : Nat → Prop} {m : Nat} (h : lst P = some m) : P m ∧ ∀ k, k < m → ¬ P k := by have := lst_ok P; rw [h] at this; exact this
theorem lst_is {P : Nat → Prop} {m : Nat} (h : P m) : ∃ k, lst P = some k ∧ k ≤ m := by
  cases e : lst P with
  | none => exact absurd h (lst_none e m)
  | some k =>
    refine ⟨k, rfl, ?_⟩
    rcases Nat.lt_or_ge m k with z | z
    · exact absurd h ((lst_some e).2 m z)
    · exact z
def optD : Option Nat → D
  | none => .non
  | some m => .int (m : Nat)
namespace CodeM
theorem plc_takeN (v : Nat) : ∀ (e j : Nat), (plc v (j + e)).take j = plc (v / 2 ^ e) j
  | 0, j => by rw [Nat.add_zero, Nat.pow_zero, Nat.div_one, List.take_of_length_le (by rw [plc_len]; exact Nat.le_refl _)]
  | e + 1, j => by
    show (plc (v / 2) (j + e) ++ [v % 2 == 1]).take j = _
    rw [List.take_append_of_le_length (by rw [plc_len]; omega), plc_takeN (v / 2) e j, Nat.div_div_eq_div_mul, Nat.pow_succ, Nat.mul_comm 2]
theorem plc_pre {v k : Nat} {l : List Bool} (hv : v < 2 ^ k) (hl : l.length ≤ k) : l <+: plc v k ↔ v / 2 ^ (k - l.length) = num l := by
  obtain ⟨e, rfl⟩ : ∃ e, k = l.length + e := ⟨k - l.length, by omega⟩
  rw [Nat.add_sub_cancel_left, List.prefix_iff_eq_take, plc_takeN]
  have hlt : v / 2 ^ e < 2 ^ l.length := Nat.div_lt_of_lt_mul (by rw [← Nat.pow_add, Nat.add_comm]; exact hv)
  constructor
  · intro h
    have := congrArg num h
    rw [num_plc, Nat.mod_eq_of_lt hlt] at this
    exact this.symm
  · intro h
    rw [h, plc_num]
variable {c : CodeM}
/-- the least number of a row whose code begins with bits, and how many there are -/
def wr (c : CodeM) (r : Nat) (l : List Bool) : Option (Nat × Nat) :=
  if l.isPrefixOf (c.head r) = true then some (c.first r, 2 ^ c.kk r)
  else if (c.head r).isPrefixOf l = true ∧ l.length - (c.head r).length ≤ c.kk r then
    some (c.first r + num (l.drop (c.head r).length) * 2 ^ (c.kk r - (l.length - (c.head r).length)), 2 ^ (c.kk r - (l.length - (c.head r).length)))
  else none
theorem pre_iff' {a b : List Bool} : a.isPrefixOf b = true ↔ a <+: b := List.isPrefixOf_iff_prefix
theorem wr_in {r : Nat} {l : List Bool} {p : Nat × Nat} (h : c.wr r l = some p) : c.first r ≤ p.1 ∧ p.1 + p.2 ≤ c.first (r + 1) ∧ 0 < p.2 := by
  unfold wr at h
  split at h
  · cases h
    exact ⟨Nat.le_refl _, Nat.le_of_eq (first_succ r).symm, Nat.pow_pos (by decide)⟩
  · split at h
    · rename_i h1 h2
      cases h
      have hn := num_lt (l.drop (c.head r).length)
      rw [List.length_drop] at hn
      refine ⟨Nat.le_add_right _ _, ?_, Nat.pow_pos (by decide)⟩
      dsimp only
      rw [first_succ, Nat.add_assoc, ← Nat.succ_mul]
      refine Nat.add_le_add_left ?_ _
      have := Nat.mul_le_mul_right (2 ^ (c.kk r - (l.length - (c.head r).length))) (Nat.succ_le_of_lt hn)
      rw [← Nat.pow_add, show l.length - (c.head r).length + (c.kk r - (l.length - (c.head r).length)) = c.kk r by omega] at this
      exact this
    · cases h
theorem wr_iff {r m : Nat} {l : List Bool} (h : c.rowOf m = r) : l <+: c.bits m ↔ ∃ p, c.wr r l = some p ∧ p.1 ≤ m ∧ m < p.1 + p.2 := by
  have hm := rowOf_ok (c := c) m
  rw [h] at hm
  have hs := first_succ (c := c) r
  unfold bits
  rw [h]
  unfold wr
  by_cases h1 : l.isPrefixOf (c.head r) = true
  · rw [if_pos h1]
    exact ⟨fun _ => ⟨_, rfl, hm.1, by dsimp only; omega⟩, fun _ => (pre_iff'.mp h1).trans (List.prefix_append _ _)⟩
  · rw [if_neg h1]
    have h1' : ¬ l <+: c.head r := fun z => h1 (pre_iff'.mpr z)
    by_cases h2 : (c.head r).isPrefixOf l = true
    · obtain ⟨rest, rfl⟩ := pre_iff'.mp h2
      rw [List.prefix_append_right_inj, List.drop_left, List.length_append, Nat.add_sub_cancel_left]
      by_cases h3 : rest.length ≤ c.kk r
      · rw [if_pos ⟨h2, h3⟩, plc_pre (by omega) h3]
        have hp : 0 < 2 ^ (c.kk r - rest.length) := Nat.pow_pos (by decide)
        constructor
        · intro e
          refine ⟨_, rfl, ?_, ?_⟩
          · dsimp only
            have := Nat.div_mul_le_self (m - c.first r) (2 ^ (c.kk r - rest.length))
            rw [e] at this; omega
          · dsimp only
            have := Nat.lt_div_mul_add hp (a := m - c.first r)
            rw [e] at this; omega
        · rintro ⟨p, hp', p1, p2⟩
          cases hp'
          dsimp only at p1 p2
          refine Nat.div_eq_of_lt_le ?_ ?_
          · omega
          · rw [Nat.succ_mul]; omega
      · rw [if_neg (fun z => h3 z.2)]
        constructor
        · intro z
          have := z.length_le
          rw [plc_len] at this; exact absurd this h3
        · rintro ⟨p, hp, _⟩; cases hp
    · rw [if_neg (fun z => h2 z.1)]
      constructor
      · intro z
        exfalso
        rcases Nat.le_total l.length (c.head r).length with q | q
        · exact h1' (List.prefix_of_prefix_length_le z (List.prefix_append _ _) q)
        · exact h2 (pre_iff'.mpr (List.prefix_of_prefix_length_le (List.prefix_append _ _) z q))
      · rintro ⟨p, hp, _⟩; cases hp
/-- some number of the row -/
theorem wr_has {r : Nat} {l : List Bool} {p : Nat × Nat} (h : c.wr r l = some p) : c.rowOf p.1 = r ∧ l <+: c.bits p.1 := by
  obtain ⟨h1, h2, h3⟩ := wr_in h
  have e : c.rowOf p.1 = r := rowOf_eq h1 (by omega)
  exact ⟨e, (wr_iff e).mpr ⟨p, h, Nat.le_refl _, by omega⟩⟩
theorem rowOf_mono {n m : Nat} (h : n ≤ m) : c.rowOf n ≤ c.rowOf m := by
  rcases Nat.lt_or_ge (c.rowOf m) (c.rowOf n) with z | z
  · have h1 := (rowOf_ok (c := c) m).2
    have h2 := (rowOf_ok (c := c) n).1
    have h3 := first_mono (c := c) (show c.rowOf m + 1 ≤ c.rowOf n from z)
    omega
  · exact z
theorem rowOf_first (r : Nat) : c.rowOf (c.first r) = r := rowOf_eq (Nat.le_refl _) (first_lt r)
theorem head_tail' (i : Nat) : c.head (c.rows.length + i) = rep c.again i ++ c.stop := by unfold head; rw [row_tail]
/-- far rows are alike to bits -/
theorem far_like (h1 : 1 ≤ c.again.length) {l : List Bool} {i j : Nat} (hi : l.length / c.again.length + 1 ≤ i) (hj : l.length / c.again.length + 1 ≤ j) (h : l <+: c.head (c.rows.length + i)) : l <+: c.head (c.rows.length + j) := by
  have hq : l.length ≤ (l.length / c.again.length + 1) * c.again.length := by
    have := Nat.div_add_mod l.length c.again.length
    have := Nat.mod_lt l.length (show 0 < c.again.length by omega)
    rw [Nat.succ_mul, Nat.mul_comm]; omega
  generalize l.length / c.again.length + 1 = q at hi hj hq
  obtain ⟨e, rfl⟩ : ∃ e, i = q + e := ⟨i - q, by omega⟩
  obtain ⟨f, rfl⟩ : ∃ f, j = q + f := ⟨j - q, by omega⟩
  rw [head_tail', rep_add, List.append_assoc] at h ⊢
  exact (List.prefix_of_prefix_length_le h (List.prefix_append _ _) (by rw [rep_len]; exact hq)).trans (List.prefix_append _ _)
theorem far_long (h1 : 1 ≤ c.again.length) {l : List Bool} {i : Nat} (hi : l.length / c.again.length + 1 ≤ i) : l.length < (c.head (c.rows.length + i)).length := by
  have := Nat.div_add_mod l.length c.again.length
  have := Nat.mod_lt l.length (show 0 < c.again.length by omega)
  have h2 := Nat.mul_le_mul_right c.again.length hi
  rw [Nat.succ_mul, Nat.mul_comm] at h2
  rw [head_tail', List.length_append, rep_len]; omega
theorem wr_far (h1 : 1 ≤ c.again.length) {l : List Bool} {i : Nat} (hi : l.length / c.again.length + 1 ≤ i) : c.wr (c.rows.length + i) l = if l.isPrefixOf (c.head (c.rows.length + i)) = true then some (c.first (c.rows.length + i), 2 ^ c.kk (c.rows.length + i)) else none := by
  unfold wr
  by_cases h : l.isPrefixOf (c.head (c.rows.length + i)) = true
  · rw [if_pos h, if_pos h]
  · rw [if_neg h, if_neg h, if_neg]
    rintro ⟨z, _⟩
    have := (pre_iff'.mp z).length_le
    have := far_long h1 hi
    omega
/-- what begins so far out begins so near -/
theorem near_has (h1 : 1 ≤ c.again.length) {l : List Bool} {m i : Nat} (hi : l.length / c.again.length + 1 ≤ i) (hm : c.rows.length + i ≤ c.rowOf m) (h : l <+: c.bits m) : ∀ j, l.length / c.again.length + 1 ≤ j → l <+: c.head (c.rows.length + j) := fun j hj => by
  obtain ⟨e, he⟩ : ∃ e, c.rowOf m = c.rows.length + e := ⟨c.rowOf m - c.rows.length, by omega⟩
  obtain ⟨p, hp, _⟩ := (wr_iff he).mp h
  rw [wr_far h1 (by omega)] at hp
  split at hp
  · rename_i z; exact far_like h1 (by omega) hj (pre_iff'.mp z)
  · cases hp
end CodeM
/-! ### loops over bits -/
section
variable {K : PySem.W.Frag} {c : Ctx} {ds : Fm} {tl : TE}
theorem signs_bs (l : List Bool) : signs (bs l) = l.map fun b => D.str (bs [b]) := by
  unfold signs; rw [bs_cps, List.map_map]; rfl
theorem ei_bits {l : List Bool} (h : Ee c tl ds (.str (bs l))) : Ei c (iStr tl) ds (l.map fun b => D.str (bs [b])) := by
  have := ei_str h
  rw [signs_bs] at this
  exact this
def rIntT : List V → Hp → VK → Prop := fun xs H Q => ∃ a n, xs = [.str a] ∧ PySem.intText? a = some n ∧ a.length ≤ 640 ∧ Q (.int n) H
theorem k_intS {X : Cx} : CallR X (.type "int") rIntT := call_int_str
theorem rc_intBit {b : Bool} : Rc K rIntT [.str (bs [b])] (.int ((if b then 1 else 0 : Nat) : Int)) := fun G H vs s r Q t => by
  cases r with
  | cons r r' =>
    cases r'; cases r
    cases b
    · exact ⟨_, 0, rfl, by decide +kernel, by decide, t.same s (.int _)⟩
    · exact ⟨_, 1, rfl, by decide +kernel, by decide, t.same s (.int _)⟩
theorem num_take {l : List Bool} {i : Nat} {b : Bool} (h : l[i]? = some b) : CodeM.num (l.take (i + 1)) = 2 * CodeM.num (l.take i) + (if b then 1 else 0) := by
  rw [List.take_succ, h]; exact CodeM.num_snoc _ _
end
end Dl

/-! Dz: pieces of bits that are not determined; own lists met. -/
namespace Dl
open PySem L2 Evl PySem.Spec PyProof.Rows
def Eno (c : Ctx) (to : TO) (ds : Fm) (P : Option Int → Prop) : Prop := ∀ G H σ, At c G H σ ds → ∀ Q : Option Int → Hp → Prop, (∀ o G1 H1, P o → Ext c.l G H G1 H1 → Ex G1 H1 → Q o H1) → to σ H Q
section
variable {c : Ctx} {ds : Fm} {te ta tb : TE} {P : D → Prop} {tl th : TO} {P1 P2 : Option Int → Prop}
theorem eno_none : Eno c tNoPart ds (fun o => o = none) := fun G H σ a Q q => q none G H rfl Ext.refl a.sub
theorem eno_of {o : Option Int} (h : Eo c tl ds o) : Eno c tl ds (fun o' => o' = o) := fun G H σ a Q q => h G H σ a Q fun G1 H1 e s => q o G1 H1 rfl e s
theorem eno_some {R : Int → Prop} (h : En c te ds (fun d => ∃ i : Int, d = .int i ∧ R i)) : Eno c (tPart te) ds (fun o => ∃ i, o = some i ∧ R i) := fun G H σ a Q q => h G H σ a _ fun v d G1 H1 p e1 s1 r1 => by
  obtain ⟨i, rfl, hi⟩ := p
  cases r1
  exact ⟨i, rfl, q (some i) G1 H1 ⟨i, rfl, hi⟩ e1 s1⟩
theorem en_sl {r : V → Option Int → Option Int → Hp → VK → Prop} {z : D → Option Int → Option Int → D} (ha : En c te ds P) (h1 : Eno c tl ds P1) (h2 : Eno c th ds P2) (hr : ∀ x lo hi, P x → P1 lo → P2 hi → Rs c.K r x lo hi (z x lo hi)) : En c (tSl r te tl th) ds (fun d => ∃ x lo hi, P x ∧ P1 lo ∧ P2 hi ∧ d = z x lo hi) := fun G H σ a Q q =>
  ha G H σ a _ fun v x G1 H1 px e1 s1 r1 => h1 G1 H1 σ (a.go e1 s1) _ fun lo G2 H2 p1 e2 s2 => h2 G2 H2 σ (a.go (e1.trans e2) s2) _ fun hi G3 H3 p2 e3 s3 => hr x lo hi px p1 p2 G3 H3 v s3 (r1.mono (e2.trans e3).g) Q fun u G4 H4 e4 s4 r4 => q u _ G4 H4 ⟨x, lo, hi, px, p1, p2, rfl⟩ (((e1.trans e2).trans e3).trans e4.all) s4 r4
/-- bits of at most so many signs -/
abbrev BitsTo (n : Nat) (d : D) : Prop := ∃ l : List Bool, d = .str (bs l) ∧ l.length ≤ n
theorem en_uptoB {L : List Bool} (ha : Ee c ta ds (.str (bs L))) (hL : L.length ≤ 1000000) (h : En c te ds (fun d => ∃ k : Nat, d = .int (k : Nat))) : En c (tSl (rSlG c.K) ta tNoPart (tPart te)) ds (fun d => ∃ k : Nat, d = .str (bs (L.take k))) :=
  en_imp (en_sl (z := fun _ _ hi => .str (bs (L.take (hi.getD 0).toNat))) (en_of ha) eno_none (eno_some (R := fun i => ∃ k : Nat, i = k) (en_imp h fun d ⟨k, e⟩ => ⟨k, e, k, rfl⟩)) (fun x lo hi p q r => by
    obtain ⟨_, rfl, k, rfl⟩ := r
    subst p; subst q
    exact rs_uptoB hL)) (fun d hd => by
    obtain ⟨_, _, _, _, _, ⟨_, rfl, k, rfl⟩, rfl⟩ := hd
    exact ⟨k, rfl⟩)
theorem en_fromB {L : List Bool} (ha : Ee c ta ds (.str (bs L))) (hL : L.length ≤ 1000000) (h : En c te ds (fun d => ∃ k : Nat, d = .int (k : Nat))) : En c (tSl (rSlG c.K) ta (tPart te) tNoPart) ds (fun d => ∃ k : Nat, d = .str (bs (L.drop k))) :=
  en_imp (en_sl (z := fun _ lo _ => .str (bs (L.drop (lo.getD 0).toNat))) (en_of ha) (eno_some (R := fun i => ∃ k : Nat, i = k) (en_imp h fun d ⟨k, e⟩ => ⟨k, e, k, rfl⟩)) eno_none (fun x lo hi p q r => by
    obtain ⟨_, rfl, k, rfl⟩ := q
    subst p; subst r
    exact rs_fromB hL)) (fun d hd => by
    obtain ⟨_, _, _, _, ⟨_, rfl, k, rfl⟩, _, rfl⟩ := hd
    exact ⟨k, rfl⟩)
def catD (x y : D) : D := match x, y with
  | .str a, .str b => .str (a ++ b)
  | _, _ => .non
theorem en_addB {m n : Nat} (ha : En c ta ds (BitsTo m)) (hb : En c tb ds (BitsTo n)) (h : m + n ≤ 1000000) : En c (tOp (rAddG c.K) ta tb) ds (BitsTo (m + n)) :=
  en_imp (en_op (z := catD) ha hb (fun x y p q => by
    obtain ⟨a, rfl, h1⟩ := p
    obtain ⟨b, rfl, h2⟩ := q
    exact rb_addS (by rw [bs_len, bs_len]; omega))) (fun d hd => by
    obtain ⟨x, y, ⟨a, rfl, h1⟩, ⟨b, rfl, h2⟩, rfl⟩ := hd
    exact ⟨a ++ b, congrArg D.str (bs_app a b), by rw [List.length_append]; omega⟩)
def addD (x y : D) : D := match x, y with
  | .int i, .int j => .int (i + j)
  | _, _ => .non
theorem en_addN {p q : Nat → Prop} (ha : En c ta ds (fun d => ∃ k : Nat, d = .int (k : Nat) ∧ p k)) (hb : En c tb ds (fun d => ∃ k : Nat, d = .int (k : Nat) ∧ q k)) : En c (tOp (rAddG c.K) ta tb) ds (fun d => ∃ i j : Nat, d = .int ((i + j : Nat) : Int) ∧ p i ∧ q j) :=
  en_imp (en_op (z := addD) ha hb (fun x y hx hy => by
    obtain ⟨a, rfl, h1⟩ := hx
    obtain ⟨b, rfl, h2⟩ := hy
    exact rb_addI)) (fun d hd => by
    obtain ⟨x, y, ⟨a, rfl, h1⟩, ⟨b, rfl, h2⟩, rfl⟩ := hd
    exact ⟨a, b, rfl, h1, h2⟩)
end
theorem list_nats {b : Nat} : ∀ {ys : List D}, (∀ y ∈ ys, ∃ n : Nat, y = .int (n : Nat) ∧ n < b) → ∃ ns : List Nat, ys = ns.map (fun n => .int (n : Nat)) ∧ ∀ n ∈ ns, n < b
  | [], _ => ⟨[], rfl, fun _ z => nomatch z⟩
  | y :: ys, h => by
    obtain ⟨n, rfl, hn⟩ := h y List.mem_cons_self
    obtain ⟨ns, rfl, h2⟩ := list_nats fun y hy => h y (List.mem_cons_of_mem _ hy)
    exact ⟨n :: ns, rfl, fun d hd => by
      rcases List.mem_cons.mp hd with rfl | z
      · exact hn
      · exact h2 d z⟩
theorem draw_nat {n : Int} {b : Nat} (hb : n ≤ (b : Int)) {d : D} (h : ∃ r : Int, d = .int r ∧ 0 ≤ r ∧ r < n) : ∃ k : Nat, d = .int (k : Nat) ∧ k < b := by
  obtain ⟨r, rfl, r0, r1⟩ := h
  exact ⟨r.toNat, by congr 1; omega, by omega⟩
end Dl

/-! Dza: texts sorted, any number of them; the least of a list; all but the last sign. -/
namespace Dl
open PySem L2 Evl PySem.Spec PyProof.Rows
def rSortS (K : PySem.W.Frag) : List V → Hp → VK → Prop := fun vs H Q => ∃ (a : Addr) (xs : List Str), vs = [V.ref a] ∧ SqL K H a (xs.map V.str) ∧
  ∀ (ys : List Str) (p : Addr), ys.Perm xs → sortedS ys = true → H p = none → Q (.ref p) (upd H p (.lst (ys.map V.str)))
theorem cr_sortS {X : Cx} : CallR X (.builtin "sorted") (rSortS X.K) := by
  intro pins s σ H vs us Q I r h
  obtain ⟨a, xs, rfl, hs, q⟩ := h
  obtain ⟨its, rv, hl, hz⟩ := I.list hs
  rw [Vals.ref1 r]
  have hlen0 := rv.length
  refine PyProof.Rows.sorted_strsAny hl.isList rv.strs (by rw [← hlen0]; exact hz) fun out ys h1 h2 h3 => ?_
  obtain ⟨ep, he'⟩ := PyProof.Rows.sortedAll_at s.heap its out
  have hlen : (ys.map V.str).length ≤ sizeLine := by
    rw [List.length_map, h2.length_eq]
    rw [List.length_map] at hz
    exact hz
  exact ⟨.ref _, upd H (s.heap.objs.size + 1) (.lst (ys.map V.str)), I.laid (t' := s.toks) (fun _ _ => PyProof.Rows.sortedAll_old) (Nat.le_succ _) ⟨hlen, out.toList, ep, vals_of_strs h1, he'⟩, rfl, q ys _ h2 h3 (I.hok.fresh (Nat.le_succ _))⟩
theorem k_sortS {X : Cx} (K : PySem.W.Frag) (hK : X.K = K) : CallR X (.builtin "sorted") (rSortS K) := by subst hK; exact cr_sortS
theorem ltCps_lt : ∀ {x y : List Nat}, ltCps x y = true ↔ x < y
  | [], [] => by simp [ltCps]
  | [], b :: y => by simp [ltCps]
  | a :: x, [] => by simp [ltCps]
  | a :: x, b :: y => by
    have ih := @ltCps_lt x y
    rw [List.cons_lt_cons_iff]
    unfold ltCps
    by_cases h1 : a < b
    · simp [h1]
    · by_cases h2 : a = b
      · subst h2; simp [ih]
      · simp [h1, h2]
theorem blt_irr : ∀ x : List Bool, blt x x = false
  | [] => rfl
  | a :: x => by show (if a = a then blt x x else a) = false; rw [if_pos rfl]; exact blt_irr x
theorem blt_asym : ∀ {x y : List Bool}, blt x y = true → blt y x = false
  | [], [], h => by cases h
  | [], b :: y, h => rfl
  | a :: x, [], h => by cases h
  | a :: x, b :: y, h => by
    have ih := @blt_asym x y
    have h : (if a = b then blt x y else b) = true := h
    show (if b = a then blt y x else a) = false
    by_cases e : a = b
    · subst e
      rw [if_pos rfl] at h ⊢
      exact ih h
    · rw [if_neg e] at h
      rw [if_neg (Ne.symm e)]
      subst h
      cases a
      · rfl
      · exact absurd rfl e
/-- of two orders of the same, sorted both: they are one -/
theorem sorted_uniq : ∀ {xs ys : List (List Bool)}, ys.Perm xs → xs.Pairwise (fun a b => blt a b = true) → ys.Pairwise (fun a b => blt b a = false) → ys = xs
  | [], ys, h, _, _ => List.Perm.eq_nil h
  | x :: xs, [], h, _, _ => (List.Perm.eq_nil h.symm).symm ▸ rfl
  | x :: xs, y :: ys, h, h1, h2 => by
    rw [List.pairwise_cons] at h1 h2
    by_cases e : y = x
    · subst e
      rw [sorted_uniq h.cons_inv h1.2 h2.2]
    · exfalso
      have hx : x ∈ ys := (List.mem_cons.mp (h.mem_iff.mpr List.mem_cons_self)).resolve_left (Ne.symm e)
      have hy : y ∈ xs := (List.mem_cons.mp (h.mem_iff.mp List.mem_cons_self)).resolve_left e
      have a := h2.1 x hx
      have b := h1.1 y hy
      rw [b] at a; cases a
theorem bs_ltCps (a b : List Bool) : ltCps (bs a).cps.toList (bs b).cps.toList = blt a b := by
  rw [Bool.eq_iff_iff, ltCps_lt, bs_cps, bs_cps, blt_lt]
theorem rising_bs : ∀ {l : List (List Bool)} {p : List Bool}, risingS (bs p) (l.map bs) = true → (p :: l).Pairwise (fun a b => blt b a = false)
  | [], p, _ => List.pairwise_singleton _ _
  | x :: l, p, h => by
    rw [List.map_cons] at h
    unfold risingS at h
    rw [Bool.and_eq_true, bs_ltCps] at h
    have h1 : blt x p = false := by simpa using h.1
    have ih := rising_bs h.2
    refine List.pairwise_cons.mpr ⟨fun a ha => ?_, ih⟩
    rcases List.mem_cons.mp ha with rfl | ha
    · exact h1
    · have h3 := (List.pairwise_cons.mp ih).1 a ha
      -- not a < x, not x < p: not a < p
      cases e : blt a p with
      | false => rfl
      | true =>
        exfalso
        have ap := blt_lt.mp e
        have nax : ¬ a.map sg < x.map sg := fun z => by rw [blt_lt.mpr z] at h3; cases h3
        have nxp : ¬ x.map sg < p.map sg := fun z => by rw [blt_lt.mpr z] at h1; cases h1
        have h5 : x.map sg ≤ a.map sg := nax
        have h6 : p.map sg ≤ x.map sg := nxp
        exact absurd ap (List.le_trans h6 h5)
theorem sorted_bs {l : List (List Bool)} (h : sortedS (l.map bs) = true) : l.Pairwise (fun a b => blt b a = false) := by
  cases l with
  | nil => exact .nil
  | cons x l => exact rising_bs h
theorem perm_bs {ys : List Str} {l : List (List Bool)} (h : ys.Perm (l.map bs)) : ∃ l' : List (List Bool), ys = l'.map bs ∧ l'.Perm l := by
  have all : ∀ y ∈ ys, ∃ b, y = bs b := fun y hy => by
    obtain ⟨b, _, e⟩ := List.mem_map.mp (h.mem_iff.mp hy)
    exact ⟨b, e.symm⟩
  have : ∃ l' : List (List Bool), ys = l'.map bs := by
    clear h
    induction ys with
    | nil => exact ⟨[], rfl⟩
    | cons y ys ih =>
      obtain ⟨b, rfl⟩ := all y List.mem_cons_self
      obtain ⟨l', rfl⟩ := ih fun y hy => all y (List.mem_cons_of_mem _ hy)
      exact ⟨b :: l', rfl⟩
  obtain ⟨l', rfl⟩ := this
  refine ⟨l', rfl, ?_⟩
  have inj : ∀ m : List (List Bool), (m.map bs).map (fun s : Str => s.cps.toList.map (· == 49)) = m := fun m => by
    rw [List.map_map]
    have : ∀ b : List Bool, ((fun s : Str => s.cps.toList.map (· == 49)) ∘ bs) b = b := fun b => by
      show (bs b).cps.toList.map (· == 49) = b
      rw [bs_cps, List.map_map]
      have : ∀ x : Bool, ((fun x => x == 49) ∘ sg) x = x := fun x => by cases x <;> rfl
      induction b with
      | nil => rfl
      | cons x b ih => rw [List.map_cons, ih, this]
    induction m with
    | nil => rfl
    | cons b m ih => rw [List.map_cons, ih, this]
  have q := h.map (fun s : Str => s.cps.toList.map (· == 49))
  rw [inj, inj] at q
  exact q
theorem rc_sortB {K : PySem.W.Frag} {xs ys : List (List Bool)} (hp : xs.Perm ys) (hs : ys.Pairwise (fun a b => blt a b = true)) : Rc K (rSortS K) [.lst (xs.map fun b => .str (bs b))] (.lst (ys.map fun b => .str (bs b))) := fun G H vs s r Q t => by
  cases r with
  | cons r1 r2 =>
    cases r2
    cases r1 with
    | @lst a ws ds e q =>
      have q' : Reps K G ws ((xs.map bs).map D.str) := by rw [List.map_map]; exact q
      have hv := q'.strs
      subst hv
      refine ⟨a, xs.map bs, rfl, SqL.of (s _ _ e), fun zs p hz hso hp' => ?_⟩
      obtain ⟨l', rfl, hl⟩ := perm_bs hz
      have e2 := sorted_uniq (hl.trans hp) hs (sorted_bs hso)
      subst e2
      have rr : Reps K G ((l'.map bs).map V.str) (l'.map fun b => D.str (bs b)) := by
        have := Reps.of_strs (K := K) (H := G) (l'.map bs)
        rw [List.map_map (f := bs) (g := D.str)] at this
        exact this
      exact t.lst s rr p hp'
/-- the least number of a list -/
theorem rc_minL {K : PySem.W.Frag} {l : List Nat} {m : Nat} (hm : m ∈ l) (h : ∀ x ∈ l, m ≤ x) : Rc K (rMin K) [.lst (l.map fun n : Nat => .int (n : Int))] (.int (m : Nat)) := fun G H vs s r Q t => by
  cases r with
  | cons r1 r2 =>
    cases r2
    cases r1 with
    | @lst a ws ds e q =>
      have q' : Reps K G ws ((l.map fun n : Nat => (n : Int)).map D.int) := by rw [List.map_map]; exact q
      have hv := q'.ints
      subst hv
      refine ⟨a, l.map fun n : Nat => (n : Int), rfl, SqL.of (s _ _ e), by rw [List.length_map]; exact List.length_pos_iff.mpr (fun z => by rw [z] at hm; cases hm), fun k hk hb => ?_⟩
      have em : k = (m : Nat) := by
        obtain ⟨x, hx, rfl⟩ := List.mem_map.mp hk
        have h1 := h x hx
        have h2 := hb _ (List.mem_map.mpr ⟨_, hm, rfl⟩)
        omega
      rw [em]
      exact t.same s (.int _)
/-- bits[:-1] -/
theorem bs_init (l : List Bool) : cutS (bs l) none (some (-1)) = bs l.dropLast := by
  rw [bs_cutS, HT.sIx_none, List.drop_zero, Nat.sub_zero]
  congr 1
  have e : HT.sIx l.length l.length (some (-1)) = l.length - 1 := by
    show (if (-1 : Int) < 0 then ((-1 : Int) + (l.length : Int)).toNat else min (-1 : Int).toNat l.length) = _
    rw [if_pos (by decide)]; omega
  rw [e, List.dropLast_eq_take]
theorem rs_initB {K : PySem.W.Frag} {l : List Bool} (h : l.length ≤ 1000000) : Rs K (rSlG K) (.str (bs l)) none (some (-1)) (.str (bs l.dropLast)) := by
  rw [← bs_init]; exact rs_str (by rw [bs_len]; exact h)
theorem rb_neBl {K : PySem.W.Frag} {a b : Bool} : Rb K (rNeG K) (.bl a) (.bl b) (.bl (!decide (a = b))) := by
  have := rb_neP (K := K) (x := .bl a) (y := .bl b) 0 0 rfl rfl (by decide) (by decide)
  have e : PyData.eqv (toPy (.bl a)) (toPy (.bl b)) = decide (a = b) := by cases a <;> cases b <;> rfl
  rwa [e] at this
end Dl

/-! Dzb: texts cut at a sign. -/
namespace Dl
open PySem L2 Evl PySem.Spec PyProof.Rows
open PySem.StrLaws PySem.Builtin PySem.Builtin.Str
theorem occ_all (x : Str) (c : Nat) : ∀ (n a : Nat) (st : Array Nat × Nat), st.fst.size + n ≤ x.length + 1 → st.snd ≤ a →
    (forIn (List.range' a n) st (occBody x ⟨#[c]⟩ x.length (x.length + 1))).run.fst.toList = st.fst.toList ++ (List.range' a n).filter fun i => x.cps.toList[i]? == some c
  | 0, a, st, _, _ => by simp
  | n + 1, a, st, h1, h2 => by
    rw [List.range'_succ, List.forIn_cons, List.filter_cons]
    unfold occBody
    by_cases hc : x.cps.toList[a]? = some c
    · have h3 := (subAt_one x c a).mpr hc
      rw [if_pos ⟨⟨⟨by omega, h2⟩, h3.1⟩, h3.2⟩, if_pos (by rw [hc]; simp)]
      have ih := occ_all x c n (a + 1) (st.fst.push a, a + (⟨#[c]⟩ : Str).length) (by simp; omega) (by show a + 1 ≤ a + 1; omega)
      refine Eq.trans ih ?_
      simp
    · have h3 : ¬ (((st.fst.size < x.length + 1 ∧ st.snd ≤ a) ∧ a + (⟨#[c]⟩ : Str).length ≤ x.length) ∧ subAt x ⟨#[c]⟩ a = true) := fun z => hc ((subAt_one x c a).mp ⟨z.1.2, z.2⟩)
      rw [if_neg h3, if_neg (by simpa using hc)]
      exact occ_all x c n (a + 1) (st.fst, st.snd) (by show st.fst.size + n ≤ _; omega) (by show st.snd ≤ a + 1; omega)
def jn (c : Nat) : List (List Nat) → List Nat
  | [] => []
  | [p] => p
  | p :: q :: r => p ++ c :: jn c (q :: r)
theorem filter_none {x : Str} {c a : Nat} {p : List Nat} (hp : c ∉ p) {r : List Nat} (hx : x.cps.toList.drop a = p ++ r) : ((List.range' a p.length).filter fun i => x.cps.toList[i]? == some c) = [] := by
  rw [List.filter_eq_nil_iff]
  intro i hi
  rw [List.mem_range'_1] at hi
  intro h
  have h : x.cps.toList[i]? = some c := by simpa using h
  have e : x.cps.toList[i]? = (x.cps.toList.drop a)[i - a]? := by rw [List.getElem?_drop]; congr 1; omega
  rw [e, hx, List.getElem?_append_left (by omega)] at h
  exact hp (List.mem_of_getElem? h)
theorem parts_jn (x : Str) (c : Nat) : ∀ (ps : List Str) (a : Nat), ps ≠ [] → (∀ p ∈ ps, c ∉ p.cps.toList) → a ≤ x.length → x.cps.toList.drop a = jn c (ps.map fun p => p.cps.toList) →
    partsFrom x 1 a ((List.range' a (x.length + 1 - a)).filter fun i => x.cps.toList[i]? == some c) = ps
  | [], _, h, _, _, _ => absurd rfl h
  | [p], a, _, hf, ha, hx => by
    have hx : x.cps.toList.drop a = p.cps.toList := hx
    have hl : x.length - a = p.cps.toList.length := by rw [← hx, List.length_drop]; simp [Str.length]
    have h9 : x.cps.toList.length = x.length := by simp [Str.length]
    have e : (List.range' a (x.length + 1 - a)).filter (fun i => x.cps.toList[i]? == some c) = [] := by
      have e1 : x.length + 1 - a = p.cps.toList.length + 1 := by omega
      rw [e1, List.range'_concat, List.filter_append, filter_none (hf p (by simp)) (r := []) (by rw [hx, List.append_nil]), List.filter_cons, if_neg]
      · rfl
      · rw [Nat.one_mul, List.getElem?_eq_none (by rw [h9]; omega)]; simp
    rw [e]
    show [strSub x a x.length] = [p]
    congr 1
    refine str_ext ?_
    rw [strSub_toList, hx, List.take_of_length_le (by omega)]
  | p :: q :: r, a, _, hf, ha, hx => by
    have hx : x.cps.toList.drop a = p.cps.toList ++ c :: jn c ((q :: r).map fun p => p.cps.toList) := hx
    have hp := hf p (by simp)
    have hll : x.cps.toList.length = x.length := by simp [Str.length]
    have hl : x.length - a = p.cps.toList.length + ((jn c ((q :: r).map fun p => p.cps.toList)).length + 1) := by
      have := congrArg List.length hx
      rw [List.length_drop, List.length_append, List.length_cons, hll] at this
      exact this
    have ha2 : a + p.cps.toList.length + 1 ≤ x.length := by omega
    have hx2 : x.cps.toList.drop (a + p.cps.toList.length + 1) = jn c ((q :: r).map fun p => p.cps.toList) := by
      have : x.cps.toList.drop (a + p.cps.toList.length + 1) = ((x.cps.toList.drop a).drop p.cps.toList.length).drop 1 := by rw [List.drop_drop, List.drop_drop, Nat.add_assoc]
      rw [this, hx, List.drop_left]; rfl
    have ih := parts_jn x c (q :: r) (a + p.cps.toList.length + 1) (by simp) (fun y hy => hf y (List.mem_cons_of_mem _ hy)) ha2 hx2
    have hc : x.cps.toList[a + p.cps.toList.length]? = some c := by
      have : x.cps.toList[a + p.cps.toList.length]? = (x.cps.toList.drop a)[p.cps.toList.length]? := by rw [List.getElem?_drop]
      rw [this, hx, List.getElem?_append_right (Nat.le_refl _)]; simp
    have e : (List.range' a (x.length + 1 - a)).filter (fun i => x.cps.toList[i]? == some c) = (a + p.cps.toList.length) :: (List.range' (a + p.cps.toList.length + 1) (x.length + 1 - (a + p.cps.toList.length + 1))).filter (fun i => x.cps.toList[i]? == some c) := by
      have e1 : x.length + 1 - a = p.cps.toList.length + ((x.length + 1 - (a + p.cps.toList.length + 1)) + 1) := by omega
      have e2 : List.range' a (x.length + 1 - a) = List.range' a p.cps.toList.length ++ (a + p.cps.toList.length) :: List.range' (a + p.cps.toList.length + 1) (x.length + 1 - (a + p.cps.toList.length + 1)) := by
        rw [e1, ← List.range'_append_1]
        congr 1
      rw [e2, List.filter_append, filter_none hp hx, List.nil_append, List.filter_cons, if_pos (by rw [hc]; simp)]
    rw [e]
    show strSub x a (a + p.cps.toList.length) :: partsFrom x 1 (a + p.cps.toList.length + 1) _ = _
    rw [ih]
    congr 1
    refine str_ext ?_
    rw [strSub_toList, hx, Nat.add_sub_cancel_left, List.take_left]
theorem kind_ge (x : Str) : 1 ≤ Str.strKind x := by
  unfold Str.strKind
  split
  · decide
  · split <;> decide
theorem jn_one {c : Nat} : ∀ {ps : List (List Nat)}, c ∉ jn c ps → ps ≠ [] → ps.length = 1
  | [], _, h => absurd rfl h
  | [p], _, _ => rfl
  | p :: q :: r, h, _ => absurd (by show c ∈ p ++ c :: jn c (q :: r); simp) h
/-- a text of parts without the sign is cut into them -/
theorem split_jn {x : Str} {c : Nat} {ps : List Str} (hc : Str.strKind ⟨#[c]⟩ = 1) (hne : ps ≠ []) (hf : ∀ p ∈ ps, c ∉ p.cps.toList) (hx : x.cps.toList = jn c (ps.map fun p => p.cps.toList)) : Txt.split x ⟨#[c]⟩ = ps := by
  have one : c ∉ x.cps.toList → [x] = ps := fun h => by
    rw [hx] at h
    have h1 := jn_one h (by simpa using hne)
    rw [List.length_map] at h1
    match ps, h1 with
    | [p], _ => rw [show x = p from str_ext hx]
  have hl : (⟨#[c]⟩ : Str).length = 1 := rfl
  unfold Txt.split
  by_cases h0 : x.length < 1
  · rw [if_pos (by rw [hl, decide_eq_true h0]; rfl)]
    refine one ?_
    have : x.cps.toList = [] := List.length_eq_zero_iff.mp (by simp [Str.length] at h0 ⊢; omega)
    rw [this]; simp
  · have hk := kind_ge x
    rw [if_neg (by rw [hl, hc, decide_eq_false h0, decide_eq_false (by omega)]; decide)]
    have occ : occurrences x ⟨#[c]⟩ 0 x.length (x.length + 1) = (List.range' 0 (x.length + 1 - 0)).filter fun i => x.cps.toList[i]? == some c := by
      rw [occ_eq, occ_all x c (x.length + 1 - 0) 0 (#[], 0) (by simp) (Nat.le_refl _)]; simp
    have hp := parts_jn x c ps 0 hne hf (Nat.zero_le _) hx
    rw [← occ] at hp
    split
    · rename_i he
      rw [List.isEmpty_iff.mp he] at hp
      rw [← hp]
      show [x] = [strSub x 0 x.length]
      rw [sub_whole]
    · rw [partsBetween_eq]; exact hp
theorem join_cps (c : Nat) : ∀ ps : List Str, (Txt.join ⟨#[c]⟩ ps).cps.toList = jn c (ps.map fun p => p.cps.toList) := fun ps => by
  rw [TL.join_eq]
  induction ps with
  | nil => rfl
  | cons p ps ih =>
    cases ps with
    | nil => rfl
    | cons q r =>
      show (p ++ (⟨#[c]⟩ : Str) ++ Str.join ⟨#[c]⟩ (q :: r)).cps.toList = p.cps.toList ++ c :: jn c ((q :: r).map fun p => p.cps.toList)
      rw [str_app, str_app, ih]; simp
theorem split_join {c : Nat} {ps : List Str} (hc : Str.strKind ⟨#[c]⟩ = 1) (hne : ps ≠ []) (hf : ∀ p ∈ ps, c ∉ p.cps.toList) : Txt.split (Txt.join ⟨#[c]⟩ ps) ⟨#[c]⟩ = ps := split_jn hc hne hf (join_cps c ps)
end Dl

/-! Dzc: texts with fields, cut texts, every second item, own errors with a line. -/
namespace Dl
open PySem L2 Evl PySem.Spec PyProof.Rows
section
variable {c : Ctx} {ds : Fm} {te ta tb t : TE} {ts : List TE} {y : Str} {ys : List Str} {K : PySem.W.Frag}
/-! ### f-strings -/
def Ejs (c : Ctx) (ts : List TE) (ds : Fm) (ys : List Str) : Prop := ∀ (acc : Str) G H σ, At c G H σ ds → acc.length + (ys.map (·.length)).sum ≤ 1000000 → ∀ Q : Str → Hp → Prop, (∀ G1 H1, Ext c.l G H G1 H1 → Ex G1 H1 → Q (ys.foldl (· ++ ·) acc) H1) → tJs ts acc σ H Q
theorem ejs_nil : Ejs c [] ds [] := fun acc G H σ a _ Q q => q G H Ext.refl a.sub
theorem len_app (a b : Str) : (a ++ b).length = a.length + b.length := Str.length_append a b
theorem ejs_cons (h : Ee c t ds (.str y)) (r : Ejs c ts ds ys) : Ejs c (t :: ts) ds (y :: ys) := fun acc G H σ a hz Q q => h G H σ a _ fun v G1 H1 e1 s1 r1 => by
  cases r1
  rw [List.map_cons, List.sum_cons] at hz
  exact ⟨y, rfl, sz_of (by rw [len_app]; omega), r (acc ++ y) G1 H1 σ (a.go e1 s1) (by rw [len_app]; omega) Q fun G2 H2 e2 s2 => q G2 H2 (e1.trans e2) s2⟩
theorem ee_joined (h : Ejs c ts ds ys) (hz : (ys.map (·.length)).sum ≤ 1000000) : Ee c (fun σ H Q => tJs ts Str.empty σ H fun out H1 => Q (.str out) H1) ds (.str (ys.foldl (· ++ ·) Str.empty)) := fun G H σ a Q q =>
  h Str.empty G H σ a (by show 0 + _ ≤ _; omega) _ fun G1 H1 e1 s1 => q _ G1 H1 e1 s1 (.str _)
theorem ee_fmtS (h : Ee c te ds (.str y)) (hz : y.length ≤ 1000000) : Ee c (tFmt te) ds (.str y) := fun G H σ a Q q => h G H σ a _ fun v G1 H1 e1 s1 r1 => by
  cases r1
  exact .inl ⟨y, rfl, sz_of hz, q _ G1 H1 e1 s1 (.str y)⟩
theorem ee_fmtI {i : Int} (h : Ee c te ds (.int i)) (hz : i.natAbs.log2 < 1920) : Ee c (tFmt te) ds (.str (toString i)) := fun G H σ a Q q => h G H σ a _ fun v G1 H1 e1 s1 r1 => by
  cases r1
  exact .inr ⟨i, rfl, hz, q _ G1 H1 e1 s1 (.str _)⟩
/-! ### x.split(y) -/
theorem ee_split {a b : Str} (ha : Ee c ta ds (.str a)) (hb : Ee c tb ds (.str b)) (h0 : (b.length == 0) = false) (hz : a.length ≤ 900000) : Ee c (tM1 (fun x xs H Q => ∃ a b, x = .str a ∧ xs = [.str b] ∧ (b.length == 0) = false ∧ a.length + 2 ≤ sizeLine ∧ rNewStrs (Txt.split a b) H Q) ta tb) ds (.lst ((Txt.split a b).map D.str)) :=
  ee_m1 ha hb fun G H v vs s r1 r2 Q t => by
    cases r1
    cases r2 with
    | cons r2 r3 =>
      cases r3; cases r2
      exact ⟨a, b, rfl, rfl, h0, sz_of (by omega), t.lst s (Reps.of_strs _)⟩
/-! ### every second of eight -/
def tEven (K : PySem.W.Frag) (te : TE) : TE := fun σ H Q => te σ H fun x H1 => ∃ a x0 x1 x2 x3 x4 x5 x6 x7, x = .ref a ∧ SqL K H1 a [x0, x1, x2, x3, x4, x5, x6, x7] ∧ ∀ p, H1 p = none → Q (.ref p) (upd H1 p (.lst [x0, x2, x4, x6]))
theorem ee_even {x0 x1 x2 x3 x4 x5 x6 x7 : D} (h : Ee c te ds (.lst [x0, x1, x2, x3, x4, x5, x6, x7])) : Ee c (tEven c.K te) ds (.lst [x0, x2, x4, x6]) := fun G H σ a Q q => h G H σ a _ fun v G1 H1 e1 s1 r1 => by
  cases r1 with
  | lst e r =>
    cases r with | cons r0 r => cases r with | cons r1 r => cases r with | cons r2 r => cases r with | cons r3 r => cases r with | cons r4 r => cases r with | cons r5 r => cases r with | cons r6 r => cases r with | cons r7 r =>
    cases r
    exact ⟨_, _, _, _, _, _, _, _, _, rfl, SqL.of (s1 _ _ e), Then.lst (fun u G3 H3 e3 s3 r3 => q u G3 H3 (e1.trans e3.all) s3 r3) s1 (.cons r0 (.cons r2 (.cons r4 (.cons r6 .nil))))⟩
theorem pick_even (a b c d e f g h : Value) : slicePick #[a, b, c, d, e, f, g, h] (some 0) none (some 2) = #[a, c, e, g] := by
  first
    | rfl
    | with_unfolding_all rfl
    | simp [slicePick]
theorem pe_even {X : Cx} (K : PySem.W.Frag) {e : Expr} {te : TE} {k1 k2 : Nat} {p1 p2 p3 pos : Pos} (hK : X.K = K) (he : PE X e te) : PE X (.Subscript e (.Slice (some (.Constant (.int 0) k1 p1)) none (some (.Constant (.int 2) k2 p2)) p3) pos) (tEven K te) := by
  subst hK
  refine ⟨fun pins s σ H Q I h => ?_⟩
  refine Subscript_ (thn (he.run pins s σ H _ I h) fun v s1 ⟨x, H1, I1, r1, q1⟩ => ?_)
  obtain ⟨a, x0, x1, x2, x3, x4, x5, x6, x7, ex, hx, q⟩ := q1
  subst ex
  cases r1
  have hl : PO X (some (.Constant (.int 0) k1 p1)) (tPart (tC (.int 0))) := po_some pe_int
  have hst : PO X (some (.Constant (.int 2) k2 p2)) (tPart (tC (.int 2))) := po_some pe_int
  refine wpAny_Slice (thn (hl.run pins s1 σ H1 (fun o H2 => o = some 0 ∧ H2 = H1) I1 ⟨0, rfl, rfl, rfl⟩) fun vl s2 ⟨l, H2, I2, pl, el, e2⟩ => ?_)
  subst el e2
  refine thn (po_none.run pins s2 σ H2 (fun o H3 => o = none ∧ H3 = H2) I2 ⟨rfl, rfl⟩) fun vu s3 ⟨u, H3, I3, pu, eu, e3⟩ => ?_
  subst eu e3
  refine thn (hst.run pins s3 σ H3 (fun o H4 => o = some 2 ∧ H4 = H3) I3 ⟨2, rfl, rfl, rfl⟩) fun vs s4 ⟨o, H4, I4, ps, eo, e4⟩ => ?_
  subst eo e4
  have I5 : Inv X pins σ H4 { s4 with heap := s4.heap.push { cls := .type "slice", data := .fields #[vl, vu, vs] } } := I4.kept (t' := s4.toks) fun b ob q => Heap.get?_push_of_some _ q
  obtain ⟨its, r, ht, hz⟩ := I5.list hx
  have hlen := r.length
  show wpAny (model X.prog X.w) X.A (subscriptTail e (.Slice (some (.Constant (.int 0) k1 p1)) none (some (.Constant (.int 2) k2 p2)) p3) (.ref a) (.ref s4.heap.objs.size)) (EP X pins σ Q) X.xe { s4 with heap := s4.heap.push { cls := .type "slice", data := .fields #[vl, vu, vs] } }
  refine tail_any (ops := [.ref a, .ref s4.heap.objs.size]) ht.isList.typeIs (PySem.slot_list_getitem.lookup) ?_ (by with_unfolding_all rfl)
  refine wpAny_getItem_list_slice ht.isList (Heap.IsSliceOf.new _ vl vu vs) pl pu ps (by decide) ?_ (by rw [List.size_toArray]; omega)
  cases r with | cons r0 r => cases r with | cons r1 r => cases r with | cons r2 r => cases r with | cons r3 r => cases r with | cons r4 r => cases r with | cons r5 r => cases r with | cons r6 r => cases r with | cons r7 r =>
  cases r
  rw [pick_even]
  refine ⟨.ref _, _, I5.laid (t' := s4.toks) (o := .lst [x0, x2, x4, x6]) (fun b ob q => Heap.get?_push_of_some _ q) (Nat.le_refl _) ?_, rfl, q _ (I5.hok.fresh (Nat.le_refl _))⟩
  exact ⟨by show 4 ≤ sizeLine; decide, _, 0, .cons r0 (.cons r2 (.cons r4 (.cons r6 .nil))), Heap.get?_push_size _ rfl⟩
/-! ### x or y; None in (a, b); signs among signs; figures -/
theorem ee_orT {x d : D} (h : Ee c ta ds x) (hx : truOk x) (h1 : truD x = true → x = d) (h2 : truD x = false → Ee c tb ds d) : Ee c (tOrT c.K ta tb) ds d := fun G H σ a Q q => h G H σ a _ fun v G1 H1 e1 s1 r1 => by
  refine ⟨truD x, tru_of s1 r1 hx, ?_⟩
  cases e : truD x with
  | true =>
    rw [if_pos rfl]
    exact q v G1 H1 e1 s1 (h1 e ▸ r1)
  | false =>
    rw [if_neg (by decide)]
    exact h2 e G1 H1 σ (a.go e1 s1) Q fun v G2 H2 e2 => q v G2 H2 (e1.trans e2)
theorem rb_inNon {o p : Option Nat} : Rb K (rInG K) .non (.tup [optD o, optD p]) (.bl (o.isNone || p.isNone)) := fun G H v w sb r1 r2 Q t => by
  cases r1
  cases r2 with
  | tup e q =>
    cases q with | cons q1 q => cases q with | cons q2 q =>
    cases q
    refine ⟨_, _, rfl, .inr (ex_t sb e), rfl, ?_, ?_⟩
    · cases o <;> cases p <;> cases q1 <;> cases q2 <;> rfl
    · have := t.same (u := .bl (o.isNone || p.isNone)) sb (.bl _)
      cases o <;> cases p <;> cases q1 <;> cases q2 <;> exact this
def rNinS : R2 := fun x y H Q => ∃ i j, x = .str i ∧ y = .str j ∧ Q (.bl (!(!(PySem.Builtin.Str.occurrences j i 0 j.length 1).isEmpty))) H
theorem k_ninS {X : Cx} : OpR X (compareOp .NotIn) rNinS := op_notIn_str
theorem rb_ninS {j : Str} {k : Nat} : Rb K rNinS (.str ⟨#[k]⟩) (.str j) (.bl (!decide (k ∈ j.cps.toList))) := fun G H v w s r1 r2 Q t => by
  cases r1; cases r2
  refine ⟨_, _, rfl, rfl, ?_⟩
  rw [PySem.StrLaws.found_one]
  exact t.same s (.bl _)
/-- a figure -/
def dg (k : Nat) : Str := ⟨#[48 + k]⟩
theorem dg_toS {k : Nat} (h : k ≤ 9) : (toString ((k : Nat) : Int) : Str) = dg k := by
  have : k = 0 ∨ k = 1 ∨ k = 2 ∨ k = 3 ∨ k = 4 ∨ k = 5 ∨ k = 6 ∨ k = 7 ∨ k = 8 ∨ k = 9 := by omega
  rcases this with h | h | h | h | h | h | h | h | h | h <;> subst h <;> decide +kernel
theorem rc_intDg {k : Nat} (h : k ≤ 9) : Rc K rIntT [.str (dg k)] (.int (k : Nat)) := fun G H vs s r Q t => by
  cases r with
  | cons r r' =>
    cases r'; cases r
    have e : PySem.intText? (dg k) = some ((k : Nat) : Int) := by
      have : k = 0 ∨ k = 1 ∨ k = 2 ∨ k = 3 ∨ k = 4 ∨ k = 5 ∨ k = 6 ∨ k = 7 ∨ k = 8 ∨ k = 9 := by omega
      rcases this with h | h | h | h | h | h | h | h | h | h <;> subst h <;> decide +kernel
    exact ⟨_, _, rfl, e, by show (dg k).length ≤ 640; exact (by decide : 1 ≤ 640), t.same s (.int _)⟩
end
/-! ### an own error with a line -/
/-- its __init__ -/
def spBL (C : Addr) : Sp := fun vs H Q _ => ∃ (a : Addr) (n : Int), vs = [.ref a, .int n] ∧ H a = some (exo a C none) ∧ ∀ dx, H dx = none → dx ≠ a → Q .non (upd (upd H dx (exd dx [("line", .int n)])) a (exo a C (some dx)))
structure OkL (P : Program) (w : World) (K : PySem.W.Frag) (mg : Str → Option Value) (base : Heap) (k : Nat) (x : Str) (C : Addr) : Prop where
  ex : ∃ f fd, FnOk P w K mg base CX0 k f fd ["self", "line"] (spBL C) ∧ PySem.W.findIn K (.ref C) "__init__" = some (some (.ref f)) ∧ PySem.W.typeIn K (.ref f) = some (.type "function") ∧ Binds K fd ["self", "line"] []
  t : OexC K C
  g : mg x = some (.ref C)
structure HasL (K : PySem.W.Frag) (mg : Str → Option Value) (x qual : Str) (C : Addr) (st : Stmt) : Prop where
  ex : ∃ f fd, Fun K "__init__" qual st f fd ∧ PySem.W.findIn K (.ref C) "__init__" = some (some (.ref f)) ∧ PySem.W.typeIn K (.ref f) = some (.type "function") ∧ Binds K fd ["self", "line"] []
  t : OexC K C
  g : mg x = some (.ref C)
  no : PySem.W.findIn K (.ref C) "line" = some none
  xf : XfC K C
theorem HasL.ok {P : Program} {w : World} {K : PySem.W.Frag} {mg : Str → Option Value} {base : Heap} {x qual : Str} {st : Stmt} {N : List Str} {k : Nat} {C : Addr} (h : HasL K mg x qual C st) (S : FnScope N ["self", "line"] (defScope st))
    (hbody : ∀ (f : Addr) (cdv : Value) (A : Around) (outer : List Env) (s : Shared) (H : Hp) (vs : List V) (Q : VK) (E : XK), Room k (A.deeper (envOfC qual (defScope st) s.heap.objs.size f cdv)) → spBL C vs H Q E →
      ∃ t, PSs (cxOf CX0 P w K mg base N qual (defScope st) f cdv A outer s H E).nox (defBody st) t ∧ t { nx := fun _ H' => Q .non H', rt := Q } (L2.start N vs) H) : OkL P w K mg base (k + 1) x C := by
  obtain ⟨f, fd, F, i, tI, b⟩ := h.ex
  exact ⟨⟨f, fd, F.ok S (fun vs H Q E z => by obtain ⟨_, _, e, _⟩ := z; rw [e]; rfl) (hbody f), i, tI, b⟩, h.t, h.g⟩
def tRaiseL (W : WX) (C : Addr) (ta : TA) : TS := fun _ σ H => tMkO C (spBL C) [] ta σ H fun cls d H' => W cls d σ H'
theorem ps_raiseLine {X : Cx} {W : WX} {C : Addr} {x : Str} {k : Nat} {e : Expr} {ta : TA} {p pos pos2 : Pos} (hc : X.calm = true) (T : OkL X.prog X.w X.K X.mg X.base k x C) (hr : Room (k + 1) X.A) (tk : Takes X W) (hg : Gl X x) (ha : PA X [e] ta)
    (hdb : (x == ("__debug__" : Str)) = false := by decide) (he : starEach [e] X.env = (false, eval e X.env) :: starEach [] X.env := by rfl) (hpl : (backTo pos (starEach [] X.env)).any (·.1) = false := by rfl) :
    PS X (.Raise (some (.Call (.Name x p) [e] [] pos)) none pos2) (tRaiseL W C ta) := by
  obtain ⟨f, fd, F, i, tI, b⟩ := T.ex
  exact ps_raise hc tk (pmk_oex T.t i tI F hr b .nil (fun _ _ _ _ _ _ _ h => h.elim) hg T.g ha hdb he hpl)
theorem del_heap {H1 : Hp} {a dx : Addr} {o1 o2 o3 o4 : HO} (ha : H1 a = none) (hne : dx ≠ a) : upd (del (upd (upd (upd H1 a o1) dx o2) a o3) a) dx o4 = upd H1 dx o4 := by
  funext b
  by_cases h1 : b = dx
  · subst h1; rw [upd_same, upd_same]
  · rw [upd_ne h1, upd_ne h1]
    by_cases h2 : b = a
    · subst h2; rw [del_same, ha]
    · rw [del_ne h2, upd_ne h2, upd_ne h1, upd_ne h2]
theorem st_raiseL {c : Ctx} {n : DE} {ds : Fm} {C : Addr} {ta : TA} {i : Int} (h : Ea c ta ds [.int i]) (k : n.er (.ref C) (some i)) : St c (tRaiseL (fun cls d _ H => c.X cls d H) C ta) n ds := fun G H σ at' E l => h G H σ at' _ fun vs G1 H1 e1 s1 r1 => by
  cases r1 with
  | cons r1 r2 =>
    cases r2
    cases r1
    refine ⟨by show 1 ≤ 1000; decide, fun a ha => ⟨a, i, rfl, upd_same, fun dx hdx hne => ⟨rfl, dx, [("line", .int i)], upd_same, by rw [upd_ne hne, upd_same], ?_, ?_⟩⟩⟩
    · rwa [upd_ne hne] at hdx
    · rw [del_heap ha hne]
      have := l.er G1 H1 (.ref C) (some i) e1.s s1 k
      exact this dx (by rwa [upd_ne hne] at hdx)
/-- try: f(..) ; except C as e: y = e.line -/
theorem st_try_line {α : Type} {args : α → List D} {pre : α → Prop} {res : α → Res} {c : Ctx} {ds : Fm} {ta : TA} {a : α} {xs : List D} {n : DE} {C : Addr} {Wout : WX} {i j : Nat} (h : Ea c ta ds xs) (hx : xs = args a) (hp : pre a) (hi : ds[i]? = some .no) (hj : j < ds.length) (hij : i ≠ j) (hm : PySem.W.exmOne c.K (.ref C) (.ref C) = some true)
    (h1 : ∀ d, res a = .ok d → n.nx ds) (h2 : ∀ C' o, res a = .err C' o → ∃ m : Int, C' = .ref C ∧ o = some m ∧ n.nx (ds.set j (.v (.int m)))) :
    St c (fun D σ H => tDrop (tCallS (spA c.K args pre res) (WE (wAs c.K (.ref C) i (fun b cls d => tAsg (tXf b cls d C "line" (tVar i)) (gName j)) Wout D)) ta) D σ H) n ds := fun G H σ at' E l =>
  h G H σ at' _ fun vs G1 H1 e1 s1 r1 => by
    subst hx
    refine ⟨G1, a, s1, r1, hp, fun d' hd u G2 H2 e2 s2 r2 => l.nx G2 H2 σ ds (e1.trans e2.all).s (at'.go (e1.trans e2.all) s2) (h1 d' hd), fun C' o z G2 H2 e2 s2 => ?_⟩
    obtain ⟨m, rfl, rfl, k⟩ := h2 C' o z
    intro dd hdd
    refine ⟨true, hm, fun _ b hb => ?_, fun z => nomatch z⟩
    have hlt : i < σ.length := by rw [at'.fr.len]; exact (List.getElem?_eq_some_iff.mp hi).1
    refine ⟨.ref b, by rw [List.getElem?_set_self hlt], rfl, rfl, dd, [("line", .int m)], .int m, rfl, upd_same, by simp [List.lookup], ?_⟩
    -- the handler's name is gone, the number stands
    have e3 : Ext c.l G2 H2 G2 (upd H2 dd (.xd [("line", .int m)])) := Ext.refl.mut hdd
    have g2 : G2 dd = none := sub_none s2 hdd
    have a2 := at'.go ((e1.trans e2.all).trans e3) (sub_hid s2 g2)
    show E.nx (((σ.set i (some (.ref b))).set j (some (.int m))).set i none) _
    have es : ((σ.set i (some (.ref b))).set j (some (.int m))).set i none = (σ.set i none).set j (some (.int m)) := by
      apply List.ext_getElem?
      intro q
      by_cases h1 : i = q
      · subst h1
        rw [List.getElem?_set_self (by simpa using hlt), List.getElem?_set_ne (Ne.symm hij), List.getElem?_set_self hlt]
      · rw [List.getElem?_set_ne h1]
        by_cases h2 : j = q
        · subst h2
          by_cases h3 : j < σ.length
          · rw [List.getElem?_set_self (by simpa using h3), List.getElem?_set_self (by simpa using h3)]
          · rw [List.getElem?_eq_none (by simp; omega), List.getElem?_eq_none (by simp; omega)]
        · rw [List.getElem?_set_ne h2, List.getElem?_set_ne h1, List.getElem?_set_ne h2, List.getElem?_set_ne h1]
    rw [es]
    have f3 := (a2.fr.no (i := i) none)
    have ed : ds.set i .no = ds := by
      apply List.ext_getElem?
      intro q
      by_cases h1 : i = q
      · subst h1; rw [List.getElem?_set_self (List.getElem?_eq_some_iff.mp hi).1, hi]
      · rw [List.getElem?_set_ne h1]
    rw [ed] at f3
    exact l.nx G2 _ _ _ ((e1.trans e2.all).trans e3).s ⟨a2.sub, f3.set (.int m) hj, a2.lk, a2.tr⟩ k
end Dl

/-! Dzd: an own list by a comprehension. -/
namespace Dl
open PySem L2 Evl PySem.Spec PyProof.Rows
section
variable {c : Ctx} {ds : Fm} {te : TE} {g : TG} {n : DE} {tt : TT} {xs : List D}
theorem st_ownLc {wi : TI} {vs js : List Nat} {i0 : Nat} (hi : Ei c wi ds xs) (out : Nat → List D) (h0 : out 0 = []) (hz : xs.length ≤ 1000000)
    (hl : ∀ i, i ≤ xs.length → (out i).length ≤ i) (hv : ∀ j ∈ js, j ∈ vs)
    (hs : ∀ i d, xs[i]? = some d → ∃ ds2 b, Eg c g d (wipeD ds vs) ds2 js ∧ Et c tt ds2 b ∧ (b = true → ∃ e, Ee c te ds2 e ∧ out (i + 1) = out i ++ [e]) ∧ (b = false → out (i + 1) = out i))
    (hi0 : i0 < ds.length) (k : n.nx (ds.set i0 (.own (out xs.length)))) : St c (tAsg (tLc wi g tt te vs) (gName i0)) n ds := fun G0 H0 σ at' E l => hi G0 H0 σ at' _ fun J G1 H1 e1 s1 it => by
  intro Dl hDl
  have at1 : At c G1 H1 σ ds := at'.go e1 s1
  have hg1 : G1 Dl = none := sub_none s1 hDl
  have hne : NotL c.l Dl := fun y z => (at1.lk Dl y z).1 hDl
  let P : Nat → Hp → Prop := fun i H => ∃ G ys, Ext c.l G1 H1 G H ∧ Ex G H ∧ G Dl = none ∧ H Dl = some (.lst ys) ∧ Reps c.K G ys (out i)
  refine ⟨fun i m H => i ≤ xs.length ∧ m = xs.length - i ∧ P i H, ⟨xs.length, Nat.zero_le _, rfl, G1, [], Ext.refl.mut hDl, sub_hid s1 hg1, hg1, upd_same, by rw [h0]; exact .nil⟩, ?_⟩
  rintro i m H ⟨il, rfl, G, ys, eg, sb, gd, hd, rp⟩
  by_cases hlt : i < xs.length
  · refine .inr ⟨it.go i G H eg.g sb hlt, P (i + 1), fun H' p => ⟨xs.length - (i + 1), by omega, hlt, rfl, p⟩, fun x H' y => ?_⟩
    obtain ⟨d, G2, hd', ex, sb2, rx⟩ := it.yld i G H x H' eg.g sb hlt y
    obtain ⟨ds2, b, hg, ht, hT, hF⟩ := hs i d hd'
    have e2 : Ext c.l G1 H1 G2 H' := eg.trans ex.all
    have at2 : At c G2 H' (wipe σ vs) (wipeD ds vs) := (at1.go e2 sb2).wipe vs
    refine hg G2 H' _ x at2 rx _ fun σ2 a2 len2 keep => ⟨wipe_same (by rw [len2, wipe_length]) fun k hk => keep k fun z => hk (hv k z), ?_⟩
    have nd : ∀ {G3 H3}, Ext c.l G2 H' G3 H3 → G3 Dl = none ∧ H3 Dl = some (.lst ys) := fun e3 => by
      have h1 : H' Dl = some (.lst ys) := ex.h Dl _ (fun _ z => nomatch z) hd
      refine ⟨e3.n Dl (by rw [h1]; simp) (ex.n Dl (by rw [hd]; simp) gd), e3.h Dl _ hne h1⟩
    refine ht G2 H' σ2 a2 _ fun G3 H3 e3 s3 => ?_
    cases b with
    | true =>
      obtain ⟨e, he, ho⟩ := hT rfl
      refine he G3 H3 σ2 (a2.go e3 s3) _ fun v G4 H4 e4 s4 r4 => ?_
      obtain ⟨n1, n2⟩ := nd (e3.trans e4)
      have g4 : Ext c.l G1 H1 G4 H4 := (e2.trans e3).trans e4
      have len : ys.length ≤ i := by rw [rp.len]; exact hl i il
      refine ⟨ys, n2, sz_lt (by omega), G4, ys ++ [v], g4.mut hDl, sub_hid s4 n1, n1, upd_same, ?_⟩
      rw [ho]
      exact (rp.mono ((ex.g.trans e3.g).trans e4.g)).app (.cons r4 .nil)
    | false =>
      obtain ⟨n1, n2⟩ := nd e3
      exact ⟨G3, ys, e2.trans e3, s3, n1, n2, by rw [hF rfl]; exact rp.mono (ex.g.trans e3.g)⟩
  · have e : i = xs.length := by omega
    subst e
    have a2 := at1.go eg sb
    refine .inl ⟨it.stop G H eg.g sb, l.nx G H _ _ (e1.trans eg).s ⟨a2.sub, a2.fr.own hi0 gd hd rp hne (fun w => at1.tr Dl w hDl) (fun b z => (at1.lk b Dl z).2.2 hDl) fun j ys' hj ee => ?_, a2.lk, a2.tr⟩ k⟩
    obtain ⟨b, ws, q1, _, q3, _⟩ := at1.fr.ok j _ hj
    rw [ee] at q1
    have q : V.ref Dl = V.ref b := Option.some.inj (Option.some.inj q1)
    cases q
    rw [hDl] at q3; cases q3
end
section
variable {c : Ctx} {ds : Fm} {te : TE} {g : TG} {n : DE} {α : Type} {ys : List α} {gD h : α → D} {wi : TI} {vs js : List Nat} {i0 : Nat}
theorem st_ownLcA (hi : Ei c wi ds (ys.map gD)) (h : α → D) (hz : ys.length ≤ 1000000) (hv : ∀ j ∈ js, j ∈ vs)
    (hs : ∀ (i : Nat) y, ys[i]? = some y → ∃ ds2, Eg c g (gD y) (wipeD ds vs) ds2 js ∧ Ee c te ds2 (h y)) (hi0 : i0 < ds.length) (k : n.nx (ds.set i0 (.own (ys.map h)))) : St c (tAsg (tLc wi g tYes te vs) (gName i0)) n ds :=
  st_ownLc (tt := tYes) (te := te) (g := g) (vs := vs) (js := js) hi (fun i => (ys.take i).map h) (by simp) (by rw [List.length_map]; exact hz) (fun i hi => by simp; omega) hv (fun i d hd => by
    rw [List.getElem?_map] at hd
    cases e : ys[i]? with
    | none => rw [e] at hd; cases hd
    | some y =>
      rw [e] at hd
      have hd' : gD y = d := Option.some.inj hd
      subst hd'
      obtain ⟨ds2, h1, h2⟩ := hs i y e
      refine ⟨ds2, true, h1, et_yes, fun _ => ⟨h y, h2, ?_⟩, fun z => nomatch z⟩
      rw [List.take_succ, List.map_append, e]; rfl) hi0 (by rw [List.length_map, List.take_of_length_le (Nat.le_refl _)]; exact k)
end
end Dl

/-! Dr: an instance that holds a list of its own. -/
namespace Dl
open PySem L2 Evl PySem.Spec PyProof.Rows
theorem Reps.dropLast {K : PySem.W.Frag} {G : Hp} {vs : List V} {ds : List D} (r : Reps K G vs ds) : Reps K G vs.dropLast ds.dropLast := by
  rw [List.dropLast_eq_take, List.dropLast_eq_take, r.len]
  exact r.take _
theorem RdH.ne {K : PySem.W.Frag} {G H : Hp} {p q dx C : Addr} {d : D} {xs : List D} (h : RdH K G H p q dx C d xs) : p ≠ q := by
  obtain ⟨u, vs, k1, k2, k3, k4, k5, k6⟩ := h
  intro z
  rw [z, k4] at k3; cases k3
section
variable {c : Ctx} {ds : Fm} {n : DE} {te : TE} {ta : TA} {d e : D} {xs ys : List D} {i j : Nat} {w : Bool} {p q dx C : Addr}
theorem rd_at {G H : Hp} {σ : L2.St} (a : At c G H σ ds) (hx : ds[i]? = some (.rdr w p q dx C d xs)) : σ[i]? = some (some (.ref p)) ∧ RdH c.K G H p q dx C d xs := by
  have h := a.fr.ok i _ hx
  exact ⟨h.1, h.2.1⟩
theorem ee_rcode (hx : ds[i]? = some (.rdr w p q dx C d xs)) (hc : Cls c.K C) (hn : NoAttr c.K C "code") : Ee c (tFld c.K (tVar i) "code") ds d := fun G H σ a Q q' => by
  obtain ⟨h1, u, vs, k1, k2, k3, k4, k5, k6⟩ := rd_at a hx
  exact ⟨_, h1, p, C, dx, _, u, rfl, k3, hc, hn, rfl, q' u G H Ext.refl a.sub k5⟩
theorem rd_fed {G H : Hp} {σ : L2.St} {Q : VK} (hx : ds[i]? = some (.rdr w p q dx C d xs)) (hc : Cls c.K C) (hn : NoAttr c.K C "fed") (a : At c G H σ ds) (h : ∀ vs, G q = none → H q = some (.lst vs) → Reps c.K G vs xs → Q (.ref q) H) : tFld c.K (tVar i) "fed" σ H Q := by
  obtain ⟨h1, u, vs, k1, k2, k3, k4, k5, k6⟩ := rd_at a hx
  exact ⟨_, h1, p, C, dx, _, .ref q, rfl, k3, hc, hn, rfl, h vs k2 k4 k6⟩
theorem ee_rjoin {l : List Bool} (hx : ds[i]? = some (.rdr w p q dx C d xs)) (hc : Cls c.K C) (hn : NoAttr c.K C "fed") (e : xs = l.map fun b => .str (bs [b])) (hz : l.length ≤ 1000000) : Ee c (tM1 (rJoin c.K) (tC (.str "")) (tFld c.K (tVar i) "fed")) ds (.str (bs l)) := fun G H σ a Q q' =>
  ⟨⟨_, rfl⟩, rd_fed hx hc hn a fun vs _ h4 r => by
    have r' : Reps c.K G vs ((l.map fun b => bs [b]).map D.str) := by rw [List.map_map]; rw [e] at r; exact r
    have hv := r'.strs
    subst hv
    refine ⟨_, _, l.map fun b => bs [b], rfl, rfl, .inl (SqL.of h4), ?_, ?_⟩
    · have e0 : ("" : Str).length = 0 := by decide
      rw [sum_ones, e0]; omega
    · rw [join_bits]; exact q' _ G H Ext.refl a.sub (.str _)⟩
theorem et_rtru (hx : ds[i]? = some (.rdr w p q dx C d xs)) (hc : Cls c.K C) (hn : NoAttr c.K C "fed") : Et c (tTruG c.K (tFld c.K (tVar i) "fed")) ds (!xs.isEmpty) := fun G H σ a Q q' =>
  rd_fed hx hc hn a fun vs _ h4 r => ⟨!xs.isEmpty, .inl ⟨_, SqL.of h4, by rw [empty_reps r]⟩, q' G H Ext.refl a.sub⟩
theorem ee_rlen (hx : ds[i]? = some (.rdr w p q dx C d xs)) (hc : Cls c.K C) (hn : NoAttr c.K C "fed") : Ee c (tCB (rLenG c.K) (tCons (tFld c.K (tVar i) "fed") tNil)) ds (.int (xs.length : Nat)) := fun G H σ a Q q' =>
  rd_fed hx hc hn a fun vs _ h4 r => ⟨_, xs.length, rfl, .inl ⟨_, SqL.of h4, by rw [r.len]⟩, q' _ G H Ext.refl a.sub (.int _)⟩
/-- the reader's list changes -/
theorem At.rmut {E : XK} {G H G1 H1 : Hp} {σ : L2.St} (a : At c G H σ ds) (hx : ds[i]? = some (.rdr true p q dx C d xs)) (fl : (ds.set i .no).all flatS = true)
    (e : Exs ⟨c.K, none, E, fun b => H b ≠ none, fun b => b = p ∨ b = q⟩ G H G1 H1) (s : Ex G1 H1) (rd : RdH c.K G1 H1 p q dx C d ys) : Exs c G H G1 H1 ∧ At c G1 H1 σ (ds.set i (.rdr true p q dx C d ys)) := by
  obtain ⟨h1, rd0, nlp, nlq, nip, niq, pw⟩ := a.fr.ok i _ hx
  have hi : i < ds.length := (List.getElem?_eq_some_iff.mp hx).1
  have keep : ∀ b o, b ≠ p → b ≠ q → H b = some o → H1 b = some o := fun b o hp hq h => e.h b o (by show H b ≠ none; rw [h]; simp) (fun z => z.elim hp hq) (fun _ z => (nomatch z)) h
  have dr : ∀ b y, c.l = some (b, y) → DrawsOk H b y → DrawsOk H1 b y := fun b y hb z => by
    obtain ⟨ns, i', j, s, q1, q2, r⟩ := z
    exact ⟨ns, i', j, s, keep b _ (fun z => nlp y (by rw [← z]; exact hb)) (fun z => nlq y (by rw [← z]; exact hb)) q1, keep y _ (fun z => nip b (by rw [← z]; exact hb)) (fun z => niq b (by rw [← z]; exact hb)) q2, r⟩
  refine ⟨⟨e.g, fun b o w m _ h => keep b o (fun z => m ?_) (fun z => m ?_) h, fun b w hb g => e.n b hb hb g, e.t, dr⟩, ⟨s, ⟨by rw [List.length_set]; exact a.fr.len, fun j s' hs => ?_, fun j j' b xs' ys' hjj hj hj' e2 e3 => ?_⟩, fun b y hb => ⟨e.t b (a.lk b y hb).1, e.n b (a.lk b y hb).1 (a.lk b y hb).1 (a.lk b y hb).2.1, e.t y (a.lk b y hb).2.2⟩, fun b hb => e.t b (a.tr b hb)⟩⟩
  · rw [z]; exact (pw rfl).1 (by rw [← z]; exact w)
  · rw [z]; exact (pw rfl).2 (by rw [← z]; exact w)
  · by_cases hj : i = j
    · subst hj
      rw [List.getElem?_set_self hi] at hs
      cases hs
      exact ⟨h1, rd, nlp, nlq, nip, niq, pw⟩
    · rw [List.getElem?_set_ne hj] at hs
      have o := a.fr.ok j s' hs
      have f := List.all_eq_true.mp fl s' (List.mem_of_getElem? (by rw [List.getElem?_set_ne hj]; exact hs))
      cases s' with
      | no => trivial
      | v d => obtain ⟨u, o1, o2⟩ := o; exact ⟨u, o1, o2.mono e.g⟩
      | drw =>
        obtain ⟨b, y, o1, o2, o3, o4⟩ := o
        exact ⟨b, y, o1, o2, e.n b (a.lk b y o1).1 (a.lk b y o1).1 o3, dr b y o1 o4⟩
      | own _ => cases f
      | self _ _ _ _ _ => cases f
      | rdr _ _ _ _ _ _ _ => cases f
  · have nj : i ≠ j := fun z => by subst z; rw [List.getElem?_set_self hi] at hj; cases hj
    rw [List.getElem?_set_ne nj] at hj
    have f := List.all_eq_true.mp fl _ (List.mem_of_getElem? (i := j) (by rw [List.getElem?_set_ne nj]; exact hj))
    cases f
theorem rd_upd {E : XK} {G H : Hp} {vs : List V} (rd : RdH c.K G H p q dx C d xs) (r : Reps c.K G vs ys) : Exs ⟨c.K, none, E, fun b => H b ≠ none, fun b => b = p ∨ b = q⟩ G H G (upd H q (.lst vs)) ∧ RdH c.K G (upd H q (.lst vs)) p q dx C d ys := by
  have ne := rd.ne
  obtain ⟨u, vs', k1, k2, k3, k4, k5, k6⟩ := rd
  refine ⟨⟨Ex.refl _, fun b o _ m _ h => by rw [upd_ne (fun z => m (.inr z))]; exact h, fun b _ _ g => g, fun b h => ?_, fun _ _ z => nomatch z⟩, ⟨u, vs, k1, k2, by rw [upd_ne ne]; exact k3, upd_same, k5, r⟩⟩
  by_cases hb : b = q
  · subst hb; rw [upd_same]; simp
  · rw [upd_ne hb]; exact h
/-- self.fed.append(e) -/
theorem st_rapp (hx : ds[i]? = some (.rdr true p q dx C d xs)) (hc : Cls c.K C) (hn : NoAttr c.K C "fed") (h : Ee c te ds e) (hz : xs.length < 1000000) (k : n.nx (ds.set i (.rdr true p q dx C d (xs ++ [e])))) (fl : (ds.set i .no).all flatS = true := by rfl) :
    St c (tDrop (tBM c.K "list" rAppend (tFld c.K (tVar i) "fed") (tCons te tNil))) n ds := fun G H σ a E l => by
  unfold tDrop tBM
  refine rd_fed hx hc hn a fun vs _ h4 r => ⟨.inl ⟨rfl, _, SqL.of h4⟩, h G H σ a _ fun v G1 H1 e1 s1 r1 => by
    have a1 := a.go e1 s1
    have rd := (rd_at a1 hx).2
    obtain ⟨u, vs', k1, k2, k3, k4, k5, k6⟩ := id rd
    refine ⟨q, vs', v, rfl, rfl, k4, sz_lt (by rw [k6.len]; exact hz), ?_⟩
    obtain ⟨ex, rd'⟩ := rd_upd (E := c.X) rd (k6.app (.cons r1 .nil))
    obtain ⟨ex2, a2⟩ := a1.rmut hx fl ex (sub_hid s1 k2) rd'
    exact l.nx G1 _ σ _ (e1.s.trans ex2) a2 k⟩
/-- self.fed.pop() -/
theorem st_rpop (hx : ds[i]? = some (.rdr true p q dx C d xs)) (hc : Cls c.K C) (hn : NoAttr c.K C "fed") (hz : xs ≠ []) (k : n.nx (ds.set i (.rdr true p q dx C d xs.dropLast))) (fl : (ds.set i .no).all flatS = true := by rfl) :
    St c (tDrop (tBM0 c.K "list" rPop (tFld c.K (tVar i) "fed"))) n ds := fun G H σ a E l => by
  unfold tDrop tBM0
  refine rd_fed hx hc hn a fun vs _ h4 r => by
    have rd := (rd_at a hx).2
    obtain ⟨u, vs', k1, k2, k3, k4, k5, k6⟩ := id rd
    have hl : 0 < xs.length := List.length_pos_iff.mpr hz
    have hv : vs'.length - 1 < vs'.length := by rw [k6.len]; omega
    refine ⟨.inl ⟨rfl, _, SqL.of h4⟩, q, vs', vs'[vs'.length - 1], rfl, rfl, k4, List.getElem?_eq_getElem hv, ?_⟩
    obtain ⟨ex, rd'⟩ := rd_upd (E := c.X) rd k6.dropLast
    obtain ⟨ex2, a2⟩ := a.rmut hx fl ex (sub_hid a.sub k2) rd'
    exact l.nx G _ σ _ ex2 a2 k
end
/-! ### methods -/
def spM {α : Type} (K : PySem.W.Frag) (C : Addr) (code : α → D) (fed : α → List D) (pre : α → Prop) (res : α → D) : Sp := fun vs H Q E => ∃ G a p q dx, Ex G H ∧ vs = [.ref p] ∧ pre a ∧ RdH K G H p q dx C (code a) (fed a) ∧ Then K G H (res a) Q
inductive Wr where
  | ok (d : D) (xs : List D) | err (C : Addr)
def spW {α : Type} (K : PySem.W.Frag) (C : Addr) (args : α → List D) (code : α → D) (fed : α → List D) (pre : α → Prop) (res : α → Wr) : Sp := fun vs H Q E => ∃ G a p q dx us, Ex G H ∧ vs = .ref p :: us ∧ Reps K G us (args a) ∧ pre a ∧ RdH K G H p q dx C (code a) (fed a) ∧
  (∀ d xs, res a = .ok d xs → ∀ v G1 H1, Exs ⟨K, none, E, fun b => H b ≠ none, fun b => b = p ∨ b = q⟩ G H G1 H1 → Ex G1 H1 → RdH K G1 H1 p q dx C (code a) xs → Rep K G1 v d → Q v H1) ∧
  ∀ C', res a = .err C' → ∀ G1 H1, Exs ⟨K, none, E, fun b => H b ≠ none, fun b => b = p ∨ b = q⟩ G H G1 H1 → Ex G1 H1 → RdH K G1 H1 p q dx C (code a) (fed a) → E (.ref C') none H1
theorem spM_len {α : Type} {K : PySem.W.Frag} {C : Addr} {code : α → D} {fed : α → List D} {pre : α → Prop} {res : α → D} : ∀ vs H Q E, spM K C code fed pre res vs H Q E → vs.length = 1 := fun vs H Q E h => by
  obtain ⟨G, a, p, q, dx, _, e, _⟩ := h
  rw [e]; rfl
theorem spW_len {α : Type} {K : PySem.W.Frag} {C : Addr} {args : α → List D} {code : α → D} {fed : α → List D} {pre : α → Prop} {res : α → Wr} {k : Nat} (hk : ∀ a, (args a).length + 1 = k) : ∀ vs H Q E, spW K C args code fed pre res vs H Q E → vs.length = k := fun vs H Q E h => by
  obtain ⟨G, a, p, q, dx, us, _, e, r, _⟩ := h
  rw [e, List.length_cons, r.len, hk]
theorem rd_slots {c : Ctx} {G H : Hp} {us : List V} {xs : List D} {N : List Str} {x : V} {s0 : Sl} (hN : 0 < N.length) (s : Ex G H) (r : Reps c.K G us xs) (h0 : SlOk c G H (some (some x)) s0) (hs : ∀ ys, s0 ≠ .own ys) :
    Fr c G H (L2.start N (x :: us)) (s0 :: (xs.map Sl.v ++ List.replicate (N.length - 1 - xs.length) Sl.no)) := by
  obtain ⟨N0, Nr, rfl⟩ : ∃ a l, N = a :: l := by cases N with | nil => simp at hN | cons a l => exact ⟨a, l, rfl⟩
  have f := slots (c := c) (N := Nr) s r
  have e : L2.start (N0 :: Nr) (x :: us) = some x :: L2.start Nr us := by unfold L2.start; simp
  rw [e]
  refine ⟨?_, fun i s' hs' => ?_, fun i j b ys zs hij hi hj e1 e2 => ?_⟩
  · have := f.len; simp only [List.length_cons, Nat.add_sub_cancel]; omega
  · cases i with
    | zero => simp at hs'; subst hs'; exact h0
    | succ i => exact f.ok i s' (by simpa using hs')
  · cases i with
    | zero => simp at hi; exact absurd hi (hs _)
    | succ i => cases j with
      | zero => simp at hj; exact absurd hj (hs _)
      | succ j => exact f.ap i j b ys zs (by omega) (by simpa using hi) (by simpa using hj) (by simpa using e1) (by simpa using e2)
section
variable {α : Type} {K : PySem.W.Frag} {C : Addr} {args : α → List D} {code : α → D} {fed : α → List D} {pre : α → Prop}
theorem go_m {res : α → D} {N : List Str} {t : TS} {vs : List V} {H : Hp} {Q : VK} {E : XK} (h : spM K C code fed pre res vs H Q E)
    (k : ∀ (a : α) (W : Addr → Prop) (p q dx : Addr), pre a → St ⟨K, none, E, W, fun _ => False⟩ t { nx := fun _ => res a = .non, rt := fun d => res a = d } (.rdr false p q dx C (code a) (fed a) :: (([] : List D).map Sl.v ++ List.replicate (N.length - 1 - ([] : List D).length) Sl.no))) (hN : 0 < N.length) :
    t { nx := fun _ H' => Q .non H', rt := Q } (L2.start N vs) H := by
  obtain ⟨G, a, p, q, dx, s, rfl, hp, rd, h1⟩ := h
  have up : ∀ {G' H'}, Exs ⟨K, none, E, fun b => H b ≠ none, fun _ => False⟩ G H G' H' → Ext none G H G' H' := fun e =>
    ⟨e.g, fun b o _ q => e.h b o (by show H b ≠ none; rw [q]; simp) (fun z => z) (fun _ z => (nomatch z)) q, fun b q z => e.n b q q z, e.t, fun b _ z => (nomatch z)⟩
  refine k a (fun b => H b ≠ none) p q dx hp G H _ ⟨s, rd_slots hN s .nil ⟨rfl, rd, fun _ z => (nomatch z), fun _ z => (nomatch z), fun _ z => (nomatch z), fun _ z => (nomatch z), fun z => (nomatch z)⟩ (fun _ z => (nomatch z)), fun b _ z => (nomatch z), fun b z => z⟩ _ ⟨fun G' H' σ ds x a' z => h1 _ G' H' (up x) a'.sub (by rw [z]; exact .non), fun G' H' v d x s' r' z => h1 v G' H' (up x) s' (by rw [z]; exact r'), fun _ _ _ _ _ _ z => z.elim, fun _ _ _ _ _ _ z => z.elim, fun _ _ _ _ _ _ z => z.elim, fun _ _ _ _ _ _ _ _ _ z => z.elim, fun _ _ _ _ _ _ _ z => z.elim⟩
theorem go_w {res : α → Wr} {N : List Str} {t : TS} {vs : List V} {H : Hp} {Q : VK} {E : XK} (h : spW K C args code fed pre res vs H Q E)
    (k : ∀ (a : α) (W : Addr → Prop) (p q dx : Addr), pre a → St ⟨K, none, E, W, fun b => b = p ∨ b = q⟩ t { nx := fun ds => ∃ xs, res a = .ok .non xs ∧ ds[0]? = some (.rdr true p q dx C (code a) xs), rt := fun _ => False, rf := fun d ds => ∃ xs, res a = .ok d xs ∧ ds[0]? = some (.rdr true p q dx C (code a) xs), ef := fun C' ds => ∃ D', C' = .ref D' ∧ res a = .err D' ∧ ds[0]? = some (.rdr true p q dx C (code a) (fed a)) } (.rdr true p q dx C (code a) (fed a) :: ((args a).map Sl.v ++ List.replicate (N.length - 1 - (args a).length) Sl.no))) (hN : 0 < N.length) :
    t { nx := fun _ H' => Q .non H', rt := Q } (L2.start N vs) H := by
  obtain ⟨G, a, p, q, dx, us, s, rfl, r, hp, rd, h1, h2⟩ := h
  refine k a (fun b => H b ≠ none) p q dx hp G H _ ⟨s, rd_slots hN s r ⟨rfl, rd, fun _ z => (nomatch z), fun _ z => (nomatch z), fun _ z => (nomatch z), fun _ z => (nomatch z), fun _ => ⟨fun _ => .inl rfl, fun _ => .inr rfl⟩⟩ (fun _ z => (nomatch z)), fun b _ z => (nomatch z), fun b z => z⟩ _ ⟨fun G' H' σ ds x a' z => ?_, fun _ _ _ _ _ _ _ z => z.elim, fun _ _ _ _ _ _ z => z.elim, fun _ _ _ _ _ _ z => z.elim, fun _ _ _ _ _ _ z => z.elim, fun G' H' σ ds v d x a' r' z => ?_, fun G' H' σ ds C' x a' z => ?_⟩
  · obtain ⟨xs, e1, e2⟩ := z
    exact h1 _ _ e1 .non G' H' x a'.sub (rd_at a' e2).2 .non
  · obtain ⟨xs, e1, e2⟩ := z
    exact h1 _ _ e1 v G' H' x a'.sub (rd_at a' e2).2 r'
  · obtain ⟨D', rfl, e1, e2⟩ := z
    exact h2 _ e1 G' H' x a'.sub (rd_at a' e2).2
end
section
variable {c : Ctx} {ds ds' : Fm} {n : DE} {te : TE} {d : D} {t : TS}
theorem st_retF (h : Ee c te ds d) (k : n.rf d ds) : St c (tRet te) n ds := fun G H σ a E l => h G H σ a _ fun v G1 H1 e1 s1 r1 => l.rf G1 H1 σ ds v d e1.s (a.go e1 s1) r1 k
theorem st_raiseF {C : Addr} (h : n.ef (.ref C) ds) : St c (tRaise0 (fun cls d _ H => c.X cls d H) C) n ds := fun G H σ a E l => l.ef G H σ ds (.ref C) Exs.refl a h
end
section
variable {α : Type} {code : α → D} {fed : α → List D} {pre : α → Prop} {args : α → List D} {c : Ctx} {ds : Fm} {n : DE} {ta : TA} {a : α} {xs ys : List D} {d : D} {i j : Nat} {w : Bool} {p q dx C : Addr} {m : Str}
theorem ee_meth0 {res : α → D} {E : XK} (hx : ds[i]? = some (.rdr w p q dx C d xs)) (hd : d = code a) (hf : xs = fed a) (hp : pre a) (h1 : (m == "code") = false := by decide) (h2 : (m == "fed") = false := by decide) : Ee c (tMeth C m (spM c.K C code fed pre res) [] E (tVar i) tNil) ds (res a) := fun G H σ at' Q q' => by
  subst hd hf
  obtain ⟨s1, rd⟩ := rd_at at' hx
  obtain ⟨u, vs, k1, k2, k3, k4, k5, k6⟩ := id rd
  exact ⟨_, s1, p, dx, _, rfl, k3, by simp only [List.lookup, h1, h2], G, a, p, q, dx, at'.sub, rfl, hp, rd, fun u G2 H2 e2 s2 r2 => q' u G2 H2 e2.all s2 r2⟩
/-- a method that changes its reader, called as a statement -/
theorem w_run {res : α → Wr} {G H : Hp} {σ : L2.St} {E : XK} {Q : VK} {vs : List V} (at' : At c G H σ ds) (hx : ds[i]? = some (.rdr true p q dx C d xs)) (r : Reps c.K G vs (args a)) (hd : d = code a) (hf : xs = fed a) (hp : pre a) (fl : (ds.set i .no).all flatS = true)
    (h1 : ∀ e ys, res a = .ok e ys → ∀ v G1 H1, Exs c G H G1 H1 → At c G1 H1 σ (ds.set i (.rdr true p q dx C d ys)) → Rep c.K G1 v e → Q v H1)
    (h2 : ∀ C', res a = .err C' → ∀ G1 H1, Exs c G H G1 H1 → At c G1 H1 σ ds → E (.ref C') none H1) : spW c.K C args code fed pre res (.ref p :: vs) H Q E := by
  subst hd hf
  refine ⟨G, a, p, q, dx, vs, at'.sub, rfl, r, hp, (rd_at at' hx).2, fun e ys he v G1 H1 x s rd rv => ?_, fun C' he G1 H1 x s rd => ?_⟩
  · obtain ⟨x2, a2⟩ := at'.rmut hx fl x s rd
    exact h1 e ys he v G1 H1 x2 a2 rv
  · obtain ⟨x2, a2⟩ := at'.rmut hx fl x s rd
    have e0 : ds.set i (.rdr true p q dx C (code a) (fed a)) = ds := List.ext_getElem? fun k => by
      by_cases hk : i = k
      · subst hk; rw [List.getElem?_set_self (List.getElem?_eq_some_iff.mp hx).1, hx]
      · rw [List.getElem?_set_ne hk]
    rw [e0] at a2
    exact h2 C' he G1 H1 x2 a2
end
end Dl

/-! Dra: methods of a reader: their calls, len, its making. -/
namespace Dl
open PySem L2 Evl PySem.Spec PyProof.Rows
section
variable {X : Cx} {CX : CXT} {k : Nat} {C : Addr} {x m : Str} {ps : List Str} {sp : Sp} {E : XK} {p pos apos : Pos} {e o : Expr} {es : List Expr} {t : TA} {ta : TE}
theorem pe_callMH0 {pl : Sem Bool} (ho : PE X o ta) (c : Cls X.K C) (h : OkM X.prog X.w X.K X.mg X.base CX k C m ps sp) (hr : Room k X.A) (hx : Passes CX X E)
    (ht : eval (.Call (.Attribute o m apos) [] [] pos) X.env = (do
      let ov ← eval o X.env
      standAt apos.atName
      let (f, first) ← holding [ov] (getMethod ov m pl)
      callWith pos f first (backTo pos (starEach [] X.env)) (backToKw pos (keywordEach [] X.env))) := by rfl) : PE X (.Call (.Attribute o m apos) [] [] pos) (tMeth C m sp [] E ta tNil) := by
  obtain ⟨f, fd, G, hm, b⟩ := h.ex
  exact pe_meth0 ho c hm G hr b .nil hx ht
/-- .. within a try -/
def tMethT (C : Addr) (m : Str) (sp : Sp) (E : L2.St → XK) (ta : TE) (t : TA) : TE := fun σ H Q => tMeth C m sp [] (E σ) ta t σ H Q
theorem pe_callMHT {E : L2.St → XK} {pl : Sem Bool} (ho : PE X o ta) (c : Cls X.K C) (h : OkM X.prog X.w X.K X.mg X.base CX k C m ps sp) (hr : Room k X.A) (hx : ∀ σ, PassesAt CX X σ (E σ)) (ha : PA X (e :: es) t)
    (hst : starEach (e :: es) X.env = (false, eval e X.env) :: starEach es X.env := by rfl) (hpl : (backTo pos (starEach es X.env)).any (·.1) = false := by rfl)
    (ht : eval (.Call (.Attribute o m apos) (e :: es) [] pos) X.env = (do
      let ov ← eval o X.env
      standAt apos.atName
      let (f, first) ← holding [ov] (getMethod ov m pl)
      callWith pos f first (backTo pos (starEach (e :: es) X.env)) (backToKw pos (keywordEach [] X.env))) := by rfl) : PE X (.Call (.Attribute o m apos) (e :: es) [] pos) (tMethT C m sp E ta t) := by
  obtain ⟨f, fd, F, hm, b⟩ := h.ex
  refine ⟨fun pins s σ H Q I h => ?_⟩
  refine PySem.W.methodCall_KW (pl := pl) (thn (ho.run pins s σ H _ I h) fun u s1 ⟨x, H1, I1, rx, a, dx, fs, ex, ea, l, q⟩ => ?_) ht
  subst ex
  obtain rfl : u = Value.ref a := rx
  refine getmeth_ok I1 ea c hm l ?_
  refine PySem.W.callWith_K (first := [.ref a]) (h₀ := X.base) I.ok.mod.kin hm.kp (thn (ha.run pos pins s1 σ H1 _ I1 q) fun us s2 ⟨vs, H2, I2, r, q2⟩ => ⟨I2.kIn, ?_⟩) hst hpl
  exact run_fnS (E := E) (us := .ref a :: us) (vs := .ref a :: vs) F hr b (hx σ) I2 (.cons rfl r) (by dsimp only at q2; rw [List.append_nil] at q2; exact q2)
theorem pe_callMHT0 {E : L2.St → XK} {pl : Sem Bool} (ho : PE X o ta) (c : Cls X.K C) (h : OkM X.prog X.w X.K X.mg X.base CX k C m ps sp) (hr : Room k X.A) (hx : ∀ σ, PassesAt CX X σ (E σ))
    (ht : eval (.Call (.Attribute o m apos) [] [] pos) X.env = (do
      let ov ← eval o X.env
      standAt apos.atName
      let (f, first) ← holding [ov] (getMethod ov m pl)
      callWith pos f first (backTo pos (starEach [] X.env)) (backToKw pos (keywordEach [] X.env))) := by rfl) : PE X (.Call (.Attribute o m apos) [] [] pos) (tMethT C m sp E ta tNil) := by
  obtain ⟨f, fd, F, hm, b⟩ := h.ex
  refine ⟨fun pins s σ H Q I h => ?_⟩
  refine PySem.W.methodCall_KW (pl := pl) (thn (ho.run pins s σ H _ I h) fun u s1 ⟨x, H1, I1, rx, a, dx, fs, ex, ea, l, q⟩ => ?_) ht
  subst ex
  obtain rfl : u = Value.ref a := rx
  refine getmeth_ok I1 ea c hm l ?_
  exact PySem.W.callWith_K0 (first := [.ref a]) I1.kIn hm.kp (run_fnS (E := E) (us := [.ref a]) (vs := [.ref a]) F hr b (hx σ) I1 (.cons rfl .nil) q)
/-- len(x) by an own __len__ -/
def rLenO (C : Addr) (sp : Sp) (E : XK) : List V → Hp → VK → Prop := fun xs H Q => ∃ a dx fs, xs = [.ref a] ∧ H a = some (.ins C dx fs) ∧ sp [.ref a] H (fun v H' => (∃ n : Nat, v = .int (n : Nat) ∧ n ≤ 1000000) ∧ Q v H') E
theorem k_lenO (h : OkM X.prog X.w X.K X.mg X.base CX k C "__len__" ps sp) (hr : Room (k + 1) X.A) (hx : Passes CX X E) : CallR X (.builtin "len") (rLenO C sp E) := by
  obtain ⟨f, fd, F, m, hb⟩ := h.ex
  intro pins s σ H xs us Q I r d
  obtain ⟨a, dx, fs, rfl, ha, hsp⟩ := d
  obtain ⟨u, rfl, rx⟩ := vals1 r
  cases (show u = Value.ref a from rx)
  obtain ⟨mA, J, _⟩ := ins_get I.hok ha
  obtain ⟨od, J, _⟩ := J.look
  obtain ⟨mm, hF⟩ := I.fr
  refine PySem.W.len_K hF I.ok.mod.kin J m.at_ m.fn ?_
  have hl := F.len _ _ _ _ hsp
  have r2 : Vals [V.ref a] [Value.ref a] := .cons rfl .nil
  have e0 : Env0 X.prog X.w X.K X.mg X.base X.A.in1 X.stack s H := by
    have e := I.env0
    exact ⟨e.frames, e.mod, e.bs, e.bsz, e.funs, e.frf, e.hok, e.bare⟩
  refine wpAny_call (codeAny_mono (F.run X.A.in1 X.stack s H ⟨[.ref a], []⟩ [.ref a] [.ref a] _ E hr.in1 e0 (by
    have := hb s [.ref a] I.kIn (by simpa using hl)
    simpa using this) r2 hsp) fun r s' hq => ?_)
  cases r with
  | error e => exact hx pins σ H s e s' I hq
  | ok fl =>
    cases fl with
    | ret w =>
      obtain ⟨z, H', I', rz, ⟨n, ez, hn⟩, q⟩ := I.after hq
      subst ez
      obtain ⟨t, rfl⟩ : ∃ t, w = Value.int (n : Nat) t := rz
      exact ⟨⟨by omega, by omega⟩, .int (n : Nat), H', I'.tok _, ⟨_, rfl⟩, q⟩
    | next => exact False.elim hq
    | brk => exact False.elim hq
    | cont => exact False.elim hq
end
section
variable {α : Type} {code : α → D} {fed : α → List D} {pre : α → Prop} {args : α → List D} {c : Ctx} {ds : Fm} {n : DE} {te : TE} {ta : TA} {a : α} {xs ys zs : List D} {d e : D} {i j : Nat} {w : Bool} {p q dx C : Addr} {m : Str}
theorem ee_lenO {res : α → D} {E : XK} {k : Nat} (hx : ds[i]? = some (.rdr w p q dx C d xs)) (hd : d = code a) (hf : xs = fed a) (hp : pre a) (hr : res a = .int (k : Nat)) (hk : k ≤ 1000000) : Ee c (tCB (rLenO C (spM c.K C code fed pre res) E) (tCons (tVar i) tNil)) ds (.int (k : Nat)) := fun G H σ at' Q q' => by
  subst hd hf
  obtain ⟨s1, rd⟩ := rd_at at' hx
  obtain ⟨u, vs, k1, k2, k3, k4, k5, k6⟩ := id rd
  refine ⟨_, s1, p, dx, _, rfl, k3, G, a, p, q, dx, at'.sub, rfl, hp, rd, fun u G2 H2 e2 s2 r2 => ?_⟩
  rw [hr] at r2
  refine ⟨?_, q' u G2 H2 e2.all s2 r2⟩
  cases r2
  exact ⟨k, rfl, hk⟩
/-- r.m(..), a statement -/
theorem st_wdrop {res : α → Wr} (hx : ds[i]? = some (.rdr true p q dx C d xs)) (h : Ea c ta ds zs) (hz : zs = args a) (hd : d = code a) (hf : xs = fed a) (hp : pre a)
    (h1 : ∀ e ys, res a = .ok e ys → n.nx (ds.set i (.rdr true p q dx C d ys))) (h2 : ∀ C', res a = .err C' → n.er (.ref C') none) (m1 : (m == "code") = false := by decide) (m2 : (m == "fed") = false := by decide) (fl : (ds.set i .no).all flatS = true := by rfl) :
    St c (tDrop (tMeth C m (spW c.K C args code fed pre res) [] c.X (tVar i) ta)) n ds := fun G H σ at' E l => by
  subst hz
  obtain ⟨s1, rd⟩ := rd_at at' hx
  obtain ⟨u, vs, k1, k2, k3, k4, k5, k6⟩ := id rd
  unfold tDrop tMeth
  refine ⟨_, s1, p, dx, _, rfl, k3, by simp only [List.lookup, m1, m2], h G H σ at' _ fun vs G1 H1 e1 s1 r1 => ?_⟩
  rw [List.append_nil]
  exact w_run (at'.go e1 s1) hx r1 hd hf hp fl (fun e ys he v G2 H2 x a2 rv => l.nx G2 H2 σ _ (e1.s.trans x) a2 (h1 e ys he)) (fun C' he G2 H2 x a2 => l.er G2 H2 (.ref C') none (e1.s.trans x) a2.sub (h2 C' he))
/-- .. within a try of several clauses -/
theorem many_run {K : PySem.W.Frag} {Wout : WX} {D : Ends} {σ : L2.St} {H : Hp} {cls : Value} {ts : Addr → Value → Option Addr → TS} : ∀ {l : List (Value × (Addr → Value → Option Addr → TS))} {j : Nat} {cv : Value},
    l[j]? = some (cv, ts) → (∀ k cv' ts', k < j → l[k]? = some (cv', ts') → PySem.W.exmOne K cls cv' = some false) → PySem.W.exmOne K cls cv = some true → (∀ a, H a = none → ts a cls none D σ H) → wMany K Wout D l cls none σ H
  | [], j, cv, h, _, _, _ => by simp at h
  | (c0, t0) :: r, 0, cv, h, _, h2, h3 => by
    simp at h
    obtain ⟨rfl, rfl⟩ := h
    exact ⟨true, h2, fun _ => h3, fun z => nomatch z⟩
  | (c0, t0) :: r, j + 1, cv, h, h1, h2, h3 => by
    refine ⟨false, h1 0 c0 t0 (Nat.succ_pos _) rfl, fun z => (nomatch z), fun _ => many_run (j := j) (by simpa using h) (fun k cv' ts' hk hh => h1 (k + 1) cv' ts' (by omega) (by simpa using hh)) h2 h3⟩
theorem st_wdropT {res : α → Wr} {Wout : WX} {hl : List (Value × (Addr → Value → Option Addr → TS))} (hx : ds[i]? = some (.rdr true p q dx C d xs)) (h : Ea c ta ds zs) (hz : zs = args a) (hd : d = code a) (hf : xs = fed a) (hp : pre a)
    (h1 : ∀ e ys, res a = .ok e ys → n.nx (ds.set i (.rdr true p q dx C d ys)))
    (h2 : ∀ C', res a = .err C' → ∃ (j : Nat) (cv : Value) (ts : Addr → Value → Option Addr → TS), hl[j]? = some (cv, ts) ∧ (∀ k cv' ts', k < j → hl[k]? = some (cv', ts') → PySem.W.exmOne c.K (.ref C') cv' = some false) ∧ PySem.W.exmOne c.K (.ref C') cv = some true ∧ ∀ p, St c (ts p (.ref C') none) n ds)
    (m1 : (m == "code") = false := by decide) (m2 : (m == "fed") = false := by decide) (fl : (ds.set i .no).all flatS = true := by rfl) :
    St c (fun D σ H => tDrop (tMethT C m (spW c.K C args code fed pre res) (WE (wMany c.K Wout D hl)) (tVar i) ta) D σ H) n ds := fun G H σ at' E l => by
  subst hz
  obtain ⟨s1, rd⟩ := rd_at at' hx
  obtain ⟨u, vs, k1, k2, k3, k4, k5, k6⟩ := id rd
  unfold tDrop tMethT tMeth
  refine ⟨_, s1, p, dx, _, rfl, k3, by simp only [List.lookup, m1, m2], h G H σ at' _ fun vs G1 H1 e1 s1 r1 => ?_⟩
  rw [List.append_nil]
  refine w_run (at'.go e1 s1) hx r1 hd hf hp fl (fun e ys he v G2 H2 x a2 rv => l.nx G2 H2 σ _ (e1.s.trans x) a2 (h1 e ys he)) (fun C' he G2 H2 x a2 => ?_)
  obtain ⟨j, cv, ts, g1, g2, g3, g4⟩ := h2 C' he
  exact many_run g1 g2 g3 fun p _ => g4 p G2 H2 σ a2 E (l.go (e1.s.trans x))
theorem st_wasgT {res : α → Wr} {Wout : WX} {hl : List (Value × (Addr → Value → Option Addr → TS))} (hx : ds[i]? = some (.rdr true p q dx C d xs)) (h : Ea c ta ds zs) (hz : zs = args a) (hd : d = code a) (hf : xs = fed a) (hp : pre a) (hj : j < ds.length)
    (h1 : ∀ e ys, res a = .ok e ys → n.nx ((ds.set i (.rdr true p q dx C d ys)).set j (.v e)))
    (h2 : ∀ C', res a = .err C' → ∃ (j : Nat) (cv : Value) (ts : Addr → Value → Option Addr → TS), hl[j]? = some (cv, ts) ∧ (∀ k cv' ts', k < j → hl[k]? = some (cv', ts') → PySem.W.exmOne c.K (.ref C') cv' = some false) ∧ PySem.W.exmOne c.K (.ref C') cv = some true ∧ ∀ p, St c (ts p (.ref C') none) n ds)
    (m1 : (m == "code") = false := by decide) (m2 : (m == "fed") = false := by decide) (fl : (ds.set i .no).all flatS = true := by rfl) :
    St c (fun D σ H => tAsg (tMethT C m (spW c.K C args code fed pre res) (WE (wMany c.K Wout D hl)) (tVar i) ta) (gName j) D σ H) n ds := fun G H σ at' E l => by
  subst hz
  obtain ⟨s1, rd⟩ := rd_at at' hx
  obtain ⟨u, vs, k1, k2, k3, k4, k5, k6⟩ := id rd
  unfold tAsg tMethT tMeth
  refine ⟨_, s1, p, dx, _, rfl, k3, by simp only [List.lookup, m1, m2], h G H σ at' _ fun vs G1 H1 e1 s1 r1 => ?_⟩
  rw [List.append_nil]
  refine w_run (at'.go e1 s1) hx r1 hd hf hp fl (fun e ys he v G2 H2 x a2 rv => l.nx G2 H2 _ _ (e1.s.trans x) (a2.set rv (by rw [List.length_set]; exact hj)) (h1 e ys he)) (fun C' he G2 H2 x a2 => ?_)
  obtain ⟨j, cv, ts, g1, g2, g3, g4⟩ := h2 C' he
  exact many_run g1 g2 g3 fun p _ => g4 p G2 H2 σ a2 E (l.go (e1.s.trans x))
theorem st_ifT {tc : TT} {t1 t2 : Ends → TS} {b : Bool} (h : Et c tc ds b) (h1 : b = true → St c (fun D σ H => t1 D D σ H) n ds) (h2 : b = false → St c (fun D σ H => t2 D D σ H) n ds) : St c (fun D σ H => tIfS tc (t1 D) (t2 D) D σ H) n ds := fun G H σ a E l => h G H σ a _ fun G1 H1 e1 s1 => by
  cases b with
  | true => exact h1 rfl G1 H1 σ (a.go e1 s1) E (l.go e1.s)
  | false => exact h2 rfl G1 H1 σ (a.go e1 s1) E (l.go e1.s)
/-- if not like(f(r, x), y): .. -/
theorem st_ifnot_w {β : Type} {res : α → Wr} {args2 : β → List D} {pre2 : β → Prop} {res2 : β → Res} {E1 E2 : XK} {tb : TE} {y : D} {t1 t2 : TS} {v : D} {b : Bool} {a2 : β} (hx : ds[i]? = some (.rdr true p q dx C d xs)) (h : Ea c ta ds zs) (hz : zs = args a) (hd : d = code a) (hf : xs = fed a) (hp : pre a)
    (hr : res a = .ok v ys) (h2 : Ee c tb (ds.set i (.rdr true p q dx C d ys)) y) (hz2 : [v, y] = args2 a2) (hp2 : pre2 a2) (hr2 : res2 a2 = .ok (.bl b))
    (k1 : b = false → St c t1 n (ds.set i (.rdr true p q dx C d ys))) (k2 : b = true → St c t2 n (ds.set i (.rdr true p q dx C d ys))) (fl : (ds.set i .no).all flatS = true := by rfl) :
    St c (tIfS (tNot (tTruG c.K (tCall (spA c.K args2 pre2 res2) [] E2 (tCons (tCall (spW c.K C args code fed pre res) [] E1 (tCons (tVar i) ta)) (tCons tb tNil))))) t1 t2) n ds := fun G H σ at' E l => by
  subst hz
  obtain ⟨s1, rd⟩ := rd_at at' hx
  unfold tIfS tNot tTruG tCall tCons
  refine ⟨_, s1, h G H σ at' _ fun vs G1 H1 e1 s1 r1 => ?_⟩
  dsimp only
  rw [List.append_nil]
  refine w_run (at'.go e1 s1) hx r1 hd hf hp fl (fun e ys' he w G2 H2 x a3 rv => ?_) (fun C' he G2 H2 x a2 => by rw [hr] at he; cases he)
  rw [hr] at he; cases he
  refine h2 G2 H2 σ a3 _ fun u G3 H3 e3 s3 r3 => ?_
  refine ⟨G3, a2, s3, by rw [← hz2]; exact .cons (rv.mono e3.g) (.cons r3 .nil), hp2, fun d' hd' => ?_, fun C o z => by rw [hr2] at z; cases z⟩
  rw [hr2] at hd'; cases hd'
  intro z G4 H4 e4 s4 r4
  cases r4
  refine ⟨b, rfl, ?_⟩
  have ex : Exs c G H G4 H4 := ((e1.s.trans x).trans e3.s).trans (Ext.all e4).s
  have a4 := (a3.go e3 s3).go e4.all s4
  cases b with
  | true => exact k2 rfl G4 H4 σ a4 E (l.go ex)
  | false => exact k1 rfl G4 H4 σ a4 E (l.go ex)
/-- what is held is known from now on -/
theorem st_frzR {t : TS} (hx : ds[i]? = some (.rdr true p q dx C d xs)) (k : St c t n (ds.set i (.v (.obj C ["code", "fed"] [d, .lst xs])))) (hM : ∀ b, ¬ c.M b) (fl : (ds.set i .no).all flatS = true := by rfl) : St c t n ds := fun G H σ a E l => by
  obtain ⟨h1, rd0, nlp, nlq, nip, niq, pw⟩ := a.fr.ok i _ hx
  have npq := rd0.ne
  obtain ⟨u, vs, k1, k2, k3, k4, k5, k6⟩ := id rd0
  have hi : i < ds.length := (List.getElem?_eq_some_iff.mp hx).1
  have wp : ¬ c.W p := fun z => hM _ ((pw rfl).1 z)
  have wq : ¬ c.W q := fun z => hM _ ((pw rfl).2 z)
  have g1 : Ex G (upd G q (.lst vs)) := Ex.new k2
  have k1' : (upd G q (.lst vs)) p = none := by rw [upd_ne npq]; exact k1
  have g2 : Ex (upd G q (.lst vs)) (upd (upd G q (.lst vs)) p (.ins C dx [("code", u), ("fed", .ref q)])) := Ex.new k1'
  have gx := g1.trans g2
  have sub : Ex (upd (upd G q (.lst vs)) p (.ins C dx [("code", u), ("fed", .ref q)])) H := fun b o e => by
    by_cases hb : b = p
    · subst hb; rw [upd_same] at e; rw [k3]; exact e
    · rw [upd_ne hb] at e
      by_cases hb2 : b = q
      · subst hb2; rw [upd_same] at e; rw [k4]; exact e
      · rw [upd_ne hb2] at e; exact a.sub b o e
  have nn : ∀ b, b ≠ p → b ≠ q → G b = none → (upd (upd G q (.lst vs)) p (.ins C dx [("code", u), ("fed", .ref q)])) b = none := fun b h1 h2 g => by rw [upd_ne h1, upd_ne h2]; exact g
  refine k _ H σ ⟨sub, ⟨by rw [List.length_set]; exact a.fr.len, fun j s hs => ?_, fun j j' b xs' ys' hjj hj hj' e2 e3 => ?_⟩, fun b y hb => ⟨(a.lk b y hb).1, nn b (fun z => nlp y (by rw [← z]; exact hb)) (fun z => nlq y (by rw [← z]; exact hb)) (a.lk b y hb).2.1, (a.lk b y hb).2.2⟩, a.tr⟩ E (l.go ⟨gx, fun _ _ _ _ _ q => q, fun b w _ g => nn b (fun z => wp (by rw [← z]; exact w)) (fun z => wq (by rw [← z]; exact w)) g, fun _ q => q, fun _ _ _ q => q⟩)
  · by_cases hj : i = j
    · subst hj
      rw [List.getElem?_set_self hi] at hs
      cases hs
      exact ⟨.ref p, h1, .obj upd_same rfl (.cons (k5.mono gx) (.cons (.lst (g2 _ _ upd_same) (k6.mono gx)) .nil))⟩
    · rw [List.getElem?_set_ne hj] at hs
      have o := a.fr.ok j s hs
      have f := List.all_eq_true.mp fl s (List.mem_of_getElem? (by rw [List.getElem?_set_ne hj]; exact hs))
      cases s with
      | no => trivial
      | v d => obtain ⟨u, o1, o2⟩ := o; exact ⟨u, o1, o2.mono gx⟩
      | drw =>
        obtain ⟨b, y, o1, o2, o3, o4⟩ := o
        exact ⟨b, y, o1, o2, nn b (fun z => nlp y (by rw [← z]; exact o1)) (fun z => nlq y (by rw [← z]; exact o1)) o3, o4⟩
      | own _ => cases f
      | self _ _ _ _ _ => cases f
      | rdr _ _ _ _ _ _ _ => cases f
  · have nj : i ≠ j := fun z => by subst z; rw [List.getElem?_set_self hi] at hj; cases hj
    rw [List.getElem?_set_ne nj] at hj
    have f := List.all_eq_true.mp fl _ (List.mem_of_getElem? (i := j) (by rw [List.getElem?_set_ne nj]; exact hj))
    cases f
end
/-! ### making a reader -/
def spN {α : Type} (K : PySem.W.Frag) (C : Addr) (code : α → D) (pre : α → Prop) (err : α → Option Addr) : Sp := fun vs H Q E => ∃ G a p dx us, Ex G H ∧ vs = .ref p :: us ∧ Reps K G us [code a] ∧ pre a ∧ G p = none ∧ H p = some (.ins C dx []) ∧
  (err a = none → ∀ G1 H1 q, Exs ⟨K, none, E, fun b => H b ≠ none, fun b => b = p⟩ G H G1 H1 → Ex G1 H1 → H q = none → RdH K G1 H1 p q dx C (code a) [] → Q .non H1) ∧
  ∀ C', err a = some C' → ∀ G1 H1, Exs ⟨K, none, E, fun b => H b ≠ none, fun b => b = p⟩ G H G1 H1 → Ex G1 H1 → E (.ref C') none H1
theorem spN_len {α : Type} {K : PySem.W.Frag} {C : Addr} {code : α → D} {pre : α → Prop} {err : α → Option Addr} : ∀ vs H Q E, spN K C code pre err vs H Q E → vs.length = 2 := fun vs H Q E h => by
  obtain ⟨G, a, p, dx, us, _, e, r, _⟩ := h
  rw [e, List.length_cons, r.len]; rfl
theorem go_n {α : Type} {K : PySem.W.Frag} {C : Addr} {code : α → D} {pre : α → Prop} {err : α → Option Addr} {N : List Str} {t : TS} {vs : List V} {H : Hp} {Q : VK} {E : XK} (h : spN K C code pre err vs H Q E)
    (k : ∀ (a : α) (W M : Addr → Prop) (p dx : Addr), pre a → St ⟨K, none, E, W, M⟩ t { nx := fun ds => err a = none ∧ ∃ q, ds[0]? = some (.rdr true p q dx C (code a) []), rt := fun _ => False, er := fun C' o => ∃ D', C' = .ref D' ∧ o = none ∧ err a = some D' } (.self p dx C [] [] :: (([code a] : List D).map Sl.v ++ List.replicate (N.length - 1 - ([code a] : List D).length) Sl.no))) (hN : 0 < N.length) :
    t { nx := fun _ H' => Q .non H', rt := Q } (L2.start N vs) H := by
  obtain ⟨G, a, p, dx, us, s, rfl, r, hp, gp, h0, h1, h2⟩ := h
  refine k a (fun b => H b ≠ none) (fun b => b = p) p dx hp G H _ ⟨s, rd_slots hN s r ⟨[], rfl, gp, h0, rfl, .nil, fun _ z => (nomatch z), rfl⟩ (fun _ z => (nomatch z)), fun b _ z => (nomatch z), fun b z => z⟩ _ ⟨fun G' H' σ ds x a' z => ?_, fun _ _ _ _ _ _ _ z => z.elim, fun _ _ _ _ _ _ z => z.elim, fun _ _ _ _ _ _ z => z.elim, fun G' H' C o x s' z => ?_, fun _ _ _ _ _ _ _ _ _ z => z.elim, fun _ _ _ _ _ _ _ z => z.elim⟩
  · obtain ⟨e1, q, e2⟩ := z
    obtain ⟨o1, rd, _, _, _, _, pw⟩ := a'.fr.ok 0 _ e2
    refine h1 e1 G' H' q x a'.sub ?_ rd
    by_cases hq : H q = none
    · exact hq
    · exact absurd ((pw rfl).2 hq).symm rd.ne
  · obtain ⟨D', rfl, rfl, e⟩ := z
    exact h2 D' e G' H' x s'
section
variable {α : Type} {code : α → D} {pre : α → Prop} {err : α → Option Addr} {c : Ctx} {ds : Fm} {n : DE} {ta : TA} {a : α} {xs zs : List D} {d : D} {i : Nat} {p dx C : Addr}
/-- self.fed = [] -/
theorem st_putL (hx : ds[i]? = some (.self p dx C ["code"] [d])) (hc : Cls c.K C) (hn : NoAttr c.K C "fed") (k : ∀ q, n.nx (ds.set i (.rdr true p q dx C d []))) (hl : c.l = none) (fl : (ds.set i .no).all flatS = true := by rfl) : St c (sFld c.K (tVar i) (tLst tNil) "fed") n ds := fun G H σ a E l => by
  obtain ⟨fs, h1, h2, h3, h4, h5, h6, h7⟩ := a.fr.ok i _ hx
  have hi : i < ds.length := (List.getElem?_eq_some_iff.mp hx).1
  obtain ⟨u, rfl⟩ : ∃ u, fs = [(("code" : Str), u)] := by
    cases fs with
    | nil => cases h4
    | cons f fs => cases fs with
      | nil => obtain ⟨f1, f2⟩ := f; simp at h4; exact ⟨f2, by rw [h4]⟩
      | cons _ _ => simp at h4
  have ru : Rep c.K G u d := by cases h5 with | cons r _ => exact r
  unfold sFld
  refine ⟨by decide, fun q hq => ?_⟩
  have npq : p ≠ q := fun z => by rw [z, hq] at h3; cases h3
  have hg : G q = none := sub_none a.sub hq
  refine ⟨_, h1, p, C, dx, [(("code" : Str), u)], rfl, by rw [upd_ne npq]; exact h3, hc, hn, by simp, ?_⟩
  rw [putF_new (by simp; decide)]
  obtain ⟨H2, hH2⟩ : ∃ H2, H2 = upd (upd H q (.lst [])) p (.ins C dx ([(("code" : Str), u)] ++ [(("fed" : Str), V.ref q)])) := ⟨_, rfl⟩
  rw [← hH2]
  have keep : ∀ b o, b ≠ p → H b = some o → H2 b = some o := fun b o hp h => by rw [hH2, upd_ne hp, upd_ne (ne_of_none h hq)]; exact h
  have ht : ∀ b, H b ≠ none → H2 b ≠ none := fun b h => by
    by_cases hb : b = p
    · subst hb; rw [hH2, upd_same]; simp
    · cases h' : H b with
      | none => exact absurd h' h
      | some o => rw [keep b o hb h']; simp
  have ex : Exs c G H G H2 := ⟨Ex.refl _, fun b o w m _ h => keep b o (fun z => m (by rw [z]; exact h7)) h, fun b _ _ g => g, ht, fun b y hb => (by rw [hl] at hb; cases hb)⟩
  have rd : RdH c.K G H2 p q dx C d [] := ⟨u, [], h2, hg, by rw [hH2, upd_same]; rfl, by rw [hH2, upd_ne (Ne.symm npq), upd_same], ru, .nil⟩
  refine l.nx G H2 σ _ ex ⟨fun b o e => keep b o (fun z => by rw [z, h2] at e; cases e) (a.sub b o e), ⟨by rw [List.length_set]; exact a.fr.len, fun j s hs => ?_, fun j j' b xs' ys' hjj hj hj' e2 e3 => ?_⟩, fun b y hb => (by rw [hl] at hb; cases hb), fun b w => ht b (a.tr b w)⟩ (k q)
  · by_cases hj : i = j
    · subst hj
      rw [List.getElem?_set_self hi] at hs
      cases hs
      refine ⟨h1, rd, ?_, ?_, ?_, ?_, fun _ => ⟨fun _ => h7, fun w => absurd hq (a.tr q w)⟩⟩ <;> (rw [hl]; exact fun _ z => (nomatch z))
    · rw [List.getElem?_set_ne hj] at hs
      have o := a.fr.ok j s hs
      have f := List.all_eq_true.mp fl s (List.mem_of_getElem? (by rw [List.getElem?_set_ne hj]; exact hs))
      cases s with
      | no => trivial
      | v d => exact o
      | drw => obtain ⟨b, y, o1, _⟩ := o; rw [hl] at o1; cases o1
      | own _ => cases f
      | self _ _ _ _ _ => cases f
      | rdr _ _ _ _ _ _ _ => cases f
  · have nj : i ≠ j := fun z => by subst z; rw [List.getElem?_set_self hi] at hj; cases hj
    rw [List.getElem?_set_ne nj] at hj
    have f := List.all_eq_true.mp fl _ (List.mem_of_getElem? (i := j) (by rw [List.getElem?_set_ne nj]; exact hj))
    cases f
/-- C(code): what comes out -/
theorem new_run {G1 H1 : Hp} {σ : L2.St} {E : XK} {Q : VK} {vs : List V} (a1 : At c G1 H1 σ ds) (r1 : Reps c.K G1 vs [code a]) (hp : pre a)
    (h1 : err a = none → ∀ x q dx G2 H2, Ext c.l G1 H1 G2 H2 → Ex G2 H2 → H1 x = none → H1 q = none → RdH c.K G2 H2 x q dx C (code a) [] → Q (.ref x) H2)
    (h2 : ∀ C', err a = some C' → ∀ G2 H2, Ext c.l G1 H1 G2 H2 → Ex G2 H2 → E (.ref C') none H2) :
    ∀ x dx, H1 x = none → H1 dx = none → dx ≠ x → spN c.K C code pre err (.ref x :: (vs ++ [])) (upd (upd H1 dx (.own x)) x (.ins C dx [])) (fun v H2 => v = .non ∧ Q (.ref x) H2) E := fun x dx nx nd ne => by
  rw [List.append_nil]
  have s1 := a1.sub
  have gx : G1 x = none := sub_none s1 nx
  have h12 : ∀ b o, H1 b = some o → (upd (upd H1 dx (.own x)) x (.ins C dx [])) b = some o := fun b o e => by rw [upd_ne (ne_of_none e nx), upd_ne (ne_of_none e nd)]; exact e
  have sub : Ex G1 (upd (upd H1 dx (.own x)) x (.ins C dx [])) := fun b o e => h12 b o (s1 b o e)
  have up : ∀ {G2 H2}, Exs ⟨c.K, none, E, fun b => (upd (upd H1 dx (.own x)) x (.ins C dx [])) b ≠ none, fun b => b = x⟩ G1 (upd (upd H1 dx (.own x)) x (.ins C dx [])) G2 H2 → Ext none G1 H1 G2 H2 := fun e => by
    refine ⟨e.g, fun b o _ q => ?_, fun b q z => ?_, fun b q => ?_, fun b _ z => (nomatch z)⟩
    · exact e.h b o (by show _ ≠ none; rw [h12 b o q]; simp) (fun z => (ne_of_none q nx) z) (fun _ z => nomatch z) (h12 b o q)
    · have w : (upd (upd H1 dx (.own x)) x (.ins C dx [])) b ≠ none := by
        cases q' : H1 b with
        | none => exact absurd q' q
        | some o => rw [h12 b o q']; simp
      exact e.n b w w z
    · cases q' : H1 b with
      | none => exact absurd q' q
      | some o => exact e.t b (by rw [h12 b o q']; simp)
  refine ⟨G1, a, x, dx, vs, sub, rfl, r1, hp, gx, upd_same, fun hr G2 H2 q e2 s2 hq rd => ⟨rfl, ?_⟩, fun C' hr G2 H2 e2 s2 => h2 C' hr G2 H2 (up e2).all s2⟩
  refine h1 hr x q dx G2 H2 (up e2).all s2 nx ?_ rd
  cases q' : H1 q with
  | none => rfl
  | some o => rw [h12 q o q'] at hq; cases hq
theorem At.rset {G1 H1 G2 H2 : Hp} {σ : L2.St} {x q : Addr} (a1 : At c G1 H1 σ ds) (e : Ext c.l G1 H1 G2 H2) (s : Ex G2 H2) (nx : H1 x = none) (nq : H1 q = none) (rd : RdH c.K G2 H2 x q dx C d xs) (hi : i < ds.length) : At c G2 H2 (σ.set i (some (.ref x))) (ds.set i (.rdr true x q dx C d xs)) := by
  have a2 := a1.go e s
  refine ⟨a2.sub, ⟨by simp [a2.fr.len], fun j s' hs => ?_, fun j k b xs' ys' hjk hj hk e1 e2 => ?_⟩, a2.lk, a2.tr⟩
  · by_cases hj : i = j
    · subst hj
      rw [List.getElem?_set_self hi] at hs
      cases hs
      rw [List.getElem?_set_self (by rw [a2.fr.len]; exact hi)]
      exact ⟨rfl, rd, fun y z => (a1.lk x y z).1 nx, fun y z => (a1.lk q y z).1 nq, fun b z => (a1.lk b x z).2.2 nx, fun b z => (a1.lk b q z).2.2 nq, fun _ => ⟨fun w => absurd nx (a1.tr x w), fun w => absurd nq (a1.tr q w)⟩⟩
    · rw [List.getElem?_set_ne hj] at hs ⊢
      exact a2.fr.ok j s' hs
  · have nj : i ≠ j := fun z => by subst z; rw [List.getElem?_set_self hi] at hj; cases hj
    have nk : i ≠ k := fun z => by subst z; rw [List.getElem?_set_self hi] at hk; cases hk
    rw [List.getElem?_set_ne nj] at hj e1
    rw [List.getElem?_set_ne nk] at hk e2
    exact a2.fr.ap j k b xs' ys' hjk hj hk e1 e2
/-- r = C(code) -/
theorem st_asgNew (h : Ea c ta ds zs) (hz : zs = [code a]) (hp : pre a) (hi : i < ds.length) (h1 : err a = none → ∀ x q dx, n.nx (ds.set i (.rdr true x q dx C (code a) []))) (h2 : ∀ C', err a = some C' → n.er (.ref C') none) :
    St c (tAsg (tMake C (spN c.K C code pre err) [] c.X ta) (gName i)) n ds := fun G H σ at' E l => h G H σ at' _ fun vs G1 H1 e1 s1 r1 => by
  subst hz
  have a1 := at'.go e1 s1
  exact new_run (Q := fun v H2 => gName i v σ H2 E.nx) a1 r1 hp (fun hr x q dx G2 H2 e2 s2 nx nq rd => l.nx G2 H2 _ _ (e1.trans e2).s (a1.rset e2 s2 nx nq rd hi) (h1 hr x q dx)) (fun C' hr G2 H2 e2 s2 => l.er G2 H2 (.ref C') none (e1.trans e2).s s2 (h2 C' hr))
/-- C(code), a statement -/
theorem st_new (h : Ea c ta ds zs) (hz : zs = [code a]) (hp : pre a) (h1 : err a = none → n.nx ds) (h2 : ∀ C', err a = some C' → n.er (.ref C') none) :
    St c (tDrop (tMake C (spN c.K C code pre err) [] c.X ta)) n ds := fun G H σ at' E l => h G H σ at' _ fun vs G1 H1 e1 s1 r1 => by
  subst hz
  have a1 := at'.go e1 s1
  exact new_run (Q := fun v H2 => E.nx σ H2) a1 r1 hp (fun hr x q dx G2 H2 e2 s2 nx nq rd => l.nx G2 H2 _ _ (e1.trans e2).s (a1.go e2 s2) (h1 hr)) (fun C' hr G2 H2 e2 s2 => l.er G2 H2 (.ref C') none (e1.trans e2).s s2 (h2 C' hr))
end
end Dl

/-! Drb: an own == against texts; calls where no exception is known. -/
namespace Dl
open PySem L2 Evl PySem.Spec PyProof.Rows
/-- a class, none of whose instances is a text -/
structure NoStr (K : PySem.W.Frag) (C : Addr) : Prop where
  k : PySem.W.kitOne K (.type "str") (.ref C) = some false
  s : PySem.W.subIn K (.type "str") (.ref C) = some false
def rOwnEqS (K : PySem.W.Frag) (C : Addr) (sp : Sp) (E : XK) : R2 := fun x y H Q => ∃ a dx fs, x = .ref a ∧ H a = some (.ins C dx fs) ∧
  ((∃ b dy gs, y = .ref b ∧ H b = some (.ins C dy gs)) ∨ ((∃ s, y = .str s) ∧ PySem.W.subIn K (.type "str") (.ref C) = some false)) ∧ sp [x, y] H (fun v H' => (∃ b, v = .bl b) ∧ Q v H') E
theorem op_ownEqS {X : Cx} {CX : CXT} {k : Nat} {C : Addr} {ps : List Str} {sp : Sp} {E : XK} (h : OkM X.prog X.w X.K X.mg X.base CX k C "__eq__" ps sp) (hr : Room k X.A) (hx : Passes CX X E) : OpR X (compareOp .Eq) (rOwnEqS X.K C sp E) := by
  obtain ⟨f, fd, F, m, hb⟩ := h.ex
  intro pins s σ H x y u v Q I rx ry d
  obtain ⟨a, dx, fs, rfl, ha, ht, hsp⟩ := d
  cases (show u = Value.ref a from rx)
  obtain ⟨mA, J, _⟩ := ins_get I.hok ha
  obtain ⟨od, J, _⟩ := J.look
  obtain ⟨mm, hF⟩ := I.fr
  have fin : wpAny (model X.prog X.w) X.A (call (.ref f) [.ref a, v]) (PySem.W.CmpBack (EP X pins σ Q)) X.xe s := by
    have hl := F.len _ _ _ _ hsp
    have r2 : Vals [V.ref a, y] [Value.ref a, v] := .cons rfl (.cons ry .nil)
    refine wpAny_call (codeAny_mono (F.run X.A X.stack s H ⟨[.ref a, v], []⟩ [.ref a, v] [.ref a, y] _ E hr I.env0 (by
      have := hb s [.ref a, v] I.kIn (by simpa using hl)
      simpa using this) r2 hsp) fun r s' hq => ?_)
    cases r with
    | error e => exact hx pins σ H s e s' I hq
    | ok fl =>
      cases fl with
      | ret w =>
        obtain ⟨z, H', I', rz, ⟨b, ez⟩, q⟩ := I.after hq
        subst ez
        cases rz
        exact ⟨.bl b, H', I', rfl, q⟩
      | next => exact False.elim hq
      | brk => exact False.elim hq
      | cont => exact False.elim hq
  show wpAny (model X.prog X.w) X.A (richCompare .Eq (.ref a) v) (EP X pins σ Q) X.xe s
  rcases ht with ⟨b, dy, gs, rfl, hb'⟩ | ⟨⟨z, rfl⟩, hn⟩
  · cases (show v = Value.ref b from ry)
    obtain ⟨mB, J', _⟩ := ins_get I.hok hb'
    obtain ⟨od', J', _⟩ := J'.look
    exact PySem.W.cmp_K (op := .Eq) (tb := .ref C) hr.units0 hF I.ok.mod.kin J J'.type (by simp [PySem.W.notFirst]) m.at_ m.fn fin
  · obtain ⟨t, rfl⟩ : ∃ t, v = Value.str z t := ry
    exact PySem.W.cmp_K (op := .Eq) (tb := .type "str") hr.units0 hF I.ok.mod.kin J (fun A Q E s k' q => wpAny_pure q) (by unfold PySem.W.notFirst; rw [hn]; simp) m.at_ m.fn fin
theorem k_ownS {X : Cx} (K : PySem.W.Frag) (hK : X.K = K) {CX : CXT} {k : Nat} {C : Addr} {ps : List Str} {sp : Sp} {E : XK} (h : OkM X.prog X.w X.K X.mg X.base CX k C "__eq__" ps sp) (hr : Room k X.A) (hx : Passes CX X E) : OpR X (compareOp .Eq) (rOwnEqS K C sp E) := by subst hK; exact op_ownEqS h hr hx
section
variable {K : PySem.W.Frag} {C : Addr} {ns : List Str} {xs : List D}
theorem rc_isiOwnS {s : Str} (o : NoStr K C) : Rc K (rIsi K) [.str s, .cls C] (.bl false) := fun G H vs sb r Q t => by
  cases r with
  | cons r r' => cases r' with
    | cons r1 r2 =>
      cases r2
      cases r1
      cases r
      exact ⟨_, _, _, _, false, rfl, .own C, .base (.str s), o.k, t.same sb (.bl false)⟩
theorem rb_ownEqS {α : Type} {args : α → List D} {pre : α → Prop} {res : α → Res} {E : XK} {a : α} {y : D} {b : Bool} (hy : (∃ ns ys, y = .obj C ns ys) ∨ ((∃ s, y = .str s) ∧ NoStr K C)) (hx : [.obj C ns xs, y] = args a) (hp : pre a) (hr : res a = .ok (.bl b)) : Rb K (rOwnEqS K C (spA K args pre res) E) (.obj C ns xs) y (.bl b) := fun G H v w s r1 r2 Q t => by
  have go : ∀ v : V, Rep K G v (.obj C ns xs) → spA K args pre res [v, w] H (fun v H' => (∃ b, v = .bl b) ∧ Q v H') E := fun v r1 => ⟨G, a, s, by rw [← hx]; exact .cons r1 (.cons r2 .nil), hp, fun d hd u G1 H1 e1 s1 ru => by
    rw [hr] at hd; cases hd
    cases ru
    exact ⟨⟨b, rfl⟩, t _ G1 H1 e1 s1 (.bl b)⟩, fun C o z => by rw [hr] at z; cases z⟩
  have g := go v r1
  cases r1 with
  | obj e _ _ =>
    refine ⟨_, _, _, rfl, s _ _ e, ?_, g⟩
    rcases hy with ⟨ns', ys, rfl⟩ | ⟨⟨z, rfl⟩, o⟩
    · cases r2 with
      | obj e2 _ _ => exact .inl ⟨_, _, _, rfl, s _ _ e2⟩
    · cases r2
      exact .inr ⟨⟨_, rfl⟩, o.s⟩
end
section
variable {α : Type} {code : α → D} {fed : α → List D} {pre : α → Prop} {args : α → List D} {c : Ctx} {ds : Fm} {n : DE} {te : TE} {ta : TA} {a : α} {xs ys zs : List D} {d e : D} {i j : Nat} {p q dx C : Addr} {m : Str} {E0' : XK} {err : α → Option Addr}
theorem st_wdrop0 {res : α → Wr} (hx : ds[i]? = some (.rdr true p q dx C d xs)) (h : Ea c ta ds zs) (hz : zs = args a) (hd : d = code a) (hf : xs = fed a) (hp : pre a) (hr : res a = .ok e ys)
    (h1 : n.nx (ds.set i (.rdr true p q dx C d ys))) (m1 : (m == "code") = false := by decide) (m2 : (m == "fed") = false := by decide) (fl : (ds.set i .no).all flatS = true := by rfl) :
    St c (tDrop (tMeth C m (spW c.K C args code fed pre res) [] E0' (tVar i) ta)) n ds := fun G H σ at' E l => by
  subst hz
  obtain ⟨s1, rd⟩ := rd_at at' hx
  obtain ⟨u, vs, k1, k2, k3, k4, k5, k6⟩ := id rd
  unfold tDrop tMeth
  refine ⟨_, s1, p, dx, _, rfl, k3, by simp only [List.lookup, m1, m2], h G H σ at' _ fun vs G1 H1 e1 s1 r1 => ?_⟩
  rw [List.append_nil]
  exact w_run (at'.go e1 s1) hx r1 hd hf hp fl (fun e ys he v G2 H2 x a2 rv => by
    rw [hr] at he; cases he
    exact l.nx G2 H2 σ _ (e1.s.trans x) a2 h1) (fun C' he G2 H2 x a2 => by rw [hr] at he; cases he)
theorem st_asgNew0 (h : Ea c ta ds zs) (hz : zs = [code a]) (hp : pre a) (hi : i < ds.length) (hr : err a = none) (h1 : ∀ x q dx, n.nx (ds.set i (.rdr true x q dx C (code a) []))) :
    St c (tAsg (tMake C (spN c.K C code pre err) [] E0' ta) (gName i)) n ds := fun G H σ at' E l => h G H σ at' _ fun vs G1 H1 e1 s1 r1 => by
  subst hz
  have a1 := at'.go e1 s1
  exact new_run (Q := fun v H2 => gName i v σ H2 E.nx) a1 r1 hp (fun hr x q dx G2 H2 e2 s2 nx nq rd => l.nx G2 H2 _ _ (e1.trans e2).s (a1.rset e2 s2 nx nq rd hi) (h1 x q dx)) (fun C' hr' G2 H2 e2 s2 => by rw [hr] at hr'; cases hr')
end
end Dl

/-! Drc: several except clauses, some with a name; the rest of a body that is never reached. -/
namespace Dl
open PySem L2 Evl PySem.Spec PyProof.Rows
/-- statements that are never reached -/
theorem pss_dead {X : Cx} {ss : List Stmt} : PSs X ss (fun _ _ _ => False) := ⟨fun _ _ _ _ _ _ h => h.elim⟩
abbrev Cl := Value × Option Nat × (Addr → Value → Option Addr → TS)
def wManyA (K : PySem.W.Frag) (Wout : WX) (D : Ends) : List Cl → WX
  | [] => Wout
  | (c, oi, ts) :: r => fun cls d σ H => ∃ b, PySem.W.exmOne K cls c = some b ∧ (b = true → ∀ a, H a = none → match oi with
      | none => ts a cls d D σ H
      | some i => ts a cls d { nx := fun σ' H' => D.nx (σ'.set i none) H', rt := D.rt, bk := fun σ' H' => D.bk (σ'.set i none) H', ct := fun σ' H' => D.ct (σ'.set i none) H' } (σ.set i (some (.ref a))) H) ∧ (b = false → wManyA K Wout D r cls d σ H)
inductive HdsA (X : Cx) : List ExceptHandler → List Cl → Prop
  | nil : HdsA X [] []
  | plain {x : Str} {c : Value} {ts : Addr → Value → Option Addr → TS} {b₀ : Stmt} {suite : List Stmt} {np pos' : Pos} {hds : List ExceptHandler} {l : List Cl} (hc : Names X x c)
      (hsu : ∀ (a : Addr) (oe : Obj) (cls : Value) (d : Option Addr) (pn : List (Addr × Obj)), Zc cls d oe → (∃ vs, oe.data = .fields vs) → PSs (X.suite a ((a, oe) :: pn)) (b₀ :: suite) (ts a cls d)) (r : HdsA X hds l) :
      HdsA X (.ExceptHandler (some (.Name x np)) none (b₀ :: suite) pos' :: hds) ((c, none, ts) :: l)
  | named {x n : Str} {i : Nat} {c : Value} {ts : Addr → Value → Option Addr → TS} {b₀ : Stmt} {suite : List Stmt} {np pos' : Pos} {hds : List ExceptHandler} {l : List Cl} (hN : X.N.Nodup) (hi : X.N[i]? = some n) (hln : X.env.kindOf n = some .local) (hc : Names X x c)
      (hsu : ∀ (a : Addr) (oe : Obj) (cls : Value) (d : Option Addr) (pn : List (Addr × Obj)), Zc cls d oe → (∃ vs, oe.data = .fields vs) → PSs (X.suite a ((a, oe) :: pn)) (b₀ :: suite) (ts a cls d)) (r : HdsA X hds l) :
      HdsA X (.ExceptHandler (some (.Name x np)) (some n) (b₀ :: suite) pos' :: hds) ((c, some i, ts) :: l)
section
variable {X : Cx} {body : List Stmt} {h₀ : ExceptHandler} {hds : List ExceptHandler} {l : List Cl} {pos : Pos} {tb : WX → TS} {Wout : WX}
/-- what a suite that was named leaves: its ends, behind the name's going -/
theorem ps_try_clauses (hs : X.stack = X.env :: X.outer) (hf : X.env.frame = some X.env.locals) (tk : Takes X Wout)
    (hb : ∀ (W : WX) (pn : List (Addr × Obj)) (xe : Value → Shared → Prop), Takes (X.tr pn xe) W → PassesOwn (model X.prog X.w) X.A X.env xe → PSs (X.tr pn xe) body (tb W))
    (hh : HdsA X (h₀ :: hds) l) : PS X (.Try body (h₀ :: hds) [] [] pos) (fun D σ H => tb (wManyA X.K Wout D l) D σ H) := by
  refine ⟨fun pins s σ H D I h => wpAny_Try_except ?_⟩
  have ok := I.ok
  have fr0 : X.A.frames = some (X.env :: X.outer) := by rw [ok.frames, hs]
  refine wpAny_mono ((hb (wManyA X.K Wout D l) (X.pn ++ pins) (fun e s₁ => wpAny (model X.prog X.w) X.A (noteFrame e X.env) (fun _ s₂ => wpAny (model X.prog X.w) X.A (setFlight e none) (fun _ s₃ =>
    wpAny (model X.prog X.w) X.A (handleBy e X.env (h₀ :: hds)) (SP X pins D) X.xe s₃) X.xe s₂) X.xe s₁) (fun u s' xx => ?_) PassesOwn.looking).run [] s σ H D (I.toTry _) h) (fun f s1 hsp => ?_) (fun e s1 he => he)
  · obtain ⟨a, B, sI, pins', σ', H', cls, d, rfl, J', nb, up, sky, na, os, ag, wish⟩ := xx
    have J : Inv X pins σ' H' sI := J'.ofTry ok
    show wpAny (model X.prog X.w) X.A (noteFrame (.ref a) X.env) _ _ _
    refine Sky.land Zc.steady fr0 hf (by rw [← hs]; exact sky) fun h3 fl3 up3 => ?_
    have J3 : Inv X pins σ' H' { s' with heap := h3 } := J.landed nb fl3.1 (up.trans up3) os ag
    obtain ⟨oe, vs3, oeAt, oeZ, oeD⟩ := fl3.there
    have away : a ∉ frs (X.env :: X.outer) := fun hm => by
      obtain ⟨_, o', e', no⟩ := fl3.2.2.1.mem hm
      rw [oeAt] at e'; cases e'
      exact no _ oeD
    have aL : a ≠ X.env.locals := fun z => away (List.mem_filterMap.mpr ⟨X.env, List.mem_cons_self, by rw [hf, z]⟩)
    have aF : a ∉ X.fs := fun hm => by
      obtain ⟨e, he, q⟩ := List.mem_filterMap.mp hm
      exact away (List.mem_filterMap.mpr ⟨e, List.mem_cons_of_mem _ he, q⟩)
    have S3 := J3.suite oeAt oeD na aL aF
    have ask : ∀ {x : Str} {np : Pos} {c : Value} {Q E : Value → Shared → Prop}, Names X x c → Q c { s' with heap := h3 } → wpAny (model X.prog X.w) (X.A.mark (some (.ref a))) (eval (.Name x np) X.env) Q E { s' with heap := h3 } := fun {x np c Q E} hc q => by
      obtain ⟨hg, hd, hm | ⟨hm, hv, hn⟩⟩ := hc
      · exact ld_glob (X := X.suite a ((a, oe) :: (X.pn ++ pins))) S3 hg hm q hd
      · exact ld_blt (X := X.suite a ((a, oe) :: (X.pn ++ pins))) S3 hg hm hv q hn hd
    have ty : PySem.W.Looks (model X.prog X.w) h3 (typeOf (.ref a)) cls := fun A Q E s k q => wpAny_typeOf_ref (k _ _ oeAt) (by rw [oeZ.1]; exact q)
    have all : ∀ {hs' : List ExceptHandler} {l' : List Cl}, HdsA X hs' l' → wManyA X.K Wout D l' cls d σ' H' → wpAny (model X.prog X.w) X.A (handleBy (.ref a) X.env hs') (SP X pins D) X.xe { s' with heap := h3 } := by
      intro hs' l' k
      induction k with
      | nil =>
        intro w
        refine wpAny_handleBy_nil ?_
        obtain ⟨_, _, _, o2, _, T, _, _, he, _, hd, h1, _⟩ := id fl3
        unfold PySem.passOn
        refine wpAny_bind (wpAny_field he hd h1 ?_)
        rw [if_neg (show ¬ ((Value.ref T == Value.none) = true) from by simp)]
        have fin : wpAny (model X.prog X.w) X.A (setFlight (.ref a) X.env.frame) (fun _ s4 => wpAny (model X.prog X.w) X.A (throw (.ref a) : Sem Flow) (SP X pins D) X.xe s4) X.xe { s' with heap := h3 } := by
          rw [hf]
          exact HandSPX.setFlight_upZ fl3 fun h4 hh4 up4 => wpAny_throw (tk _ _ ⟨a, B, sI, pins, σ', H', cls, d, rfl, J, nb, (up.trans up3).trans up4, .inr (.inr (by rw [hs]; exact hh4)), na, os, ag, w⟩)
        first
          | exact wpAny_bind (wpAny_pure (wpAny_bind fin))
          | exact wpAny_bind fin
      | plain hc hsu r ih =>
        rintro ⟨b, hb1, yes, no⟩
        refine wpAny_handleBy_cons (codeAny_handlers_test ?_) (by intro q; cases q)
        refine ask hc ((PySem.W.exm_one (M := model X.prog X.w) J3.kIn ty hb1).here ?_)
        cases b with
        | false => exact ih (no rfl)
        | true =>
          refine codeAny_handlers_suite (HandSPX.lands_againZ fl3 fun h4 fl4 up4 => ?_)
          have J4 : Inv X pins σ' H' { s' with heap := h4 } := J.landed nb fl4.1 ((up.trans up3).trans up4) os ag
          obtain ⟨o4, vs4, at4, z4, d4⟩ := fl4.there
          refine wpAny_mono ((hsu a o4 cls d (X.pn ++ pins) z4 ⟨_, d4⟩).run [] _ _ H' _ (J4.suite at4 d4 na aL aF) (yes rfl a na)) (fun f s6 hsp => ?_) (fun _ _ z => False.elim z)
          cases f with
          | next => obtain ⟨σ6, H6, S6, q6⟩ := hsp; exact ⟨_, _, S6.unsuite ok, q6⟩
          | brk => obtain ⟨σ6, H6, S6, q6⟩ := hsp; exact ⟨_, _, S6.unsuite ok, q6⟩
          | cont => obtain ⟨σ6, H6, S6, q6⟩ := hsp; exact ⟨_, _, S6.unsuite ok, q6⟩
          | ret u => obtain ⟨v6, σ6, H6, S6, r6, q6⟩ := hsp; exact ⟨_, _, _, S6.unsuite ok, r6, q6⟩
      | @named x n i c ts b₀ suite np pos' hds2 l2 hN hi hln hc hsu r ih =>
        rintro ⟨b, hb1, yes, no⟩
        refine wpAny_handleBy_cons (codeAny_handlers_test ?_) (by intro q; cases q)
        refine ask hc ((PySem.W.exm_one (M := model X.prog X.w) J3.kIn ty hb1).here ?_)
        cases b with
        | false => exact ih (no rfl)
        | true =>
          refine codeAny_handlers_suite_as (HandSPX.lands_againZ fl3 fun h4 fl4 up4 => ?_)
          have J4 : Inv X pins σ' H' { s' with heap := h4 } := J.landed nb fl4.1 ((up.trans up3).trans up4) os ag
          obtain ⟨o4, vs4, at4, z4, d4⟩ := fl4.there
          refine store_ok (X := X.suite a ((a, o4) :: (X.pn ++ pins))) (v := .ref a) (J4.suite at4 d4 na aL aF) hN hi (.inl hln) rfl (fun s5 S5 => ?_) (.inr hln)
          refine wpAny_mono ((hsu a o4 cls d (X.pn ++ pins) z4 ⟨_, d4⟩).run [] s5 _ H' _ S5 (yes rfl a na)) (fun f s6 hsp => ?_) (fun _ _ z => False.elim z)
          cases f with
          | next => obtain ⟨σ6, H6, S6, q6⟩ := hsp; exact gone_ok (S6.unsuite ok) hN hi hln fun s7 J7 => ⟨_, _, J7, q6⟩
          | brk => obtain ⟨σ6, H6, S6, q6⟩ := hsp; exact gone_ok (S6.unsuite ok) hN hi hln fun s7 J7 => ⟨_, _, J7, q6⟩
          | cont => obtain ⟨σ6, H6, S6, q6⟩ := hsp; exact gone_ok (S6.unsuite ok) hN hi hln fun s7 J7 => ⟨_, _, J7, q6⟩
          | ret u => obtain ⟨v6, σ6, H6, S6, r6, q6⟩ := hsp; exact gone_ok (S6.unsuite ok) hN hi hln fun s7 J7 => ⟨_, _, _, J7, r6, q6⟩
    exact all hh wish
  · cases f with
    | next => obtain ⟨σ', H', J', q⟩ := hsp; exact wpAny_execs_nil ⟨σ', H', J'.ofTry ok, q⟩
    | brk => obtain ⟨σ', H', J', q⟩ := hsp; exact ⟨σ', H', J'.ofTry ok, q⟩
    | cont => obtain ⟨σ', H', J', q⟩ := hsp; exact ⟨σ', H', J'.ofTry ok, q⟩
    | ret u => obtain ⟨v, σ', H', J', r, q⟩ := hsp; exact ⟨v, σ', H', J'.ofTry ok, r, q⟩
end
end Dl

/-! Drd: C(code).m(..), that raises. -/
namespace Dl
open PySem L2 Evl PySem.Spec PyProof.Rows
theorem RdH.go {K : PySem.W.Frag} {l : Option (Addr × Addr)} {G H G1 H1 : Hp} {p q dx C : Addr} {d : D} {xs : List D} (h : RdH K G H p q dx C d xs) (e : Ext l G H G1 H1) (hp : NotL l p) (hq : NotL l q) : RdH K G1 H1 p q dx C d xs := by
  obtain ⟨u, vs, k1, k2, k3, k4, k5, k6⟩ := h
  exact ⟨u, vs, e.n p (by rw [k3]; simp) k1, e.n q (by rw [k4]; simp) k2, e.h p _ hp k3, e.h q _ hq k4, k5.mono e.g, k6.mono e.g⟩
section
variable {α β : Type} {code : α → D} {pre : α → Prop} {err : α → Option Addr} {code2 : β → D} {fed2 : β → List D} {pre2 : β → Prop} {args2 : β → List D} {res2 : β → Wr} {c : Ctx} {ds : Fm} {n : DE} {ta tb : TA} {a : α} {b : β} {zs ys : List D} {C C' : Addr} {m : Str}
theorem st_newraise (hl : c.l = none) (h : Ea c ta ds zs) (hz : zs = [code a]) (hp : pre a) (he : err a = none) (h2 : Ea c tb ds ys) (hy : ys = args2 b) (hd : code a = code2 b) (hf : fed2 b = []) (hp2 : pre2 b) (hr : res2 b = .err C') (k : n.er (.ref C') none)
    (m1 : (m == "code") = false := by decide) (m2 : (m == "fed") = false := by decide) :
    St c (tDrop (tMeth C m (spW c.K C args2 code2 fed2 pre2 res2) [] c.X (tMake C (spN c.K C code pre err) [] c.X ta) tb)) n ds := fun G H σ at' E l => h G H σ at' _ fun vs G1 H1 e1 s1 r1 => by
  subst hz hy
  have a1 := at'.go e1 s1
  refine new_run (Q := fun x H1 => ∃ a dx fs, x = .ref a ∧ H1 a = some (.ins C dx fs) ∧ fs.lookup m = none ∧ tb σ H1 fun vs H2 => spW c.K C args2 code2 fed2 pre2 res2 (x :: (vs ++ [])) H2 (fun _ H3 => E.nx σ H3) c.X) a1 r1 hp (fun _ x q dx G2 H2 e2 s2 nx nq rd => ?_) (fun C0 z => by rw [he] at z; cases z)
  obtain ⟨u, ws, k1, k2, k3, k4, k5, k6⟩ := id rd
  refine ⟨x, dx, _, rfl, k3, by simp only [List.lookup, m1, m2], h2 G2 H2 σ (a1.go e2 s2) _ fun vs G3 H3 e3 s3 r3 => ?_⟩
  rw [List.append_nil]
  have nl : ∀ b, NotL c.l b := fun b y z => by rw [hl] at z; cases z
  have rd3 := rd.go e3 (nl x) (nl q)
  refine ⟨G3, b, x, q, dx, vs, s3, rfl, r3, hp2, by rw [← hd, hf]; exact rd3, fun d xs z => (by rw [hr] at z; cases z), fun C0 z G4 H4 x4 s4 _ => ?_⟩
  rw [hr] at z; cases z
  have e03 : Ext c.l G1 H1 G3 H3 := e2.trans e3
  have w0 : ∀ b, c.W b → b ≠ x ∧ b ≠ q := fun b w => ⟨fun z => a1.tr b w (by rw [z]; exact nx), fun z => a1.tr b w (by rw [z]; exact nq)⟩
  have ex : Exs c G3 H3 G4 H4 := ⟨x4.g, fun b o w _ _ h => x4.h b o (by show H3 b ≠ none; rw [h]; simp) (fun z => z.elim (w0 b w).1 (w0 b w).2) (fun _ z => nomatch z) h, fun b _ h g => x4.n b h h g, x4.t, fun b y z => (by rw [hl] at z; cases z)⟩
  exact l.er G4 H4 (.ref C') none ((e1.trans e03).s.trans ex) s4 k
end
end Dl

/-! Dse: sorted({n: .. for n in ..}); max of whole numbers; rising rows of numbers. -/
namespace Dl
open PySem L2 Evl PySem.Spec PyProof.Rows
/-! ### rising rows -/
def srt (l : List Nat) : List Nat := (List.range (maxN l + 1)).filter fun x => decide (x ∈ l)
theorem mem_srt {l : List Nat} {x : Nat} : x ∈ srt l ↔ x ∈ l := by
  unfold srt
  rw [List.mem_filter, List.mem_range, decide_eq_true_eq]
  exact ⟨fun h => h.2, fun h => ⟨Nat.lt_succ_of_le (le_maxN h), h⟩⟩
theorem srt_up (l : List Nat) : (srt l).Pairwise (· < ·) := List.Pairwise.filter _ List.pairwise_lt_range
theorem up_uniq : ∀ {a b : List Nat}, a.Pairwise (· < ·) → b.Pairwise (· < ·) → (∀ x, x ∈ a ↔ x ∈ b) → a = b
  | [], [], _, _, _ => rfl
  | [], y :: b, _, _, h => absurd ((h y).mpr List.mem_cons_self) (by simp)
  | x :: a, [], _, _, h => absurd ((h x).mp List.mem_cons_self) (by simp)
  | x :: a, y :: b, ha, hb, h => by
    obtain ⟨a1, a2⟩ := List.pairwise_cons.mp ha
    obtain ⟨b1, b2⟩ := List.pairwise_cons.mp hb
    have e : x = y := by
      rcases List.mem_cons.mp ((h x).mp List.mem_cons_self) with z | z
      · exact z
      · rcases List.mem_cons.mp ((h y).mpr List.mem_cons_self) with q | q
        · exact q.symm
        · have := b1 x z; have := a1 y q; omega
    subst e
    rw [up_uniq a2 b2 fun z => ⟨fun hz => ?_, fun hz => ?_⟩]
    · rcases List.mem_cons.mp ((h z).mp (List.mem_cons_of_mem _ hz)) with q | q
      · have := a1 z hz; omega
      · exact q
    · rcases List.mem_cons.mp ((h z).mpr (List.mem_cons_of_mem _ hz)) with q | q
      · have := b1 z hz; omega
      · exact q
theorem srt_len (l : List Nat) : (srt l).length ≤ l.length := by
  have h := (srt_up l).imp (S := (· ≠ ·)) fun h => Nat.ne_of_lt h
  exact List.Nodup.length_le_of_subset h fun x hx => mem_srt.mp hx
/-! ### sorted(d), the keys whole numbers -/
def rSortDI : List V → Hp → VK → Prop := fun xs H Q =>
  ∃ (a : Addr) (kvs : List (Key × V)) (ks : List Int), xs = [.ref a] ∧ H a = some (.dK kvs) ∧ kvs.map (·.1) = ks.map Sum.inl ∧
  ∀ (ys : List Int) (p : Addr), ys.Perm ks → ys.Pairwise (· ≤ ·) → H p = none → Q (.ref p) (upd H p (.lst (ys.map V.int)))
theorem key_ints : ∀ {us : List Value} {ks : List Int}, us.length = ks.length →
    (∀ (j : Nat) (v : Value), us[j]? = some v → ∃ t, ∃ x : Int, ks[j]? = some x ∧ v = Value.int x t) → IntsAre us ks
  | [], [], _, _ => .nil
  | [], _ :: _, hl, _ => by simp at hl
  | _ :: _, [], hl, _ => by simp at hl
  | u :: us, k :: ks, hl, h => by
    obtain ⟨t, x, e1, rfl⟩ := h 0 u rfl
    cases Option.some.inj e1
    exact .cons _ _ (key_ints (by simpa using hl) fun j v e => by
      obtain ⟨t, x, a, b⟩ := h (j + 1) v (by simpa using e)
      exact ⟨t, x, by simpa using a, b⟩)
theorem cr_sortDI {X : Cx} (calm : X.calm = true) : CallR X (.builtin "sorted") rSortDI := by
  rintro pins s σ H xs us Q I r ⟨a, kvs, ks, rfl, hd, hks, q⟩
  obtain ⟨u, rfl, rx⟩ := vals1 r
  cases rx
  obtain ⟨z, lo, vs, rel, dd⟩ := dk_rd I.hok (Rd.of hd)
  obtain ⟨ep, hat⟩ := dd.dictAt
  have hkeys : vs.map (·.1) = ks.map Sum.inl := by rw [← hks]; exact rel.keys.symm
  have hl : vs.length = ks.length := by have e := congrArg List.length hkeys; simpa using e
  have h16 : vs.length ≤ sizeLine := by rw [← rel.length]; exact z
  refine Calls.call_function_entry kind_sorted plain_sorted entry_sorted (args_sorted1 _) ?_
  unfold Builtin.«sorted»
  refine wpAny_bind (m := checkCount "sorted" 1 1 _)
    (wpAny_pure ?_)
  refine wpAny_bind (PySem.W.kdu_collect (A := X.A.in1)
    (PySem.W.kdl_dict (knd := mixKind X.prog X.w) (kvs := vs) (ep := ep) lo) (I.ok.hd calm) hat h16 fun h' tk acc hk hacc => ?_)
  have hal : acc.toList.length = ks.length := by
    rw [Array.length_toList, hacc.1, hl]
  have hS : IntsAre acc.toList ks := key_ints hal fun j v e => by
    obtain ⟨k, x, e1, e2⟩ := hacc.2 j v (by rw [← Array.getElem?_toList]; exact e)
    have e3 : (ks.map (Sum.inl : Int → Key))[j]? = some k := by rw [← hkeys, List.getElem?_map, e1]; rfl
    rw [List.getElem?_map] at e3
    cases e4 : ks[j]? with
    | none => rw [e4] at e3; cases e3
    | some y =>
      rw [e4] at e3
      cases Option.some.inj e3
      rcases keyIs_shape (show keyIs (Sum.inl y) v = true from e2) with ⟨i, t, ek, ev⟩ | ⟨z, t, ek, ev⟩
      · cases ek; exact ⟨t, y, rfl, ev⟩
      · cases ek
  have I1 : Inv X pins σ H { s with heap := h', toks := tk } := I.kept hk
  have hz2 : acc.toList.length ≤ sizeLine := by rw [hal, ← hl]; exact h16
  refine wpAny_bind (wpAny_newList ?_ hz2)
  have hoL : (h'.push (seqObj "list" acc.toList.toArray 0)).get? h'.objs.size = some (seqObj "list" acc.toList.toArray 0) :=
    Heap.get?_push_size _ rfl
  show wpAny _ _ _ _ _ { s with heap := h'.push (seqObj "list" acc.toList.toArray 0), toks := tk }
  refine wpAny_bind (wpAny_holding (wpAny_call_entry slot_list_sort ⟨_, hoL, rfl⟩ entry_list_sort
    (SrtO.list_sort_ord (s := { s with heap := h'.push (seqObj "list" acc.toList.toArray 0), toks := tk }) SrtO.swo_int hoL hz2
      (fun h2 => SrtO.ints_sortable hS h2) fun out h1 h2 => ⟨_, rfl, ?_⟩) (args_list_sort _)))
  obtain ⟨k1, k2, k3⟩ := SrtO.ints_out hS h1 h2
  obtain ⟨e', he'⟩ := sortedHeap_at (vs := acc.toList) (out := out.toArray) hoL
  have hlen : ((out.map SrtO.iv).map V.int).length ≤ sizeLine := by
    rw [List.length_map, k2.length_eq, ← hal]
    exact hz2
  refine wpAny_pure ⟨_, rfl, .ref h'.objs.size, upd H h'.objs.size (.lst ((out.map SrtO.iv).map V.int)),
    I1.laid (t' := tk) (fun b u e => ?_) (Nat.le_refl _) ⟨hlen, out, e', vals_of_ints k1, he'⟩, rfl, q _ _ k2 k3 (I1.hok.fresh (Nat.le_refl _))⟩
  have hb : b < h'.objs.size := Heap.lt_size e
  rw [sortedHeap_old (Nat.ne_of_lt hb) (by rw [size_push']; exact Nat.lt_succ_of_lt hb)]
  exact Heap.get?_push_of_some _ e
theorem k_sortDI {X : Cx} (calm : X.calm = true) : CallR X (.builtin "sorted") rSortDI := cr_sortDI calm
/-! ### {n: True for n in ..} -/
section
variable {c : Ctx} {ds : Fm} {wi : TI} {g : TG} {tk tv : TE} {vs js : List Nat} {z : D}
theorem putK_keys {ns : List Nat} {kvs : List (Key × V)} {n : Nat} {v : V} (nd : (kvs.map (·.1)).Nodup)
    (h : ∀ k : Key, k ∈ kvs.map (·.1) ↔ ∃ m ∈ ns, k = Sum.inl (m : Int)) :
    ((putK kvs (Sum.inl (n : Int)) v).map (·.1)).Nodup ∧ ∀ k : Key, k ∈ (putK kvs (Sum.inl (n : Int)) v).map (·.1) ↔ ∃ m ∈ ns ++ [n], k = Sum.inl (m : Int) := by
  unfold putK
  by_cases e : (kvs.any fun kv => decide (kv.1 = Sum.inl (n : Int))) = true
  · rw [if_pos e]
    have hk : (kvs.map fun kv => if kv.1 = Sum.inl (n : Int) then (kv.1, v) else kv).map (·.1) = kvs.map (·.1) := by
      rw [List.map_map]
      refine List.map_congr_left fun kv _ => ?_
      show (if kv.1 = Sum.inl (n : Int) then (kv.1, v) else kv).1 = kv.1
      split <;> rfl
    rw [hk]
    refine ⟨nd, fun k => ?_⟩
    rw [h k]
    constructor
    · rintro ⟨m, hm, rfl⟩; exact ⟨m, List.mem_append_left _ hm, rfl⟩
    · rintro ⟨m, hm, rfl⟩
      rcases List.mem_append.mp hm with q | q
      · exact ⟨m, q, rfl⟩
      · rw [List.mem_singleton.mp q]
        obtain ⟨kv, h1, h2⟩ := List.any_eq_true.mp e
        exact (h _).mp (by rw [← of_decide_eq_true h2]; exact List.mem_map.mpr ⟨kv, h1, rfl⟩)
  · rw [if_neg e, List.map_append]
    have hn : (Sum.inl (n : Int) : Key) ∉ kvs.map (·.1) := fun q => by
      obtain ⟨kv, h1, h2⟩ := List.mem_map.mp q
      exact e (List.any_eq_true.mpr ⟨kv, h1, decide_eq_true h2⟩)
    refine ⟨?_, fun k => ?_⟩
    · rw [List.nodup_append]
      refine ⟨nd, by simp, fun a ha b hb => ?_⟩
      rw [List.mem_singleton.mp hb]
      rintro rfl
      exact hn ha
    · rw [List.mem_append, h k]
      constructor
      · rintro (⟨m, hm, rfl⟩ | q)
        · exact ⟨m, List.mem_append_left _ hm, rfl⟩
        · exact ⟨n, by simp, List.mem_singleton.mp q⟩
      · rintro ⟨m, hm, rfl⟩
        rcases List.mem_append.mp hm with q | q
        · exact .inl ⟨m, q, rfl⟩
        · rw [List.mem_singleton.mp q]; exact .inr (by simp)
theorem keys_int {kvs : List (Key × V)} {ns : List Nat} (h : ∀ k : Key, k ∈ kvs.map (·.1) ↔ ∃ m ∈ ns, k = Sum.inl (m : Int)) :
    ∃ ks : List Nat, kvs.map (·.1) = (ks.map fun n : Nat => (n : Int)).map Sum.inl ∧ ∀ x, x ∈ ks ↔ x ∈ ns := by
  have ex : ∀ l : List Key, (∀ k ∈ l, ∃ m ∈ ns, k = Sum.inl (m : Int)) → ∃ ks : List Nat, l = (ks.map fun n : Nat => (n : Int)).map Sum.inl := fun l => by
    induction l with
    | nil => exact fun _ => ⟨[], rfl⟩
    | cons k l ih =>
      intro hl
      obtain ⟨m, _, rfl⟩ := hl k List.mem_cons_self
      obtain ⟨ks, rfl⟩ := ih fun k hk => hl k (List.mem_cons_of_mem _ hk)
      exact ⟨m :: ks, rfl⟩
  obtain ⟨ks, e⟩ := ex _ fun k hk => (h k).mp hk
  refine ⟨ks, e, fun x => ?_⟩
  have := h (Sum.inl (x : Int))
  rw [e, List.map_map] at this
  constructor
  · intro hx
    obtain ⟨m, hm, q⟩ := this.mp (List.mem_map.mpr ⟨x, hx, rfl⟩)
    have : (x : Int) = (m : Int) := Sum.inl.inj q
    have : x = m := by omega
    subst this; exact hm
  · intro hx
    obtain ⟨m, hm, q⟩ := List.mem_map.mp (this.mpr ⟨x, hx, rfl⟩)
    have : (m : Int) = (x : Int) := Sum.inl.inj q
    have : m = x := by omega
    subst this; exact hm
theorem ee_sortDc {ns : List Nat} (hi : Ei c wi ds (ns.map fun n : Nat => D.int (n : Int))) (hz : ns.length ≤ 1000000) (hv : ∀ j ∈ js, j ∈ vs)
    (hs : ∀ (i n : Nat), ns[i]? = some n → ∃ ds2, Eg c g (.int (n : Nat)) (wipeD ds vs) ds2 js ∧ Ee c tk ds2 (.int (n : Nat)) ∧ Ee c tv ds2 z) :
    Ee c (tCB rSortDI (tCons (tDc wi g tYes tk tv vs) tNil)) ds (.lst ((srt ns).map fun n : Nat => D.int (n : Int))) := fun G0 H0 σ at' Q q => by
  show wi σ H0 _
  refine hi G0 H0 σ at' _ fun J G1 H1 e1 s1 it => ?_
  intro Dd hDl
  have at1 : At c G1 H1 σ ds := at'.go e1 s1
  have hg1 : G1 Dd = none := sub_none s1 hDl
  have hne : NotL c.l Dd := fun y z => (at1.lk Dd y z).1 hDl
  let P : Nat → Hp → Prop := fun i H => ∃ G kvs, Ext c.l G1 H1 G H ∧ Ex G H ∧ G Dd = none ∧ H Dd = some (.dK kvs) ∧ kvs.length ≤ i ∧ (kvs.map (·.1)).Nodup ∧
    ∀ k : Key, k ∈ kvs.map (·.1) ↔ ∃ m ∈ ns.take i, k = Sum.inl (m : Int)
  have nl : (ns.map fun n : Nat => D.int (n : Int)).length = ns.length := List.length_map _
  refine ⟨fun i m H => i ≤ ns.length ∧ m = ns.length - i ∧ P i H, ⟨ns.length, Nat.zero_le _, rfl, G1, [], Ext.refl.mut hDl, sub_hid s1 hg1, hg1, upd_same, Nat.le_refl _, List.nodup_nil, fun k => by simp⟩, ?_⟩
  rintro i m H ⟨il, rfl, G, kvs, eg, sb, gd, hd, kl, kn, km⟩
  by_cases hlt : i < ns.length
  · refine .inr ⟨it.go i G H eg.g sb (by rw [nl]; exact hlt), P (i + 1), fun H' p => ⟨ns.length - (i + 1), by omega, hlt, rfl, p⟩, fun x H' y => ?_⟩
    obtain ⟨d, G2, hd', ex, sb2, rx⟩ := it.yld i G H x H' eg.g sb (by rw [nl]; exact hlt) y
    rw [List.getElem?_map, List.getElem?_eq_getElem hlt] at hd'
    have hdd : D.int ((ns[i] : Nat) : Int) = d := Option.some.inj hd'
    subst hdd
    obtain ⟨ds2, hg, hk, hv'⟩ := hs i _ (List.getElem?_eq_getElem hlt)
    have e2 : Ext c.l G1 H1 G2 H' := eg.trans ex.all
    have at2 : At c G2 H' (wipe σ vs) (wipeD ds vs) := (at1.go e2 sb2).wipe vs
    refine hg G2 H' _ x at2 rx _ fun σ2 a2 len2 keep => ⟨wipe_same (by rw [len2, wipe_length]) fun k hk => keep k fun z => hk (hv k z), ?_⟩
    show tk σ2 H' _
    refine hk G2 H' σ2 a2 _ fun v G3 H3 e3 s3 r3 => ?_
    cases r3
    refine hv' G3 H3 σ2 (a2.go e3 s3) _ fun v G4 H4 e4 s4 r4 => ?_
    have h1 : H' Dd = some (.dK kvs) := ex.h Dd _ (fun _ z => nomatch z) hd
    have e34 := e3.trans e4
    have n1 : G4 Dd = none := e34.n Dd (by rw [h1]; simp) (ex.n Dd (by rw [hd]; simp) gd)
    have n2 : H4 Dd = some (.dK kvs) := e34.h Dd _ hne h1
    obtain ⟨p1, p2⟩ := putK_keys (n := ns[i]) (v := v) kn km
    have pl := length_putK kvs (Sum.inl ((ns[i] : Nat) : Int)) v
    refine ⟨kvs, Sum.inl ((ns[i] : Nat) : Int), rfl, n2, sz_lt (by omega), G4, _, (e2.trans e34).mut hDl, sub_hid s4 n1, n1, upd_same, by omega, p1, ?_⟩
    rw [List.take_succ, List.getElem?_eq_getElem hlt]
    exact p2
  · have e : i = ns.length := by omega
    subst e
    rw [List.take_of_length_le (Nat.le_refl _)] at km
    obtain ⟨ks, ek, hks⟩ := keys_int km
    refine .inl ⟨by have := it.stop G H eg.g sb; rw [nl] at this; exact this, ?_⟩
    show rSortDI [V.ref Dd] H Q
    refine ⟨Dd, kvs, _, rfl, hd, ek, fun ys p hp hup hpn => ?_⟩
    obtain ⟨zs, rfl⟩ : ∃ zs : List Nat, ys = zs.map fun n : Nat => (n : Int) := by
      have : ∀ y ∈ ys, ∃ n : Nat, y = (n : Int) := fun y hy => by
        obtain ⟨n, _, rfl⟩ := List.mem_map.mp (hp.mem_iff.mp hy)
        exact ⟨n, rfl⟩
      clear hp hup
      induction ys with
      | nil => exact ⟨[], rfl⟩
      | cons y ys ih =>
        obtain ⟨n, rfl⟩ := this y List.mem_cons_self
        obtain ⟨zs, rfl⟩ := ih fun y hy => this y (List.mem_cons_of_mem _ hy)
        exact ⟨n :: zs, rfl⟩
    have es : zs = srt ns := by
      have hnd : (ks.map fun n : Nat => (n : Int)).Nodup := by
        rw [ek] at kn
        exact List.Pairwise.of_map (S := (· ≠ ·)) (R := (· ≠ ·)) Sum.inl (fun a b h e => h (by rw [e])) kn
      have hnd2 := (hp.nodup_iff.mpr hnd)
      refine up_uniq ?_ (srt_up ns) fun x => ?_
      · have h1 := List.pairwise_map.mp hup
        have h2 : zs.Pairwise fun a b : Nat => (a : Int) ≠ (b : Int) := List.pairwise_map.mp hnd2
        exact (h1.and h2).imp fun {a b} h => by have := h.1; have := h.2; omega
      · rw [mem_srt, ← hks]
        constructor
        · intro hx
          obtain ⟨n, h1, h2⟩ := List.mem_map.mp (hp.mem_iff.mp (List.mem_map.mpr ⟨x, hx, rfl⟩))
          have : n = x := by omega
          subst this; exact h1
        · intro hx
          obtain ⟨n, h1, h2⟩ := List.mem_map.mp (hp.mem_iff.mpr (List.mem_map.mpr ⟨x, hx, rfl⟩))
          have : n = x := by omega
          subst this; exact h1
    subst es
    have ga := Ext.all (l := c.l) (Ext.new (o := .lst ((ks.map fun n : Nat => (n : Int)).map V.int)) hpn (sub_none sb hpn))
    have gp := sub_none sb hpn
    refine q _ _ _ ((e1.trans eg).trans (Ext.all (Ext.new hpn gp))) (sub_upd sb) (.lst upd_same ?_)
    have := Reps.of_ints (K := c.K) (H := upd G p (.lst (((srt ns).map fun n : Nat => (n : Int)).map V.int))) ((srt ns).map fun n : Nat => (n : Int))
    rw [List.map_map (g := D.int)] at this
    exact this
end
/-! ### the greatest of whole numbers -/
theorem max_ex : ∀ {l : List Int}, l ≠ [] → ∃ m, m ∈ l ∧ ∀ x ∈ l, x ≤ m
  | [x], _ => ⟨x, by simp, fun y hy => by rw [List.mem_singleton.mp hy]; exact Int.le_refl _⟩
  | x :: y :: l, _ => by
    obtain ⟨m, h1, h2⟩ := max_ex (l := y :: l) (by simp)
    rcases Int.lt_or_le m x with z | z
    · refine ⟨x, by simp, fun w hw => ?_⟩
      rcases List.mem_cons.mp hw with rfl | hw
      · exact Int.le_refl _
      · have := h2 w hw; omega
    · refine ⟨m, List.mem_cons_of_mem _ h1, fun w hw => ?_⟩
      rcases List.mem_cons.mp hw with rfl | hw
      · exact z
      · exact h2 w hw
noncomputable def maxI (l : List Int) : Int := if h : l ≠ [] then Classical.choose (max_ex h) else 0
theorem maxI_ok {l : List Int} (h : l ≠ []) : maxI l ∈ l ∧ ∀ x ∈ l, x ≤ maxI l := by
  unfold maxI; rw [dif_pos h]; exact Classical.choose_spec (max_ex h)
theorem maxI_eq {l : List Int} {m : Int} (h1 : m ∈ l) (h2 : ∀ x ∈ l, x ≤ m) : maxI l = m := by
  obtain ⟨h3, h4⟩ := maxI_ok (l := l) (fun z => by rw [z] at h1; cases h1)
  have := h2 _ h3; have := h4 _ h1; omega
theorem rc_maxI {K : PySem.W.Frag} {l : List Int} (h : l ≠ []) : Rc K (rMax K) [.lst (l.map D.int)] (.int (maxI l)) := fun G H vs s r Q t => by
  cases r with
  | cons r1 r2 =>
    cases r2
    cases r1 with
    | lst e q =>
      have hv := q.ints
      subst hv
      refine ⟨_, l, rfl, SqL.of (s _ _ e), by cases l with | nil => exact absurd rfl h | cons => simp, fun m hm hb => ?_⟩
      rw [← maxI_eq hm hb]
      exact t.same s (.int _)
end Dl

/-! Dsg: lists that are told are new: the asker may change them. -/
namespace Dl
open PySem L2 Evl PySem.Spec PyProof.Rows
mutual
def noL : D → Bool
  | .lst _ => false
  | .tup xs => noLs xs
  | .obj _ _ xs => noLs xs
  | _ => true
def noLs : List D → Bool
  | [] => true
  | x :: xs => noL x && noLs xs
end
/-- what is known, less the lists -/
def lessL (G : Hp) : Hp := fun b => match G b with
  | some (.lst _) => none
  | o => o
theorem lessL_some {G : Hp} {b : Addr} {o : HO} (h : lessL G b = some o) : G b = some o ∧ ∀ xs, o ≠ .lst xs := by
  unfold lessL at h
  split at h
  · cases h
  · rename_i q
    refine ⟨h, fun xs z => q xs ?_⟩
    rw [h, z]
theorem lessL_ex (G : Hp) : Ex (lessL G) G := fun b o h => (lessL_some h).1
theorem lessL_keep {G : Hp} {b : Addr} {o : HO} (h : G b = some o) (hn : ∀ xs, o ≠ .lst xs) : lessL G b = some o := by
  unfold lessL
  split
  · rename_i xs q
    rw [h] at q
    exact absurd (Option.some.inj q) (hn xs)
  · exact h
section
variable {K : PySem.W.Frag} {G : Hp} {v : V} {d : D} {vs : List V} {ds : List D}
theorem Rep.lessL (h : Rep K G v d) : noL d = true → Rep K (lessL G) v d :=
  Rep.rec (motive_1 := fun v d _ => noL d = true → Rep K (Dl.lessL G) v d) (motive_2 := fun vs ds _ => noLs ds = true → Reps K (Dl.lessL G) vs ds)
    (fun _ => .non) (fun b _ => .bl b) (fun i _ => .int i) (fun x _ => .str x) (fun _ _ _ z => nomatch z)
    (fun h _ r z => by
      refine .tup ?_ (r z)
      rcases h with (h | ⟨o, h⟩) | h
      · exact .inl (.inl (lessL_keep h fun _ z => nomatch z))
      · exact .inl (.inr ⟨o, lessL_keep h fun _ z => nomatch z⟩)
      · exact .inr h)
    (fun h n _ r z => .obj (lessL_keep h fun _ z => nomatch z) n (r z)) (fun n _ => .ty n) (fun C _ => .cls C) (fun _ => .nil)
    (fun _ _ a b z => by
      simp only [noLs, Bool.and_eq_true] at z
      exact .cons (a z.1) (b z.2)) h
theorem Reps.lessL (h : Reps K G vs ds) (hn : noLs ds = true) : Reps K (lessL G) vs ds := by
  induction vs generalizing ds with
  | nil => cases h; exact .nil
  | cons v vs ih =>
    cases h with
    | cons a b =>
      simp only [noLs, Bool.and_eq_true] at hn
      exact .cons (a.lessL hn.1) (ih b hn.2)
end
def noSl : Sl → Bool
  | .no => true
  | .v d => noL d
  | .own xs => noLs xs
  | .drw => true
  | .self _ _ _ _ xs => noLs xs
  | .rdr _ _ _ _ _ d xs => noL d && noLs xs
def flatE : D → Bool
  | .int _ => true
  | .str _ => true
  | .bl _ => true
  | .non => true
  | _ => false
theorem Reps.flat {K : PySem.W.Frag} {G G' : Hp} : ∀ {vs : List V} {ds : List D}, Reps K G vs ds → ds.all flatE = true → Reps K G' vs ds
  | [], _, .nil, _ => .nil
  | v :: vs, d :: ds, .cons a b, h => by
    rw [List.all_cons, Bool.and_eq_true] at h
    refine .cons ?_ (Reps.flat b h.2)
    have h1 := h.1
    cases a with
    | non => exact .non
    | bl b => exact .bl b
    | int i => exact .int i
    | str x => exact .str x
    | lst _ _ => cases h1
    | tup _ _ => cases h1
    | obj _ _ _ => cases h1
    | ty _ => cases h1
    | cls _ => cases h1
section
variable {c : Ctx} {ds ds' : Fm} {n : DE} {te tv : TE} {xs ys : List D} {d : D} {i : Nat}
theorem At.lessL {G H : Hp} {σ : L2.St} (a : At c G H σ ds) (h : ds.all noSl = true) : At c (lessL G) H σ ds := by
  have nn : ∀ {b}, G b = none → Dl.lessL G b = none := fun {b} g => by
    cases e : Dl.lessL G b with
    | none => rfl
    | some o => rw [(lessL_some e).1] at g; cases g
  refine ⟨(lessL_ex G).trans a.sub, ⟨a.fr.len, fun j s hs => ?_, a.fr.ap⟩, fun b y hb => ⟨(a.lk b y hb).1, nn (a.lk b y hb).2.1, (a.lk b y hb).2.2⟩, a.tr⟩
  have o := a.fr.ok j s hs
  have f := List.all_eq_true.mp h s (List.mem_of_getElem? hs)
  cases s with
  | no => trivial
  | v d => obtain ⟨u, o1, o2⟩ := o; exact ⟨u, o1, o2.lessL f⟩
  | own xs => obtain ⟨b, vs, o1, o2, o3, o4, o5⟩ := o; exact ⟨b, vs, o1, nn o2, o3, o4.lessL f, o5⟩
  | drw => obtain ⟨b, y, o1, o2, o3, o4⟩ := o; exact ⟨b, y, o1, o2, nn o3, o4⟩
  | self p dx C ns xs => obtain ⟨fs, o1, o2, o3, o4, o5, o6⟩ := o; exact ⟨fs, o1, nn o2, o3, o4, o5.lessL f, o6⟩
  | rdr w p q dx C d xs =>
    obtain ⟨o1, ⟨u, vs, k1, k2, k3, k4, k5, k6⟩, o3⟩ := o
    simp only [noSl, Bool.and_eq_true] at f
    exact ⟨o1, ⟨u, vs, nn k1, nn k2, k3, k4, k5.lessL f.1, k6.lessL f.2⟩, o3⟩
/-- a list that is told is new -/
theorem new_list (h : Ee c te ds' (.lst xs)) (hd : Fle ds ds') (nl : ds'.all noSl = true) (fl : xs.all flatE = true) {G H : Hp} {σ : L2.St} (a : At c G H σ ds) {Q : VK}
    (q : ∀ p vs H1, Ext c.l G H G H1 → At c G H1 σ ds → H p = none → G p = none → H1 p = some (.lst vs) → Reps c.K G vs xs → Q (.ref p) H1) : te σ H Q := by
  refine h (lessL G) H σ ((a.le hd).lessL nl) Q fun u G2 H2 e s r => ?_
  have go : Ext c.l G H G H2 := ⟨Ex.refl _, e.h, fun _ _ z => z, e.t, e.dr⟩
  have sub : Ex G H2 := fun b o g => e.h b o (fun y hy => by rw [(a.lk b y hy).2.1] at g; cases g) (a.sub b o g)
  cases r with
  | @lst p vs _ hp rp =>
    have fresh : H p = none := by
      cases hh : H p with
      | none => rfl
      | some o =>
        exfalso
        cases hg : lessL G p with
        | none => rw [e.n p (by rw [hh]; simp) hg] at hp; cases hp
        | some o' =>
          have := e.g p o' hg
          rw [hp] at this
          exact (lessL_some hg).2 vs (Option.some.inj this).symm
    exact q p vs H2 go (a.go go sub) fresh (sub_none a.sub fresh) (s p _ hp) (rp.flat fl)
theorem st_ownE (h : Ee c te ds' (.lst xs)) (hd : Fle ds ds') (nl : ds'.all noSl = true) (fl : xs.all flatE = true) (hi : i < ds.length) (k : n.nx (ds.set i (.own xs))) : St c (tAsg te (gName i)) n ds := fun G H σ a E l =>
  new_list h hd nl fl a fun p vs H1 e a1 hp gp h1 r => l.nx G H1 _ _ e.s ⟨a1.sub, a1.fr.own hi gp h1 r (fun y z => (a.lk p y z).1 hp) (fun w => a.tr p w hp) (fun b z => (a.lk b p z).2.2 hp) fun j ys hj ee => (by
    obtain ⟨b, ws, q1, _, q3, _⟩ := a.fr.ok j _ hj
    rw [ee] at q1
    have q : V.ref p = V.ref b := Option.some.inj (Option.some.inj q1)
    cases q
    rw [hp] at q3; cases q3), a1.lk, a1.tr⟩ k
/-- f(..).append(x): a new list changes -/
theorem st_appE (h : Ee c te ds' (.lst xs)) (hd : Fle ds ds') (nl : ds'.all noSl = true) (fl : xs.all flatE = true) (hz : xs.length < 1000000) (hv : Ee c tv ds d) (k : n.nx ds) : St c (tDrop (tBM c.K "list" rAppend te (tCons tv tNil))) n ds := fun G H σ a E l => by
  unfold tDrop tBM
  refine new_list h hd nl fl a fun p vs H1 e a1 hp gp h1 r => ?_
  refine ⟨.inl ⟨rfl, _, SqL.of h1⟩, hv G H1 σ a1 _ fun v G2 H2 e2 s2 r2 => ?_⟩
  have n2 : H2 p = some (.lst vs) := e2.h p _ (fun y z => (a.lk p y z).1 hp) h1
  have g2 : G2 p = none := e2.n p (by rw [h1]; simp) gp
  refine ⟨p, vs, v, rfl, rfl, n2, sz_lt (by rw [r.len]; exact hz), ?_⟩
  -- what stood before stands
  have back : Ext c.l G H G2 (upd H2 p (.lst (vs ++ [v]))) := (e.trans e2).mut hp
  exact l.nx G2 _ σ _ back.s (a.go back (sub_hid s2 g2)) k
theorem ee_listO (hx : ds[i]? = some (.own xs)) : Ee c (tCB (rListG c.K) (tCons (tVar i) tNil)) ds (.lst xs) := fun G H σ a Q q => by
  obtain ⟨b, vs, h1, h2, h3, h4, _⟩ := a.fr.ok i _ hx
  exact ⟨_, h1, b, vs, rfl, .inl (SqL.of h3), Then.lst (fun u G3 H3 e3 s3 r3 => q u G3 H3 e3.all s3 r3) a.sub h4⟩
end
theorem rb_neSame {K : PySem.W.Frag} {x : D} (m : Nat) (hx : shD m x = true) (hm : m ≤ 64) (hn : nbD x = true) : Rb K (rNeG K) x x (.bl false) := by
  have h := rb_neP (K := K) m m hx hx hm hm
  rw [(eqv_iff hn hn).mpr rfl] at h
  exact h
theorem rb_eqSame {K : PySem.W.Frag} {x : D} (m : Nat) (hx : shD m x = true) (hm : m ≤ 64) (hn : nbD x = true) : Rb K (Dl.rEqG K) x x (.bl true) := by
  have h := rb_eqP (K := K) m m hx hx hm hm
  rw [(eqv_iff hn hn).mpr rfl] at h
  exact h
end Dl

/-! Dsh: a def that has another name; a try of several clauses around a call. -/
namespace Dl
open PySem L2 Evl PySem.Spec PyProof.Rows
/-- a def of the top, called by another name -/
structure HasN (K : PySem.W.Frag) (mg : Str → Option Value) (x fn : Str) (st : Stmt) (ps : List Str) : Prop where
  ex : ∃ f fd, Fun K fn fn st f fd ∧ mg x = some (.ref f) ∧ Binds K fd ps []
section
variable {P : Program} {w : World} {K : PySem.W.Frag} {mg : Str → Option Value} {base : Heap} {x fn : Str} {st : Stmt} {ps N : List Str} {k : Nat} {sp : Sp}
theorem HasN.ok (h : HasN K mg x fn st ps) (S : FnScope N ps (defScope st)) (len : ∀ vs H Q E, sp vs H Q E → vs.length = ps.length)
    (hbody : ∀ (f : Addr) (cdv : Value) (A : Around) (outer : List Env) (s : Shared) (H : Hp) (vs : List V) (Q : VK) (E : XK), Room k (A.deeper (envOfC fn (defScope st) s.heap.objs.size f cdv)) → sp vs H Q E →
      ∃ t, PSs (cxOf CX0 P w K mg base N fn (defScope st) f cdv A outer s H E).nox (defBody st) t ∧ t { nx := fun _ H' => Q .non H', rt := Q } (L2.start N vs) H) : Ok P w K mg base CX0 (k + 1) x ps sp := by
  obtain ⟨f, fd, F, m, b⟩ := h.ex
  exact ⟨f, fd, F.ok S len (hbody f), m, F.kp, b⟩
end
section
variable {α : Type} {args : α → List D} {pre : α → Prop} {res : α → Res} {c : Ctx} {ds : Fm} {ta : TA} {a : α} {xs : List D} {n : DE} {C : Addr} {Wout : WX} {hl : List Cl} {i j k : Nat} {cv C' : Value} {ts : Addr → Value → Option Addr → TS}
theorem manyA_run {K : PySem.W.Frag} {D : Ends} {σ : L2.St} {H : Hp} {cls : Value} {d : Option Addr} : ∀ {l : List Cl} {k : Nat} {cv : Value} {oi : Option Nat}, l[k]? = some (cv, oi, ts) → (∀ q cv' r, q < k → l[q]? = some (cv', r) → PySem.W.exmOne K cls cv' = some false) → PySem.W.exmOne K cls cv = some true →
    (∀ a, H a = none → match oi with
      | none => ts a cls d D σ H
      | some i => ts a cls d { nx := fun σ' H' => D.nx (σ'.set i none) H', rt := D.rt, bk := fun σ' H' => D.bk (σ'.set i none) H', ct := fun σ' H' => D.ct (σ'.set i none) H' } (σ.set i (some (.ref a))) H) → wManyA K Wout D l cls d σ H
  | [], k, cv, oi, h, _, _, _ => by simp at h
  | (c0, o0, t0) :: r, 0, cv, oi, h, _, h2, h3 => by
    simp at h
    obtain ⟨rfl, rfl, rfl⟩ := h
    exact ⟨true, h2, fun _ => h3, fun z => nomatch z⟩
  | (c0, o0, t0) :: r, k + 1, cv, oi, h, h1, h2, h3 => by
    refine ⟨false, h1 0 c0 _ (Nat.succ_pos _) rfl, fun z => (nomatch z), fun _ => manyA_run (k := k) (by simpa using h) (fun q cv' r hq hh => h1 (q + 1) cv' r (by omega) (by simpa using hh)) h2 h3⟩
/-- the call raises; clause k, without a name, takes it -/
theorem st_try_cl (h : Ea c ta ds xs) (hx : xs = args a) (hp : pre a) (hr : res a = .err C' none) (hk : hl[k]? = some (cv, none, ts)) (hb : ∀ q cv' r, q < k → hl[q]? = some (cv', r) → PySem.W.exmOne c.K C' cv' = some false) (ht : PySem.W.exmOne c.K C' cv = some true) (hs : ∀ p, St c (ts p C' none) n ds) :
    St c (fun D σ H => tDrop (tCallS (spA c.K args pre res) (WE (wManyA c.K Wout D hl)) ta) D σ H) n ds := fun G H σ at' E l =>
  h G H σ at' _ fun vs G1 H1 e1 s1 r1 => by
    subst hx
    refine ⟨G1, a, s1, r1, hp, fun d' hd => (by rw [hr] at hd; cases hd), fun C0 o z G2 H2 e2 s2 => ?_⟩
    rw [hr] at z; cases z
    exact manyA_run hk hb ht fun p _ => hs p G2 H2 σ (at'.go (e1.trans e2.all) s2) E (l.go (e1.trans e2.all).s)
/-- .. an error with a line; clause k, with a name, takes it: y = z + e.line -/
theorem st_try_clL {m z : Int} (h : Ea c ta ds xs) (hx : xs = args a) (hp : pre a) (hr : res a = .err (.ref C) (some m)) (hk : hl[k]? = some (.ref C, some i, fun b cls d => tAsg (tOp (rAddG c.K) (tC (.int z)) (tXf b cls d C "line" (tVar i))) (gName j))) (hb : ∀ q cv' r, q < k → hl[q]? = some (cv', r) → PySem.W.exmOne c.K (.ref C) cv' = some false) (ht : PySem.W.exmOne c.K (.ref C) (.ref C) = some true)
    (hi : ds[i]? = some .no) (hj : j < ds.length) (hij : i ≠ j) (hn : n.nx (ds.set j (.v (.int (z + m))))) :
    St c (fun D σ H => tDrop (tCallS (spA c.K args pre res) (WE (wManyA c.K Wout D hl)) ta) D σ H) n ds := fun G H σ at' E l =>
  h G H σ at' _ fun vs G1 H1 e1 s1 r1 => by
    subst hx
    refine ⟨G1, a, s1, r1, hp, fun d' hd => (by rw [hr] at hd; cases hd), fun C0 o z0 G2 H2 e2 s2 => ?_⟩
    rw [hr] at z0; cases z0
    intro dd hdd
    refine manyA_run hk hb ht fun b hb => ?_
    have hlt : i < σ.length := by rw [at'.fr.len]; exact (List.getElem?_eq_some_iff.mp hi).1
    refine ⟨.ref b, by rw [List.getElem?_set_self hlt], rfl, rfl, dd, [("line", .int m)], .int m, rfl, upd_same, by simp [List.lookup], ?_⟩
    refine .inl ⟨z, m, rfl, rfl, ?_⟩
    have e3 : Ext c.l G2 H2 G2 (upd H2 dd (.xd [("line", .int m)])) := Ext.refl.mut hdd
    have g2 : G2 dd = none := sub_none s2 hdd
    have a2 := at'.go ((e1.trans e2.all).trans e3) (sub_hid s2 g2)
    show E.nx (((σ.set i (some (.ref b))).set j (some (.int (z + m)))).set i none) _
    have es : ((σ.set i (some (.ref b))).set j (some (.int (z + m)))).set i none = (σ.set i none).set j (some (.int (z + m))) := by
      apply List.ext_getElem?
      intro q
      by_cases h1 : i = q
      · subst h1
        rw [List.getElem?_set_self (by simpa using hlt), List.getElem?_set_ne (Ne.symm hij), List.getElem?_set_self hlt]
      · rw [List.getElem?_set_ne h1]
        by_cases h2 : j = q
        · subst h2
          by_cases h3 : j < σ.length
          · rw [List.getElem?_set_self (by simpa using h3), List.getElem?_set_self (by simpa using h3)]
          · rw [List.getElem?_eq_none (by simp; omega), List.getElem?_eq_none (by simp; omega)]
        · rw [List.getElem?_set_ne h2, List.getElem?_set_ne h1, List.getElem?_set_ne h2, List.getElem?_set_ne h1]
    rw [es]
    have f3 := (a2.fr.no (i := i) none)
    have ed : ds.set i .no = ds := by
      apply List.ext_getElem?
      intro q
      by_cases h1 : i = q
      · subst h1; rw [List.getElem?_set_self (List.getElem?_eq_some_iff.mp hi).1, hi]
      · rw [List.getElem?_set_ne h1]
    rw [ed] at f3
    exact l.nx G2 _ _ _ ((e1.trans e2.all).trans e3).s ⟨a2.sub, f3.set (.int (z + m)) hj, a2.lk, a2.tr⟩ hn
/-- one clause, without a name, around a call that raises an error, be it with a line or without -/
theorem st_try_any {o : Option Int} (h : Ea c ta ds xs) (hx : xs = args a) (hp : pre a) (hr : res a = .err C' o) (ht : PySem.W.exmOne c.K C' cv = some true) (hs : ∀ p d, St c (ts p C' d) n ds) :
    St c (fun D σ H => tDrop (tCallS (spA c.K args pre res) (WE (wOnly c.K cv ts Wout D)) ta) D σ H) n ds := fun G H σ at' E l =>
  h G H σ at' _ fun vs G1 H1 e1 s1 r1 => by
    subst hx
    refine ⟨G1, a, s1, r1, hp, fun d' hd => (by rw [hr] at hd; cases hd), fun C0 o z0 G2 H2 e2 s2 => ?_⟩
    rw [hr] at z0; cases z0
    cases o with
    | none => exact ⟨true, ht, fun _ p _ => hs p none G2 H2 σ (at'.go (e1.trans e2.all) s2) E (l.go (e1.trans e2.all).s), fun z => nomatch z⟩
    | some m =>
      intro dd hdd
      have e3 : Ext c.l G2 H2 G2 (upd H2 dd (.xd [("line", .int m)])) := Ext.refl.mut hdd
      have g2 : G2 dd = none := sub_none s2 hdd
      exact ⟨true, ht, fun _ p _ => hs p (some dd) G2 _ σ (at'.go ((e1.trans e2.all).trans e3) (sub_hid s2 g2)) E (l.go ((e1.trans e2.all).trans e3).s), fun z => nomatch z⟩
end
end Dl

namespace Dl
open PySem L2 Evl
def top (i : Nat) : Stmt := PySem.Challenge.pw_wholecodes_k13_errors_are_apart.main.body.getD i (.Pass ⟨0, 0, 0, 0⟩)
abbrev s_is_whole : Stmt := top 12
abbrev nm_is_whole : List Str := ["thing", "least", "most"]
theorem sc_is_whole : FnScope nm_is_whole ["thing", "least", "most"] (defScope s_is_whole) := ⟨rfl, rfl, rfl, by decide +kernel, rfl, by decide +kernel, by decide +kernel⟩
abbrev s_are_bits : Stmt := top 13
abbrev nm_are_bits : List Str := ["thing", "least", "most", "sign"]
theorem sc_are_bits : FnScope nm_are_bits ["thing", "least", "most"] (defScope s_are_bits) := ⟨rfl, rfl, rfl, by decide +kernel, rfl, by decide +kernel, by decide +kernel⟩
abbrev s_is_row : Stmt := top 14
abbrev nm_is_row : List Str := ["thing"]
theorem sc_is_row : FnScope nm_is_row ["thing"] (defScope s_is_row) := ⟨rfl, rfl, rfl, by decide +kernel, rfl, by decide +kernel, by decide +kernel⟩
abbrev s_is_tail : Stmt := top 15
abbrev nm_is_tail : List Str := ["thing"]
theorem sc_is_tail : FnScope nm_is_tail ["thing"] (defScope s_is_tail) := ⟨rfl, rfl, rfl, by decide +kernel, rfl, by decide +kernel, by decide +kernel⟩
abbrev s_power : Stmt := top 16
abbrev nm_power : List Str := ["times", "found", "base"]
theorem sc_power : FnScope nm_power ["times"] (defScope s_power) := ⟨rfl, rfl, rfl, by decide +kernel, rfl, by decide +kernel, by decide +kernel⟩
abbrev s_row_at : Stmt := top 18
abbrev nm_row_at : List Str := ["code", "r", "again", "stop", "k", "d", "i"]
theorem sc_row_at : FnScope nm_row_at ["code", "r"] (defScope s_row_at) := ⟨rfl, rfl, rfl, by decide +kernel, rfl, by decide +kernel, by decide +kernel⟩
abbrev s_before_tail_row : Stmt := top 19
abbrev nm_before_tail_row : List Str := ["code", "i", "again", "stop", "k", "d"]
theorem sc_before_tail_row : FnScope nm_before_tail_row ["code", "i"] (defScope s_before_tail_row) := ⟨rfl, rfl, rfl, by decide +kernel, rfl, by decide +kernel, by decide +kernel⟩
abbrev s_first_number : Stmt := top 20
abbrev nm_first_number : List Str := ["code", "r", "row"]
theorem sc_first_number : FnScope nm_first_number ["code", "r"] (defScope s_first_number) := ⟨rfl, rfl, rfl, by decide +kernel, rfl, by decide +kernel, by decide +kernel⟩
abbrev s_tail_row_with : Stmt := top 21
abbrev nm_tail_row_with : List Str := ["code", "n", "low", "high", "half"]
theorem sc_tail_row_with : FnScope nm_tail_row_with ["code", "n"] (defScope s_tail_row_with) := ⟨rfl, rfl, rfl, by decide +kernel, rfl, by decide +kernel, by decide +kernel⟩
abbrev s_row_with : Stmt := top 22
abbrev nm_row_with : List Str := ["code", "n", "r"]
theorem sc_row_with : FnScope nm_row_with ["code", "n"] (defScope s_row_with) := ⟨rfl, rfl, rfl, by decide +kernel, rfl, by decide +kernel, by decide +kernel⟩
abbrev s_places : Stmt := top 23
abbrev nm_places : List Str := ["number", "k", "found", "place"]
theorem sc_places : FnScope nm_places ["number", "k"] (defScope s_places) := ⟨rfl, rfl, rfl, by decide +kernel, rfl, by decide +kernel, by decide +kernel⟩
abbrev s_bits_of : Stmt := top 24
abbrev nm_bits_of : List Str := ["code", "n", "r", "bits", "k"]
theorem sc_bits_of : FnScope nm_bits_of ["code", "n"] (defScope s_bits_of) := ⟨rfl, rfl, rfl, by decide +kernel, rfl, by decide +kernel, by decide +kernel⟩
abbrev s_Code_init : Stmt := inClass (top 17) 0
abbrev nm_Code_init : List Str := ["self", "rows", "tail", "row"]
theorem sc_Code_init : FnScope nm_Code_init ["self", "rows", "tail"] (defScope s_Code_init) := ⟨rfl, rfl, rfl, by decide +kernel, rfl, by decide +kernel, by decide +kernel⟩
abbrev s_near_rows : Stmt := top 27
abbrev nm_near_rows : List Str := ["code", "longest", "row"]
theorem sc_near_rows : FnScope nm_near_rows ["code"] (defScope s_near_rows) := ⟨rfl, rfl, rfl, by decide +kernel, rfl, by decide +kernel, by decide +kernel⟩
abbrev s_are_unfree : Stmt := top 28
abbrev nm_are_unfree : List Str := ["code", "r", "other"]
theorem sc_are_unfree : FnScope nm_are_unfree ["code", "r", "other"] (defScope s_are_unfree) := ⟨rfl, rfl, rfl, by decide +kernel, rfl, by decide +kernel, by decide +kernel⟩
abbrev s_is_free : Stmt := top 29
abbrev nm_is_free : List Str := ["code", "some", "r", "other"]
theorem sc_is_free : FnScope nm_is_free ["code"] (defScope s_is_free) := ⟨rfl, rfl, rfl, by decide +kernel, rfl, by decide +kernel, by decide +kernel⟩
abbrev s_check_free : Stmt := top 30
abbrev nm_check_free : List Str := ["code"]
theorem sc_check_free : FnScope nm_check_free ["code"] (defScope s_check_free) := ⟨rfl, rfl, rfl, by decide +kernel, rfl, by decide +kernel, by decide +kernel⟩
abbrev s_number_of_beginnings : Stmt := top 32
abbrev nm_number_of_beginnings : List Str := ["bits", "found", "bit"]
theorem sc_number_of_beginnings : FnScope nm_number_of_beginnings ["bits"] (defScope s_number_of_beginnings) := ⟨rfl, rfl, rfl, by decide +kernel, rfl, by decide +kernel, by decide +kernel⟩
abbrev s_near_row : Stmt := top 48
abbrev nm_near_row : List Str := ["code", "bits"]
theorem sc_near_row : FnScope nm_near_row ["code", "bits"] (defScope s_near_row) := ⟨rfl, rfl, rfl, by decide +kernel, rfl, by decide +kernel, by decide +kernel⟩
abbrev s_taken : Stmt := top 49
abbrev nm_taken : List Str := ["code", "bits", "word", "r", "head", "k"]
theorem sc_taken : FnScope nm_taken ["code", "bits"] (defScope s_taken) := ⟨rfl, rfl, rfl, by decide +kernel, rfl, by decide +kernel, by decide +kernel⟩
abbrev s_write_list : Stmt := top 50
abbrev nm_write_list : List Str := ["code", "numbers", "n"]
theorem sc_write_list : FnScope nm_write_list ["code", "numbers"] (defScope s_write_list) := ⟨rfl, rfl, rfl, by decide +kernel, rfl, by decide +kernel, by decide +kernel⟩
abbrev s_read_list : Stmt := top 51
abbrev nm_read_list : List Str := ["code", "bits", "numbers", "n", "many"]
theorem sc_read_list : FnScope nm_read_list ["code", "bits"] (defScope s_read_list) := ⟨rfl, rfl, rfl, by decide +kernel, rfl, by decide +kernel, by decide +kernel⟩
abbrev s_Reader_init : Stmt := inClass (top 53) 0
abbrev nm_Reader_init : List Str := ["self", "code"]
theorem sc_Reader_init : FnScope nm_Reader_init ["self", "code"] (defScope s_Reader_init) := ⟨rfl, rfl, rfl, by decide +kernel, rfl, by decide +kernel, by decide +kernel⟩
abbrev s_Reader_left : Stmt := inClass (top 53) 1
abbrev nm_Reader_left : List Str := ["self"]
theorem sc_Reader_left : FnScope nm_Reader_left ["self"] (defScope s_Reader_left) := ⟨rfl, rfl, rfl, by decide +kernel, rfl, by decide +kernel, by decide +kernel⟩
abbrev s_Reader_feed : Stmt := inClass (top 53) 3
abbrev nm_Reader_feed : List Str := ["self", "bit", "n", "many"]
theorem sc_Reader_feed : FnScope nm_Reader_feed ["self", "bit"] (defScope s_Reader_feed) := ⟨rfl, rfl, rfl, by decide +kernel, rfl, by decide +kernel, by decide +kernel⟩
abbrev s_Reader_undo : Stmt := inClass (top 53) 4
abbrev nm_Reader_undo : List Str := ["self"]
theorem sc_Reader_undo : FnScope nm_Reader_undo ["self"] (defScope s_Reader_undo) := ⟨rfl, rfl, rfl, by decide +kernel, rfl, by decide +kernel, by decide +kernel⟩
abbrev s_starting : Stmt := top 39
abbrev nm_starting : List Str := ["code", "bits"]
theorem sc_starting : FnScope nm_starting ["code", "bits"] (defScope s_starting) := ⟨rfl, rfl, rfl, by decide +kernel, rfl, by decide +kernel, by decide +kernel⟩
abbrev s_how_many : Stmt := top 40
abbrev nm_how_many : List Str := ["code", "bits"]
theorem sc_how_many : FnScope nm_how_many ["code", "bits"] (defScope s_how_many) := ⟨rfl, rfl, rfl, by decide +kernel, rfl, by decide +kernel, by decide +kernel⟩
abbrev s_is_dead : Stmt := top 43
abbrev nm_is_dead : List Str := ["code", "bits"]
theorem sc_is_dead : FnScope nm_is_dead ["code", "bits"] (defScope s_is_dead) := ⟨rfl, rfl, rfl, by decide +kernel, rfl, by decide +kernel, by decide +kernel⟩
abbrev s_dead : Stmt := top 44
abbrev nm_dead : List Str := ["code", "size", "found", "layer", "turn", "longer", "bits", "bit"]
theorem sc_dead : FnScope nm_dead ["code", "size"] (defScope s_dead) := ⟨rfl, rfl, rfl, by decide +kernel, rfl, by decide +kernel, by decide +kernel⟩
abbrev s_share : Stmt := top 46
abbrev nm_share : List Str := ["code", "again", "stop", "k", "d", "size", "bottom", "top", "row"]
theorem sc_share : FnScope nm_share ["code"] (defScope s_share) := ⟨rfl, rfl, rfl, by decide +kernel, rfl, by decide +kernel, by decide +kernel⟩
abbrev s_order : Stmt := top 55
abbrev nm_order : List Str := ["code", "many", "r"]
theorem sc_order : FnScope nm_order ["code"] (defScope s_order) := ⟨rfl, rfl, rfl, by decide +kernel, rfl, by decide +kernel, by decide +kernel⟩
abbrev s_growth : Stmt := top 57
abbrev nm_growth : List Str := ["code", "word", "top", "bottom"]
theorem sc_growth : FnScope nm_growth ["code"] (defScope s_growth) := ⟨rfl, rfl, rfl, by decide +kernel, rfl, by decide +kernel, by decide +kernel⟩
abbrev s_longer : Stmt := top 65
abbrev nm_longer : List Str := ["one", "other", "most", "more", "found", "n", "less"]
theorem sc_longer : FnScope nm_longer ["one", "other"] (defScope s_longer) := ⟨rfl, rfl, rfl, by decide +kernel, rfl, by decide +kernel, by decide +kernel⟩
abbrev s_gap : Stmt := top 66
abbrev nm_gap : List Str := ["one", "other", "n", "less"]
theorem sc_gap : FnScope nm_gap ["one", "other"] (defScope s_gap) := ⟨rfl, rfl, rfl, by decide +kernel, rfl, by decide +kernel, by decide +kernel⟩
abbrev s_number_of_texts : Stmt := top 69
abbrev nm_number_of_texts : List Str := ["word", "most"]
theorem sc_number_of_texts : FnScope nm_number_of_texts ["word", "most"] (defScope s_number_of_texts) := ⟨rfl, rfl, rfl, by decide +kernel, rfl, by decide +kernel, by decide +kernel⟩
abbrev s_row_in : Stmt := top 71
abbrev nm_row_in : List Str := ["line", "words"]
theorem sc_row_in : FnScope nm_row_in ["line"] (defScope s_row_in) := ⟨rfl, rfl, rfl, by decide +kernel, rfl, by decide +kernel, by decide +kernel⟩
abbrev s_tail_in : Stmt := top 72
abbrev nm_tail_in : List Str := ["line", "words", "stop", "k", "d"]
theorem sc_tail_in : FnScope nm_tail_in ["line"] (defScope s_tail_in) := ⟨rfl, rfl, rfl, by decide +kernel, rfl, by decide +kernel, by decide +kernel⟩
abbrev s_read : Stmt := top 73
abbrev nm_read : List Str := ["text", "lines", "rows", "at", "line", "tail", "row"]
theorem sc_read : FnScope nm_read ["text"] (defScope s_read) := ⟨rfl, rfl, rfl, by decide +kernel, rfl, by decide +kernel, by decide +kernel⟩
abbrev s_l_begin : Stmt := top 75
abbrev nm_l_begin : List Str := ["_law_script"]
theorem sc_l_begin : FnScope nm_l_begin ["_law_script"] (defScope s_l_begin) := ⟨rfl, rfl, rfl, by decide +kernel, rfl, by decide +kernel, by decide +kernel⟩
abbrev s_l_draw : Stmt := top 76
abbrev nm_l_draw : List Str := ["_law_draws", "_law_size", "_law_cell", "_law_found"]
theorem sc_l_draw : FnScope nm_l_draw ["_law_draws", "_law_size"] (defScope s_l_draw) := ⟨rfl, rfl, rfl, by decide +kernel, rfl, by decide +kernel, by decide +kernel⟩
abbrev s_l_free_call : Stmt := top 77
abbrev nm_l_free_call : List Str := ["_law_bad", "_law_good", "_law_thing"]
theorem sc_l_free_call : FnScope nm_l_free_call ["_law_bad", "_law_good", "_law_thing"] (defScope s_l_free_call) := ⟨rfl, rfl, rfl, by decide +kernel, rfl, by decide +kernel, by decide +kernel⟩
abbrev s_l_call : Stmt := top 78
abbrev nm_l_call : List Str := ["_law_what", "_law_thing", "_law_good", "_law_reader"]
theorem sc_l_call : FnScope nm_l_call ["_law_what", "_law_thing"] (defScope s_l_call) := ⟨rfl, rfl, rfl, by decide +kernel, rfl, by decide +kernel, by decide +kernel⟩
abbrev s_l_kind : Stmt := top 79
abbrev nm_l_kind : List Str := ["_law_what", "_law_thing", "_law_told", "e"]
theorem sc_l_kind : FnScope nm_l_kind ["_law_what", "_law_thing"] (defScope s_l_kind) := ⟨rfl, rfl, rfl, by decide +kernel, rfl, by decide +kernel, by decide +kernel⟩
abbrev s_l_under : Stmt := top 80
abbrev nm_l_under : List Str := ["_law_what", "_law_thing", "_law_told"]
theorem sc_l_under : FnScope nm_l_under ["_law_what", "_law_thing"] (defScope s_l_under) := ⟨rfl, rfl, rfl, by decide +kernel, rfl, by decide +kernel, by decide +kernel⟩
abbrev s_law : Stmt := top 81
abbrev nm_law : List Str := ["_law_script", "_law_draws", "_law_what", "_law_thing"]
theorem sc_law : FnScope nm_law ["_law_script"] (defScope s_law) := ⟨rfl, rfl, rfl, by decide +kernel, rfl, by decide +kernel, by decide +kernel⟩
abbrev s_BadLine_init : Stmt := inClass (top 8) 0
abbrev nm_BadLine_init : List Str := ["self", "line"]
theorem sc_BadLine_init : FnScope nm_BadLine_init ["self", "line"] (defScope s_BadLine_init) := ⟨rfl, rfl, rfl, by decide +kernel, rfl, by decide +kernel, by decide +kernel⟩
structure Adr where
  Code : Addr
  Reader : Addr
  BadCode : Addr
  NotFree : Addr
  BadBit : Addr
  Dead : Addr
  NothingDone : Addr
  CodeError : Addr
  BITS : Addr
  BadLine : Addr
structure Txt (K : PySem.W.Frag) (mg : Str → Option Value) (B : Adr) : Prop where
  d_is_whole : Has K mg "is_whole" s_is_whole ["thing", "least", "most"]
  d_are_bits : Has K mg "are_bits" s_are_bits ["thing", "least", "most"]
  d_is_row : Has K mg "is_row" s_is_row ["thing"]
  d_is_tail : Has K mg "is_tail" s_is_tail ["thing"]
  d_power : Has K mg "power" s_power ["times"]
  d_row_at : Has K mg "row_at" s_row_at ["code", "r"]
  d_before_tail_row : Has K mg "before_tail_row" s_before_tail_row ["code", "i"]
  d_first_number : Has K mg "first_number" s_first_number ["code", "r"]
  d_tail_row_with : Has K mg "tail_row_with" s_tail_row_with ["code", "n"]
  d_row_with : Has K mg "row_with" s_row_with ["code", "n"]
  d_places : Has K mg "places" s_places ["number", "k"]
  d_bits_of : Has K mg "bits_of" s_bits_of ["code", "n"]
  d_Code_init : HasI K B.Code "Code.__init__" s_Code_init ["self", "rows", "tail"]
  d_near_rows : Has K mg "near_rows" s_near_rows ["code"]
  d_are_unfree : Has K mg "are_unfree" s_are_unfree ["code", "r", "other"]
  d_is_free : Has K mg "is_free" s_is_free ["code"]
  d_check_free : Has K mg "check_free" s_check_free ["code"]
  d_number_of_beginnings : HasN K mg "number_of_beginnings" "number_of" s_number_of_beginnings ["bits"]
  d_near_row : Has K mg "near_row" s_near_row ["code", "bits"]
  d_taken : Has K mg "taken" s_taken ["code", "bits"]
  d_write_list : Has K mg "write_list" s_write_list ["code", "numbers"]
  d_read_list : Has K mg "read_list" s_read_list ["code", "bits"]
  d_Reader_init : HasI K B.Reader "Reader.__init__" s_Reader_init ["self", "code"]
  d_Reader_left : HasM K B.Reader "left" "Reader.left" s_Reader_left ["self"]
  d_Reader_feed : HasM K B.Reader "feed" "Reader.feed" s_Reader_feed ["self", "bit"]
  d_Reader_undo : HasM K B.Reader "undo" "Reader.undo" s_Reader_undo ["self"]
  d_starting : Has K mg "starting" s_starting ["code", "bits"]
  d_how_many : Has K mg "how_many" s_how_many ["code", "bits"]
  d_is_dead : Has K mg "is_dead" s_is_dead ["code", "bits"]
  d_dead : Has K mg "dead" s_dead ["code", "size"]
  d_share : Has K mg "share" s_share ["code"]
  d_order : Has K mg "order" s_order ["code"]
  d_growth : Has K mg "growth" s_growth ["code"]
  d_longer : Has K mg "longer" s_longer ["one", "other"]
  d_gap : Has K mg "gap" s_gap ["one", "other"]
  d_number_of_texts : HasN K mg "number_of_texts" "number_of" s_number_of_texts ["word", "most"]
  d_row_in : Has K mg "row_in" s_row_in ["line"]
  d_tail_in : Has K mg "tail_in" s_tail_in ["line"]
  d_read : Has K mg "read" s_read ["text"]
  d_l_begin : Has K mg "_law_begin" s_l_begin ["_law_script"]
  d_l_draw : Has K mg "_law_draw" s_l_draw ["_law_draws", "_law_size"]
  d_l_free_call : Has K mg "_law_free_call" s_l_free_call ["_law_bad", "_law_good", "_law_thing"]
  d_l_call : Has K mg "_law_call" s_l_call ["_law_what", "_law_thing"]
  d_l_kind : Has K mg "_law_kind" s_l_kind ["_law_what", "_law_thing"]
  d_l_under : Has K mg "_law_under" s_l_under ["_law_what", "_law_thing"]
  cl_Code : Cls K B.Code
  g_Code : mg "Code" = some (.ref B.Code)
  na_Code_rows : NoAttr K B.Code "rows"
  na_Code_tail : NoAttr K B.Code "tail"
  na_Code_begin : NoAttr K B.Code "begin"
  cl_Reader : Cls K B.Reader
  g_Reader : mg "Reader" = some (.ref B.Reader)
  na_Reader_code : NoAttr K B.Reader "code"
  na_Reader_fed : NoAttr K B.Reader "fed"
  e_BadCode : Err K mg "BadCode" B.BadCode
  e_NotFree : Err K mg "NotFree" B.NotFree
  e_BadBit : Err K mg "BadBit" B.BadBit
  e_Dead : Err K mg "Dead" B.Dead
  e_NothingDone : Err K mg "NothingDone" B.NothingDone
  e_CodeError : Err K mg "CodeError" B.CodeError
  l_BadLine : HasL K mg "BadLine" "BadLine.__init__" B.BadLine s_BadLine_init
  m_BadCode_BadCode : PySem.W.exmOne K (.ref B.BadCode) (.ref B.BadCode) = some true
  m_NotFree_NotFree : PySem.W.exmOne K (.ref B.NotFree) (.ref B.NotFree) = some true
  m_BadBit_BadBit : PySem.W.exmOne K (.ref B.BadBit) (.ref B.BadBit) = some true
  m_Dead_Dead : PySem.W.exmOne K (.ref B.Dead) (.ref B.Dead) = some true
  m_NothingDone_NothingDone : PySem.W.exmOne K (.ref B.NothingDone) (.ref B.NothingDone) = some true
  m_BadLine_BadLine : PySem.W.exmOne K (.ref B.BadLine) (.ref B.BadLine) = some true
  m_BadCode_CodeError : PySem.W.exmOne K (.ref B.BadCode) (.ref B.CodeError) = some true
  m_NotFree_CodeError : PySem.W.exmOne K (.ref B.NotFree) (.ref B.CodeError) = some true
  m_BadBit_CodeError : PySem.W.exmOne K (.ref B.BadBit) (.ref B.CodeError) = some true
  m_Dead_CodeError : PySem.W.exmOne K (.ref B.Dead) (.ref B.CodeError) = some true
  m_NothingDone_CodeError : PySem.W.exmOne K (.ref B.NothingDone) (.ref B.CodeError) = some true
  m_BadLine_CodeError : PySem.W.exmOne K (.ref B.BadLine) (.ref B.CodeError) = some true
  u_NotFree_BadCode : PySem.W.exmOne K (.ref B.NotFree) (.ref B.BadCode) = some false
  u_BadBit_BadCode : PySem.W.exmOne K (.ref B.BadBit) (.ref B.BadCode) = some false
  u_BadBit_NotFree : PySem.W.exmOne K (.ref B.BadBit) (.ref B.NotFree) = some false
  u_Dead_BadCode : PySem.W.exmOne K (.ref B.Dead) (.ref B.BadCode) = some false
  u_Dead_NotFree : PySem.W.exmOne K (.ref B.Dead) (.ref B.NotFree) = some false
  u_Dead_BadBit : PySem.W.exmOne K (.ref B.Dead) (.ref B.BadBit) = some false
  u_NothingDone_BadCode : PySem.W.exmOne K (.ref B.NothingDone) (.ref B.BadCode) = some false
  u_NothingDone_NotFree : PySem.W.exmOne K (.ref B.NothingDone) (.ref B.NotFree) = some false
  u_NothingDone_BadBit : PySem.W.exmOne K (.ref B.NothingDone) (.ref B.BadBit) = some false
  u_NothingDone_Dead : PySem.W.exmOne K (.ref B.NothingDone) (.ref B.Dead) = some false
  u_BadLine_BadCode : PySem.W.exmOne K (.ref B.BadLine) (.ref B.BadCode) = some false
  u_BadLine_NotFree : PySem.W.exmOne K (.ref B.BadLine) (.ref B.NotFree) = some false
  u_BadLine_BadBit : PySem.W.exmOne K (.ref B.BadLine) (.ref B.BadBit) = some false
  u_BadLine_Dead : PySem.W.exmOne K (.ref B.BadLine) (.ref B.Dead) = some false
  u_BadLine_NothingDone : PySem.W.exmOne K (.ref B.BadLine) (.ref B.NothingDone) = some false
  c_BITS : mg "BITS" = some (.ref B.BITS)
  k_BITS : ∀ G, Rep K G (.ref B.BITS) (.tup [.str "0", .str "1"])
  c_MOST_ROWS : ∃ t, mg "MOST_ROWS" = some (.int 6 t)
  c_FIGURES : ∃ t, mg "FIGURES" = some (.str "012345678" t)
  n_all : mg "all" = none
  n_any : mg "any" = none
  n_bool : mg "bool" = none
  n_enumerate : mg "enumerate" = none
  n_int : mg "int" = none
  n_isinstance : mg "isinstance" = none
  n_len : mg "len" = none
  n_list : mg "list" = none
  n_max : mg "max" = none
  n_range : mg "range" = none
  n_str : mg "str" = none
  n_sum : mg "sum" = none
  n_tuple : mg "tuple" = none
--@@prelude
section
variable {P : Program} {w : World} {K : PySem.W.Frag} {mg : Str → Option Value} {base : Heap} {B : Adr}
local macro_rules | `(tactic| walk_at "st0") => `(tactic| simp only [cxOf, List.map_cons, List.map_nil, List.length_cons, List.length_nil, List.cons_append, List.nil_append, List.replicate_succ, List.replicate_zero, Nat.reduceAdd, Nat.reduceSub])
local macro_rules | `(tactic| walk_at "lt") => `(tactic| first | decide | (simp only [wipeD, List.length_cons, List.length_nil, List.length_set]; omega))
local macro_rules | `(tactic| walk_at "fr") => `(tactic| dsimp only [List.set_cons_succ, List.set_cons_zero])
local macro_rules | `(tactic| walk_at "side") => `(tactic| first | assumption | omega | decide | rotate_left)
local macro_rules | `(tactic| walk_at "ix") => `(tactic| first | with_unfolding_all rfl | assumption | rotate_left)
local macro_rules | `(tactic| walk_at "rb") => `(tactic| first
  | with_reducible exact rb_addN | with_reducible exact rb_addN1 | with_reducible exact rb_addN2 | with_reducible exact rb_addN3
  | ((with_reducible apply rb_addB); walk_at "side")
  | ((with_reducible apply rb_mulB); walk_at "side"; walk_at "side")
  | with_reducible exact rb_mul2N
  | ((with_reducible apply rb_subN); (first | assumption | omega))
  | ((with_reducible apply rb_subN1); (first | assumption | omega))
  | ((with_reducible apply rb_subN8); (first | assumption | omega))
  | with_reducible exact rb_mod2N | with_reducible exact rb_div2N
  | with_reducible exact rb_ltN | with_reducible exact rb_leN | with_reducible exact rb_gtN | with_reducible exact rb_geN | with_reducible exact rb_eqN | with_reducible exact rb_neN
  | with_reducible exact rb_eqN0
  | with_reducible exact rb_eqB | with_reducible exact rb_neB
  | with_reducible exact rb_addI | with_reducible exact rb_subI
  | with_reducible exact rb_ltI | with_reducible exact rb_le | with_reducible exact rb_gt | with_reducible exact rb_ge | with_reducible exact rb_eqI | with_reducible exact rb_neI
  | with_reducible exact rb_is | with_reducible exact rb_nis | with_reducible exact rb_eqS | with_reducible exact rb_neS
  | ((with_reducible apply rb_mod); walk_at "side")
  | ((with_reducible apply rb_ixT); walk_at "ix") | ((with_reducible apply rb_ixL); walk_at "ix")
  | ((with_reducible apply rb_addL); walk_at "side")
  | rotate_left)
local macro_rules | `(tactic| walk_at "rc") => `(tactic| first
  | with_reducible exact rc_lenM | with_reducible exact rc_lenML | with_reducible exact rc_lenL | with_reducible exact rc_lenT | ((with_reducible apply rc_lenB); walk_at "side") | with_reducible exact rc_int | with_reducible exact rc_intB
  | with_reducible exact rc_sum | with_reducible exact rc_all | with_reducible exact rc_any
  | rotate_left)
local macro_rules | `(tactic| walk_at "ea") => `(tactic| first
  | with_reducible exact ea_nil
  | ((with_reducible apply ea_cons); walk_at "ev"; walk_at "ea"))
local macro_rules | `(tactic| walk_at "ev") => `(tactic| first
  | ((with_reducible apply ee_var); rfl)
  | with_reducible exact ee_int | with_reducible exact ee_str | with_reducible exact ee_bl | with_reducible exact ee_non
  | ((with_reducible apply ee_op); walk_at "ev"; walk_at "ev"; walk_at "rb")
  | ((with_reducible apply ee_fld); walk_at "ev"; walk_at "at"; walk_at "at"; rfl)
  | ((with_reducible apply ee_cb); walk_at "ea"; walk_at "rc")
  | ((with_reducible apply ee_tup); walk_at "ea"; walk_at "dec")
  | ((with_reducible apply ee_lst); walk_at "ea"; walk_at "dec")
  | ((with_reducible apply ee_un); walk_at "ev"; (exact ru_neg))
  | ((with_reducible apply ee_startsB); walk_at "ev"; walk_at "ev")
  | ((with_reducible apply ee_sl); walk_at "ev"; walk_at "eo"; walk_at "eo"; walk_at "rs")
  | ((with_reducible apply ee_kt); walk_at "at")
  | ((with_reducible apply ee_call3); walk_at "ea"; (exact rfl); walk_at "pre"; (exact rfl))
  | ((with_reducible apply ee_call2); walk_at "ea"; (exact rfl); walk_at "pre"; (exact rfl))
  | ((with_reducible apply ee_call); walk_at "ea"; (exact rfl); walk_at "pre"; (exact rfl))
  | rotate_left)
local macro_rules | `(tactic| walk_at "pre") => `(tactic| ((try dsimp only); first | assumption | omega | (refine ⟨?_, ?_⟩ <;> first | assumption | omega) | (refine ⟨?_, ?_, ?_⟩ <;> first | assumption | omega) | rotate_left))
local macro_rules | `(tactic| walk_at "dec") => `(tactic| first | (simp only [List.length_cons, List.length_nil]; omega) | decide | rotate_left)
local macro_rules | `(tactic| walk_at "et") => `(tactic| first
  | ((with_reducible apply et_test); walk_at "ev")
  | ((with_reducible apply et_truG); walk_at "ev"; (first | exact trivial | (with_reducible apply truOkB; walk_at "side") | rotate_left))
  | ((with_reducible apply et_not); walk_at "et")
  | rotate_left)
local macro_rules | `(tactic| walk_at "un2") => `(tactic| exact eg_tup rfl (egs_cons (eg_name (by walk_at "lt")) (egs_cons (eg_name (by walk_at "lt")) egs_nil)))
local macro_rules | `(tactic| walk_at "un4") => `(tactic| exact eg_tup rfl (egs_cons (eg_name (by walk_at "lt")) (egs_cons (eg_name (by walk_at "lt")) (egs_cons (eg_name (by walk_at "lt")) (egs_cons (eg_name (by walk_at "lt")) egs_nil)))))
local macro_rules | `(tactic| walk_at "eo") => `(tactic| first | with_reducible exact eo_none | ((with_reducible apply eo_some); walk_at "ev"))
local macro_rules | `(tactic| walk_at "rs") => `(tactic| first | ((with_reducible apply rs_fromB); walk_at "side") | ((with_reducible apply rs_uptoB); walk_at "side") | ((with_reducible apply rs_midB); walk_at "side"; walk_at "side") | with_reducible exact rs_uptoT | with_reducible exact rs_tup | with_reducible exact rs_lst | rotate_left)

set_option hygiene false in
local macro_rules | `(tactic| walk_at "at") => `(tactic| first | exact T.cl_Code | exact T.na_Code_rows | exact T.na_Code_tail | exact T.na_Code_begin | exact T.k_BITS | exact T.cl_Reader | exact T.na_Reader_code | exact T.na_Reader_fed)
--@@endprelude
/-- what a power is, with bounds -/
theorem pw_lt (n : Nat) : 2 ^ n < 2 ^ (n + 1) := Nat.pow_lt_pow_right (by decide) (by omega)
abbrev sp_power (K : PySem.W.Frag) (B : Adr) : Sp := spA K (fun n : Nat => [D.int (n : Nat)]) (fun n => n ≤ 100000) (fun n => .ok (.int ((2 ^ n : Nat) : Int)))
theorem ok_power (T : Txt K mg B) : Ok P w K mg base CX0 1 "power" ["times"] (sp_power K B) := by
  refine T.d_power.ok sc_power (spA_len fun _ => rfl) (fun f cdv A outer s H vs Q E hr h => ⟨_, (pss_cons (ps_asg (pe_tup (pa_cons pe_int (pa_cons pe_int pa_nil))) (k_tup (n := 2) K rfl rfl (pgs_cons (pg_name (i := 1) sc_power.nd rfl (Or.inl rfl)) (pgs_cons (pg_name (i := 2) sc_power.nd rfl (Or.inl rfl)) pgs_nil))))
    (pss_cons (ps_while PassesOwn.never (k_tru K rfl (pv 0)) (pss_cons (ps_if (k_tru K rfl (pe_op op_modG (pv 0) pe_int)) (pss_one (ps_set (i := 1) sc_power.nd rfl (Or.inl rfl) (pe_op (k_mul K rfl) (pv 1) (pv 2)))) pss_nil)
    (pss_cons (ps_set (i := 2) sc_power.nd rfl (Or.inl rfl) (pe_op (k_mul K rfl) (pv 2) (pv 2)))
    (pss_one (ps_set (i := 0) sc_power.nd rfl (Or.inl rfl) (pe_op op_divG (pv 0) pe_int))))))
    (pss_one (ps_ret (pv 1))))), go_fn h fun a W ha => ?_⟩)
  walk_at "st0"
  refine st_seq (st_asgG (d := .tup [.int 1, .int 2]) (by walk_at "ev") (by walk_at "un2") ?_)
  walk_at "fr"
  -- the turn: found = 2 ^ done, base = 2 ^ m; what is left: t turns of weight m
  refine st_seq (st_while (α := Nat × Nat × Nat) (fun p => [.v (.int (p.2.2 : Nat)), .v (.int ((2 ^ p.1 : Nat) : Int)), .v (.int ((2 ^ p.2.1 : Nat) : Int))]) (fun p => p.1 + p.2.1 * p.2.2 = a ∧ 1 ≤ p.2.1 ∧ p.2.1 ≤ 2 * a + 1) (fun p => p.2.2) ?_ ?_)
  · exact ⟨(0, 1, a), .keep rfl (.keep rfl (.keep rfl .nil)), by dsimp only; omega⟩
  · rintro ⟨e, m, t⟩ ⟨i1, i2, i3⟩
    dsimp only at i1 i2 i3 ⊢
    refine ⟨_, by walk_at "et", fun hb => ?_, fun hb => ?_⟩
    · have ht : 0 < t := by simp [truD] at hb; omega
      have hm : m ≤ a := Nat.le_trans (Nat.le_mul_of_pos_right m ht) (by omega)
      have he : e ≤ a := by omega
      refine st_seq (st_if (by walk_at "et") (fun hc => ?_) (fun hc => ?_))
      · have h1 : t % 2 = 1 := by simp [truD] at hc; omega
        refine st_asg (ee_op (ee_var rfl) (ee_var rfl) (rb_mulNW (e + 1) (m + 1) (pw_lt e) (pw_lt m) (by omega) (by omega) (by omega))) (by walk_at "lt") ?_
        walk_at "fr"
        refine st_seq (st_asg (ee_op (ee_var rfl) (ee_var rfl) (rb_mulNW (m + 1) (m + 1) (pw_lt m) (pw_lt m) (by omega) (by omega) (by omega))) (by walk_at "lt") ?_)
        walk_at "fr"
        refine st_asg (ee_op (ee_var rfl) ee_int rb_div2N) (by walk_at "lt") ?_
        walk_at "fr"
        refine ⟨(e + m, m + m, t / 2), .keep rfl (.keep ?_ (.keep ?_ .nil)), ?_, ?_⟩
        · rw [Nat.pow_add]
        · rw [Nat.pow_add]
        · dsimp only
          have h2 : t = 2 * (t / 2) + 1 := by omega
          have h3 : m * t = m + (m + m) * (t / 2) := by
            conv => lhs; rw [h2]
            rw [Nat.mul_add, ← Nat.mul_assoc, Nat.mul_comm m 2, Nat.two_mul, Nat.mul_one, Nat.add_comm]
          omega
        · dsimp only; omega
      · have h1 : t % 2 = 0 := by simp [truD] at hc; omega
        refine st_next ?_
        refine st_seq (st_asg (ee_op (ee_var rfl) (ee_var rfl) (rb_mulNW (m + 1) (m + 1) (pw_lt m) (pw_lt m) (by omega) (by omega) (by omega))) (by walk_at "lt") ?_)
        walk_at "fr"
        refine st_asg (ee_op (ee_var rfl) ee_int rb_div2N) (by walk_at "lt") ?_
        walk_at "fr"
        refine ⟨(e, m + m, t / 2), .keep rfl (.keep rfl (.keep ?_ .nil)), ?_, ?_⟩
        · rw [Nat.pow_add]
        · dsimp only
          have h2 : t = 2 * (t / 2) := by omega
          have h3 : m * t = (m + m) * (t / 2) := by
            rw [← Nat.two_mul, Nat.mul_comm 2 m, Nat.mul_assoc, ← h2]
          omega
        · dsimp only; omega
    · have ht : t = 0 := by simp [truD] at hb; omega
      subst ht
      refine st_ret (ee_var rfl) ?_
      have : e = a := by omega
      rw [this]
abbrev sp_row_at (K : PySem.W.Frag) (B : Adr) : Sp := spA2 K (fun (c : CodeM) (r : Nat) => [codeD B.Code c, D.int (r : Nat)]) (fun c r => Wf c ∧ r ≤ 20100) (fun c r => .ok (rowD (c.row r)))
theorem mul_le4 {a b n : Nat} (h : a ≤ n) (hb : b ≤ 4) : a * b ≤ 4 * n := by
  have := Nat.mul_le_mul h hb; omega
theorem ok_row_at (T : Txt K mg B) : Ok P w K mg base CX0 1 "row_at" ["code", "r"] (sp_row_at K B) := by
  refine T.d_row_at.ok sc_row_at (spA_len fun _ => rfl) (fun f cdv A outer s H vs Q E hr h => ⟨_, (pss_cons (ps_if (pt_cmpR op_ltG (pv 1) (pe_callB (k_len K rfl) (by rfl) T.n_len (by decide +kernel) (pa_cons (k_fld K rfl (pv 0) rfl) pa_nil)) (nomark _)) (pss_one (ps_ret (pe_ix (k_ix K rfl) (k_fld K rfl (pv 0) rfl) (pv 1) (fun _ _ => rfl)))) pss_nil)
    (pss_cons (ps_asg (k_fld K rfl (pv 0) rfl) (k_tup (n := 4) K rfl rfl (pgs_cons (pg_name (i := 2) sc_row_at.nd rfl (Or.inl rfl)) (pgs_cons (pg_name (i := 3) sc_row_at.nd rfl (Or.inl rfl)) (pgs_cons (pg_name (i := 4) sc_row_at.nd rfl (Or.inl rfl)) (pgs_cons (pg_name (i := 5) sc_row_at.nd rfl (Or.inl rfl)) pgs_nil))))))
    (pss_cons (ps_set (i := 6) sc_row_at.nd rfl (Or.inl rfl) (pe_op op_subG (pv 1) (pe_callB (k_len K rfl) (by rfl) T.n_len (by decide +kernel) (pa_cons (k_fld K rfl (pv 0) rfl) pa_nil))))
    (pss_one (ps_ret (pe_tup (pa_cons (pe_op (k_add K rfl) (pe_op (k_mul K rfl) (pv 2) (pv 6)) (pv 3)) (pa_cons (pe_op (k_add K rfl) (pv 4) (pe_op (k_mul K rfl) (pv 5) (pv 6))) pa_nil)))))))), go_fn h fun a W ha => ?_⟩)
  obtain ⟨c, r⟩ := a
  dsimp only at ha
  obtain ⟨wf, hr0⟩ := ha
  walk_at "st0"
  refine st_seq (st_if (by walk_at "et") (fun hb => ?_) (fun hb => ?_))
  · have hl : r < c.rows.length := by simpa using hb
    refine st_ret (ee_op (by walk_at "ev") (by walk_at "ev") (rb_ixT (atI_map (List.getElem?_eq_getElem hl)))) ?_
    rw [CodeM.row_lt hl]
  · have hl : c.rows.length ≤ r := by simpa using hb
    have hm := mul_le4 (show r - c.rows.length ≤ 20100 by omega) wf.au
    have h3 := wf.dl
    have h4 := wf.sl
    refine st_next (st_seq (st_asgG (by walk_at "ev") (by walk_at "un4") ?_))
    walk_at "fr"
    refine st_seq (st_asg (d := .int ((r - c.rows.length : Nat) : Int)) (ee_op (ee_var rfl) (by walk_at "ev") (rb_subN (by simpa using hl))) (by walk_at "lt") ?_)
    walk_at "fr"
    refine st_ret (d := rowD (c.row r)) ?_ rfl
    rw [CodeM.row_ge hl]
    refine ee_tup (ea_cons (ee_op (ee_op (ee_var rfl) (ee_var rfl) (rb_mulB (by omega) (by omega))) (ee_var rfl) (rb_addB (by rw [rep_len]; omega))) (ea_cons (ee_op (ee_var rfl) (ee_op (ee_var rfl) (ee_var rfl) (rb_mulNL (by omega))) rb_addN) ea_nil)) (by simp)
/-- bounds of the numbers that are asked -/
theorem pow_bd {m n : Nat} (h : m ≤ n) : 2 ^ m ≤ 2 ^ n := Nat.pow_le_pow_right (by decide) h
abbrev sp_before_tail_row (K : PySem.W.Frag) (B : Adr) : Sp := spA2 K (fun (c : CodeM) (i : Nat) => [codeD B.Code c, D.int (i : Nat)]) (fun c i => Wf c ∧ i ≤ 33000) (fun c i => .ok (.int (c.before i : Nat)))
theorem ok_before_tail_row (T : Txt K mg B) : Ok P w K mg base CX0 2 "before_tail_row" ["code", "i"] (sp_before_tail_row K B) := by
  refine T.d_before_tail_row.ok sc_before_tail_row (spA_len fun _ => rfl) (fun f cdv A outer s H vs Q E hr h => ⟨_, (pss_cons (ps_asg (k_fld K rfl (pv 0) rfl) (k_tup (n := 4) K rfl rfl (pgs_cons (pg_name (i := 2) sc_before_tail_row.nd rfl (Or.inl rfl)) (pgs_cons (pg_name (i := 3) sc_before_tail_row.nd rfl (Or.inl rfl)) (pgs_cons (pg_name (i := 4) sc_before_tail_row.nd rfl (Or.inl rfl)) (pgs_cons (pg_name (i := 5) sc_before_tail_row.nd rfl (Or.inl rfl)) pgs_nil))))))
    (pss_cons (ps_if (pt_cmpR (k_eq K rfl hr.units) (pv 5) pe_int (nomark _)) (pss_one (ps_ret (pe_op (k_mul K rfl) (pv 1) (pe_callH (ok_power T) (hr.mono (by first | decide | omega)) rfl pass0 (pa_cons (pv 4) pa_nil))))) pss_nil)
    (pss_one (ps_ret (pe_op op_divG (pe_op (k_mul K rfl) (pe_callH (ok_power T) (hr.mono (by first | decide | omega)) rfl pass0 (pa_cons (pv 4) pa_nil)) (pe_op op_subG (pe_callH (ok_power T) (hr.mono (by first | decide | omega)) rfl pass0 (pa_cons (pe_op (k_mul K rfl) (pv 5) (pv 1)) pa_nil)) pe_int)) (pe_op op_subG (pe_callH (ok_power T) (hr.mono (by first | decide | omega)) rfl pass0 (pa_cons (pv 5) pa_nil)) pe_int)))))), go_fn h fun a W ha => ?_⟩)
  obtain ⟨c, i⟩ := a
  dsimp only at ha
  obtain ⟨wf, hi⟩ := ha
  have h3 := wf.dl
  have h4 := wf.kl
  have hk : 2 ^ c.k ≤ 2 ^ 8 := pow_bd h4
  walk_at "st0"
  refine st_seq (st_asgG (by walk_at "ev") (by walk_at "un4") ?_)
  walk_at "fr"
  refine st_seq (st_if (by walk_at "et") (fun hb => ?_) (fun hb => ?_))
  · have hd : c.d = 0 := by simpa using hb
    refine st_ret (ee_op (ee_var rfl) (by walk_at "ev") (rb_mulNR (by omega))) ?_
    dsimp only [CodeM.before]
    rw [if_pos hd]
  · have hd : ¬ c.d = 0 := by simpa using hb
    have hd2 : c.d * i ≤ 3 * i := Nat.mul_le_mul_right _ h3
    have hdp : 2 ^ c.d ≤ 2 ^ 3 := pow_bd h3
    have hd1 : 1 < 2 ^ c.d := Nat.one_lt_two_pow hd
    have p1 := CodeM.pow_ge_one (c.d * i)
    refine st_next (st_ret (d := .int (c.before i : Nat)) ?_ rfl)
    dsimp only [CodeM.before]
    rw [if_neg hd]
    refine ee_op (ee_op (by walk_at "ev") (ee_op (ee_call (a := c.d * i) (ea_cons (ee_op (ee_var rfl) (ee_var rfl) (rb_mulNL (by omega))) ea_nil) rfl (by omega) rfl) ee_int (rb_subN1 p1)) (rb_mulNL (by omega))) (ee_op (by walk_at "ev") ee_int (rb_subN1 (by omega))) (rb_divN (by omega) (Nat.lt_of_lt_of_le (show 2 ^ c.d - 1 < 2 ^ 3 by omega) (pow_bd (by decide))))
abbrev sp_first_number (K : PySem.W.Frag) (B : Adr) : Sp := spA2 K (fun (c : CodeM) (r : Nat) => [codeD B.Code c, D.int (r : Nat)]) (fun c r => Wf c ∧ r ≤ 33000) (fun c r => .ok (.int (c.first r : Nat)))
theorem ok_first_number (T : Txt K mg B) : Ok P w K mg base CX0 3 "first_number" ["code", "r"] (sp_first_number K B) := by
  refine T.d_first_number.ok sc_first_number (spA_len fun _ => rfl) (fun f cdv A outer s H vs Q E hr h => ⟨_, (pss_cons (ps_if (pt_cmpR op_ltG (pv 1) (pe_callB (k_len K rfl) (by rfl) T.n_len (by decide +kernel) (pa_cons (k_fld K rfl (pv 0) rfl) pa_nil)) (nomark _)) (pss_one (ps_ret (pe_callB (k_sum K rfl rfl) (by rfl) T.n_sum (by decide +kernel) (pa_cons (pe_lc (own := [("row", 2)]) rfl sc_first_number.nd (k_itup K rfl (pe_slice (k_sl K rfl) (k_fld K rfl (pv 0) rfl) po_none (po_some (pv 1)))) (blkOk_by (own := [("row", 2)]) (N := nm_first_number) (sc := defScope s_first_number) (by decide +kernel)) (fun _ _ _ _ _ => (pg_name (i := 2) sc_first_number.nd rfl (Or.inl rfl))) (fun _ _ _ _ _ => pts_nil) (fun _ _ _ _ _ => (pe_callH (ok_power T) (hr.mono (by first | decide | omega)) rfl pass0 (pa_cons (pe_ix (k_ix K rfl) (pv 2) pe_int (fun _ _ => rfl)) pa_nil)))) pa_nil)))) pss_nil)
    (pss_one (ps_ret (pe_op (k_add K rfl) (k_fld K rfl (pv 0) rfl) (pe_callH (ok_before_tail_row T) (hr.mono (by first | decide | omega)) rfl pass0 (pa_cons (pv 0) (pa_cons (pe_op op_subG (pv 1) (pe_callB (k_len K rfl) (by rfl) T.n_len (by decide +kernel) (pa_cons (k_fld K rfl (pv 0) rfl) pa_nil))) pa_nil))))))), go_fn h fun a W ha => ?_⟩)
  obtain ⟨c, r⟩ := a
  dsimp only at ha
  obtain ⟨wf, hr0⟩ := ha
  walk_at "st0"
  refine st_seq (st_if (by walk_at "et") (fun hb => ?_) (fun hb => ?_))
  · have hl : r < c.rows.length := by simpa using hb
    refine st_ret (d := .int (c.first r : Nat)) ?_ rfl
    rw [CodeM.first_rows (Nat.le_of_lt hl)]
    refine ee_cb (ea_cons (ee_lcA (ys := c.rows.take r) (gD := rowD) (js := [2]) (ei_tup (ee_is (by walk_at "ev") (by rw [List.map_take]))) (fun x => .int ((2 ^ x.2 : Nat) : Int)) (by rw [List.length_take]; omega) (by decide) (fun i y hy => ?_)) ea_nil) rc_sumN
    have hm : y ∈ c.rows := List.mem_of_mem_take (List.mem_of_getElem? hy)
    have := (wf.rb y hm).2.2
    exact ⟨_, eg_name (by walk_at "lt"), ee_call (a := y.2) (ea_cons (ee_op (ee_var rfl) ee_int (rb_ixT rfl)) ea_nil) rfl (by omega) rfl⟩
  · have hl : c.rows.length ≤ r := by simpa using hb
    refine st_next (st_ret (d := .int (c.first r : Nat)) ?_ rfl)
    have e := c.first_tail (r - c.rows.length)
    rw [Nat.add_sub_cancel' hl] at e
    rw [e]
    exact ee_op (by walk_at "ev") (ee_call2 (x := c) (y := r - c.rows.length) (by walk_at "ea") rfl ⟨wf, by omega⟩ rfl) rb_addN
theorem before_lt {c : CodeM} (i : Nat) : c.before i < c.before (i + 1) := by
  have := CodeM.pow_ge_one (c.k + c.d * i); rw [CodeM.before_succ]; omega
theorem before_mono {c : CodeM} {i j : Nat} (h : i ≤ j) : c.before i ≤ c.before j := by
  induction h with
  | refl => exact Nat.le_refl _
  | step _ ih => exact Nat.le_trans ih (Nat.le_of_lt (before_lt _))
theorem before_inv {c : CodeM} {i j : Nat} (h : c.before i < c.before j) : i < j := by
  rcases Nat.lt_or_ge i j with z | z
  · exact z
  · exact absurd (before_mono (c := c) z) (by omega)
/-- numbers that are asked: not beyond the first 16000 rows of the tail -/
abbrev NOk (c : CodeM) (n : Nat) : Prop := n < c.beg + c.before 16000
theorem rowOf_tail {c : CodeM} {n i : Nat} (h1 : c.beg + c.before i ≤ n) (h2 : n < c.beg + c.before (i + 1)) : c.rowOf n = c.rows.length + i :=
  CodeM.rowOf_eq (by rw [CodeM.first_tail]; exact h1) (by rw [Nat.add_assoc, CodeM.first_tail]; exact h2)
abbrev sp_tail_row_with (K : PySem.W.Frag) (B : Adr) : Sp := spA2 K (fun (c : CodeM) (n : Nat) => [codeD B.Code c, D.int (n : Nat)]) (fun c n => Wf c ∧ c.beg ≤ n ∧ NOk c n) (fun c n => .ok (.int ((c.rowOf n - c.rows.length : Nat) : Int)))
theorem ok_tail_row_with (T : Txt K mg B) : Ok P w K mg base CX0 3 "tail_row_with" ["code", "n"] (sp_tail_row_with K B) := by
  refine T.d_tail_row_with.ok sc_tail_row_with (spA_len fun _ => rfl) (fun f cdv A outer s H vs Q E hr h => ⟨_, (pss_cons (ps_asg (pe_tup (pa_cons pe_int (pa_cons pe_int pa_nil))) (k_tup (n := 2) K rfl rfl (pgs_cons (pg_name (i := 2) sc_tail_row_with.nd rfl (Or.inl rfl)) (pgs_cons (pg_name (i := 3) sc_tail_row_with.nd rfl (Or.inl rfl)) pgs_nil))))
    (pss_cons (ps_while PassesOwn.never (pt_cmpR op_leG (pe_op (k_add K rfl) (k_fld K rfl (pv 0) rfl) (pe_callH (ok_before_tail_row T) (hr.mono (by first | decide | omega)) rfl pass0 (pa_cons (pv 0) (pa_cons (pv 3) pa_nil)))) (pv 1) (nomark _)) (pss_one (ps_par (i := 2) (j := 3) (by rfl) sc_tail_row_with.nd rfl rfl (by decide) rfl rfl (pa_cons (pv 3) (pa_cons (pe_op (k_mul K rfl) pe_int (pv 3)) pa_nil)) (by rfl))))
    (pss_cons (ps_while PassesOwn.never (pt_cmpR op_ltG (pv 2) (pe_op op_subG (pv 3) pe_int) (nomark _)) (pss_cons (ps_set (i := 4) sc_tail_row_with.nd rfl (Or.inl rfl) (pe_op op_divG (pe_op (k_add K rfl) (pv 2) (pv 3)) pe_int))
    (pss_one (ps_if (pt_cmpR op_leG (pe_op (k_add K rfl) (k_fld K rfl (pv 0) rfl) (pe_callH (ok_before_tail_row T) (hr.mono (by first | decide | omega)) rfl pass0 (pa_cons (pv 0) (pa_cons (pv 4) pa_nil)))) (pv 1) (nomark _)) (pss_one (ps_set (i := 2) sc_tail_row_with.nd rfl (Or.inl rfl) (pv 4))) (pss_one (ps_set (i := 3) sc_tail_row_with.nd rfl (Or.inl rfl) (pv 4)))))))
    (pss_one (ps_ret (pv 2)))))), go_fn h fun a W ha => ?_⟩)
  obtain ⟨c, n⟩ := a
  dsimp only at ha
  obtain ⟨wf, hn0, hn1⟩ := ha
  walk_at "st0"
  refine st_seq (st_asgG (d := .tup [.int 0, .int 1]) (by walk_at "ev") (by walk_at "un2") ?_)
  walk_at "fr"
  have small : ∀ l, c.beg + c.before l ≤ n → l < 16000 := fun l h => before_inv (c := c) (by omega)
  refine st_seq (st_while (α := Nat × Nat) (fun p => [.v (codeD B.Code c), .v (.int (n : Nat)), .v (.int (p.1 : Nat)), .v (.int (p.2 : Nat)), .no]) (fun p => c.beg + c.before p.1 ≤ n ∧ p.1 < p.2 ∧ p.2 ≤ 2 * p.1 + 1) (fun p => 40000 - p.2) ?_ ?_)
  · exact ⟨(0, 1), .keep rfl (.keep rfl (.keep rfl (.keep rfl (.keep rfl .nil)))), by dsimp only; rw [CodeM.before_zero]; omega⟩
  · rintro ⟨l, h⟩ ⟨i1, i2, i3⟩
    dsimp only at i1 i2 i3 ⊢
    have hl := small l i1
    refine ⟨_, et_test (ee_op (ee_op (by walk_at "ev") (ee_call2 (by walk_at "ea") rfl ⟨wf, by omega⟩ rfl) rb_addN) (ee_var rfl) rb_leN), fun hb => ?_, fun hb => ?_⟩
    · have hb' : c.beg + c.before h ≤ n := by simpa using hb
      have := small h hb'
      refine st_par (by walk_at "ea") (by walk_at "lt") (by walk_at "lt") ?_
      walk_at "fr"
      exact ⟨(h, 2 * h), .keep rfl (.keep rfl (.keep rfl (.keep rfl (.keep rfl .nil)))), by dsimp only; omega, by dsimp only; omega⟩
    · have hb' : n < c.beg + c.before h := by simpa using hb
      refine st_seq (st_while (α := Nat × Nat) (fun p => [.v (codeD B.Code c), .v (.int (n : Nat)), .v (.int (p.1 : Nat)), .v (.int (p.2 : Nat)), .no]) (fun p => c.beg + c.before p.1 ≤ n ∧ n < c.beg + c.before p.2 ∧ p.1 < p.2 ∧ p.2 ≤ 33000) (fun p => p.2 - p.1) ?_ ?_)
      · exact ⟨(l, h), Fle.refl _, by dsimp only; omega⟩
      · clear hb hb' i1 i2 i3 hl
        rintro ⟨l, h⟩ ⟨i1, i2, i3, i4⟩
        dsimp only at i1 i2 i3 i4 ⊢
        refine ⟨_, by walk_at "et", fun hb => ?_, fun hb => ?_⟩
        · have hb' : l < h - 1 := by simpa using hb
          refine st_seq (st_asg (by walk_at "ev") (by walk_at "lt") ?_)
          walk_at "fr"
          refine st_if (et_test (ee_op (ee_op (by walk_at "ev") (ee_call2 (by walk_at "ea") rfl ⟨wf, by omega⟩ rfl) rb_addN) (ee_var rfl) rb_leN)) (fun hb => ?_) (fun hb => ?_)
          · have hb' : c.beg + c.before ((l + h) / 2) ≤ n := by simpa using hb
            refine st_asg (by walk_at "ev") (by walk_at "lt") ?_
            walk_at "fr"
            exact ⟨((l + h) / 2, h), .keep rfl (.keep rfl (.keep rfl (.keep rfl (.drop .nil)))), by dsimp only; omega, by dsimp only; omega⟩
          · have hb' : n < c.beg + c.before ((l + h) / 2) := by simpa using hb
            refine st_asg (by walk_at "ev") (by walk_at "lt") ?_
            walk_at "fr"
            exact ⟨(l, (l + h) / 2), .keep rfl (.keep rfl (.keep rfl (.keep rfl (.drop .nil)))), by dsimp only; omega, by dsimp only; omega⟩
        · have hb' : ¬ l < h - 1 := by simpa using hb
          have e : h = l + 1 := by omega
          subst e
          refine st_ret (ee_var rfl) ?_
          rw [rowOf_tail i1 i2, Nat.add_sub_cancel_left]
theorem row_bd {c : CodeM} {n : Nat} (h : NOk c n) : c.rowOf n ≤ c.rows.length + 16000 := by
  have h1 := (CodeM.rowOf_ok (c := c) n).1
  have h2 := CodeM.first_tail (c := c) 16000
  rcases Nat.lt_or_ge (c.rows.length + 16000) (c.rowOf n) with z | z
  · have := CodeM.first_mono (c := c) (Nat.le_of_lt z); unfold NOk at h; omega
  · exact z
abbrev sp_row_with (K : PySem.W.Frag) (B : Adr) : Sp := spA2 K (fun (c : CodeM) (n : Nat) => [codeD B.Code c, D.int (n : Nat)]) (fun c n => Wf c ∧ NOk c n) (fun c n => .ok (.int (c.rowOf n : Nat)))
theorem ok_row_with (T : Txt K mg B) : Ok P w K mg base CX0 4 "row_with" ["code", "n"] (sp_row_with K B) := by
  refine T.d_row_with.ok sc_row_with (spA_len fun _ => rfl) (fun f cdv A outer s H vs Q E hr h => ⟨_, (pss_cons (ps_if (pt_cmpR op_geG (pv 1) (k_fld K rfl (pv 0) rfl) (nomark _)) (pss_one (ps_ret (pe_op (k_add K rfl) (pe_callB (k_len K rfl) (by rfl) T.n_len (by decide +kernel) (pa_cons (k_fld K rfl (pv 0) rfl) pa_nil)) (pe_callH (ok_tail_row_with T) (hr.mono (by first | decide | omega)) rfl pass0 (pa_cons (pv 0) (pa_cons (pv 1) pa_nil)))))) pss_nil)
    (pss_cons (ps_set (i := 2) sc_row_with.nd rfl (Or.inl rfl) pe_int)
    (pss_cons (ps_while PassesOwn.never (pt_cmpR op_leG (pe_callH (ok_first_number T) (hr.mono (by first | decide | omega)) rfl pass0 (pa_cons (pv 0) (pa_cons (pe_op (k_add K rfl) (pv 2) pe_int) pa_nil))) (pv 1) (nomark _)) (pss_one (ps_aug (i := 2) sc_row_with.nd rfl (Or.inl rfl) pe_int ip_add)))
    (pss_one (ps_ret (pv 2)))))), go_fn h fun a W ha => ?_⟩)
  obtain ⟨c, n⟩ := a
  dsimp only at ha
  obtain ⟨wf, hn1⟩ := ha
  have hrl := wf.rl
  walk_at "st0"
  refine st_seq (st_if (by walk_at "et") (fun hb => ?_) (fun hb => ?_))
  · have hb' : c.beg ≤ n := by simpa using hb
    refine st_ret (ee_op (by walk_at "ev") (ee_call2 (by walk_at "ea") rfl ⟨wf, hb', hn1⟩ rfl) rb_addN) ?_
    have h1 : c.rows.length ≤ c.rowOf n := by
      rcases Nat.lt_or_ge (c.rowOf n) c.rows.length with z | z
      · have h2 := (CodeM.rowOf_ok (c := c) n).2
        have h3 := CodeM.first_mono (c := c) (show c.rowOf n + 1 ≤ c.rows.length from z)
        rw [CodeM.first_beg] at h3
        omega
      · exact z
    rw [Nat.add_sub_cancel' h1]
  · have hb' : n < c.beg := by simpa using hb
    refine st_next (st_seq (st_asg (by walk_at "ev") (by walk_at "lt") ?_))
    walk_at "fr"
    refine st_seq (st_while (α := Nat) (fun p => [.v (codeD B.Code c), .v (.int (n : Nat)), .v (.int (p : Nat))]) (fun p => c.first p ≤ n ∧ p ≤ 6) (fun p => 7 - p) ?_ ?_)
    · exact ⟨0, Fle.refl _, Nat.zero_le _, by omega⟩
    · rintro r ⟨i1, i2⟩
      refine ⟨_, et_test (ee_op (ee_call2 (by walk_at "ea") rfl ⟨wf, by omega⟩ rfl) (ee_var rfl) rb_leN), fun hb => ?_, fun hb => ?_⟩
      · have hb2 : c.first (r + 1) ≤ n := by simpa using hb
        refine st_aug1 rfl ?_
        walk_at "fr"
        refine ⟨r + 1, Fle.refl _, ⟨hb2, ?_⟩, by omega⟩
        rcases Nat.lt_or_ge r c.rows.length with z | z
        · omega
        · have := CodeM.first_mono (c := c) (show c.rows.length ≤ r + 1 by omega)
          rw [CodeM.first_beg] at this
          omega
      · have hb2 : n < c.first (r + 1) := by simpa using hb
        refine st_ret (ee_var rfl) ?_
        rw [CodeM.rowOf_eq i1 hb2]
theorem plc_cons (v : Nat) : ∀ i, CodeM.plc v (i + 1) = ((v / 2 ^ i) % 2 == 1) :: CodeM.plc v i := by
  intro i
  induction i generalizing v with
  | zero => simp [CodeM.plc]
  | succ i ih =>
    show CodeM.plc (v / 2) (i + 1) ++ [v % 2 == 1] = _
    rw [ih, Nat.div_div_eq_div_mul, Nat.mul_comm 2, ← Nat.pow_succ]
    rfl
theorem bit_at (v : Nat) : atI [D.str "0", D.str "1"] ((v % 2 : Nat) : Int) = some (.str (bs [v % 2 == 1])) := by
  have : v % 2 = 0 ∨ v % 2 = 1 := by omega
  rcases this with h | h <;> rw [h] <;> rfl
abbrev sp_places (K : PySem.W.Frag) (B : Adr) : Sp := spA2 K (fun (v : Nat) (k : Nat) => [D.int (v : Nat), D.int (k : Nat)]) (fun v k => k ≤ 500000) (fun v k => .ok (.str (bs (CodeM.plc v k))))
theorem ok_places (T : Txt K mg B) : Ok P w K mg base CX0 1 "places" ["number", "k"] (sp_places K B) := by
  refine T.d_places.ok sc_places (spA_len fun _ => rfl) (fun f cdv A outer s H vs Q E hr h => ⟨_, (pss_cons (ps_set (i := 2) sc_places.nd rfl (Or.inl rfl) pe_str)
    (pss_cons (ps_for PassesOwn.never rfl (pi_range1 rfl T.n_range (pa_cons (pv 1) pa_nil)) (pg_name (i := 3) sc_places.nd rfl (Or.inl rfl)) (pss_cons (ps_set (i := 2) sc_places.nd rfl (Or.inl rfl) (pe_op (k_add K rfl) (pe_ix (k_ix K rfl) (pe_glob (v := .ref B.BITS) rfl T.c_BITS rfl) (pe_op op_modG (pv 0) pe_int) (fun _ _ => rfl)) (pv 2)))
    (pss_one (ps_set (i := 0) sc_places.nd rfl (Or.inl rfl) (pe_op op_divG (pv 0) pe_int)))))
    (pss_one (ps_ret (pv 2))))), go_fn h fun a W ha => ?_⟩)
  obtain ⟨v, k⟩ := a
  dsimp only at ha
  walk_at "st0"
  refine st_seq (st_asg (d := .str (bs [])) ee_str (by walk_at "lt") ?_)
  walk_at "fr"
  refine st_seq (st_for (α := Unit) (ei_rng1 (by walk_at "ea") (by omega) (by omega)) (fun i _ => [.v (.int ((v / 2 ^ i : Nat) : Int)), .v (.int (k : Nat)), .v (.str (bs (CodeM.plc v i))), .no]) (fun i _ => i ≤ k) ?_ ?_ ?_)
  · exact ⟨(), .keep (by rw [Nat.pow_zero, Nat.div_one]) (.keep rfl (.keep rfl (.keep rfl .nil))), Nat.zero_le _⟩
  · rintro i d - hi -
    have hlt : i < k := by
      have := (List.getElem?_eq_some_iff.mp hi).1
      rw [upto_len] at this; omega
    refine ⟨_, _, eg_name (by walk_at "lt"), ?_⟩
    walk_at "fr"
    refine st_seq (st_asg (ee_op (ee_op (ee_kt (T.k_BITS)) (by walk_at "ev") (rb_ixT (bit_at _))) (ee_var rfl) (rb_addB (by rw [CodeM.plc_len]; simp; omega))) (by walk_at "lt") ?_)
    walk_at "fr"
    refine st_asg (by walk_at "ev") (by walk_at "lt") ?_
    walk_at "fr"
    refine ⟨(), .keep ?_ (.keep rfl (.keep ?_ (.drop .nil))), hlt⟩
    · rw [Nat.div_div_eq_div_mul, ← Nat.pow_succ]
    · rw [plc_cons]; rfl
  · rintro - -
    refine st_ret (ee_var rfl) ?_
    rw [upto_len, Int.toNat_natCast]
theorem kk_bd {c : CodeM} (wf : Wf c) {r : Nat} (h : r ≤ c.rows.length + 16000) : c.kk r ≤ 48008 := by
  have h1 := wf.kl
  have h2 := wf.dl
  unfold CodeM.kk
  rcases Nat.lt_or_ge r c.rows.length with z | z
  · rw [CodeM.row_lt z]
    have := (wf.rb _ (List.getElem_mem z)).2.2
    omega
  · rw [CodeM.row_ge z]
    have : c.d * (r - c.rows.length) ≤ 3 * 16000 := Nat.mul_le_mul h2 (by omega)
    dsimp only
    omega
theorem head_bd {c : CodeM} (wf : Wf c) {r : Nat} (h : r ≤ c.rows.length + 16000) : (c.head r).length ≤ 64004 := by
  have h1 := wf.au
  have h2 := wf.sl
  unfold CodeM.head
  rcases Nat.lt_or_ge r c.rows.length with z | z
  · rw [CodeM.row_lt z]
    have := (wf.rb _ (List.getElem_mem z)).2.1
    omega
  · rw [CodeM.row_ge z]
    have := mul_le4 (show r - c.rows.length ≤ 16000 by omega) h1
    rw [List.length_append, rep_len]
    omega
abbrev sp_bits_of (K : PySem.W.Frag) (B : Adr) : Sp := spA2 K (fun (c : CodeM) (n : Nat) => [codeD B.Code c, D.int (n : Nat)]) (fun c n => Wf c ∧ NOk c n) (fun c n => .ok (.str (bs (c.bits n))))
theorem ok_bits_of (T : Txt K mg B) : Ok P w K mg base CX0 5 "bits_of" ["code", "n"] (sp_bits_of K B) := by
  refine T.d_bits_of.ok sc_bits_of (spA_len fun _ => rfl) (fun f cdv A outer s H vs Q E hr h => ⟨_, (pss_cons (ps_set (i := 2) sc_bits_of.nd rfl (Or.inl rfl) (pe_callH (ok_row_with T) (hr.mono (by first | decide | omega)) rfl pass0 (pa_cons (pv 0) (pa_cons (pv 1) pa_nil))))
    (pss_cons (ps_asg (pe_callH (ok_row_at T) (hr.mono (by first | decide | omega)) rfl pass0 (pa_cons (pv 0) (pa_cons (pv 2) pa_nil))) (k_tup (n := 2) K rfl rfl (pgs_cons (pg_name (i := 3) sc_bits_of.nd rfl (Or.inl rfl)) (pgs_cons (pg_name (i := 4) sc_bits_of.nd rfl (Or.inl rfl)) pgs_nil))))
    (pss_one (ps_ret (pe_op (k_add K rfl) (pv 3) (pe_callH (ok_places T) (hr.mono (by first | decide | omega)) rfl pass0 (pa_cons (pe_op op_subG (pv 1) (pe_callH (ok_first_number T) (hr.mono (by first | decide | omega)) rfl pass0 (pa_cons (pv 0) (pa_cons (pv 2) pa_nil)))) (pa_cons (pv 4) pa_nil)))))))), go_fn h fun a W ha => ?_⟩)
  obtain ⟨c, n⟩ := a
  dsimp only at ha
  obtain ⟨wf, hn1⟩ := ha
  have hrl := wf.rl
  have hrb := row_bd hn1
  have hkb := kk_bd wf hrb
  have hhb := head_bd wf hrb
  have hf := (CodeM.rowOf_ok (c := c) n).1
  walk_at "st0"
  refine st_seq (st_asg (by walk_at "ev") (by walk_at "lt") ?_)
  walk_at "fr"
  refine st_seq (st_asgG (ee_call2 (by walk_at "ea") rfl ⟨wf, by omega⟩ rfl) (by walk_at "un2") ?_)
  walk_at "fr"
  refine st_ret (ee_op (ee_var rfl) (ee_call2 (x := n - c.first (c.rowOf n)) (y := c.kk (c.rowOf n)) (ea_cons (ee_op (ee_var rfl) (ee_call2 (by walk_at "ea") rfl ⟨wf, by omega⟩ rfl) (rb_subN hf)) (ea_cons (ee_var rfl) ea_nil)) rfl (by omega) rfl) (rb_addB ?_)) rfl
  rw [CodeM.plc_len]
  have : (c.row (c.rowOf n)).1 = c.head (c.rowOf n) := rfl
  rw [this]
  omega
abbrev sp_size_of (K : PySem.W.Frag) (B : Adr) : Sp := spA2 K (fun (c : CodeM) (n : Nat) => [codeD B.Code c, D.int (n : Nat)]) (fun c n => Wf c ∧ NOk c n) (fun c n => .ok (.int (c.size n : Nat)))
/-! ### what is looked at -/
mutual
def okD : D → Bool
  | .str s => decide (s.length ≤ 100000)
  | .lst xs => okL xs
  | .tup xs => okL xs
  | .obj _ _ _ => false
  | .ty _ => false
  | .cls _ => false
  | _ => true
def okL : List D → Bool
  | [] => true
  | x :: xs => okD x && okL xs
end
mutual
theorem okD_plain : ∀ {x : D}, okD x = true → plainD x = true
  | .non, _ => rfl
  | .bl _, _ => rfl
  | .int _, _ => rfl
  | .str _, _ => rfl
  | .lst xs, h => okL_plain (xs := xs) h
  | .tup xs, h => okL_plain (xs := xs) h
  | .obj _ _ _, h => nomatch h
  | .ty _, h => nomatch h
  | .cls _, h => nomatch h
theorem okL_plain : ∀ {xs : List D}, okL xs = true → plainL xs = true
  | [], _ => rfl
  | x :: xs, h => by
    unfold okL at h
    unfold plainL
    rw [Bool.and_eq_true] at h ⊢
    exact ⟨okD_plain h.1, okL_plain h.2⟩
end
theorem okL_mem : ∀ {xs : List D}, okL xs = true → ∀ x ∈ xs, okD x = true
  | [], _, _, h => nomatch h
  | x :: xs, h, y, hy => by
    unfold okL at h
    rw [Bool.and_eq_true] at h
    rcases List.mem_cons.mp hy with rfl | hy
    · exact h.1
    · exact okL_mem h.2 y hy
def whD (x : D) (lo hi : Int) : Bool := match x with
  | .int i => decide (lo ≤ i) && decide (i ≤ hi)
  | _ => false
def bitD (x : D) (lo hi : Int) : Bool := match x with
  | .str s => decide (lo ≤ (s.length : Int)) && decide ((s.length : Int) ≤ hi) && s.cps.toList.all fun k => k == 48 || k == 49
  | _ => false
def rwD (x : D) : Bool := match x with
  | .tup [a, b] => bitD a 1 8 && whD b 0 8
  | _ => false
def tlD (x : D) : Bool := match x with
  | .tup [a, b, k, d] => bitD a 1 4 && bitD b 0 4 && whD k 0 8 && whD d 0 3
  | _ => false
def rwsD (x : D) : Bool := match x with
  | .tup xs => decide (xs.length ≤ 6) && xs.all rwD
  | _ => false
theorem str_bits {s : Str} (h : (s.cps.toList.all fun k => k == 48 || k == 49) = true) : ∃ l, s = bs l := by
  refine ⟨s.cps.toList.map (· == 49), str_ext ?_⟩
  rw [bs_cps, List.map_map]
  have : ∀ x ∈ s.cps.toList, (sg ∘ fun k => k == 49) x = x := fun x hx => by
    have := List.all_eq_true.mp h x hx
    rcases Bool.or_eq_true _ _ |>.mp this with q | q
    · rw [beq_iff_eq.mp q]; rfl
    · rw [beq_iff_eq.mp q]; rfl
  rw [List.map_congr_left this, List.map_id']
theorem bits_str (l : List Bool) : ((bs l).cps.toList.all fun k => k == 48 || k == 49) = true := by
  rw [bs_cps, List.all_map]
  exact List.all_eq_true.mpr fun b _ => by cases b <;> rfl
theorem bitD_of {x : D} {lo hi : Nat} (h : bitD x lo hi = true) : ∃ l : List Bool, x = .str (bs l) ∧ lo ≤ l.length ∧ l.length ≤ hi := by
  cases x with
  | str s =>
    unfold bitD at h
    rw [Bool.and_eq_true, Bool.and_eq_true] at h
    obtain ⟨⟨h1, h2⟩, h3⟩ := h
    obtain ⟨l, rfl⟩ := str_bits h3
    rw [bs_len] at h1 h2
    have h1 := of_decide_eq_true h1
    have h2 := of_decide_eq_true h2
    exact ⟨l, rfl, by omega, by omega⟩
  | _ => cases h
theorem bitD_bs {l : List Bool} {lo hi : Nat} (h1 : lo ≤ l.length) (h2 : l.length ≤ hi) : bitD (.str (bs l)) lo hi = true := by
  unfold bitD
  dsimp only
  rw [bits_str, bs_len, decide_eq_true (by omega), decide_eq_true (by omega)]; rfl
theorem whD_of {x : D} {hi : Nat} (h : whD x 0 hi = true) : ∃ n : Nat, x = .int (n : Nat) ∧ n ≤ hi := by
  cases x with
  | int i =>
    unfold whD at h
    rw [Bool.and_eq_true] at h
    have h1 := of_decide_eq_true h.1
    have h2 := of_decide_eq_true h.2
    exact ⟨i.toNat, by congr 1; omega, by omega⟩
  | _ => cases h
theorem whD_nat {n hi : Nat} (h : n ≤ hi) : whD (.int (n : Nat)) 0 hi = true := by
  unfold whD
  dsimp only
  rw [decide_eq_true (by omega), decide_eq_true (by omega)]; rfl
theorem rwD_len {xs : List D} (h : xs.length ≠ 2) : rwD (.tup xs) = false := by
  unfold rwD; split
  · rename_i e; cases e; simp at h
  · rfl
theorem tlD_len {xs : List D} (h : xs.length ≠ 4) : tlD (.tup xs) = false := by
  unfold tlD; split
  · rename_i e; cases e; simp at h
  · rfl
theorem rwD_of {x : D} (h : rwD x = true) : ∃ r : List Bool × Nat, x = rowD r ∧ 1 ≤ r.1.length ∧ r.1.length ≤ 8 ∧ r.2 ≤ 8 := by
  unfold rwD at h
  split at h
  · rw [Bool.and_eq_true] at h
    obtain ⟨l, rfl, h1, h2⟩ := bitD_of (lo := 1) (hi := 8) h.1
    obtain ⟨n, rfl, h3⟩ := whD_of (hi := 8) h.2
    exact ⟨(l, n), rfl, h1, h2, h3⟩
  · cases h
theorem rwD_row {r : List Bool × Nat} (h : 1 ≤ r.1.length ∧ r.1.length ≤ 8 ∧ r.2 ≤ 8) : rwD (rowD r) = true := by
  unfold rwD rowD
  dsimp only
  rw [show bitD (.str (bs r.1)) 1 8 = true from bitD_bs (lo := 1) (hi := 8) h.1 h.2.1, show whD (.int (r.2 : Nat)) 0 8 = true from whD_nat (hi := 8) h.2.2]; rfl
theorem rows_of : ∀ {xs : List D}, xs.all rwD = true → ∃ rs : List (List Bool × Nat), xs = rs.map rowD ∧ ∀ r ∈ rs, 1 ≤ r.1.length ∧ r.1.length ≤ 8 ∧ r.2 ≤ 8
  | [], _ => ⟨[], rfl, fun _ z => nomatch z⟩
  | x :: xs, h => by
    rw [List.all_cons, Bool.and_eq_true] at h
    obtain ⟨r, rfl, h1⟩ := rwD_of h.1
    obtain ⟨rs, rfl, h2⟩ := rows_of h.2
    exact ⟨r :: rs, rfl, fun q hq => by
      rcases List.mem_cons.mp hq with rfl | z
      · exact h1
      · exact h2 q z⟩
/-- what passes is a code -/
theorem code_of {x y : D} (h1 : rwsD x = true) (h2 : tlD y = true) : ∃ c, Wf c ∧ x = rowsD c ∧ y = tailD c := by
  unfold rwsD at h1
  split at h1
  · rw [Bool.and_eq_true] at h1
    obtain ⟨rs, rfl, hr⟩ := rows_of h1.2
    have hl := of_decide_eq_true h1.1
    rw [List.length_map] at hl
    unfold tlD at h2
    split at h2
    · rw [Bool.and_eq_true, Bool.and_eq_true, Bool.and_eq_true] at h2
      obtain ⟨a, rfl, a1, a2⟩ := bitD_of (lo := 1) (hi := 4) h2.1.1.1
      obtain ⟨b, rfl, b1, b2⟩ := bitD_of (lo := 0) (hi := 4) h2.1.1.2
      obtain ⟨k, rfl, k1⟩ := whD_of (hi := 8) h2.1.2
      obtain ⟨d, rfl, d1⟩ := whD_of (hi := 3) h2.2
      exact ⟨⟨rs, a, b, k, d⟩, ⟨hl, hr, a1, a2, b2, k1, d1⟩, rfl, rfl⟩
    · cases h2
  · cases h1
theorem code_rws {c : CodeM} (h : Wf c) : rwsD (rowsD c) = true := by
  unfold rwsD rowsD
  dsimp only
  rw [List.length_map, decide_eq_true h.rl, List.all_map]
  exact List.all_eq_true.mpr fun r hr => rwD_row (h.rb r hr)
theorem code_tl {c : CodeM} (h : Wf c) : tlD (tailD c) = true := by
  unfold tlD tailD
  dsimp only
  rw [show bitD (.str (bs c.again)) 1 4 = true from bitD_bs (lo := 1) (hi := 4) h.al h.au, show bitD (.str (bs c.stop)) 0 4 = true from bitD_bs (lo := 0) (hi := 4) (Nat.zero_le _) h.sl, show whD (.int (c.k : Nat)) 0 8 = true from whD_nat (hi := 8) h.kl, show whD (.int (c.d : Nat)) 0 3 = true from whD_nat (hi := 3) h.dl]; rfl
theorem rowsD_inj {a b : List (List Bool × Nat)} (h : a.map rowD = b.map rowD) : a = b := by
  induction a generalizing b with
  | nil => cases b with
    | nil => rfl
    | cons => cases h
  | cons x a ih => cases b with
    | nil => cases h
    | cons y b =>
      simp only [List.map_cons, List.cons.injEq, D.tup.injEq, D.str.injEq, D.int.injEq, and_true] at h
      obtain ⟨⟨h1, h2⟩, h3⟩ := h
      rw [ih h3, Prod.ext (bs_inj h1) (by omega : x.2 = y.2)]
theorem codeM_inj {a b : CodeM} (h1 : rowsD a = rowsD b) (h2 : tailD a = tailD b) : a = b := by
  have h3 := rowsD_inj (D.tup.inj h1)
  simp only [D.tup.injEq, List.cons.injEq, D.str.injEq, D.int.injEq, and_true] at h2
  obtain ⟨e1, e2, e3, e4⟩ := h2
  cases a; cases b
  dsimp only at *
  rw [h3, bs_inj e1, bs_inj e2, Int.natCast_inj.mp e3, Int.natCast_inj.mp e4]
abbrev sp_is_whole (K : PySem.W.Frag) (B : Adr) : Sp := spA3 K (fun (x : D) (lo hi : Int) => [x, .int lo, .int hi]) (fun x lo hi => okD x = true) (fun x lo hi => .ok (.bl (whD x lo hi)))
theorem ok_is_whole (T : Txt K mg B) : Ok P w K mg base CX0 1 "is_whole" ["thing", "least", "most"] (sp_is_whole K B) := by
  refine T.d_is_whole.ok sc_is_whole (spA_len fun _ => rfl) (fun f cdv A outer s H vs Q E hr h => ⟨_, (pss_one (ps_ret (pe_and (pe_callB (k_isi K rfl) (by rfl) T.n_isinstance (by decide +kernel) (pa_cons (pv 0) (pa_cons (pe_bltn (v := .ty "int") (u := .type "int") rfl T.n_int (by decide +kernel) rfl) pa_nil))) (pe_and (pe_not (pe_callB (k_isi K rfl) (by rfl) T.n_isinstance (by decide +kernel) (pa_cons (pv 0) (pa_cons (pe_bltn (v := .ty "bool") (u := .type "bool") rfl T.n_bool (by decide +kernel) rfl) pa_nil)))) (pe_one (pe_chain op_leG op_leG (pv 1) (pv 0) (pv 2))))))), go_fn h fun a W ha => ?_⟩)
  obtain ⟨x, lo, hi⟩ := a
  dsimp only at ha
  have hp := okD_plain ha
  walk_at "st0"
  have i1 : ∀ {W E} {ds : Fm}, ds[0]? = some (.v x) → Ee ⟨K, none, E, W, fun _ => False⟩ (tCB (rIsi K) (tCons (tVar 0) (tCons (tC (V.ty "int")) tNil))) ds (.bl (isInt x)) := fun h => ee_cb (ea_cons (ee_var h) (ea_cons ee_ty ea_nil)) (rc_isInt hp)
  have i2 : ∀ {W E} {ds : Fm}, ds[0]? = some (.v x) → Ee ⟨K, none, E, W, fun _ => False⟩ (tCB (rIsi K) (tCons (tVar 0) (tCons (tC (V.ty "bool")) tNil))) ds (.bl (isBool x)) := fun h => ee_cb (ea_cons (ee_var h) (ea_cons ee_ty ea_nil)) (rc_isBool hp)
  refine st_ret (d := .bl (whD x lo hi)) ?_ rfl
  cases x with
  | int i => exact ee_and2 (i1 rfl) (ee_and2 (ee_notV (i2 rfl)) (et_chain (ee_var rfl) (ee_var rfl) rb_le (fun _ => ee_var rfl) (fun _ => rb_le)))
  | bl b => exact ee_and2 (i1 rfl) (ee_and0 (ee_notV (i2 rfl)))
  | non => exact ee_and0 (i1 rfl)
  | str s => exact ee_and0 (i1 rfl)
  | lst xs => exact ee_and0 (i1 rfl)
  | tup xs => exact ee_and0 (i1 rfl)
  | obj _ _ _ => cases ha
  | ty _ => cases ha
  | cls _ => cases ha
abbrev sp_are_bits (K : PySem.W.Frag) (B : Adr) : Sp := spA3 K (fun (x : D) (lo hi : Int) => [x, .int lo, .int hi]) (fun x lo hi => okD x = true) (fun x lo hi => .ok (.bl (bitD x lo hi)))
theorem ok_are_bits (T : Txt K mg B) : Ok P w K mg base CX0 1 "are_bits" ["thing", "least", "most"] (sp_are_bits K B) := by
  refine T.d_are_bits.ok sc_are_bits (spA_len fun _ => rfl) (fun f cdv A outer s H vs Q E hr h => ⟨_, (pss_cons (ps_if (PW.pt (pw_or (pt_not (k_tru K rfl (pe_callB (k_isi K rfl) (by rfl) T.n_isinstance (by decide +kernel) (pa_cons (pv 0) (pa_cons (pe_bltn (v := .ty "str") (u := .type "str") rfl T.n_str (by decide +kernel) rfl) pa_nil))))) (pw_or1 (pt_not (pt_chain op_leG op_leG (pv 1) (pe_callB (k_len K rfl) (by rfl) T.n_len (by decide +kernel) (pa_cons (pv 0) pa_nil)) (pv 2)))))) (pss_one (ps_ret pe_bl)) pss_nil)
    (pss_one (ps_ret (pe_callB (k_all K rfl rfl) (by rfl) T.n_all (by decide +kernel) (pa_cons (pe_lc (own := [("sign", 3)]) rfl sc_are_bits.nd (pi_str (pv 0)) (blkOk_by (own := [("sign", 3)]) (N := nm_are_bits) (sc := defScope s_are_bits) (by decide +kernel)) (fun _ _ _ _ _ => (pg_name (i := 3) sc_are_bits.nd rfl (Or.inl rfl))) (fun _ _ _ _ _ => pts_nil) (fun _ _ _ _ _ => (pe_cmpR (k_in K rfl) (pv 3) (pe_glob (v := .ref B.BITS) rfl T.c_BITS rfl) (by rfl)))) pa_nil))))), go_fn h fun a W ha => ?_⟩)
  obtain ⟨x, lo, hi⟩ := a
  dsimp only at ha
  have hp := okD_plain ha
  walk_at "st0"
  have i1 : ∀ {W E} {ds : Fm}, ds[0]? = some (.v x) → Et ⟨K, none, E, W, fun _ => False⟩ (tNot (tTruG K (tCB (rIsi K) (tCons (tVar 0) (tCons (tC (V.ty "str")) tNil))))) ds (!isStr x) := fun h => et_not (et_tb (ee_cb (ea_cons (ee_var h) (ea_cons ee_ty ea_nil)) (rc_isStr hp)))
  have no : isStr x = false → ∀ {W E}, St ⟨K, none, E, W, fun _ => False⟩ (tSeq
      (tIfS
        (tOr (tNot (tTruG K (tCB (rIsi K) (tCons (tVar 0) (tCons (tC (V.ty "str")) tNil)))))
          (tNot (tTest (tChain rLeG rLeG (tVar 1) (tCB (rLenG K) (tCons (tVar 0) tNil)) (tVar 2)))))
        (tRet (tC (V.bl false))) tNext)
      (tRet
        (tCB (rAll K)
          (tCons (tLc (iStr (tVar 0)) (gName 3) tYes (tOp (rInG K) (tVar 3) (tC (V.ref B.BITS))) [3]) tNil))))
    { nx := fun x_1 => Res.ok (D.bl false) = Res.ok D.non,
      rt := fun d => Res.ok (D.bl false) = Res.ok d,
      er := fun C o => Res.ok (D.bl false) = Res.err C o }
    [Sl.v x, Sl.v (D.int lo), Sl.v (D.int hi), Sl.no] := fun h => st_seq (st_if (et_or1 (et_is (i1 rfl) (by rw [h]; rfl))) (fun _ => st_ret ee_bl rfl) (fun z => nomatch z))
  cases x with
  | str s =>
    have hs : s.length ≤ 100000 := of_decide_eq_true ha
    refine st_seq (st_if (et_or2 (i1 rfl) (et_not (et_test (et_chain (ee_var rfl) (ee_cb (by walk_at "ea") (rc_lenS (by omega))) rb_le (fun _ => ee_var rfl) (fun _ => rb_le))))) (fun hb => ?_) (fun hb => ?_))
    · refine st_ret ee_bl ?_
      have hb : (decide (lo ≤ (s.length : Int)) && decide ((s.length : Int) ≤ hi)) = false := by
        cases h : (decide (lo ≤ (s.length : Int)) && decide ((s.length : Int) ≤ hi)) with
        | false => rfl
        | true => rw [h] at hb; cases hb
      show Res.ok (D.bl (_ && _)) = _
      rw [hb]; rfl
    · have hb : (decide (lo ≤ (s.length : Int)) && decide ((s.length : Int) ≤ hi)) = true := by simpa using hb
      refine st_next (st_ret (ee_cb (ea_cons (ee_lcA (ys := s.cps.toList) (gD := fun k => D.str ⟨#[k]⟩) (js := [3]) (ei_str (ee_var rfl)) (fun k => .bl (k == 48 || k == 49)) (by rw [Array.length_toList]; exact Nat.le_trans hs (by decide)) (by decide) (fun i k hk => ?_)) ea_nil) rc_allF) ?_)
      · refine ⟨_, eg_name (by walk_at "lt"), ?_⟩
        have := ee_op (c := ⟨K, none, E, W, fun _ => False⟩) (ds := (wipeD [Sl.v (D.str s), Sl.v (D.int lo), Sl.v (D.int hi), Sl.no] [3]).set 3 (.v (.str ⟨#[k]⟩))) (ta := tVar 3) (tb := tC (V.ref B.BITS)) (ee_var rfl) (ee_kt T.k_BITS) (rb_inS (ys := ["0", "1"]))
        rw [sign_in] at this
        exact this
      · show Res.ok (D.bl (_ && _)) = _
        rw [hb]; rfl
  | int i => exact no rfl
  | bl b => exact no rfl
  | non => exact no rfl
  | lst xs => exact no rfl
  | tup xs => exact no rfl
  | obj _ _ _ => cases ha
  | ty _ => cases ha
  | cls _ => cases ha
abbrev sp_is_row (K : PySem.W.Frag) (B : Adr) : Sp := spA K (fun (x : D) => [x]) (fun x => okD x = true) (fun x => .ok (.bl (rwD x)))
theorem ok_is_row (T : Txt K mg B) : Ok P w K mg base CX0 2 "is_row" ["thing"] (sp_is_row K B) := by
  refine T.d_is_row.ok sc_is_row (spA_len fun _ => rfl) (fun f cdv A outer s H vs Q E hr h => ⟨_, (pss_cons (ps_if (PW.pt (pw_or (pt_not (k_tru K rfl (pe_callB (k_isi K rfl) (by rfl) T.n_isinstance (by decide +kernel) (pa_cons (pv 0) (pa_cons (pe_bltn (v := .ty "tuple") (u := .type "tuple") rfl T.n_tuple (by decide +kernel) rfl) pa_nil))))) (pw_or1 (pt_cmpR (k_ne K rfl hr.units) (pe_callB (k_len K rfl) (by rfl) T.n_len (by decide +kernel) (pa_cons (pv 0) pa_nil)) pe_int (nomark _))))) (pss_one (ps_ret pe_bl)) pss_nil)
    (pss_one (ps_ret (pe_and (pe_callH (ok_are_bits T) (hr.mono (by first | decide | omega)) rfl pass0 (pa_cons (pe_ix (k_ix K rfl) (pv 0) pe_int (fun _ _ => rfl)) (pa_cons pe_int (pa_cons pe_int pa_nil)))) (pe_one (pe_callH (ok_is_whole T) (hr.mono (by first | decide | omega)) rfl pass0 (pa_cons (pe_ix (k_ix K rfl) (pv 0) pe_int (fun _ _ => rfl)) (pa_cons pe_int (pa_cons pe_int pa_nil))))))))), go_fn h fun a W ha => ?_⟩)
  have hp := okD_plain ha
  walk_at "st0"
  have i1 : ∀ {W E} {ds : Fm}, ds[0]? = some (.v a) → Et ⟨K, none, E, W, fun _ => False⟩ (tNot (tTruG K (tCB (rIsi K) (tCons (tVar 0) (tCons (tC (V.ty "tuple")) tNil))))) ds (!Dl.isTup a) := fun h => et_not (et_tb (ee_cb (ea_cons (ee_var h) (ea_cons ee_ty ea_nil)) (rc_isTup hp)))
  cases a with
  | tup xs =>
    have hm := okL_mem (show okL xs = true from ha)
    refine st_seq (st_if (et_or2 (i1 rfl) (et_test (ee_op (ee_cb (by walk_at "ea") rc_lenT) ee_int (rb_neN (b := 2))))) (fun hb => ?_) (fun hb => ?_))
    · refine st_ret ee_bl ?_
      rw [rwD_len (by simpa using hb)]
    · have hl : xs.length = 2 := by simpa using hb
      obtain ⟨x, y, rfl⟩ : ∃ x y, xs = [x, y] := by
        match xs, hl with
        | [x, y], _ => exact ⟨x, y, rfl⟩
      refine st_next (st_ret (ee_andV (ee_call3 (x := x) (y := 1) (z := 8) (ea_cons (ee_op (ee_var rfl) ee_int (rb_ixT rfl)) (by walk_at "ea")) rfl (hm x (by simp)) rfl) (fun _ => ee_call3 (x := y) (y := 0) (z := 8) (ea_cons (ee_op (ee_var rfl) ee_int (rb_ixT rfl)) (by walk_at "ea")) rfl (hm y (by simp)) rfl)) rfl)
  | int i => exact st_seq (st_if (et_or1 (i1 rfl)) (fun _ => st_ret ee_bl rfl) (fun z => nomatch z))
  | bl b => exact st_seq (st_if (et_or1 (i1 rfl)) (fun _ => st_ret ee_bl rfl) (fun z => nomatch z))
  | non => exact st_seq (st_if (et_or1 (i1 rfl)) (fun _ => st_ret ee_bl rfl) (fun z => nomatch z))
  | lst xs => exact st_seq (st_if (et_or1 (i1 rfl)) (fun _ => st_ret ee_bl rfl) (fun z => nomatch z))
  | str s => exact st_seq (st_if (et_or1 (i1 rfl)) (fun _ => st_ret ee_bl rfl) (fun z => nomatch z))
  | obj _ _ _ => cases ha
  | ty _ => cases ha
  | cls _ => cases ha
abbrev sp_is_tail (K : PySem.W.Frag) (B : Adr) : Sp := spA K (fun (x : D) => [x]) (fun x => okD x = true) (fun x => .ok (.bl (tlD x)))
theorem ok_is_tail (T : Txt K mg B) : Ok P w K mg base CX0 2 "is_tail" ["thing"] (sp_is_tail K B) := by
  refine T.d_is_tail.ok sc_is_tail (spA_len fun _ => rfl) (fun f cdv A outer s H vs Q E hr h => ⟨_, (pss_cons (ps_if (PW.pt (pw_or (pt_not (k_tru K rfl (pe_callB (k_isi K rfl) (by rfl) T.n_isinstance (by decide +kernel) (pa_cons (pv 0) (pa_cons (pe_bltn (v := .ty "tuple") (u := .type "tuple") rfl T.n_tuple (by decide +kernel) rfl) pa_nil))))) (pw_or (pt_cmpR (k_ne K rfl hr.units) (pe_callB (k_len K rfl) (by rfl) T.n_len (by decide +kernel) (pa_cons (pv 0) pa_nil)) pe_int (nomark _)) (pw_or (pt_not (k_tru K rfl (pe_callH (ok_are_bits T) (hr.mono (by first | decide | omega)) rfl pass0 (pa_cons (pe_ix (k_ix K rfl) (pv 0) pe_int (fun _ _ => rfl)) (pa_cons pe_int (pa_cons pe_int pa_nil)))))) (pw_or1 (pt_not (k_tru K rfl (pe_callH (ok_are_bits T) (hr.mono (by first | decide | omega)) rfl pass0 (pa_cons (pe_ix (k_ix K rfl) (pv 0) pe_int (fun _ _ => rfl)) (pa_cons pe_int (pa_cons pe_int pa_nil))))))))))) (pss_one (ps_ret pe_bl)) pss_nil)
    (pss_one (ps_ret (pe_and (pe_callH (ok_is_whole T) (hr.mono (by first | decide | omega)) rfl pass0 (pa_cons (pe_ix (k_ix K rfl) (pv 0) pe_int (fun _ _ => rfl)) (pa_cons pe_int (pa_cons pe_int pa_nil)))) (pe_one (pe_callH (ok_is_whole T) (hr.mono (by first | decide | omega)) rfl pass0 (pa_cons (pe_ix (k_ix K rfl) (pv 0) pe_int (fun _ _ => rfl)) (pa_cons pe_int (pa_cons pe_int pa_nil))))))))), go_fn h fun a W ha => ?_⟩)
  have hp := okD_plain ha
  walk_at "st0"
  have i1 : ∀ {W E} {ds : Fm}, ds[0]? = some (.v a) → Et ⟨K, none, E, W, fun _ => False⟩ (tNot (tTruG K (tCB (rIsi K) (tCons (tVar 0) (tCons (tC (V.ty "tuple")) tNil))))) ds (!Dl.isTup a) := fun h => et_not (et_tb (ee_cb (ea_cons (ee_var h) (ea_cons ee_ty ea_nil)) (rc_isTup hp)))
  cases a with
  | tup xs =>
    have hm := okL_mem (show okL xs = true from ha)
    by_cases hl : xs.length = 4
    · obtain ⟨x, y, z, w, rfl⟩ : ∃ x y z w, xs = [x, y, z, w] := by
        match xs, hl with
        | [x, y, z, w], _ => exact ⟨x, y, z, w, rfl⟩
      refine st_seq (st_if (et_or2 (i1 rfl) (et_or2 (et_is (et_test (ee_op (ee_cb (by walk_at "ea") rc_lenT) ee_int (rb_neN (b := 4)))) rfl) (et_or (et_not (et_tb (ee_call3 (x := x) (y := 1) (z := 4) (ea_cons (ee_op (ee_var rfl) ee_int (rb_ixT rfl)) (by walk_at "ea")) rfl (hm x (by simp)) rfl))) (fun _ => et_not (et_tb (ee_call3 (x := y) (y := 0) (z := 4) (ea_cons (ee_op (ee_var rfl) ee_int (rb_ixT rfl)) (by walk_at "ea")) rfl (hm y (by simp)) rfl)))))) (fun hb => ?_) (fun hb => ?_))
      · refine st_ret ee_bl ?_
        show Res.ok (D.bl (bitD x 1 4 && bitD y 0 4 && whD z 0 8 && whD w 0 3)) = _
        have : (bitD x 1 4 && bitD y 0 4) = false := by
          cases h1 : bitD x 1 4 <;> cases h2 : bitD y 0 4 <;> simp [h1, h2] at hb ⊢
        rw [this]; rfl
      · refine st_next (st_ret (ee_andV (ee_call3 (x := z) (y := 0) (z := 8) (ea_cons (ee_op (ee_var rfl) ee_int (rb_ixT rfl)) (by walk_at "ea")) rfl (hm z (by simp)) rfl) (fun _ => ee_call3 (x := w) (y := 0) (z := 3) (ea_cons (ee_op (ee_var rfl) ee_int (rb_ixT rfl)) (by walk_at "ea")) rfl (hm w (by simp)) rfl)) ?_)
        show Res.ok (D.bl (bitD x 1 4 && bitD y 0 4 && whD z 0 8 && whD w 0 3)) = _
        have : (bitD x 1 4 && bitD y 0 4) = true := by
          cases h1 : bitD x 1 4 <;> cases h2 : bitD y 0 4 <;> simp [h1, h2] at hb ⊢
        rw [this]; rfl
    · refine st_seq (st_if (et_or2 (i1 rfl) (et_or1 (et_is (et_test (ee_op (ee_cb (by walk_at "ea") rc_lenT) ee_int (rb_neN (b := 4)))) (by simpa using hl)))) (fun hb => ?_) (fun z => nomatch z))
      refine st_ret ee_bl ?_
      rw [tlD_len hl]
  | int i => exact st_seq (st_if (et_or1 (i1 rfl)) (fun _ => st_ret ee_bl rfl) (fun z => nomatch z))
  | bl b => exact st_seq (st_if (et_or1 (i1 rfl)) (fun _ => st_ret ee_bl rfl) (fun z => nomatch z))
  | non => exact st_seq (st_if (et_or1 (i1 rfl)) (fun _ => st_ret ee_bl rfl) (fun z => nomatch z))
  | lst xs => exact st_seq (st_if (et_or1 (i1 rfl)) (fun _ => st_ret ee_bl rfl) (fun z => nomatch z))
  | str s => exact st_seq (st_if (et_or1 (i1 rfl)) (fun _ => st_ret ee_bl rfl) (fun z => nomatch z))
  | obj _ _ _ => cases ha
  | ty _ => cases ha
  | cls _ => cases ha
open Classical in
noncomputable def mkC (B : Adr) (p : D × D) : Mkr := if h : ∃ c, Wf c ∧ p.1 = rowsD c ∧ p.2 = tailD c then .ok ["rows", "tail", "begin"] [p.1, p.2, .int ((choose h).beg : Nat)] else .err B.BadCode
theorem mkC_ok {B : Adr} {c : CodeM} (h : Wf c) : mkC B (rowsD c, tailD c) = .ok ["rows", "tail", "begin"] [rowsD c, tailD c, .int (c.beg : Nat)] := by
  have hx : ∃ c', Wf c' ∧ (rowsD c, tailD c).1 = rowsD c' ∧ (rowsD c, tailD c).2 = tailD c' := ⟨c, h, rfl, rfl⟩
  have e := Classical.choose_spec hx
  have e2 : c = Classical.choose hx := codeM_inj e.2.1 e.2.2
  unfold mkC
  rw [dif_pos hx]
  dsimp only
  rw [← e2]
theorem mkC_no {B : Adr} {x y : D} (h : (rwsD x && tlD y) = false) : mkC B (x, y) = .err B.BadCode := by
  unfold mkC
  rw [dif_neg]
  rintro ⟨c, wf, h1, h2⟩
  dsimp only at h1 h2
  rw [h1, h2, code_rws wf, code_tl wf] at h
  cases h
abbrev sp_Code_init (K : PySem.W.Frag) (B : Adr) : Sp := spI K B.Code (fun p : D × D => [p.1, p.2]) (fun p => okD p.1 = true ∧ okD p.2 = true) (mkC B)
theorem ok_Code_init (T : Txt K mg B) : OkI P w K mg base (L2.CX P w) 3 B.Code ["self", "rows", "tail"] (sp_Code_init K B) := by
  refine T.d_Code_init.okX sc_Code_init ?len (fun f cdv A outer s H vs Q E hr h => ⟨_, (pss_cons (ps_if (PW.pt (pw_or (pt_not (k_tru K rfl (pe_callB (k_isi K rfl) (by rfl) T.n_isinstance (by decide +kernel) (pa_cons (pv 1) (pa_cons (pe_bltn (v := .ty "tuple") (u := .type "tuple") rfl T.n_tuple (by decide +kernel) rfl) pa_nil))))) (pw_or (pt_cmpR op_gtG (pe_callB (k_len K rfl) (by rfl) T.n_len (by decide +kernel) (pa_cons (pv 1) pa_nil)) (pe_glob (v := .int 6) rfl T.c_MOST_ROWS.choose_spec ⟨_, rfl⟩) (nomark _)) (pw_or1 (pt_not (k_tru K rfl (pe_callB (k_all K rfl rfl) (by rfl) T.n_all (by decide +kernel) (pa_cons (pe_lc (own := [("row", 3)]) rfl sc_Code_init.nd (k_itup K rfl (pv 1)) (blkOk_by (own := [("row", 3)]) (N := nm_Code_init) (sc := defScope s_Code_init) (by decide +kernel)) (fun _ _ _ _ _ => (pg_name (i := 3) sc_Code_init.nd rfl (Or.inl rfl))) (fun _ _ _ _ _ => pts_nil) (fun _ _ _ _ _ => (pe_callH (ok_is_row T) (hr.mono (by first | decide | omega)) rfl pass0 (pa_cons (pv 3) pa_nil)))) pa_nil)))))))) (pss_one (ps_raise0 rfl (takes_of rfl rfl rfl rfl) T.e_BadCode rfl)) pss_nil)
    (pss_cons (ps_if (pt_not (k_tru K rfl (pe_callH (ok_is_tail T) (hr.mono (by first | decide | omega)) rfl pass0 (pa_cons (pv 2) pa_nil)))) (pss_one (ps_raise0 rfl (takes_of rfl rfl rfl rfl) T.e_BadCode rfl)) pss_nil)
    (pss_cons (k_sfld K rfl (pv 0) (pv 1) rfl)
    (pss_cons (k_sfld K rfl (pv 0) (pv 2) rfl)
    (pss_one (k_sfld K rfl (pv 0) (pe_callB (k_sum K rfl rfl) (by rfl) T.n_sum (by decide +kernel) (pa_cons (pe_lc (own := [("row", 3)]) rfl sc_Code_init.nd (k_itup K rfl (pv 1)) (blkOk_by (own := [("row", 3)]) (N := nm_Code_init) (sc := defScope s_Code_init) (by decide +kernel)) (fun _ _ _ _ _ => (pg_name (i := 3) sc_Code_init.nd rfl (Or.inl rfl))) (fun _ _ _ _ _ => pts_nil) (fun _ _ _ _ _ => (pe_callH (ok_power T) (hr.mono (by first | decide | omega)) rfl pass0 (pa_cons (pe_ix (k_ix K rfl) (pv 3) pe_int (fun _ _ => rfl)) pa_nil)))) pa_nil)) rfl)))))), ?_⟩)
  case len => exact spI_len fun _ => rfl
  refine go_init h (fun a W M p dx ha => ?_) (by decide)
  obtain ⟨x, y⟩ := a
  dsimp only at ha
  obtain ⟨hx, hy⟩ := ha
  have hp := okD_plain hx
  walk_at "st0"
  have i1 : ∀ {W E} {ds : Fm}, ds[1]? = some (.v x) → Et ⟨K, none, E, W, M⟩ (tNot (tTruG K (tCB (rIsi K) (tCons (tVar 1) (tCons (tC (V.ty "tuple")) tNil))))) ds (!Dl.isTup x) := fun h => et_not (et_tb (ee_cb (ea_cons (ee_var h) (ea_cons ee_ty ea_nil)) (rc_isTup hp)))
  have t1 : Et ⟨K, none, E, W, M⟩ (tOr (tNot (tTruG K (tCB (rIsi K) (tCons (tVar 1) (tCons (tC (V.ty "tuple")) tNil)))))
          (tOr (tTest (tOp rGtG (tCB (rLenG K) (tCons (tVar 1) tNil)) (tC (V.int 6))))
            (tNot
              (tTruG K
                (tCB (rAll K)
                  (tCons (tLc (iTup K (tVar 1)) (gName 3) tYes (tCall (sp_is_row K B) [] E0 (tCons (tVar 3) tNil)) [3])
                    tNil)))))) [Sl.self p dx B.Code [] [], Sl.v x, Sl.v y, Sl.no] (!rwsD x) := by
    cases x with
    | tup xs =>
      have hm := okL_mem (show okL xs = true from hx)
      by_cases hl : xs.length ≤ 6
      · refine et_or2 (i1 rfl) (et_is (et_or2 (et_is (et_test (ee_op (ee_cb (by walk_at "ea") rc_lenT) ee_int (rb_gtN (b := 6)))) (by simpa using hl)) (et_not (et_tb (ee_cb (ea_cons (ee_lcM (f := fun d => .bl (rwD d)) (js := [3]) (ei_tup (ee_var rfl)) (by omega) (by decide) (fun i d hd => ⟨_, eg_name (by walk_at "lt"), ee_call (a := d) (ea_cons (ee_var rfl) ea_nil) rfl (hm d (List.mem_of_getElem? hd)) rfl⟩)) ea_nil) rc_allF)))) ?_)
        show (!xs.all rwD) = !(decide (xs.length ≤ 6) && xs.all rwD)
        rw [decide_eq_true hl, Bool.true_and]
      · refine et_or2 (i1 rfl) (et_is (et_or1 (et_is (et_test (ee_op (ee_cb (by walk_at "ea") rc_lenT) ee_int (rb_gtN (b := 6)))) (decide_eq_true (by omega)))) ?_)
        show true = !(decide (xs.length ≤ 6) && xs.all rwD)
        rw [decide_eq_false hl]; rfl
    | int i => exact et_or1 (i1 rfl)
    | bl b => exact et_or1 (i1 rfl)
    | non => exact et_or1 (i1 rfl)
    | lst xs => exact et_or1 (i1 rfl)
    | str s => exact et_or1 (i1 rfl)
    | obj _ _ _ => cases hx
    | ty _ => cases hx
    | cls _ => cases hx
  refine st_seq (st_if t1 (fun hb => st_raise0 ⟨_, rfl, rfl, mkC_no (by have h : rwsD x = false := by simpa using hb
                                                                        rw [h]; rfl)⟩) (fun hb => st_next ?_))
  have hb : rwsD x = true := by simpa using hb
  refine st_seq (st_if (et_not (et_tb (ee_call (a := y) (ea_cons (ee_var rfl) ea_nil) rfl hy rfl))) (fun h2 => ?_) (fun h2 => st_next ?_))
  · have h2 : tlD y = false := by simpa using h2
    exact st_raise0 ⟨_, rfl, rfl, mkC_no (by rw [h2, Bool.and_false])⟩
  have h2 : tlD y = true := by simpa using h2
  obtain ⟨c, wf, rfl, rfl⟩ := code_of hb h2
  rw [mkC_ok wf]
  refine st_seq (st_put rfl (ee_var rfl) T.cl_Code T.na_Code_rows (by decide) (by decide) ?_)
  walk_at "fr"
  refine st_seq (st_put rfl (ee_var rfl) T.cl_Code T.na_Code_tail (by decide) (by decide) ?_)
  walk_at "fr"
  refine st_put (d := .int (c.beg : Nat)) rfl (ee_cb (ea_cons (ee_lcA (ys := c.rows) (gD := rowD) (js := [3]) (ei_tup (ee_var rfl)) (fun x => .int ((2 ^ x.2 : Nat) : Int)) (by have := wf.rl; omega) (by decide) (fun i r hr => ?_)) ea_nil) rc_sumN) T.cl_Code T.na_Code_begin (by decide) (by decide) ⟨_, _, rfl, rfl⟩
  have := (wf.rb r (List.mem_of_getElem? hr)).2.2
  exact ⟨_, eg_name (by walk_at "lt"), ee_call (a := r.2) (ea_cons (ee_op (ee_var rfl) ee_int (rb_ixT rfl)) ea_nil) rfl (by omega) rfl⟩
theorem shL_map {α : Type} {f : α → D} {n : Nat} {xs : List α} (h : ∀ x ∈ xs, shD n (f x) = true) : shL n (xs.map f) = true := by
  induction xs with
  | nil => rfl
  | cons x xs ih =>
    rw [List.map_cons]
    unfold shL
    rw [h x List.mem_cons_self, ih fun y hy => h y (List.mem_cons_of_mem _ hy)]; rfl
theorem nbL_map {α : Type} {f : α → D} {xs : List α} (h : ∀ x ∈ xs, nbD (f x) = true) : nbL (xs.map f) = true := by
  induction xs with
  | nil => rfl
  | cons x xs ih =>
    rw [List.map_cons]
    unfold nbL
    rw [h x List.mem_cons_self, ih fun y hy => h y (List.mem_cons_of_mem _ hy)]; rfl
theorem sh_bs {n : Nat} {l : List Bool} : shD n (.str (bs l)) = true := by cases n <;> exact bs_sh l
theorem sh_row {r : List Bool × Nat} : shD 1 (rowD r) = true := by
  show shL 0 _ = true
  unfold shL
  rw [sh_bs]; rfl
theorem sh_code {c : CodeM} : shD 3 (.tup [rowsD c, tailD c]) = true := by
  show shL 2 _ = true
  unfold shL
  have h1 : shD 2 (rowsD c) = true := shL_map fun r _ => sh_row
  have h2 : shL 2 [tailD c] = true := by
    unfold shL
    have : shD 2 (tailD c) = true := by
      show shL 1 _ = true
      unfold shL
      rw [sh_bs]
      unfold shL
      rw [sh_bs]; rfl
    rw [this]; rfl
  rw [h1, h2]; rfl
theorem nb_code {c : CodeM} : nbD (.tup [rowsD c, tailD c]) = true := by
  show nbL _ = true
  unfold nbL
  have h1 : nbD (rowsD c) = true := nbL_map fun r _ => rfl
  rw [h1]; rfl
open Classical in
noncomputable def eqC (C : Addr) (c : CodeM) (y : D) : Bool := decide (y = codeD C c)
theorem code_tup {a b : CodeM} : D.tup [rowsD a, tailD a] = .tup [rowsD b, tailD b] ↔ a = b := by
  constructor
  · intro h
    have h' := D.tup.inj h
    simp only [List.cons.injEq, and_true] at h'
    exact codeM_inj h'.1 h'.2
  · rintro rfl; rfl
theorem codeD_inj {C : Addr} {a b : CodeM} : codeD C b = codeD C a ↔ a = b := by
  constructor
  · intro h
    have h' := (D.obj.inj h).2.2
    simp only [List.cons.injEq] at h'
    exact codeM_inj h'.1.symm h'.2.1.symm
  · rintro rfl; rfl
abbrev sp_Code_eq (K : PySem.W.Frag) (B : Adr) : Sp := spA K (fun p : CodeM × D => [codeD B.Code p.1, p.2]) (fun p => (∃ c2, p.2 = codeD B.Code c2) ∨ ∃ ys, p.2 = .lst ys) (fun p => .ok (.bl (eqC B.Code p.1 p.2)))
abbrev sp_Code_row (K : PySem.W.Frag) (B : Adr) : Sp := sp_row_at K B
abbrev sp_Code_first_of (K : PySem.W.Frag) (B : Adr) : Sp := sp_first_number K B
abbrev sp_Code_row_of (K : PySem.W.Frag) (B : Adr) : Sp := sp_row_with K B
abbrev sp_Code_bits (K : PySem.W.Frag) (B : Adr) : Sp := sp_bits_of K B
abbrev sp_Code_size (K : PySem.W.Frag) (B : Adr) : Sp := sp_size_of K B
--@@part
/-! ### the law's draws -/
abbrev sp_l_begin (K : PySem.W.Frag) (B : Adr) : Sp := fun vs H Q E => ∃ (s : Addr) (ns : List Int), vs = [.ref s] ∧ SqL K H s (ns.map V.int) ∧ ns.length ≤ 63 ∧ ∀ b a H1, H b = none → H a = none → Ex H H1 → DrawsOk H1 b a → Q (.ref b) H1
theorem ok_l_begin (T : Txt K mg B) : Ok P w K mg base CX0 1 "_law_begin" ["_law_script"] (sp_l_begin K B) := by
  refine T.d_l_begin.ok sc_l_begin ?len (fun f cdv A outer s H vs Q E hr h => ⟨_, (pss_one (ps_ret (pe_lst (pa_cons (pe_callTy (k_list K rfl) (by rfl) T.n_list (by decide +kernel) (pa_cons (pv 0) pa_nil)) (pa_cons pe_int (pa_cons pe_int (pa_cons pe_int pa_nil))))))), ?_⟩)
  case len => rintro vs H Q E ⟨s, ns, rfl, _⟩; rfl
  obtain ⟨s, ns, rfl, hs, hz, k⟩ := h
  refine ⟨_, rfl, s, ns.map V.int, rfl, .inl hs, fun a ha => ⟨by show 4 ≤ sizeLine; decide, fun b hb => ?_⟩⟩
  have nab : b ≠ a := fun z => by rw [z, upd_same] at hb; cases hb
  have hb' : H b = none := by rw [upd_ne nab] at hb; exact hb
  refine k b a _ hb' ha ((Ex.new ha).trans (Ex.new hb)) ⟨ns, 0, 0, 7, upd_same, ?_, nab.symm, by decide, by decide, by decide, by decide⟩
  rw [upd_ne nab.symm, upd_same]
structure DI (H0 : Hp) (b a : Addr) (ns : List Int) (i j s : Int) (H : Hp) : Prop where
  hb : H b = some (.lst [.ref a, .int i, .int j, .int s])
  ha : H a = some (.lst (ns.map V.int))
  ne : a ≠ b
  i0 : 0 ≤ i
  j0 : 0 ≤ j
  s0 : 0 ≤ s
  s1 : s < 2147483647
  keep : ∀ x o, x ≠ b → H0 x = some o → H x = some o
  there : ∀ x, H0 x ≠ none → H x ≠ none
section
variable {H0 H H1 : Hp} {b a : Addr} {ns : List Int} {i j s i' j' s' : Int}
theorem DI.go (d : DI H0 b a ns i j s H) (e : Ex H H1) : DI H0 b a ns i j s H1 :=
  ⟨e _ _ d.hb, e _ _ d.ha, d.ne, d.i0, d.j0, d.s0, d.s1, fun x o h q => e _ _ (d.keep x o h q), fun x q => by
    cases z : H x with
    | none => exact absurd z (d.there x q)
    | some o => rw [e _ _ z]; simp⟩
theorem DI.set (d : DI H0 b a ns i j s H) (h1 : 0 ≤ i') (h2 : 0 ≤ j') (h3 : 0 ≤ s') (h4 : s' < 2147483647) : DI H0 b a ns i' j' s' (upd H b (.lst [.ref a, .int i', .int j', .int s'])) :=
  ⟨upd_same, by rw [upd_ne d.ne]; exact d.ha, d.ne, h1, h2, h3, h4, fun x o h q => by rw [upd_ne h]; exact d.keep x o h q, fun x q => by
    by_cases z : x = b
    · subst z; rw [upd_same]; simp
    · rw [upd_ne z]; exact d.there x q⟩
inductive SlI : Option V → Sl → Prop where
  | no (x : Option V) : SlI x .no
  | int (z : Int) : SlI (some (.int z)) (.v (.int z))
abbrev dc (K : PySem.W.Frag) : Ctx := ⟨K, none, E0, fun _ => False, fun _ => False⟩
abbrev dF (ns : List Int) (i j s n : Int) (s2 s3 : Sl) : Fm := [.v (.lst [.lst (ns.map D.int), .int i, .int j, .int s]), .v (.int n), s2, s3]
theorem DI.at {n : Int} {x2 x3 : Option V} {s2 s3 : Sl} (d : DI H0 b a ns i j s H) (h2 : SlI x2 s2) (h3 : SlI x3 s3) : At (dc K) H H [some (.ref b), some (.int n), x2, x3] (dF ns i j s n s2 s3) := by
  refine ⟨Ex.refl _, ⟨rfl, fun k q e => ?_, fun k k' y xs ys _ e1 _ _ => ?_⟩, fun _ _ z => (nomatch z), fun _ z => z.elim⟩
  · match k, e with
    | 0, e => cases e; exact ⟨_, rfl, .lst d.hb (.cons (.lst d.ha (.of_ints ns)) (.cons (.int _) (.cons (.int _) (.cons (.int _) .nil))))⟩
    | 1, e => cases e; exact ⟨_, rfl, .int _⟩
    | 2, e => cases e; cases h2 with
      | no => trivial
      | int z => exact ⟨_, rfl, .int _⟩
    | 3, e => cases e; cases h3 with
      | no => trivial
      | int z => exact ⟨_, rfl, .int _⟩
    | k + 4, e => simp at e
  · match k, e1 with
    | 2, e1 => cases e1; cases h2
    | 3, e1 => cases e1; cases h3
    | k + 4, e1 => simp at e1
/-- values of it, stores into it, tests -/
theorem d_asg {te : TE} {z : D} {ds : Fm} {σ : L2.St} {E : Ends} {m : Nat} {u : TS} (at' : At (dc K) H H σ ds) (h : Ee (dc K) te ds z) (k : ∀ v H1, Ex H H1 → Rep K H1 v z → u E (σ.set m (some v)) H1) : tSeq (tAsg te (gName m)) u E σ H :=
  h H H σ at' _ fun v G1 H1 e s r => k v H1 e.ex (r.mono s)
theorem d_ret {te : TE} {z : D} {ds : Fm} {σ : L2.St} {E : Ends} (at' : At (dc K) H H σ ds) (h : Ee (dc K) te ds z) (k : ∀ v H1, Ex H H1 → Rep K H1 v z → E.rt v H1) : tRet te E σ H :=
  h H H σ at' _ fun v G1 H1 e s r => k v H1 e.ex (r.mono s)
theorem d_if {tc : TT} {t1 t2 : TS} {c : Bool} {ds : Fm} {σ : L2.St} {E : Ends} (at' : At (dc K) H H σ ds) (h : Et (dc K) tc ds c) (h1 : c = true → ∀ H1, Ex H H1 → t1 E σ H1) (h2 : c = false → ∀ H1, Ex H H1 → t2 E σ H1) : tIfS tc t1 t2 E σ H :=
  h H H σ at' _ fun G1 H1 e s => by
    cases c with
    | true => exact h1 rfl H1 e.ex
    | false => exact h2 rfl H1 e.ex
theorem d_ifS {tc : TT} {t1 t2 u : TS} {c : Bool} {ds : Fm} {σ : L2.St} {E : Ends} (at' : At (dc K) H H σ ds) (h : Et (dc K) tc ds c) (h1 : c = true → ∀ H1, Ex H H1 → t1 { E with nx := u E } σ H1) (h2 : c = false → ∀ H1, Ex H H1 → t2 { E with nx := u E } σ H1) : tSeq (tIfS tc t1 t2) u E σ H :=
  d_if (E := { E with nx := u E }) at' h h1 h2
theorem d_nxt {u : TS} {σ : L2.St} {E : Ends} (h : u E σ H) : tNext { E with nx := u E } σ H := h
theorem d_set {te : TE} {ds : Fm} {σ : L2.St} {E : Ends} {k : Int} {m : Nat} {z : Int} (d : DI H0 b a ns i j s H) (at' : At (dc K) H H σ ds) (h0 : σ[0]? = some (some (.ref b))) (h : Ee (dc K) te ds (.int z)) (hk : ixN 4 k = some m)
    (q : ∀ H1, DI H0 b a ns i j s H1 → E.nx σ (upd H1 b (.lst (([.ref a, .int i, .int j, .int s] : List V).set m (.int z))))) : tAsg te (gSub (tVar 0) (tC (.int k)) rSetL) E σ H :=
  h H H σ at' _ fun v G1 H1 e s r => by
    cases r
    exact ⟨_, h0, b, _, k, m, rfl, rfl, (d.go e.ex).hb, hk, q H1 (d.go e.ex)⟩
theorem d_setS {te : TE} {ds : Fm} {σ : L2.St} {E : Ends} {u : TS} {k : Int} {m : Nat} {z : Int} (d : DI H0 b a ns i j s H) (at' : At (dc K) H H σ ds) (h0 : σ[0]? = some (some (.ref b))) (h : Ee (dc K) te ds (.int z)) (hk : ixN 4 k = some m)
    (q : ∀ H1, DI H0 b a ns i j s H1 → u E σ (upd H1 b (.lst (([.ref a, .int i, .int j, .int s] : List V).set m (.int z))))) : tSeq (tAsg te (gSub (tVar 0) (tC (.int k)) rSetL)) u E σ H :=
  d_set (E := { E with nx := u E }) d at' h0 h hk q
end
theorem mod_bd (x : Int) : 0 ≤ x % 2147483647 ∧ x % 2147483647 < 2147483647 := ⟨Int.emod_nonneg _ (by decide), Int.emod_lt_of_pos _ (by decide)⟩
abbrev sp_l_draw (K : PySem.W.Frag) (B : Adr) : Sp := spD K (fun n : Int => [D.int n]) (fun n => 0 < n ∧ n ≤ 1000000) (fun n d => ∃ r : Int, d = .int r ∧ 0 ≤ r ∧ r < n)
theorem ok_l_draw (T : Txt K mg B) : Ok P w K mg base CX0 1 "_law_draw" ["_law_draws", "_law_size"] (sp_l_draw K B) := by
  refine T.d_l_draw.ok sc_l_draw ?len (fun f cdv A outer s H vs Q E hr h => ⟨_, (pss_cons (ps_if (pt_cmpR (k_eq K rfl hr.units) (pe_ix (k_ix K rfl) (pv 0) pe_int (fun _ _ => rfl)) pe_int (nomark _)) (pss_one (ps_if (pt_cmpR op_ltG (pe_ix (k_ix K rfl) (pv 0) pe_int (fun _ _ => rfl)) (pe_callB (k_len K rfl) (by rfl) T.n_len (by decide +kernel) (pa_cons (pe_ix (k_ix K rfl) (pv 0) pe_int (fun _ _ => rfl)) pa_nil)) (nomark _)) (pss_cons (ps_set (i := 2) sc_l_draw.nd rfl (Or.inl rfl) (pe_ix (k_ix K rfl) (pe_ix (k_ix K rfl) (pv 0) pe_int (fun _ _ => rfl)) (pe_ix (k_ix K rfl) (pv 0) pe_int (fun _ _ => rfl)) (fun _ _ => rfl)))
    (pss_cons (ps_asg (pe_op (k_add K rfl) (pe_ix (k_ix K rfl) (pv 0) pe_int (fun _ _ => rfl)) pe_int) (pg_sub (pv 0) pe_int set_list))
    (pss_one (ps_if (pt_cmpR op_geG (pv 2) (pe_op op_powG pe_int pe_int) (nomark _)) (pss_one (ps_asg (pv 2) (pg_sub (pv 0) pe_int set_list))) (pss_one (ps_asg (pe_op op_modG (pe_callTy call_intG (by rfl) T.n_int (by decide +kernel) (pa_cons (pe_op (k_add K rfl) (pe_op (k_add K rfl) (pe_op (k_mul K rfl) (pe_ix (k_ix K rfl) (pv 0) pe_int (fun _ _ => rfl)) pe_int) (pe_op (k_mul K rfl) (pv 2) pe_int)) pe_int) pa_nil)) pe_int) (pg_sub (pv 0) pe_int set_list))))))) (pss_one (ps_asg (pe_op op_modG (pe_callTy call_intG (by rfl) T.n_int (by decide +kernel) (pa_cons (pe_op (k_add K rfl) (pe_op (k_mul K rfl) (pe_ix (k_ix K rfl) (pv 0) pe_int (fun _ _ => rfl)) pe_int) pe_int) pa_nil)) pe_int) (pg_sub (pv 0) pe_int set_list))))) pss_nil)
    (pss_cons (ps_if (pt_cmpR op_gtG (pe_ix (k_ix K rfl) (pv 0) pe_int (fun _ _ => rfl)) pe_int (nomark _)) (pss_cons (ps_set (i := 3) sc_l_draw.nd rfl (Or.inl rfl) (pe_op op_modG (pe_callTy call_intG (by rfl) T.n_int (by decide +kernel) (pa_cons (pe_ix (k_ix K rfl) (pv 0) pe_int (fun _ _ => rfl)) pa_nil)) (pv 1)))
    (pss_cons (ps_asg (pe_op op_divG (pe_ix (k_ix K rfl) (pv 0) pe_int (fun _ _ => rfl)) (pv 1)) (pg_sub (pv 0) pe_int set_list))
    (pss_one (ps_ret (pv 3))))) pss_nil)
    (pss_one (ps_ret (pe_op op_modG (pe_op op_modG (pe_callTy call_intG (by rfl) T.n_int (by decide +kernel) (pa_cons (pe_op (k_mul K rfl) (pe_ix (k_ix K rfl) (pv 0) pe_int (fun _ _ => rfl)) pe_int) pa_nil)) pe_int) (pv 1)))))), ?_⟩)
  case len => exact spD_len fun _ => rfl
  obtain ⟨G, n, b, a, us, sb, rfl, rs, ⟨hn, hn2⟩, gb, ⟨ns, i, j, s', hb, ha, ne, i0, j0, s0, s1⟩, k⟩ := h
  cases rs with | cons r1 r2 =>
  cases r2
  cases r1
  have d0 : DI H b a ns i j s' H := ⟨hb, ha, ne, i0, j0, s0, s1, fun _ _ _ q => q, fun _ q => q⟩
  have gn : G b = none := gb
  -- a number below n comes out
  have fin : ∀ {i j s' r : Int} {H1 : Hp}, DI H b a ns i j s' H1 → 0 ≤ r → r < n → Q (.int r) H1 := fun {i j s' r H1} d h0 h1 => by
    refine k (.int r) ⟨r, rfl, h0, h1⟩ _ G H1 ⟨Ex.refl _, fun x o hx q => d.keep x o (fun z => hx a (by rw [z])) q, fun _ _ q => q, d.there, fun x y hxy _ => ?_⟩ (fun x o q => ?_) (.int r)
    · cases hxy
      exact ⟨ns, i, j, s', d.hb, d.ha, d.ne, d.i0, d.j0, d.s0, d.s1⟩
    · exact d.keep x o (fun z => by rw [z, gn] at q; cases q) (sb x o q)
  -- the second half, from any state
  have half : ∀ (i j s' : Int) (x2 : Option V) (H1 : Hp), DI H b a ns i j s' H1 →
      tSeq (tIfS (tTest (tOp rGtG (tOp (rIxG K) (tVar 0) (tC (.int 2))) (tC (.int 0))))
        (tSeq (tAsg (tOp rModG (tCB rIntG (tCons (tOp (rIxG K) (tVar 0) (tC (.int 2))) tNil)) (tVar 1)) (gName 3))
          (tSeq (tAsg (tOp rDivG (tOp (rIxG K) (tVar 0) (tC (.int 2))) (tVar 1)) (gSub (tVar 0) (tC (.int 2)) rSetL)) (tRet (tVar 3)))) tNext)
      (tRet (tOp rModG (tOp rModG (tCB rIntG (tCons (tOp (rMulG K) (tOp (rIxG K) (tVar 0) (tC (.int 3))) (tC (.int 16807))) tNil)) (tC (.int 2147483629))) (tVar 1)))
      { nx := fun _ H' => Q .non H', rt := Q } [some (.ref b), some (.int n), x2, none] H1 := fun i j s' x2 H1 d => by
    refine d_ifS (d.at (.no _) (.no _)) (by walk_at "et") (fun hc H2 e => ?_) (fun hc H2 e => ?_)
    · have d2 := d.go e
      refine d_asg (d2.at (.no _) (.no _)) (ee_op (ee_cb (by walk_at "ea") rc_int) (ee_var rfl) (rb_mod hn)) fun v H3 e3 r3 => ?_
      cases r3
      have d3 := d2.go e3
      refine d_setS d3 (d3.at (.no _) (.int _)) rfl (ee_op (by walk_at "ev") (ee_var rfl) (rb_div (wide_div (b := 30) hn (by omega) (by decide) (by decide)))) (m := 2) rfl fun H4 d4 => ?_
      have d5 := d4.set (i' := i) (j' := j / n) (s' := s') d4.i0 (Int.ediv_nonneg d4.j0 (by omega)) d4.s0 d4.s1
      exact ⟨_, rfl, fin d5 (Int.emod_nonneg _ (by omega)) (Int.emod_lt_of_pos _ hn)⟩
    · have d2 := d.go e
      refine d_nxt (d_ret (d2.at (.no _) (.no _)) (ee_op (ee_op (ee_cb (ea_cons (ee_op (by walk_at "ev") ee_int (rb_mulR ⟨by decide, by decide⟩)) ea_nil) rc_int) ee_int (rb_mod (by decide))) (ee_var rfl) (rb_mod hn)) fun v H3 e3 r3 => ?_)
      cases r3
      exact fin (d2.go e3) (Int.emod_nonneg _ (by omega)) (Int.emod_lt_of_pos _ hn)
  refine d_ifS (d0.at (.no _) (.no _)) (by walk_at "et") (fun hc H1 e => ?_) (fun hc H1 e => half _ _ _ _ _ (d0.go e))
  have d1 := d0.go e
  refine d_if (d1.at (.no _) (.no _)) (et_test (ee_op (by walk_at "ev") (ee_cb (by walk_at "ea") rc_lenML) rb_ltI)) (fun hc H2 e2 => ?_) (fun hc H2 e2 => ?_)
  · have d2 := d1.go e2
    have hi : i < ns.length := by simpa using hc
    have hg : ns[i.toNat]? = some (ns[i.toNat]'(by omega)) := List.getElem?_eq_getElem (by omega)
    have hi' : i = (i.toNat : Int) := by omega
    refine d_asg (d2.at (.no _) (.no _)) (ee_op (by walk_at "ev") (by walk_at "ev") (rb_ixL (by rw [hi']; exact atI_map hg))) fun v H3 e3 r3 => ?_
    cases r3
    have d3 := d2.go e3
    refine d_setS d3 (d3.at (.int _) (.no _)) rfl (by walk_at "ev") (m := 1) rfl fun H4 d4 => ?_
    have d5 := d4.set (i' := i + 1) (j' := j) (s' := s') (by omega) d4.j0 d4.s0 d4.s1
    refine d_if (K := K) (d5.at (.int _) (.no _)) (et_test (ee_op (ee_var rfl) (ee_op ee_int ee_int (rb_pow ⟨by decide, by decide, by decide⟩)) rb_ge)) (fun hc H5 e5 => ?_) (fun hc H5 e5 => ?_)
    · have d6 := d5.go e5
      refine d_set (K := K) d6 (d6.at (.int _) (.no _)) rfl (ee_var rfl) (m := 2) rfl fun H6 d7 => ?_
      refine half (i + 1) _ s' _ _ (d7.set d7.i0 ?_ d7.s0 d7.s1)
      have : ((10 : Int) ^ ((18 : Int).toNat)) ≤ ns[i.toNat]'(by omega) := by simpa using hc
      exact Int.le_trans (by decide) this
    · have d6 := d5.go e5
      refine d_set d6 (d6.at (.int _) (.no _)) rfl (ee_op (ee_cb (ea_cons (ee_op (ee_op (ee_op (by walk_at "ev") ee_int (rb_mulR ⟨by decide, by decide⟩)) (ee_op (ee_var rfl) ee_int (rb_mulR ⟨by decide, by decide⟩)) rb_addI) ee_int rb_addI) ea_nil) rc_int) ee_int (rb_mod (by decide))) (m := 3) rfl fun H6 d7 => ?_
      exact half (i + 1) j _ _ _ (d7.set d7.i0 d7.j0 (mod_bd _).1 (mod_bd _).2)
  · have d2 := d1.go e2
    refine d_set d2 (d2.at (.no _) (.no _)) rfl (ee_op (ee_cb (ea_cons (ee_op (ee_op (by walk_at "ev") ee_int (rb_mulR ⟨by decide, by decide⟩)) ee_int rb_addI) ea_nil) rc_int) ee_int (rb_mod (by decide))) (m := 3) rfl fun H6 d7 => ?_
    exact half i j _ _ _ (d7.set d7.i0 d7.j0 (mod_bd _).1 (mod_bd _).2)
/-! ### numbers, bits, codes that are drawn -/
theorem sign01 (r : Int) (h0 : 0 ≤ r) (h1 : r < 2) : ∃ b : Bool, atI ("01" : Str).cps.toList r = some (sg b) := by
  have : r = 0 ∨ r = 1 := by omega
  rcases this with h | h <;> subst h
  · exact ⟨false, rfl⟩
  · exact ⟨true, rfl⟩
theorem bs_sg (b : Bool) : (⟨#[sg b]⟩ : Str) = bs [b] := rfl
abbrev sp_l_bits (K : PySem.W.Frag) (B : Adr) : Sp := spD K (fun p : Nat × Nat => [D.int (p.1 : Nat), D.int (p.2 : Nat)]) (fun p => p.1 ≤ p.2 ∧ p.2 ≤ 1000) (fun p d => ∃ l : List Bool, d = .str (bs l) ∧ p.1 ≤ l.length ∧ l.length ≤ p.2)
/-- codes whose rows don't begin one another -/
def kn0 : List CodeM := [⟨[], [true], [false], 0, 0⟩, ⟨[], [true], [false], 0, 1⟩, ⟨[], [false], [true], 0, 0⟩, ⟨[], [false], [true], 0, 2⟩]
def kn1 : List CodeM := [⟨[([false], 2)], [true], [true, false], 0, 1⟩, ⟨[([false, false], 0), ([false, true], 3)], [true], [true, false], 1, 0⟩]
def kn2 : List CodeM := [⟨[([true, true], 1)], [false], [true], 2, 1⟩, ⟨[([false], 0), ([true, false], 1), ([true, true, false], 2)], [true], [true, true, true, false], 3, 3⟩]
def kn3 : List CodeM := [⟨[], [true, false], [false], 1, 1⟩, ⟨[], [true, false], [true, true], 2, 0⟩, ⟨[([true], 4)], [false, false], [false, true], 0, 3⟩]
def kn4 : List CodeM := [⟨[], [true], [false], 3, 0⟩, ⟨[], [true, true], [false], 2, 2⟩, ⟨[], [true], [false], 1, 2⟩]
def kn : List CodeM := kn0 ++ kn1 ++ kn2 ++ kn3 ++ kn4
theorem lit_0 : bs [false] = "0" := by decide
theorem lit_1 : bs [true] = "1" := by decide
theorem lit_10 : bs [true, false] = "10" := by decide
theorem lit_11 : bs [true, true] = "11" := by decide
theorem lit_00 : bs [false, false] = "00" := by decide
theorem lit_01 : bs [false, true] = "01" := by decide
theorem lit_110 : bs [true, true, false] = "110" := by decide
theorem lit_1110 : bs [true, true, true, false] = "1110" := by decide
/-- a code of the menu, with other numbers of places -/
def Kn (c : CodeM) : Prop := ∃ c0 ∈ kn, c.rows = c0.rows ∧ c.again = c0.again ∧ c.stop = c0.stop ∧ c.k ≤ 4 ∧ c.d ≤ 3
theorem kn_wf : ∀ c ∈ kn, c.rows.length ≤ 3 ∧ (∀ r ∈ c.rows, 1 ≤ r.1.length ∧ r.1.length ≤ 8 ∧ r.2 ≤ 8) ∧ 1 ≤ c.again.length ∧ c.again.length ≤ 4 ∧ c.stop.length ≤ 4 ∧ c.k ≤ 3 ∧ c.d ≤ 3 := by decide
theorem Kn.wf {c : CodeM} (h : Kn c) : Wf c ∧ c.rows.length ≤ 3 := by
  obtain ⟨c0, h0, e1, e2, e3, h4, h5⟩ := h
  obtain ⟨w1, w2, w3, w4, w5, _⟩ := kn_wf c0 h0
  exact ⟨⟨by rw [e1]; omega, by rw [e1]; exact w2, by rw [e2]; exact w3, by rw [e2]; exact w4, by rw [e3]; exact w5, by omega, h5⟩, by rw [e1]; exact w1⟩
abbrev sp_l_known (K : PySem.W.Frag) (B : Adr) : Sp := spD K (fun _ : Unit => []) (fun _ => True) (fun _ d => ∃ c, d = partsD c ∧ Kn c)
abbrev sp_l_any (K : PySem.W.Frag) (B : Adr) : Sp := spD K (fun _ : Unit => []) (fun _ => True) (fun _ d => ∃ c, d = partsD c ∧ Wf c ∧ c.rows.length ≤ 3)
theorem any_row {y : D} (h : ∃ xs, (∃ a r, xs = a :: r ∧ (∃ l : List Bool, a = .str (bs l) ∧ 1 ≤ l.length ∧ l.length ≤ 3) ∧ (∃ b r', r = b :: r' ∧ (∃ i : Int, b = .int i ∧ 0 ≤ i ∧ i < 3) ∧ r' = [])) ∧ y = .tup xs) : ∃ x : List Bool × Nat, y = rowD x ∧ 1 ≤ x.1.length ∧ x.1.length ≤ 8 ∧ x.2 ≤ 8 := by
  obtain ⟨xs, ⟨a, r, rfl, ⟨l, rfl, h1, h2⟩, ⟨b, r', rfl, ⟨i, rfl, h3, h4⟩, rfl⟩⟩, rfl⟩ := h
  obtain ⟨j, rfl⟩ : ∃ j : Nat, i = j := ⟨i.toNat, by omega⟩
  exact ⟨(l, j), rfl, h1, by dsimp only; omega, by dsimp only; omega⟩
/-! ### the law's own account -/
abbrev sp_l_row (K : PySem.W.Frag) (B : Adr) : Sp := spA2 K (fun (c : CodeM) (r : Nat) => [partsD c, D.int (r : Nat)]) (fun c r => Wf c ∧ r ≤ 20100) (fun c r => .ok (rowD (c.row r)))
abbrev sp_l_two (K : PySem.W.Frag) (B : Adr) : Sp := spA K (fun n : Nat => [D.int (n : Nat)]) (fun n => n ≤ 100000) (fun n => .ok (.int ((2 ^ n : Nat) : Int)))
theorem kk_small {c : CodeM} (wf : Wf c) {n : Nat} (h : n ≤ 100000) : c.kk (c.rowOf n) ≤ 20 := by
  have h1 := wf.kl
  have h2 := wf.dl
  have hf := (CodeM.rowOf_ok (c := c) n).1
  rcases Nat.lt_or_ge (c.rowOf n) c.rows.length with z | z
  · unfold CodeM.kk
    rw [CodeM.row_lt z]
    have := (wf.rb _ (List.getElem_mem z)).2.2
    omega
  · obtain ⟨i, hi⟩ : ∃ i, c.rowOf n = c.rows.length + i := ⟨c.rowOf n - c.rows.length, by omega⟩
    rw [hi] at hf ⊢
    unfold CodeM.kk
    rw [CodeM.row_tail]
    dsimp only
    cases i with
    | zero => simp; omega
    | succ i =>
      have e : c.rows.length + (i + 1) = (c.rows.length + i) + 1 := rfl
      rw [e, CodeM.first_succ] at hf
      have e2 : c.kk (c.rows.length + i) = c.k + c.d * i := by unfold CodeM.kk; rw [CodeM.row_tail]
      rw [e2] at hf
      have : c.k + c.d * i < 17 := by
        rcases Nat.lt_or_ge (c.k + c.d * i) 17 with z | z
        · exact z
        · have := Nat.pow_le_pow_right (show 0 < 2 by decide) z; omega
      rw [Nat.mul_succ]; omega
theorem nok_small {c : CodeM} {n : Nat} (h : n ≤ 15000) : n < c.first (c.rows.length + 16000) := by
  have := CodeM.le_first (c := c) (c.rows.length + 16000)
  omega
theorem row_small {c : CodeM} {n : Nat} (h : n ≤ 15000) : c.rowOf n ≤ 15000 := by
  have h1 := (CodeM.rowOf_ok (c := c) n).1
  have h2 := CodeM.le_first (c := c) (c.rowOf n)
  omega
theorem plc_take (v k i : Nat) (h : i < k) : (CodeM.plc v k).take (i + 1) = (CodeM.plc v k).take i ++ [v / 2 ^ (k - 1 - i) % 2 == 1] := by
  induction k generalizing i with
  | zero => omega
  | succ k ih =>
    rw [plc_cons]
    cases i with
    | zero => simp
    | succ i =>
      rw [List.take_succ_cons, List.take_succ_cons, ih i (by omega)]
      have : k + 1 - 1 - (i + 1) = k - 1 - i := by omega
      rw [this]; rfl

--@@part
theorem lok_small {c : CodeM} (wf : Wf c) {n : Nat} (h : n ≤ 15000) : c.rowOf n ≤ 15000 ∧ c.kk (c.rowOf n) ≤ 7000 := ⟨row_small h, by have := kk_small wf (show n ≤ 100000 by omega); omega⟩
theorem lok_row {c : CodeM} (wf : Wf c) {n : Nat} (h : c.rowOf n ≤ 2000) : c.rowOf n ≤ 15000 ∧ c.kk (c.rowOf n) ≤ 7000 := by
  refine ⟨by omega, ?_⟩
  have h1 := wf.kl
  have h2 := wf.dl
  unfold CodeM.kk
  rcases Nat.lt_or_ge (c.rowOf n) c.rows.length with z | z
  · rw [CodeM.row_lt z]
    have := (wf.rb _ (List.getElem_mem z)).2.2
    omega
  · rw [CodeM.row_ge z]
    have : c.d * (c.rowOf n - c.rows.length) ≤ 3 * 2000 := Nat.mul_le_mul h2 (by omega)
    dsimp only
    omega
abbrev sp_l_code (K : PySem.W.Frag) (B : Adr) : Sp := spA2 K (fun (c : CodeM) (n : Nat) => [partsD c, D.int (n : Nat)]) (fun c n => Wf c ∧ c.rowOf n ≤ 15000 ∧ c.kk (c.rowOf n) ≤ 7000) (fun c n => .ok (.str (bs (c.bits n))))
abbrev sp_l_make (K : PySem.W.Frag) (B : Adr) : Sp := spA K (fun c : CodeM => [partsD c]) (fun c => Wf c) (fun c => .ok (codeD B.Code c))
theorem okD_bs {l : List Bool} (h : l.length ≤ 100000) : okD (.str (bs l)) = true := by
  unfold okD; rw [bs_len]; exact decide_eq_true h
theorem okL_map {α : Type} {f : α → D} {xs : List α} (h : ∀ x ∈ xs, okD (f x) = true) : okL (xs.map f) = true := by
  induction xs with
  | nil => rfl
  | cons x xs ih =>
    rw [List.map_cons]
    unfold okL
    rw [h x List.mem_cons_self, ih fun y hy => h y (List.mem_cons_of_mem _ hy)]; rfl
theorem okD_row {r : List Bool × Nat} (h : r.1.length ≤ 100000) : okD (rowD r) = true := by
  show okL _ = true
  unfold okL
  rw [okD_bs h]; rfl
theorem okD_rows {c : CodeM} (wf : Wf c) : okD (rowsD c) = true := okL_map fun r hr => okD_row (by have := (wf.rb r hr).2.1; omega)
theorem okD_tail {c : CodeM} (wf : Wf c) : okD (tailD c) = true := by
  have h1 := wf.au
  have h2 := wf.sl
  show okL _ = true
  unfold okL
  rw [okD_bs (by omega)]
  unfold okL
  rw [okD_bs (by omega)]; rfl
/-! ### freedom -/
namespace CodeM
variable {c : CodeM}
/-- no row's bits begin another one's -/
def Free (c : CodeM) : Prop := ∀ r s, r ≠ s → ¬ c.head r <+: c.head s
def longest (c : CodeM) : Nat := maxN (c.rows.map (fun r => r.1.length) ++ [c.stop.length, 1])
def near (c : CodeM) : Nat := c.rows.length + c.longest / c.again.length + 3
theorem head_lt {r : Nat} (h : r < c.rows.length) : c.head r = c.rows[r].1 := by unfold head; rw [row_lt h]
theorem head_tail (i : Nat) : c.head (c.rows.length + i) = rep c.again i ++ c.stop := by unfold head; rw [row_tail]
theorem len_row {r : Nat} (h : r < c.rows.length) : (c.head r).length ≤ c.longest := by
  rw [head_lt h]
  exact le_maxN (List.mem_append_left _ (List.mem_map.mpr ⟨_, List.getElem_mem h, rfl⟩))
theorem len_stop : c.stop.length ≤ c.longest := le_maxN (List.mem_append_right _ List.mem_cons_self)
theorem pre_cut {a b x : List Bool} (h : x <+: a ++ b) (hl : x.length ≤ a.length) : x <+: a := List.prefix_of_prefix_length_le h (List.prefix_append _ _) hl
/-- a clash anywhere is a clash near -/
theorem near_clash (h1 : 1 ≤ c.again.length) {r s : Nat} (hne : r ≠ s) (hp : c.head r <+: c.head s) : ∃ r' s', r' ≠ s' ∧ r' < c.near ∧ s' < c.near ∧ c.head r' <+: c.head s' := by
  have hq : c.longest ≤ (c.longest / c.again.length + 1) * c.again.length := by
    have := Nat.div_add_mod c.longest c.again.length
    have := Nat.mod_lt c.longest (show 0 < c.again.length by omega)
    rw [Nat.succ_mul, Nat.mul_comm]; omega
  have hnr : c.near = c.rows.length + (c.longest / c.again.length) + 3 := rfl
  generalize hqd : c.longest / c.again.length = q at hq hnr
  have cut : ∀ (x : List Bool) (i : Nat), x.length ≤ c.longest → x <+: rep c.again i ++ c.stop → q + 1 ≤ i → x <+: rep c.again (q + 1) ++ c.stop := fun x i hx h hi => by
    obtain ⟨j, rfl⟩ : ∃ j, i = (q + 1) + j := ⟨i - (q + 1), by omega⟩
    rw [rep_add, List.append_assoc] at h
    exact (pre_cut h (by rw [rep_len]; omega)).trans (List.prefix_append _ _)
  rcases Nat.lt_or_ge r c.rows.length with hr | hr
  · rcases Nat.lt_or_ge s c.rows.length with hs | hs
    · exact ⟨r, s, hne, by omega, by omega, hp⟩
    · obtain ⟨i, rfl⟩ : ∃ i, s = c.rows.length + i := ⟨s - c.rows.length, by omega⟩
      rcases Nat.lt_or_ge i (q + 1) with hi | hi
      · exact ⟨r, _, hne, by omega, by omega, hp⟩
      · rw [head_tail] at hp
        exact ⟨r, c.rows.length + (q + 1), by omega, by omega, by omega, by rw [head_tail]; exact cut _ i (len_row hr) hp hi⟩
  · obtain ⟨i, rfl⟩ : ∃ i, r = c.rows.length + i := ⟨r - c.rows.length, by omega⟩
    rcases Nat.lt_or_ge s c.rows.length with hs | hs
    · have h2 := hp.length_le
      have h3 := len_row hs
      rw [head_tail, List.length_append, rep_len] at h2
      have : i < q + 1 := by
        rcases Nat.lt_or_ge i (q + 1) with z | z
        · exact z
        · have h4 := Nat.mul_le_mul_right c.again.length z
          have h5 : c.longest < (q + 1) * c.again.length := by
            have := Nat.div_add_mod c.longest c.again.length
            have := Nat.mod_lt c.longest (show 0 < c.again.length by omega)
            rw [hqd] at *
            rw [Nat.succ_mul, Nat.mul_comm]; omega
          omega
      exact ⟨_, s, hne, by omega, by omega, hp⟩
    · obtain ⟨j, rfl⟩ : ∃ j, s = c.rows.length + j := ⟨s - c.rows.length, by omega⟩
      rw [head_tail, head_tail] at hp
      have hlt : i < j := by
        rcases Nat.lt_or_ge i j with z | z
        · exact z
        · have h2 := hp.length_le
          rw [List.length_append, List.length_append, rep_len, rep_len] at h2
          have : j < i := by omega
          have h3 := Nat.mul_le_mul_right c.again.length (show j + 1 ≤ i from this)
          rw [Nat.succ_mul] at h3
          omega
      obtain ⟨e, rfl⟩ : ∃ e, j = i + e := ⟨j - i, by omega⟩
      rw [rep_add, List.append_assoc, List.prefix_append_right_inj] at hp
      rcases Nat.lt_or_ge e (q + 1) with he | he
      · exact ⟨c.rows.length + 0, c.rows.length + e, by omega, by omega, by omega, by rw [head_tail, head_tail]; exact hp⟩
      · exact ⟨c.rows.length + 0, c.rows.length + (q + 1), by omega, by omega, by omega, by rw [head_tail, head_tail]; exact cut _ e len_stop hp he⟩
def clashB (c : CodeM) (r s : Nat) : Bool := (!decide (r = s)) && (c.head r).isPrefixOf (c.head s)
theorem pre_iff {a b : List Bool} : a.isPrefixOf b = true ↔ a <+: b := List.isPrefixOf_iff_prefix
/-- whoever looks at rows near finds what there is -/
theorem free_near (h1 : 1 ≤ c.again.length) {n : Nat} (hn : c.near ≤ n) : ((List.range n).flatMap fun r => (List.range n).map fun s => c.clashB r s).any id = true ↔ ¬ c.Free := by
  rw [List.any_eq_true]
  constructor
  · rintro ⟨b, hb, hb2⟩ hf
    have hb2 : b = true := hb2
    subst hb2
    obtain ⟨r, hr, hb⟩ := List.mem_flatMap.mp hb
    obtain ⟨s, hs, hb⟩ := List.mem_map.mp hb
    unfold clashB at hb
    rw [Bool.and_eq_true] at hb
    exact hf r s (by simpa using hb.1) (pre_iff.mp hb.2)
  · intro hf
    unfold Free at hf
    have : ∃ r s, r ≠ s ∧ c.head r <+: c.head s := Classical.byContradiction fun z => hf fun r s hne hp => z ⟨r, s, hne, hp⟩
    obtain ⟨r, s, hne, hp⟩ := this
    obtain ⟨r', s', hne', hr, hs, hp'⟩ := near_clash h1 hne hp
    refine ⟨true, List.mem_flatMap.mpr ⟨r', List.mem_range.mpr (by omega), List.mem_map.mpr ⟨s', List.mem_range.mpr (by omega), ?_⟩⟩, rfl⟩
    unfold clashB
    rw [Bool.and_eq_true]
    exact ⟨by simpa using hne', pre_iff.mpr hp'⟩
theorem longest_le (wf : Wf c) : c.longest ≤ 8 := by
  have h0 : c.rows.map (fun r => r.1.length) ++ [c.stop.length, 1] ≠ [] := by simp
  have h := maxN_mem h0
  unfold longest
  rcases List.mem_append.mp h with z | z
  · obtain ⟨r, hr, e⟩ := List.mem_map.mp z
    rw [← e]; exact (wf.rb r hr).2.1
  · have := wf.sl
    simp only [List.mem_cons, List.not_mem_nil, or_false] at z
    omega
theorem near_le (wf : Wf c) : c.near ≤ 17 := by
  have h1 := longest_le wf
  have h2 := wf.rl
  have := Nat.div_le_self c.longest c.again.length
  unfold near; omega
end CodeM
open Classical in
noncomputable def freeB (c : CodeM) : Bool := decide c.Free
abbrev sp_near_rows (K : PySem.W.Frag) (B : Adr) : Sp := spA K (fun c : CodeM => [codeD B.Code c]) (fun c => Wf c) (fun c => .ok (.int (c.near : Nat)))
theorem ok_near_rows (T : Txt K mg B) : Ok P w K mg base CX0 1 "near_rows" ["code"] (sp_near_rows K B) := by
  refine T.d_near_rows.ok sc_near_rows (spA_len fun _ => rfl) (fun f cdv A outer s H vs Q E hr h => ⟨_, (pss_cons (ps_set (i := 1) sc_near_rows.nd rfl (Or.inl rfl) (pe_callB (k_max K rfl rfl) (by rfl) T.n_max (by decide +kernel) (pa_cons (pe_op (k_add K rfl) (pe_lc (own := [("row", 2)]) rfl sc_near_rows.nd (k_itup K rfl (k_fld K rfl (pv 0) rfl)) (blkOk_by (own := [("row", 2)]) (N := nm_near_rows) (sc := defScope s_near_rows) (by decide +kernel)) (fun _ _ _ _ _ => (pg_name (i := 2) sc_near_rows.nd rfl (Or.inl rfl))) (fun _ _ _ _ _ => pts_nil) (fun _ _ _ _ _ => (pe_callB (k_len K rfl) (by rfl) T.n_len (by decide +kernel) (pa_cons (pe_ix (k_ix K rfl) (pv 2) pe_int (fun _ _ => rfl)) pa_nil)))) (pe_lst (pa_cons (pe_callB (k_len K rfl) (by rfl) T.n_len (by decide +kernel) (pa_cons (pe_ix (k_ix K rfl) (k_fld K rfl (pv 0) rfl) pe_int (fun _ _ => rfl)) pa_nil)) (pa_cons pe_int pa_nil)))) pa_nil)))
    (pss_one (ps_ret (pe_op (k_add K rfl) (pe_op (k_add K rfl) (pe_callB (k_len K rfl) (by rfl) T.n_len (by decide +kernel) (pa_cons (k_fld K rfl (pv 0) rfl) pa_nil)) (pe_op op_divG (pv 1) (pe_callB (k_len K rfl) (by rfl) T.n_len (by decide +kernel) (pa_cons (pe_ix (k_ix K rfl) (k_fld K rfl (pv 0) rfl) pe_int (fun _ _ => rfl)) pa_nil)))) pe_int)))), go_fn h fun a W ha => ?_⟩)
  have h1 := ha.al
  have h2 := ha.au
  have h3 := ha.rl
  have h4 := ha.sl
  walk_at "st0"
  refine st_seq (st_asg (d := .int (a.longest : Nat)) (ee_cb (ea_cons (ee_is (y := .lst ((a.rows.map (fun r => r.1.length) ++ [a.stop.length, 1]).map fun n : Nat => .int (n : Int))) (ee_op (ee_lcA (ys := a.rows) (gD := rowD) (js := [2]) (ei_tup (by walk_at "ev")) (fun r => .int ((r.1.length : Nat) : Int)) (by omega) (by decide) (fun i r hr => ?_)) (ee_lst (ea_cons (ee_cb (ea_cons (ee_op (by walk_at "ev") ee_int (rb_ixT rfl)) ea_nil) (rc_lenB (by omega))) (ea_cons ee_int ea_nil)) (by simp)) (rb_addL (by simp; omega))) ?_) ea_nil) (rc_maxN (by simp))) (by walk_at "lt") ?_)
  · have := (ha.rb r (List.mem_of_getElem? hr)).2.1
    exact ⟨_, eg_name (by walk_at "lt"), ee_cb (ea_cons (ee_op (ee_var rfl) ee_int (rb_ixT rfl)) ea_nil) (rc_lenB (l := r.1) (by omega))⟩
  · rw [List.map_append, List.map_map]; rfl
  walk_at "fr"
  refine st_ret (ee_op (ee_op (by walk_at "ev") (ee_op (ee_var rfl) (ee_cb (ea_cons (ee_op (by walk_at "ev") ee_int (rb_ixT rfl)) ea_nil) (rc_lenB (by omega))) (rb_divN (by omega) (Nat.lt_of_le_of_lt h2 (Nat.lt_of_lt_of_le (show 4 < 2 ^ 3 by decide) (Nat.pow_le_pow_right (by decide) (by decide)))))) rb_addN) ee_int rb_addN3) rfl
abbrev sp_are_unfree (K : PySem.W.Frag) (B : Adr) : Sp := spA3 K (fun (c : CodeM) (r s : Nat) => [codeD B.Code c, .int (r : Nat), .int (s : Nat)]) (fun c r s => Wf c ∧ r ≤ 20000 ∧ s ≤ 20000) (fun c r s => .ok (.bl (c.clashB r s)))
theorem ok_are_unfree (T : Txt K mg B) : Ok P w K mg base CX0 2 "are_unfree" ["code", "r", "other"] (sp_are_unfree K B) := by
  refine T.d_are_unfree.ok sc_are_unfree (spA_len fun _ => rfl) (fun f cdv A outer s H vs Q E hr h => ⟨_, (pss_one (ps_ret (pe_and (pe_cmpR (k_ne K rfl hr.units) (pv 1) (pv 2) (nomark _)) (pe_one (pe_m1 PySem.F.slot_str_startswith PySem.F.type_str_startswith mt_startswith (pe_ix (k_ix K rfl) (pe_callH (ok_row_at T) (hr.mono (by first | decide | omega)) rfl pass0 (pa_cons (pv 0) (pa_cons (pv 2) pa_nil))) pe_int (fun _ _ => rfl)) (pe_ix (k_ix K rfl) (pe_callH (ok_row_at T) (hr.mono (by first | decide | omega)) rfl pass0 (pa_cons (pv 0) (pa_cons (pv 1) pa_nil))) pe_int (fun _ _ => rfl))))))), go_fn h fun a W ha => ?_⟩)
  obtain ⟨c, r, s⟩ := a
  dsimp only at ha
  obtain ⟨wf, h1, h2⟩ := ha
  walk_at "st0"
  exact st_ret (d := .bl (c.clashB r s)) (ee_andV (ee_op (ee_var rfl) (ee_var rfl) rb_neN) (fun _ => ee_startsB (a := c.head s) (b := c.head r) (ee_op (ee_call2 (x := c) (y := s) (by walk_at "ea") rfl ⟨wf, by omega⟩ rfl) ee_int (rb_ixT rfl)) (ee_op (ee_call2 (x := c) (y := r) (by walk_at "ea") rfl ⟨wf, by omega⟩ rfl) ee_int (rb_ixT rfl)))) rfl
def clD (c : CodeM) (x y : D) : D := match x, y with
  | .int r, .int s => .bl (c.clashB r.toNat s.toNat)
  | _, _ => .non
theorem cl_list (c : CodeM) (n : Nat) : (upto (n : Int)).flatMap (fun x => (upto (n : Int)).map (clD c x)) = (((List.range n).flatMap fun r => (List.range n).map fun s => c.clashB r s)).map D.bl := by
  unfold upto
  rw [Int.toNat_natCast, List.flatMap_map, List.map_flatMap]
  congr 1
  funext r
  rw [List.map_map, List.map_map]
  rfl
theorem freeB_any {c : CodeM} (wf : Wf c) {n : Nat} (hn : c.near ≤ n) : (!((List.range n).flatMap fun r => (List.range n).map fun s => c.clashB r s).any id) = freeB c := by
  have h := CodeM.free_near wf.al hn
  unfold freeB
  rw [Bool.eq_iff_iff]
  simp only [decide_eq_true_eq, Bool.not_eq_true']
  constructor
  · intro z
    refine Classical.byContradiction fun q => ?_
    rw [h.mpr q] at z; cases z
  · intro z
    cases e : ((List.range n).flatMap fun r => (List.range n).map fun s => c.clashB r s).any id with
    | false => rfl
    | true => exact absurd z (h.mp e)
abbrev sp_is_free (K : PySem.W.Frag) (B : Adr) : Sp := spA K (fun c : CodeM => [codeD B.Code c]) (fun c => Wf c) (fun c => .ok (.bl (freeB c)))
theorem ok_is_free (T : Txt K mg B) : Ok P w K mg base CX0 3 "is_free" ["code"] (sp_is_free K B) := by
  refine T.d_is_free.ok sc_is_free (spA_len fun _ => rfl) (fun f cdv A outer s H vs Q E hr h => ⟨_, (pss_cons (ps_set (i := 1) sc_is_free.nd rfl (Or.inr rfl) (pe_listRg rfl rfl T.n_list (prg_1 rfl T.n_range (pe_callH (ok_near_rows T) (hr.mono (by first | decide | omega)) rfl pass0 (pa_cons (pv 0) pa_nil)))))
    (pss_one (ps_ret (pe_not (pe_callB (k_any K rfl rfl) (by rfl) T.n_any (by decide +kernel) (pa_cons (pe_lc2 (own := [("r", 2), ("other", 3)]) (vs1 := [3]) rfl sc_is_free.nd (k_ilist K rfl (pv 1)) (blkOk_by (own := [("r", 2), ("other", 3)]) (N := nm_is_free) (sc := defScope s_is_free) (by decide +kernel)) (by decide) (fun _ _ _ _ _ => (pg_name (i := 2) sc_is_free.nd rfl (Or.inl rfl))) (fun _ _ _ _ _ => pts_nil) (fun _ _ _ _ _ => (k_ilist K rfl (pv 1))) (fun _ _ _ _ _ => (pg_name (i := 3) sc_is_free.nd rfl (Or.inl rfl))) (fun _ _ _ _ _ => pts_nil) (fun _ _ _ _ _ => (pe_callH (ok_are_unfree T) (hr.mono (by first | decide | omega)) rfl pass0 (pa_cons (pv 0) (pa_cons (pv 2) (pa_cons (pv 3) pa_nil)))))) pa_nil)))))), go_fn h fun a W ha => ?_⟩)
  have hn := CodeM.near_le ha
  walk_at "st0"
  refine st_seq (st_asg (ee_listRg (n := a.near) (ee_call (a := a) (by walk_at "ea") rfl ha rfl) (by omega)) (by walk_at "lt") ?_)
  walk_at "fr"
  refine st_ret (d := .bl (freeB a)) (ee_is (ee_notV (ee_cb (ea_cons (ee_is (ee_lc2 (f := clD a) (js := [2]) (js1 := [3]) (ei_list (ee_var rfl)) (by rw [upto_len, Int.toNat_natCast]; have := Nat.mul_le_mul hn hn; omega) (by decide) (by decide) (fun i x hx => ?_)) (congrArg D.lst (cl_list a a.near))) ea_nil) rc_any)) (by rw [freeB_any ha (Nat.le_refl _)])) rfl
  obtain ⟨rfl, hi⟩ := upto_get hx
  refine ⟨_, eg_name (by walk_at "lt"), rfl, ei_list (ee_var rfl), fun k y hy => ?_⟩
  obtain ⟨rfl, hk⟩ := upto_get hy
  exact ⟨_, eg_name (by walk_at "lt"), ee_call3 (x := a) (y := i) (z := k) (by walk_at "ea") rfl ⟨ha, by omega, by omega⟩ rfl⟩

/-! ### freedom by the law's own account -/
theorem clash_eq (c : CodeM) (r s : Nat) : ((!decide (r = s)) && decide ((c.head s).take (c.head r).length = c.head r)) = c.clashB r s := by
  unfold CodeM.clashB
  congr 1
  rw [Bool.eq_iff_iff, prefix_iff, decide_eq_true_iff]
theorem free_of_all {c : CodeM} (wf : Wf c) {n : Nat} (hn : c.near ≤ n) (h : ∀ r, r < n → ∀ s, s < n → c.clashB r s = false) : freeB c = true := by
  rw [← freeB_any wf hn]
  rw [Bool.not_eq_true', List.any_eq_false]
  intro b hb
  obtain ⟨r, hr, hb⟩ := List.mem_flatMap.mp hb
  obtain ⟨s, hs, hb⟩ := List.mem_map.mp hb
  rw [← hb]
  simp [h r (List.mem_range.mp hr) s (List.mem_range.mp hs)]
theorem free_not {c : CodeM} {r s : Nat} (h : c.clashB r s = true) : freeB c = false := by
  unfold freeB
  simp only [decide_eq_false_iff_not]
  intro hf
  unfold CodeM.clashB at h
  rw [Bool.and_eq_true] at h
  exact hf r s (by simpa using h.1) (CodeM.pre_iff.mp h.2)
abbrev sp_l_free (K : PySem.W.Frag) (B : Adr) : Sp := spA K (fun c : CodeM => [partsD c]) (fun c => Wf c) (fun c => .ok (.bl (freeB c)))
/-! ### order -/
theorem bits_over {c : CodeM} (hf : c.Free) {n : Nat} (h : n + 1 = c.first (c.rowOf n + 1)) : blt (c.bits n) (c.bits (n + 1)) = c.up (c.rowOf n) := by
  have e : c.rowOf (n + 1) = c.rowOf n + 1 := CodeM.rowOf_eq (Nat.le_of_eq h.symm) (by rw [h]; exact CodeM.first_lt _)
  unfold CodeM.bits
  rw [e]
  exact blt_heads _ _ (hf _ _ (by omega)) (hf _ _ (by omega))
theorem freeB_free {c : CodeM} (h : freeB c = true) : c.Free := by
  unfold freeB at h; simpa only [decide_eq_true_eq] using h
abbrev sp_check_free (K : PySem.W.Frag) (B : Adr) : Sp := spA K (fun c : CodeM => [codeD B.Code c]) (fun c => Wf c) (fun c => if freeB c = true then .ok .non else .err (.ref B.NotFree) none)
theorem ok_check_free (T : Txt K mg B) : Ok P w K mg base (L2.CX P w) 4 "check_free" ["code"] (sp_check_free K B) := by
  refine T.d_check_free.okX sc_check_free (spA_len fun _ => rfl) (fun f cdv A outer s H vs Q E hr h => ⟨_, (pss_one (ps_if (pt_not (k_tru K rfl (pe_callH (ok_is_free T) (hr.mono (by first | decide | omega)) rfl pass0 (pa_cons (pv 0) pa_nil)))) (pss_one (ps_raise0 rfl (takes_of rfl rfl rfl rfl) T.e_NotFree rfl)) pss_nil)), go_fn h fun a W ha => ?_⟩)
  walk_at "st0"
  refine st_if (et_not (et_tb (ee_call (a := a) (by walk_at "ea") rfl ha rfl))) (fun hb => ?_) (fun hb => ?_)
  · have hb : freeB a = false := by simpa using hb
    exact st_raise0 (by rw [hb]; rfl)
  · have hb : freeB a = true := by simpa using hb
    exact st_next (by rw [if_pos hb])

--@@part
/-! ### numbers whose codes begin one another -/
namespace CodeM
variable {c : CodeM}
/-- the code of n begins that of another number m -/
def Cl (c : CodeM) (n m : Nat) : Prop := m ≠ n ∧ c.bits n <+: c.bits m
theorem same_row {n m : Nat} (h : c.rowOf n = c.rowOf m) (hp : c.bits n <+: c.bits m) : n = m := by
  have hn := rowOf_ok (c := c) n
  have hm := rowOf_ok (c := c) m
  have hs := first_succ (c := c) (c.rowOf n)
  unfold bits at hp
  rw [← h] at hp hm
  rw [List.prefix_append_right_inj] at hp
  have e := hp.eq_of_length (by rw [plc_len, plc_len])
  have := congrArg num e
  rw [num_plc, num_plc, Nat.mod_eq_of_lt (by omega), Nat.mod_eq_of_lt (by omega)] at this
  omega
theorem free_num (hf : c.Free) {n m : Nat} (h : c.bits n <+: c.bits m) : n = m := by
  by_cases e : c.rowOf n = c.rowOf m
  · exact same_row e h
  · exfalso
    unfold bits at h
    have h1 : c.head (c.rowOf n) <+: c.head (c.rowOf m) ++ plc (m - c.first (c.rowOf m)) (c.kk (c.rowOf m)) := (List.prefix_append _ _).trans h
    rcases Nat.le_total (c.head (c.rowOf n)).length (c.head (c.rowOf m)).length with q | q
    · exact hf _ _ e (List.prefix_of_prefix_length_le h1 (List.prefix_append _ _) q)
    · exact hf _ _ (Ne.symm e) (List.prefix_of_prefix_length_le (List.prefix_append _ _) h1 q)
theorem bits_row {r : Nat} {w : List Bool} (hw : w.length = c.kk r) : c.rowOf (c.first r + num w) = r ∧ c.bits (c.first r + num w) = c.head r ++ w := by
  have hl := num_lt w
  rw [hw] at hl
  have e : c.rowOf (c.first r + num w) = r := rowOf_eq (by omega) (by rw [first_succ]; omega)
  refine ⟨e, ?_⟩
  unfold bits
  rw [e, Nat.add_sub_cancel_left, ← hw, plc_num]
theorem clash_num (h1 : 1 ≤ c.again.length) (hf : ¬ c.Free) : ∃ n m, c.Cl n m ∧ c.rowOf n < c.near := by
  have : ∃ r s, r ≠ s ∧ c.head r <+: c.head s := Classical.byContradiction fun z => hf fun r s hne hp => z ⟨r, s, hne, hp⟩
  obtain ⟨r0, s0, hne0, hp0⟩ := this
  obtain ⟨r, s, hne, hr, hs, t, ht⟩ := near_clash h1 hne0 hp0
  have hz : (List.replicate (c.kk s) false).length = c.kk s := List.length_replicate
  obtain ⟨m1, m2⟩ := bits_row (c := c) hz
  -- the code of m is head r and u
  generalize hm : c.first s + num (List.replicate (c.kk s) false) = m at m1 m2
  rw [← ht, List.append_assoc] at m2
  generalize t ++ List.replicate (c.kk s) false = u at m2
  rcases Nat.le_total (c.kk r) u.length with q | q
  · obtain ⟨n1, n2⟩ := bits_row (c := c) (r := r) (w := u.take (c.kk r)) (by rw [List.length_take]; omega)
    refine ⟨_, m, ⟨fun e => hne ?_, ?_⟩, by rw [n1]; exact hr⟩
    · rw [← n1, ← m1, e]
    · rw [n2, m2, List.prefix_append_right_inj]; exact List.take_prefix _ _
  · obtain ⟨n1, n2⟩ := bits_row (c := c) (r := r) (w := u ++ List.replicate (c.kk r - u.length) false) (by rw [List.length_append, List.length_replicate]; omega)
    refine ⟨m, c.first r + num (u ++ List.replicate (c.kk r - u.length) false), ⟨fun e => hne ?_, ?_⟩, by rw [m1]; exact hs⟩
    · rw [← n1, ← m1, e]
    · rw [n2, m2, ← List.append_assoc]; exact List.prefix_append _ _
/-- the least other number whose code that of n begins -/
noncomputable def lo (c : CodeM) (n : Nat) : Option Nat := lst (c.Cl n)
noncomputable def lirow (c : CodeM) (r n : Nat) : Option Nat := lst fun m => c.Cl n m ∧ c.rowOf m = r
noncomputable def lobelow (c : CodeM) (r n : Nat) : Option Nat := lst fun m => c.Cl n m ∧ c.rowOf m < r
theorem lirow_eq {r n : Nat} : c.lirow r n = match c.wr r (c.bits n) with
    | none => none
    | some p => if p.1 = n then none else some p.1 := by
  refine lst_eq ?_
  cases e : c.wr r (c.bits n) with
  | none =>
    rintro m ⟨h, hm⟩
    obtain ⟨p, hp, _⟩ := (wr_iff hm).mp h.2
    rw [e] at hp; cases hp
  | some p =>
    obtain ⟨h1, h2⟩ := wr_has e
    dsimp only
    by_cases q : p.1 = n
    · rw [if_pos q]
      rintro m ⟨h, hm⟩
      exact h.1 (same_row (by rw [hm, ← q, h1]) h.2).symm
    · rw [if_neg q]
      refine ⟨⟨⟨q, h2⟩, h1⟩, ?_⟩
      rintro k hk ⟨h, hm⟩
      obtain ⟨p', hp, z, _⟩ := (wr_iff hm).mp h.2
      rw [e] at hp; cases hp
      omega
theorem lobelow_zero (n : Nat) : c.lobelow 0 n = none := lst_eq fun m h => Nat.not_lt_zero _ h.2
theorem lobelow_succ (r n : Nat) : c.lobelow (r + 1) n = match c.lobelow r n with
    | some m => some m
    | none => c.lirow r n := by
  refine lst_eq ?_
  cases e : c.lobelow r n with
  | some m =>
    obtain ⟨h1, h2⟩ := lst_some e
    refine ⟨⟨h1.1, by omega⟩, fun k hk hc => ?_⟩
    have h3 := rowOf_mono (c := c) (Nat.le_of_lt hk)
    exact h2 k hk ⟨hc.1, by omega⟩
  | none =>
    have h0 := lst_none e
    cases e2 : c.lirow r n with
    | none =>
      have h1 := lst_none e2
      rintro m ⟨hc, hr⟩
      rcases Nat.lt_or_ge (c.rowOf m) r with z | z
      · exact h0 m ⟨hc, z⟩
      · exact h1 m ⟨hc, by omega⟩
    | some m =>
      obtain ⟨h1, h2⟩ := lst_some e2
      refine ⟨⟨h1.1, by omega⟩, fun k hk hc => ?_⟩
      rcases Nat.lt_or_ge (c.rowOf k) r with z | z
      · exact h0 k ⟨hc.1, z⟩
      · exact h2 k hk ⟨hc.1, by omega⟩
/-- rows that a number's code may begin: so many -/
def lrows (c : CodeM) (n : Nat) : Nat := c.rows.length + (c.bits n).length / c.again.length + 3
theorem lo_near (h1 : 1 ≤ c.again.length) (n : Nat) : c.lobelow (c.lrows n) n = c.lo n := by
  have key : ∀ m, c.Cl n m → ∃ m', c.Cl n m' ∧ c.rowOf m' < c.lrows n ∧ m' ≤ m := by
    intro m h
    rcases Nat.lt_or_ge (c.rowOf m) (c.lrows n) with z | z
    · exact ⟨m, h, z, Nat.le_refl _⟩
    · obtain ⟨q, hq⟩ : ∃ q, q = (c.bits n).length / c.again.length := ⟨_, rfl⟩
      have hl : c.lrows n = c.rows.length + q + 3 := by unfold lrows; rw [hq]
      rw [hl] at z ⊢
      have hh := near_has h1 (i := q + 1) (m := m) (by omega) (by omega) h.2 (q + 2) (by omega)
      refine ⟨c.first (c.rows.length + (q + 2)), ⟨fun e => ?_, ?_⟩, by rw [rowOf_first]; omega, ?_⟩
      · have := far_long h1 (l := c.bits n) (i := q + 2) (by omega)
        have e2 : c.rowOf n = c.rows.length + (q + 2) := by rw [← e, rowOf_first]
        rw [bits_len] at this
        unfold size at this
        rw [e2] at this; omega
      · unfold bits
        rw [rowOf_first]
        exact hh.trans (List.prefix_append _ _)
      · exact Nat.le_trans (first_mono (by omega)) (rowOf_ok m).1
  symm
  refine lst_eq ?_
  cases e : c.lobelow (c.lrows n) n with
  | none =>
    intro m h
    obtain ⟨m', a, b, _⟩ := key m h
    exact lst_none e m' ⟨a, b⟩
  | some m =>
    obtain ⟨h1, h2⟩ := lst_some e
    refine ⟨h1.1, fun k hk hc => ?_⟩
    obtain ⟨m', a, b, d⟩ := key k hc
    exact h2 m' (by omega) ⟨a, b⟩
theorem lo_row (h1 : 1 ≤ c.again.length) {n m : Nat} (h : c.lo n = some m) : c.rowOf m < c.lrows n := by
  rw [← lo_near h1] at h
  exact (lst_some h).1.2
/-- the least number that clashes -/
noncomputable def cn (c : CodeM) : Option Nat := lst fun n => ∃ m, c.Cl n m
theorem cn_free (hf : c.Free) : c.cn = none := lst_eq fun n ⟨m, h⟩ => h.1 (free_num hf h.2).symm
theorem cn_not (h1 : 1 ≤ c.again.length) (hf : ¬ c.Free) : ∃ n m, c.cn = some n ∧ c.lo n = some m ∧ c.rowOf n < c.near := by
  obtain ⟨n0, m0, h, hr⟩ := clash_num h1 hf
  obtain ⟨n, e, hn⟩ := lst_is (P := fun n => ∃ m, c.Cl n m) ⟨m0, h⟩
  obtain ⟨m1, hm1⟩ := (lst_some e).1
  obtain ⟨m, e2, _⟩ := lst_is (P := c.Cl n) hm1
  exact ⟨n, m, e, e2, Nat.lt_of_le_of_lt (rowOf_mono hn) hr⟩
theorem cn_below {n k : Nat} (h : c.cn = some n) (hk : k < n) : c.lo k = none := lst_eq fun m hm => (lst_some h).2 k hk ⟨m, hm⟩
end CodeM
noncomputable def clashD (c : CodeM) : D := match c.cn with
  | none => .non
  | some n => match c.lo n with
    | none => .non
    | some m => .tup [.int (n : Nat), .int (m : Nat)]
theorem nok_row {c : CodeM} {n : Nat} (h : c.rowOf n ≤ 15000) : NOk c n := by
  have h1 := CodeM.first_tail (c := c) 16000
  have h2 := (CodeM.rowOf_ok (c := c) n).2
  have h3 := CodeM.first_mono (c := c) (show c.rowOf n + 1 ≤ c.rows.length + 16000 by omega)
  unfold NOk; omega
theorem size_row {c : CodeM} (wf : Wf c) {n : Nat} (h : c.rowOf n ≤ 20) : (c.bits n).length ≤ 200 := by
  rw [CodeM.bits_len]
  have h1 := wf.kl
  have h2 := wf.dl
  have h4 := wf.au
  have h5 := wf.sl
  unfold CodeM.size CodeM.head CodeM.kk
  rcases Nat.lt_or_ge (c.rowOf n) c.rows.length with z | z
  · rw [CodeM.row_lt z]
    have := (wf.rb _ (List.getElem_mem z)).2
    omega
  · rw [CodeM.row_ge z]
    have a1 : c.d * (c.rowOf n - c.rows.length) ≤ 3 * 20 := Nat.mul_le_mul h2 (by omega)
    have a2 : (c.rowOf n - c.rows.length) * c.again.length ≤ 20 * 4 := Nat.mul_le_mul (by omega) h4
    dsimp only
    rw [List.length_append, rep_len]
    omega

/-! ### the first number of bits -/
namespace CodeM
variable {c : CodeM} {l : List Bool} {r s : Nat}
theorem pre_both {a b l : List Bool} (h1 : a <+: l) (h2 : b <+: l) : a <+: b ∨ b <+: a := by
  rcases Nat.le_total a.length b.length with q | q
  · exact .inl (List.prefix_of_prefix_length_le h1 h2 q)
  · exact .inr (List.prefix_of_prefix_length_le h2 h1 q)
theorem head_uniq (hf : c.Free) (h1 : c.head r <+: l) (h2 : c.head s <+: l) : r = s := by
  by_cases e : r = s
  · exact e
  · rcases pre_both h1 h2 with h | h
    · exact absurd h (hf _ _ e)
    · exact absurd h (hf _ _ (Ne.symm e))
theorem head_pos (hf : c.Free) (r : Nat) : 1 ≤ (c.head r).length := by
  cases e : c.head r with
  | nil => exact absurd (by rw [e]; exact List.nil_prefix) (hf r (r + 1) (by omega))
  | cons => simp
theorem size_pos (hf : c.Free) (n : Nat) : 1 ≤ c.size n := by have := head_pos hf (c.rowOf n); unfold size; omega
noncomputable def tkn (c : CodeM) (l : List Bool) : Option Nat := lst fun n => c.bits n <+: l
theorem tkn_eq (hf : c.Free) {n : Nat} (h : c.bits n <+: l) : c.tkn l = some n := lst_eq ⟨h, fun k hk h2 => by
  rcases pre_both h h2 with z | z
  · have := free_num hf z; omega
  · have := free_num hf z; omega⟩
theorem head_bits (n : Nat) : c.head (c.rowOf n) <+: c.bits n := List.prefix_append _ _
theorem tk_row (hf : c.Free) (h : c.head r <+: l) (hk : (c.head r).length + c.kk r ≤ l.length) : c.tkn l = some (c.first r + num ((l.drop (c.head r).length).take (c.kk r))) ∧ c.size (c.first r + num ((l.drop (c.head r).length).take (c.kk r))) = (c.head r).length + c.kk r := by
  obtain ⟨e, he⟩ := bits_row (c := c) (r := r) (w := (l.drop (c.head r).length).take (c.kk r)) (by rw [List.length_take, List.length_drop]; omega)
  refine ⟨tkn_eq hf ?_, ?_⟩
  · obtain ⟨t, rfl⟩ := h
    rw [he, List.prefix_append_right_inj, List.drop_left]
    exact List.take_prefix _ _
  · unfold size; rw [e]
theorem tk_none (h : ∀ r, c.head r <+: l → l.length < (c.head r).length + c.kk r) : c.tkn l = none := lst_eq fun n hn => by
  have h1 := h _ ((head_bits n).trans hn)
  have h2 := hn.length_le
  rw [bits_len] at h2
  unfold size at h2; omega
theorem tk_cut (hf : c.Free) (h : c.head r <+: l) (hk : l.length < (c.head r).length + c.kk r) : c.tkn l = none := tk_none fun s hs => by
  have := head_uniq hf h hs
  subst this; exact hk
theorem cut_iff : (∃ n, l <+: c.bits n) ↔ ∃ r, l <+: c.head r ∨ (c.head r <+: l ∧ l.length ≤ (c.head r).length + c.kk r) := by
  constructor
  · rintro ⟨n, h⟩
    obtain ⟨p, hp, _⟩ := (wr_iff rfl).mp h
    refine ⟨c.rowOf n, ?_⟩
    unfold wr at hp
    split at hp
    · rename_i z; exact .inl (pre_iff'.mp z)
    · split at hp
      · rename_i z; exact .inr ⟨pre_iff'.mp z.1, by have := z.2; omega⟩
      · cases hp
  · rintro ⟨r, h⟩
    have : ∃ p, c.wr r l = some p := by
      unfold wr
      by_cases h1 : l.isPrefixOf (c.head r) = true
      · rw [if_pos h1]; exact ⟨_, rfl⟩
      · rw [if_neg h1]
        rcases h with h | h
        · exact absurd (pre_iff'.mpr h) h1
        · rw [if_pos ⟨pre_iff'.mpr h.1, by have := h.2; omega⟩]; exact ⟨_, rfl⟩
    obtain ⟨p, hp⟩ := this
    exact ⟨_, (wr_has hp).2⟩
theorem far_no (h1 : 1 ≤ c.again.length) (h : c.head r <+: l) : r < c.rows.length + l.length / c.again.length + 1 := by
  obtain ⟨q, hq⟩ : ∃ q, q = l.length / c.again.length := ⟨_, rfl⟩
  rw [← hq]
  rcases Nat.lt_or_ge r (c.rows.length + q + 1) with z | z
  · exact z
  · obtain ⟨i, rfl⟩ : ∃ i, r = c.rows.length + i := ⟨r - c.rows.length, by omega⟩
    have := far_long h1 (l := l) (i := i) (by omega)
    have := h.length_le
    omega
theorem far_cut (h1 : 1 ≤ c.again.length) (h : l <+: c.head r) : ∃ s, s < c.rows.length + l.length / c.again.length + 2 ∧ l <+: c.head s := by
  obtain ⟨q, hq⟩ : ∃ q, q = l.length / c.again.length := ⟨_, rfl⟩
  rw [← hq]
  rcases Nat.lt_or_ge r (c.rows.length + q + 2) with z | z
  · exact ⟨r, z, h⟩
  · obtain ⟨i, rfl⟩ : ∃ i, r = c.rows.length + i := ⟨r - c.rows.length, by omega⟩
    exact ⟨c.rows.length + (q + 1), by omega, far_like h1 (by omega) (by omega) h⟩
open Classical in
noncomputable def wP (P : Nat → Prop) (i : Nat) : Str := if ∃ r, r < i ∧ P r then "cut" else "dead"
theorem wP_zero (P : Nat → Prop) : wP P 0 = "dead" := if_neg fun ⟨r, h, _⟩ => Nat.not_lt_zero _ h
theorem wP_yes {P : Nat → Prop} {i : Nat} (h : P i) : wP P (i + 1) = "cut" := if_pos ⟨i, by omega, h⟩
theorem wP_no {P : Nat → Prop} {i : Nat} (h : ¬ P i) : wP P (i + 1) = wP P i := by
  unfold wP
  congr 1
  refine propext ⟨fun ⟨r, h1, h2⟩ => ⟨r, ?_, h2⟩, fun ⟨r, h1, h2⟩ => ⟨r, by omega, h2⟩⟩
  rcases Nat.lt_or_ge r i with z | z
  · exact z
  · have : r = i := by omega
    subst this; exact absurd h2 h
open Classical in
noncomputable def wrd (c : CodeM) (l : List Bool) : Str := if ∃ n, l <+: c.bits n then "cut" else "dead"
theorem wrd_cut (h : ∃ n, l <+: c.bits n) : c.wrd l = "cut" := if_pos h
theorem wrd_is {P : Nat → Prop} {i : Nat} (h : (∃ r, r < i ∧ P r) ↔ ∃ n, l <+: c.bits n) : c.wrd l = wP P i := by
  unfold wrd wP
  congr 1
  exact propext h.symm
end CodeM
noncomputable def tkD (c : CodeM) (l : List Bool) : List D := match c.tkn l with
  | some n => [.int (n : Nat), .int (c.size n : Nat)]
  | none => [.non, .str (c.wrd l)]
theorem tkD_none {c : CodeM} {l : List Bool} (h : c.tkn l = none) : tkD c l = [.non, .str (c.wrd l)] := by unfold tkD; rw [h]
theorem tkD_some {c : CodeM} {l : List Bool} {n : Nat} (h : c.tkn l = some n) : tkD c l = [.int (n : Nat), .int (c.size n : Nat)] := by unfold tkD; rw [h]
theorem kk_bd2 {c : CodeM} (wf : Wf c) {r : Nat} (h : r ≤ 10000) : c.kk r ≤ 30008 := by
  have h1 := wf.kl
  have h2 := wf.dl
  unfold CodeM.kk
  rcases Nat.lt_or_ge r c.rows.length with z | z
  · rw [CodeM.row_lt z]
    have := (wf.rb _ (List.getElem_mem z)).2.2
    omega
  · rw [CodeM.row_ge z]
    have : c.d * (r - c.rows.length) ≤ 3 * 10000 := Nat.mul_le_mul h2 (by omega)
    dsimp only
    omega
abbrev sp_number_of_beginnings (K : PySem.W.Frag) (B : Adr) : Sp := spA K (fun l : List Bool => [.str (bs l)]) (fun l => l.length ≤ 100000) (fun l => .ok (.int (CodeM.num l : Nat)))
theorem ok_number_of_beginnings (T : Txt K mg B) : Ok P w K mg base CX0 1 "number_of_beginnings" ["bits"] (sp_number_of_beginnings K B) := by
  refine T.d_number_of_beginnings.ok sc_number_of_beginnings (spA_len fun _ => rfl) (fun f cdv A outer s H vs Q E hr h => ⟨_, (pss_cons (ps_set (i := 1) sc_number_of_beginnings.nd rfl (Or.inl rfl) pe_int)
    (pss_cons (ps_for PassesOwn.never rfl (pi_str (pv 0)) (pg_name (i := 2) sc_number_of_beginnings.nd rfl (Or.inl rfl)) (pss_one (ps_set (i := 1) sc_number_of_beginnings.nd rfl (Or.inl rfl) (pe_op (k_add K rfl) (pe_op (k_mul K rfl) pe_int (pv 1)) (pe_callTy k_intS (by rfl) T.n_int (by decide +kernel) (pa_cons (pv 2) pa_nil))))))
    (pss_one (ps_ret (pv 1))))), go_fn h fun a W ha => ?_⟩)
  walk_at "st0"
  refine st_seq (st_asg (d := .int ((CodeM.num (a.take 0) : Nat) : Int)) ee_int (by walk_at "lt") ?_)
  walk_at "fr"
  refine st_seq (st_for (α := Unit) (ei_bits (l := a) (ee_var rfl)) (fun i _ => [.v (.str (bs a)), .v (.int ((CodeM.num (a.take i) : Nat) : Int)), .no]) (fun _ _ => True) ⟨(), Fle.refl _, trivial⟩ ?_ ?_)
  · rintro i d - hi -
    rw [List.getElem?_map] at hi
    cases eb : a[i]? with
    | none => rw [eb] at hi; cases hi
    | some b =>
      rw [eb] at hi
      have hd : D.str (bs [b]) = d := Option.some.inj hi
      subst hd
      refine ⟨_, _, eg_name (by walk_at "lt"), ?_⟩
      walk_at "fr"
      refine st_asg (ee_op (ee_op ee_int (ee_var rfl) rb_mul2N) (ee_cb (by walk_at "ea") rc_intBit) rb_addN) (by walk_at "lt") ?_
      walk_at "fr"
      exact ⟨(), .keep rfl (.keep (by rw [num_take eb]) (.drop (Fle.refl _))), trivial⟩
  · rintro - -
    rw [List.length_map, List.take_of_length_le (Nat.le_refl _)]
    exact st_ret (ee_var rfl) rfl
theorem rb_divA {K : PySem.W.Frag} {a b : Nat} (h : 1 ≤ b) (h2 : b ≤ 4) : Rb K rDivG (.int (a : Nat)) (.int (b : Nat)) (.int ((a / b : Nat) : Int)) := rb_divN (by omega) (Nat.lt_of_le_of_lt h2 (Nat.lt_of_lt_of_le (show 4 < 2 ^ 3 by decide) (Nat.pow_le_pow_right (by decide) (by decide))))
abbrev sp_near_row (K : PySem.W.Frag) (B : Adr) : Sp := spA2 K (fun (c : CodeM) (l : List Bool) => [codeD B.Code c, .str (bs l)]) (fun c l => Wf c ∧ l.length ≤ 9000) (fun c l => .ok (.int (c.rows.length + l.length / c.again.length + 2 : Nat)))
theorem ok_near_row (T : Txt K mg B) : Ok P w K mg base CX0 1 "near_row" ["code", "bits"] (sp_near_row K B) := by
  refine T.d_near_row.ok sc_near_row (spA_len fun _ => rfl) (fun f cdv A outer s H vs Q E hr h => ⟨_, (pss_one (ps_ret (pe_op (k_add K rfl) (pe_op (k_add K rfl) (pe_callB (k_len K rfl) (by rfl) T.n_len (by decide +kernel) (pa_cons (k_fld K rfl (pv 0) rfl) pa_nil)) (pe_op op_divG (pe_callB (k_len K rfl) (by rfl) T.n_len (by decide +kernel) (pa_cons (pv 1) pa_nil)) (pe_callB (k_len K rfl) (by rfl) T.n_len (by decide +kernel) (pa_cons (pe_ix (k_ix K rfl) (k_fld K rfl (pv 0) rfl) pe_int (fun _ _ => rfl)) pa_nil)))) pe_int))), go_fn h fun a W ha => ?_⟩)
  obtain ⟨c, L⟩ := a
  dsimp only at ha
  obtain ⟨wf, hl⟩ := ha
  have hau := wf.au
  walk_at "st0"
  exact st_ret (ee_op (ee_op (ee_cb (ea_cons (by walk_at "ev") ea_nil) rc_lenM) (ee_op (ee_cb (by walk_at "ea") (rc_lenB (by omega))) (ee_cb (ea_cons (ee_op (by walk_at "ev") ee_int (rb_ixT rfl)) ea_nil) (rc_lenB (by omega))) (rb_divA wf.al wf.au)) rb_addN) ee_int rb_addN2) rfl
abbrev sp_taken (K : PySem.W.Frag) (B : Adr) : Sp := spA2 K (fun (c : CodeM) (l : List Bool) => [codeD B.Code c, .str (bs l)]) (fun c l => Wf c ∧ c.Free ∧ l.length ≤ 9000) (fun c l => .ok (.tup (tkD c l)))
theorem ok_taken (T : Txt K mg B) : Ok P w K mg base CX0 4 "taken" ["code", "bits"] (sp_taken K B) := by
  refine T.d_taken.ok sc_taken (spA_len fun _ => rfl) (fun f cdv A outer s H vs Q E hr h => ⟨_, (pss_cons (ps_set (i := 2) sc_taken.nd rfl (Or.inl rfl) pe_str)
    (pss_cons (ps_for PassesOwn.never rfl (pi_range1 rfl T.n_range (pa_cons (pe_op (k_add K rfl) (pe_callH (ok_near_row T) (hr.mono (by first | decide | omega)) rfl pass0 (pa_cons (pv 0) (pa_cons (pv 1) pa_nil))) pe_int) pa_nil)) (pg_name (i := 3) sc_taken.nd rfl (Or.inl rfl)) (pss_cons (ps_asg (pe_callH (ok_row_at T) (hr.mono (by first | decide | omega)) rfl pass0 (pa_cons (pv 0) (pa_cons (pv 3) pa_nil))) (k_tup (n := 2) K rfl rfl (pgs_cons (pg_name (i := 4) sc_taken.nd rfl (Or.inl rfl)) (pgs_cons (pg_name (i := 5) sc_taken.nd rfl (Or.inl rfl)) pgs_nil))))
    (pss_cons (ps_if (k_tru K rfl (pe_m1 PySem.F.slot_str_startswith PySem.F.type_str_startswith mt_startswith (pv 1) (pv 4))) (pss_cons (ps_if (pt_cmpR op_ltG (pe_callB (k_len K rfl) (by rfl) T.n_len (by decide +kernel) (pa_cons (pv 1) pa_nil)) (pe_op (k_add K rfl) (pe_callB (k_len K rfl) (by rfl) T.n_len (by decide +kernel) (pa_cons (pv 4) pa_nil)) (pv 5)) (nomark _)) (pss_one (ps_ret (pe_tup (pa_cons pe_non (pa_cons pe_str pa_nil))))) pss_nil)
    (pss_one (ps_ret (pe_tup (pa_cons (pe_op (k_add K rfl) (pe_callH (ok_first_number T) (hr.mono (by first | decide | omega)) rfl pass0 (pa_cons (pv 0) (pa_cons (pv 3) pa_nil))) (pe_callH (ok_number_of_beginnings T) (hr.mono (by first | decide | omega)) rfl pass0 (pa_cons (pe_slice (k_sl K rfl) (pv 1) (po_some (pe_callB (k_len K rfl) (by rfl) T.n_len (by decide +kernel) (pa_cons (pv 4) pa_nil))) (po_some (pe_op (k_add K rfl) (pe_callB (k_len K rfl) (by rfl) T.n_len (by decide +kernel) (pa_cons (pv 4) pa_nil)) (pv 5)))) pa_nil))) (pa_cons (pe_op (k_add K rfl) (pe_callB (k_len K rfl) (by rfl) T.n_len (by decide +kernel) (pa_cons (pv 4) pa_nil)) (pv 5)) pa_nil)))))) pss_nil)
    (pss_one (ps_if (k_tru K rfl (pe_m1 PySem.F.slot_str_startswith PySem.F.type_str_startswith mt_startswith (pv 4) (pv 1))) (pss_one (ps_set (i := 2) sc_taken.nd rfl (Or.inl rfl) pe_str)) pss_nil)))))
    (pss_one (ps_ret (pe_tup (pa_cons pe_non (pa_cons (pv 2) pa_nil))))))), go_fn h fun a W ha => ?_⟩)
  obtain ⟨c, L⟩ := a
  dsimp only at ha
  obtain ⟨wf, hf, hL⟩ := ha
  have hal := wf.al
  have hrl := wf.rl
  have hdv := Nat.div_le_self L.length c.again.length
  obtain ⟨N, hN⟩ : ∃ N, N = c.rows.length + L.length / c.again.length + 3 := ⟨_, rfl⟩
  walk_at "st0"
  refine st_seq (st_asg (d := .str (CodeM.wP (fun r => L <+: c.head r) 0)) (ee_is ee_str (by rw [CodeM.wP_zero])) (by walk_at "lt") ?_)
  walk_at "fr"
  refine st_seq (st_for (α := Unit) (ei_rng1 (j := (N : Nat)) (ea_is (ea_cons (ee_op (ee_call2 (x := c) (y := L) (by walk_at "ea") rfl ⟨wf, hL⟩ rfl) ee_int rb_addN1) ea_nil) (by rw [hN])) (by omega) (by omega)) (fun i _ => [.v (codeD B.Code c), .v (.str (bs L)), .v (.str (CodeM.wP (fun r => L <+: c.head r) i)), .no, .no, .no]) (fun i _ => ∀ r, r < i → ¬ c.head r <+: L) ⟨(), Fle.refl _, fun _ z => by omega⟩ ?_ ?_)
  · rintro i d - hi hI
    obtain ⟨rfl, hlt⟩ := upto_get hi
    have hlt : i < N := by omega
    have hhb := head_bd wf (show i ≤ c.rows.length + 16000 by omega)
    have hkb := kk_bd2 wf (show i ≤ 10000 by omega)
    refine ⟨_, _, eg_name (by walk_at "lt"), ?_⟩
    walk_at "fr"
    refine st_seq (st_asgG (ee_call2 (x := c) (y := i) (by walk_at "ea") rfl ⟨wf, by omega⟩ rfl) (by walk_at "un2") ?_)
    walk_at "fr"
    refine st_seq (st_if (et_tb (ee_startsB (a := L) (b := c.head i) (ee_var rfl) (ee_var rfl))) (fun hb => ?_) (fun hb => ?_))
    · have hp := CodeM.pre_iff'.mp hb
      have hpl := hp.length_le
      refine st_seq (st_if (et_test (ee_op (ee_cb (by walk_at "ea") (rc_lenB (by omega))) (ee_op (ee_cb (by walk_at "ea") (rc_lenB (l := c.head i) (by omega))) (ee_var rfl) rb_addN) rb_ltN)) (fun hc => ?_) (fun hc => ?_))
      · have hc : L.length < (c.head i).length + c.kk i := of_decide_eq_true hc
        refine st_ret (ee_tup (by walk_at "ea") (by simp)) ?_
        rw [tkD_none (CodeM.tk_cut hf hp hc), CodeM.wrd_cut (CodeM.cut_iff.mpr ⟨i, .inr ⟨hp, by omega⟩⟩)]
      · have hc : (c.head i).length + c.kk i ≤ L.length := Nat.not_lt.mp (of_decide_eq_false hc)
        obtain ⟨t1, t2⟩ := CodeM.tk_row hf hp hc
        refine st_next (st_ret (ee_tup (ea_cons (ee_op (ee_call2 (x := c) (y := i) (by walk_at "ea") rfl ⟨wf, by omega⟩ rfl) (ee_call (a := (L.drop (c.head i).length).take ((c.head i).length + c.kk i - (c.head i).length)) (ea_cons (ee_sl (ee_var rfl) (eo_some (ee_cb (by walk_at "ea") (rc_lenB (l := c.head i) (by omega)))) (eo_some (ee_op (ee_cb (by walk_at "ea") (rc_lenB (l := c.head i) (by omega))) (ee_var rfl) rb_addN)) (rs_midB (Nat.le_add_right _ _) (by omega))) ea_nil) rfl (by rw [List.length_take, List.length_drop]; omega) rfl) rb_addN) (ea_cons (ee_op (ee_cb (by walk_at "ea") (rc_lenB (l := c.head i) (by omega))) (ee_var rfl) rb_addN) ea_nil)) (by simp)) ?_)
        rw [tkD_some t1, t2, Nat.add_sub_cancel_left]; rfl
    · have hp : ¬ c.head i <+: L := fun z => by rw [CodeM.pre_iff'.mpr z] at hb; cases hb
      have hI' : ∀ r, r < i + 1 → ¬ c.head r <+: L := fun r hr => by
        rcases Nat.lt_or_ge r i with z | z
        · exact hI r z
        · have : r = i := by omega
          subst this; exact hp
      refine st_next (st_if (et_tb (ee_startsB (a := c.head i) (b := L) (ee_var rfl) (ee_var rfl))) (fun hc => ?_) (fun hc => ?_))
      · refine st_asg ee_str (by walk_at "lt") ?_
        walk_at "fr"
        exact ⟨(), .keep rfl (.keep rfl (.keep (by rw [CodeM.wP_yes (CodeM.pre_iff'.mp hc)]) (.drop (.drop (.drop .nil))))), hI'⟩
      · exact st_next ⟨(), .keep rfl (.keep rfl (.keep (by rw [CodeM.wP_no fun z => by rw [CodeM.pre_iff'.mpr z] at hc; cases hc]) (.drop (.drop (.drop .nil))))), hI'⟩
  · rintro - hI
    rw [upto_len, Int.toNat_natCast] at hI ⊢
    have hno : ∀ r, ¬ c.head r <+: L := fun r hr => hI r (by have := CodeM.far_no hal hr; omega) hr
    refine st_ret (ee_tup (by walk_at "ea") (by simp)) ?_
    rw [tkD_none (CodeM.tk_none fun r hr => absurd hr (hno r)), CodeM.wrd_is (P := fun r => L <+: c.head r) (i := N)]
    rw [CodeM.cut_iff]
    constructor
    · rintro ⟨r, _, h⟩; exact ⟨r, .inl h⟩
    · rintro ⟨r, h | h⟩
      · obtain ⟨s, h1, h2⟩ := CodeM.far_cut hal h
        exact ⟨s, by omega, h2⟩
      · exact absurd h.1 (hno r)
/-! ### lists -/
theorem join_bss : ∀ ls : List (List Bool), Txt.join "" (ls.map bs) = bs ls.flatten := fun ls => by
  rw [TL.join_eq]
  induction ls with
  | nil => rfl
  | cons a ls ih =>
    cases ls with
    | nil =>
      show bs a = _
      rw [List.flatten_cons, List.flatten_nil, List.append_nil]
    | cons b ls =>
      show bs a ++ ("" : Str) ++ Str.join "" ((b :: ls).map bs) = _
      rw [ih, bs_nil, bs_app, bs_app, List.append_nil, List.flatten_cons (l := a)]
theorem sum_lens : ∀ ls : List (List Bool), ((ls.map bs).map (·.length)).sum = ls.flatten.length
  | [] => rfl
  | a :: ls => by
    rw [List.map_cons, List.map_cons, List.sum_cons, sum_lens ls, bs_len, List.flatten_cons, List.length_append]
theorem rm_joinL {K : PySem.W.Frag} {ls : List (List Bool)} (hz : ls.flatten.length ≤ 1000000) : Rm K (rJoin K) (.str "") [.lst (ls.map fun l => .str (bs l))] (.str (bs ls.flatten)) := by
  have h := join_strs (K := K) (s := "") (ys := ls.map bs) (by
    have e0 : ("" : Str).length = 0 := by decide
    rw [sum_lens, e0]; omega)
  rw [join_bss, List.map_map] at h
  exact h
def codes (c : CodeM) (ns : List Nat) : List Bool := (ns.map c.bits).flatten
abbrev intL (ns : List Nat) : D := .lst (ns.map fun n => .int (n : Nat))
abbrev sp_write_list (K : PySem.W.Frag) (B : Adr) : Sp := spA2 K (fun (c : CodeM) (ns : List Nat) => [codeD B.Code c, intL ns]) (fun c ns => Wf c ∧ (∀ n ∈ ns, NOk c n) ∧ ns.length ≤ 1000 ∧ (codes c ns).length ≤ 100000) (fun c ns => if freeB c = true then .ok (.str (bs (codes c ns))) else .err (.ref B.NotFree) none)
theorem free_of_ok {c : CodeM} {B : Adr} {x y : D} (h : (if freeB c = true then Res.ok x else Res.err (.ref B.NotFree) none) = .ok y) : freeB c = true := by
  cases e : freeB c with
  | true => rfl
  | false => rw [e] at h; cases h
theorem err_of {c : CodeM} {B : Adr} {x y : D} {C : Value} {o : Option Int} (h : (if freeB c = true then Res.ok x else Res.err (.ref B.NotFree) none) = .err C o) : (if freeB c = true then Res.ok y else Res.err (.ref B.NotFree) none) = .err C o := by
  cases e : freeB c with
  | true => rw [e] at h; cases h
  | false => rw [e] at h; exact h
theorem ok_write_list (T : Txt K mg B) : Ok P w K mg base (L2.CX P w) 6 "write_list" ["code", "numbers"] (sp_write_list K B) := by
  refine T.d_write_list.okX sc_write_list (spA_len fun _ => rfl) (fun f cdv A outer s H vs Q E hr h => ⟨_, (pss_cons (ps_expr (pe_callH (ok_check_free T) (hr.mono (by first | decide | omega)) rfl (passes_call (takes_of rfl rfl rfl rfl) fun _ _ _ _ h => h) (pa_cons (pv 0) pa_nil)))
    (pss_one (ps_ret (k_join K rfl pe_str (pe_lc (own := [("n", 2)]) rfl sc_write_list.nd (k_ilist K rfl (pv 1)) (blkOk_by (own := [("n", 2)]) (N := nm_write_list) (sc := defScope s_write_list) (by decide +kernel)) (fun _ _ _ _ _ => (pg_name (i := 2) sc_write_list.nd rfl (Or.inl rfl))) (fun _ _ _ _ _ => pts_nil) (fun _ _ _ _ _ => (pe_callH (ok_bits_of T) (hr.mono (by first | decide | omega)) rfl pass0 (pa_cons (pv 0) (pa_cons (pv 2) pa_nil))))))))), go_fn h fun a W ha => ?_⟩)
  obtain ⟨c, ns⟩ := a
  dsimp only at ha
  obtain ⟨wf, hn, hl, hz⟩ := ha
  walk_at "st0"
  refine st_seq (st_call (a := c) (by walk_at "ea") rfl wf (fun d hd => ?_) (fun C o z => err_of z))
  have hb := free_of_ok hd
  rw [if_pos hb]
  refine st_ret (ee_m1 ee_str (ee_is (ee_lcA (ys := ns) (gD := fun n : Nat => D.int (n : Nat)) (js := [2]) (ei_list (ee_var rfl)) (fun n => .str (bs (c.bits n))) (by omega) (by decide) (fun i n hi => ⟨_, eg_name (by walk_at "lt"), ee_call2 (x := c) (y := n) (by walk_at "ea") rfl ⟨wf, hn n (List.mem_of_getElem? hi)⟩ rfl⟩)) (y := .lst ((ns.map c.bits).map fun l => .str (bs l))) (by rw [List.map_map]; rfl)) (rm_joinL (by show (codes c ns).length ≤ _; omega))) rfl
noncomputable def rdF (c : CodeM) : Nat → List Bool → List Nat × List Bool × Str
  | 0, l => ([], l, "whole")
  | f + 1, l => if l = [] then ([], [], "whole") else match c.tkn l with
    | some n => (n :: (rdF c f (l.drop (c.size n))).1, (rdF c f (l.drop (c.size n))).2)
    | none => ([], l, c.wrd l)
noncomputable def rd (c : CodeM) (l : List Bool) : List Nat × List Bool × Str := rdF c l.length l
theorem rdF_nil {c : CodeM} (f : Nat) : rdF c f [] = ([], [], ("whole" : Str)) := by cases f <;> simp [rdF]
abbrev rdD (p : List Nat × List Bool × Str) : D := .tup [intL p.1, .str (bs p.2.1), .str p.2.2]
abbrev sp_read_list (K : PySem.W.Frag) (B : Adr) : Sp := spA2 K (fun (c : CodeM) (l : List Bool) => [codeD B.Code c, .str (bs l)]) (fun c l => Wf c ∧ l.length ≤ 9000) (fun c l => if freeB c = true then .ok (rdD (rd c l)) else .err (.ref B.NotFree) none)
theorem ok_read_list (T : Txt K mg B) : Ok P w K mg base (L2.CX P w) 5 "read_list" ["code", "bits"] (sp_read_list K B) := by
  refine T.d_read_list.okX sc_read_list (spA_len fun _ => rfl) (fun f cdv A outer s H vs Q E hr h => ⟨_, (pss_cons (ps_expr (pe_callH (ok_check_free T) (hr.mono (by first | decide | omega)) rfl (passes_call (takes_of rfl rfl rfl rfl) fun _ _ _ _ h => h) (pa_cons (pv 0) pa_nil)))
    (pss_cons (ps_set (i := 2) sc_read_list.nd rfl (Or.inl rfl) (pe_lst pa_nil))
    (pss_cons (ps_while (passes_of rfl) (k_tru K rfl (pv 1)) (pss_cons (ps_asg (pe_callH (ok_taken T) (hr.mono (by first | decide | omega)) rfl pass0 (pa_cons (pv 0) (pa_cons (pv 1) pa_nil))) (k_tup (n := 2) K rfl rfl (pgs_cons (pg_name (i := 3) sc_read_list.nd rfl (Or.inl rfl)) (pgs_cons (pg_name (i := 4) sc_read_list.nd rfl (Or.inl rfl)) pgs_nil))))
    (pss_cons (ps_if (pt_cmpR op_isG (pv 3) pe_non (nomark _)) (pss_one (ps_ret (pe_tup (pa_cons (pv 2) (pa_cons (pv 1) (pa_cons (pv 4) pa_nil)))))) pss_nil)
    (pss_cons (ps_expr (pe_bm PySem.F.plainAttrs_list PySem.F.slot_list_append PySem.F.type_list_append mt_append (pv 2) (pa_cons (pv 3) pa_nil)))
    (pss_one (ps_set (i := 1) sc_read_list.nd rfl (Or.inl rfl) (pe_slice (k_sl K rfl) (pv 1) (po_some (pv 4)) po_none)))))))
    (pss_one (ps_ret (pe_tup (pa_cons (pv 2) (pa_cons pe_str (pa_cons pe_str pa_nil))))))))), go_fn h fun a W ha => ?_⟩)
  obtain ⟨c, L⟩ := a
  dsimp only at ha
  obtain ⟨wf, hL⟩ := ha
  walk_at "st0"
  refine st_seq (st_call (a := c) (by walk_at "ea") rfl wf (fun d hd => ?_) (fun C o z => err_of z))
  have hb := free_of_ok hd
  have hf := freeB_free hb
  rw [if_pos hb]
  refine st_seq (st_own ea_nil (by decide) (by walk_at "lt") ?_)
  walk_at "fr"
  refine st_seq (st_while (α := Nat × List Nat × List Bool) (fun p => [.v (codeD B.Code c), .v (.str (bs p.2.2)), .own (p.2.1.map fun n => .int (n : Nat)), .no, .no]) (fun p => p.2.2.length ≤ p.1 ∧ p.1 ≤ L.length ∧ p.2.1.length + p.1 ≤ L.length ∧ rd c L = (p.2.1 ++ (rdF c p.1 p.2.2).1, (rdF c p.1 p.2.2).2)) (fun p => p.1) ⟨(L.length, [], L), Fle.refl _, Nat.le_refl _, Nat.le_refl _, by simp, rfl⟩ ?_)
  rintro ⟨f, ns, M⟩ ⟨i1, i2, i4, i3⟩
  dsimp only at i1 i2 i3 i4 ⊢
  refine ⟨_, et_truG (ee_var rfl) (truOkB (by omega)), fun hc => ?_, fun hc => ?_⟩
  · rw [truB] at hc
    have hM : M ≠ [] := fun z => by rw [z] at hc; cases hc
    obtain ⟨f, rfl⟩ : ∃ g, f = g + 1 := ⟨f - 1, by have : 0 < M.length := List.length_pos_iff.mpr hM; omega⟩
    unfold rdF at i3
    rw [if_neg hM] at i3
    have tk : Ee ⟨K, none, E, W, fun _ => False⟩ (tCall (sp_taken K B) [] E0 (tCons (tVar 0) (tCons (tVar 1) tNil))) [.v (codeD B.Code c), .v (.str (bs M)), .own (ns.map fun n => .int (n : Nat)), .no, .no] (.tup (tkD c M)) := ee_call2 (x := c) (y := M) (by walk_at "ea") rfl ⟨wf, hf, by omega⟩ rfl
    cases et : c.tkn M with
    | none =>
      rw [et] at i3
      rw [tkD_none et] at tk
      refine st_seq (st_asgG tk (by walk_at "un2") ?_)
      walk_at "fr"
      refine st_seq (st_if (et_test (ee_op (ee_var rfl) ee_non rb_is)) (fun _ => ?_) (fun z => nomatch z))
      refine st_frz (i := 2) rfl ?_
      walk_at "fr"
      refine st_ret (ee_tup (by walk_at "ea") (by simp)) ?_
      rw [i3, List.append_nil]
    | some n =>
      rw [et] at i3
      rw [tkD_some et] at tk
      have hs := CodeM.size_pos hf n
      refine st_seq (st_asgG tk (by walk_at "un2") ?_)
      walk_at "fr"
      refine st_seq (st_if (et_test (ee_op (ee_var rfl) ee_non rb_is)) (fun z => nomatch z) (fun _ => st_next ?_))
      refine st_seq (st_app rfl (ee_var rfl) (by rw [List.length_map]; omega) ?_)
      walk_at "fr"
      refine st_asg (ee_sl (ee_var rfl) (eo_some (ee_var rfl)) eo_none (rs_fromB (by omega))) (by walk_at "lt") ?_
      walk_at "fr"
      refine ⟨(f, ns ++ [n], M.drop (c.size n)), .keep rfl (.keep rfl (.keep (by rw [List.map_append]; rfl) (.drop (.drop .nil)))), ⟨?_, ?_, ?_, ?_⟩, by dsimp only; omega⟩
      · dsimp only; rw [List.length_drop]; omega
      · dsimp only; omega
      · dsimp only; rw [List.length_append]; simp; omega
      · dsimp only; rw [i3, List.append_assoc]; rfl
  · rw [truB] at hc
    have hM : M = [] := by cases M with | nil => rfl | cons => cases hc
    subst hM
    rw [rdF_nil, List.append_nil] at i3
    refine st_frz (i := 2) rfl ?_
    walk_at "fr"
    refine st_ret (d := rdD (ns, [], "whole")) (ee_tup (ea_cons (ee_var rfl) (ea_cons ee_str (ea_cons ee_str ea_nil))) (by simp)) ?_
    rw [i3]

--@@part
/-! ### what lists give -/
theorem size_rowR {c : CodeM} (wf : Wf c) {n R : Nat} (h : c.rowOf n ≤ R) : c.size n ≤ 16 + 7 * R := by
  have h1 := wf.kl
  have h2 := wf.dl
  have h4 := wf.au
  have h5 := wf.sl
  unfold CodeM.size CodeM.head CodeM.kk
  rcases Nat.lt_or_ge (c.rowOf n) c.rows.length with z | z
  · rw [CodeM.row_lt z]
    have := (wf.rb _ (List.getElem_mem z)).2
    omega
  · rw [CodeM.row_ge z]
    have a1 : c.d * (c.rowOf n - c.rows.length) ≤ 3 * R := Nat.mul_le_mul h2 (by omega)
    have a2 : (c.rowOf n - c.rows.length) * c.again.length ≤ R * 4 := Nat.mul_le_mul (by omega) h4
    dsimp only
    rw [List.length_append, rep_len]
    omega
theorem row_le {c : CodeM} (n : Nat) : c.rowOf n ≤ n := Nat.le_trans (CodeM.le_first _) (CodeM.rowOf_ok n).1
theorem codes_cons {c : CodeM} (n : Nat) (ns : List Nat) : codes c (n :: ns) = c.bits n ++ codes c ns := rfl
theorem codes_len {c : CodeM} {m : Nat} : ∀ {ns : List Nat}, (∀ n ∈ ns, c.size n ≤ m) → (codes c ns).length ≤ m * ns.length
  | [], _ => Nat.zero_le _
  | n :: ns, h => by
    have h1 := codes_len (ns := ns) fun k hk => h k (List.mem_cons_of_mem _ hk)
    have h2 := h n List.mem_cons_self
    rw [codes_cons, List.length_append, CodeM.bits_len, List.length_cons, Nat.mul_succ]
    omega
theorem rdF_codes {c : CodeM} (hf : c.Free) : ∀ (ns : List Nat) (f : Nat), (codes c ns).length ≤ f → rdF c f (codes c ns) = (ns, [], ("whole" : Str))
  | [], f, _ => rdF_nil f
  | n :: ns, f, h => by
    rw [codes_cons] at h ⊢
    rw [List.length_append, CodeM.bits_len] at h
    have hp := CodeM.size_pos hf n
    obtain ⟨g, rfl⟩ : ∃ g, f = g + 1 := ⟨f - 1, by omega⟩
    have hne : c.bits n ++ codes c ns ≠ [] := fun z => by
      have := congrArg List.length z
      rw [List.length_append, CodeM.bits_len] at this
      simp at this; omega
    unfold rdF
    rw [if_neg hne, CodeM.tkn_eq hf (List.prefix_append (c.bits n) (codes c ns))]
    dsimp only
    rw [← CodeM.bits_len, List.drop_left, rdF_codes hf ns g (by omega)]
theorem rd_codes {c : CodeM} (hf : c.Free) (ns : List Nat) : rd c (codes c ns) = (ns, [], ("whole" : Str)) := rdF_codes hf ns _ (Nat.le_refl _)
theorem rdF_len {c : CodeM} : ∀ (f : Nat) (l : List Bool), (rdF c f l).1.length ≤ f ∧ (rdF c f l).2.1.length ≤ l.length ∧ ((rdF c f l).2.2 = "whole" ∨ (rdF c f l).2.2 = "cut" ∨ (rdF c f l).2.2 = "dead")
  | 0, l => ⟨Nat.le_refl _, Nat.le_refl _, .inl rfl⟩
  | f + 1, l => by
    unfold rdF
    by_cases h : l = []
    · rw [if_pos h]; exact ⟨Nat.zero_le _, Nat.zero_le _, .inl rfl⟩
    · rw [if_neg h]
      cases e : c.tkn l with
      | none =>
        refine ⟨Nat.zero_le _, Nat.le_refl _, .inr ?_⟩
        show c.wrd l = _ ∨ c.wrd l = _
        unfold CodeM.wrd
        split
        · exact .inl rfl
        · exact .inr rfl
      | some n =>
        obtain ⟨h1, h2, h3⟩ := rdF_len (c := c) f (l.drop (c.size n))
        rw [List.length_drop] at h2
        exact ⟨Nat.succ_le_succ h1, by dsimp only; omega, h3⟩

theorem free_freeB {c : CodeM} (h : c.Free) : freeB c = true := by
  unfold freeB; simpa only [decide_eq_true_eq] using h
/-! ### readers -/
abbrev fedL (l : List Bool) : List D := l.map fun b => .str (bs [b])
abbrev sp_Reader_init (K : PySem.W.Frag) (B : Adr) : Sp := spN K B.Reader (fun c : CodeM => codeD B.Code c) (fun c => Wf c) (fun c => if freeB c = true then none else some B.NotFree)
theorem ok_Reader_init (T : Txt K mg B) : OkI P w K mg base (L2.CX P w) 5 B.Reader ["self", "code"] (sp_Reader_init K B) := by
  refine T.d_Reader_init.okX sc_Reader_init ?len (fun f cdv A outer s H vs Q E hr h => ⟨_, (pss_cons (ps_expr (pe_callH (ok_check_free T) (hr.mono (by first | decide | omega)) rfl (passes_call (takes_of rfl rfl rfl rfl) fun _ _ _ _ h => h) (pa_cons (pv 1) pa_nil)))
    (pss_cons (k_sfld K rfl (pv 0) (pv 1) rfl)
    (pss_one (k_sfld K rfl (pv 0) (pe_lst pa_nil) rfl)))), ?_⟩)
  case len => exact spN_len
  refine go_n h (fun a W M p dx ha => ?_) (by decide)
  walk_at "st0"
  refine st_seq (st_call (a := a) (by walk_at "ea") rfl ha (fun d hd => ?_) (fun C o z => ?_))
  · have hb := free_of_ok hd
    refine st_seq (st_put rfl (ee_var rfl) T.cl_Reader T.na_Reader_code (by decide) (by decide) ?_)
    walk_at "fr"
    exact st_putL rfl T.cl_Reader T.na_Reader_fed (fun q => ⟨if_pos hb, q, rfl⟩) rfl
  · cases e : freeB a with
    | true => rw [e] at z; cases z
    | false => rw [e] at z; cases z; exact ⟨_, rfl, rfl, by simp⟩
abbrev RdP (a : CodeM × List Bool) : Prop := Wf a.1 ∧ a.1.Free ∧ a.2.length ≤ 8000
abbrev sp_Reader_left (K : PySem.W.Frag) (B : Adr) : Sp := spM K B.Reader (fun a : CodeM × List Bool => codeD B.Code a.1) (fun a => fedL a.2) RdP (fun a => .str (bs (rd a.1 a.2).2.1))
theorem ok_Reader_left (T : Txt K mg B) : OkM P w K mg base CX0 6 B.Reader "left" ["self"] (sp_Reader_left K B) := by
  refine T.d_Reader_left.ok sc_Reader_left ?len (fun f cdv A outer s H vs Q E hr h => ⟨_, (pss_one (ps_ret (pe_ix (k_ix K rfl) (pe_callH (ok_read_list T) (hr.mono (by first | decide | omega)) rfl passL (pa_cons (k_fld K rfl (pv 0) rfl) (pa_cons (k_join K rfl pe_str (k_fld K rfl (pv 0) rfl)) pa_nil))) pe_int (fun _ _ => rfl)))), ?_⟩)
  case len => exact spM_len
  refine go_m h (fun a W p q dx ha => ?_) (by decide)
  obtain ⟨c, l⟩ := a
  obtain ⟨wf, hf, hl⟩ := ha
  dsimp only at wf hf hl
  walk_at "st0"
  exact st_ret (ee_op (ee_call2 (x := c) (y := l) (ea_cons (ee_rcode rfl T.cl_Reader T.na_Reader_code) (ea_cons (ee_rjoin (l := l) rfl T.cl_Reader T.na_Reader_fed rfl (by omega)) ea_nil)) rfl ⟨wf, by omega⟩ (if_pos (free_freeB hf))) ee_int (rb_ixT rfl)) rfl
abbrev sp_Reader_numbers (K : PySem.W.Frag) (B : Adr) : Sp := spM K B.Reader (fun a : CodeM × List Bool => codeD B.Code a.1) (fun a => fedL a.2) RdP (fun a => intL (rd a.1 a.2).1)
abbrev sp_Reader_len (K : PySem.W.Frag) (B : Adr) : Sp := spM K B.Reader (fun a : CodeM × List Bool => codeD B.Code a.1) (fun a => fedL a.2) RdP (fun a => .int (a.2.length : Nat))
/-- a bit, or nothing -/
def bitOf (x : D) : Option Bool := match x with
  | .str s => if s = "0" then some false else if s = "1" then some true else none
  | _ => none
noncomputable def feedR (B : Adr) (a : (CodeM × List Bool) × D) : Wr := match bitOf a.2 with
  | none => .err B.BadBit
  | some b => match a.1.1.tkn ((rd a.1.1 a.1.2).2.1 ++ [b]) with
    | some n => .ok (.int (n : Nat)) (fedL (a.1.2 ++ [b]))
    | none => if a.1.1.wrd ((rd a.1.1 a.1.2).2.1 ++ [b]) = "dead" then .err B.Dead else .ok .non (fedL (a.1.2 ++ [b]))
theorem in_bits (s : Str) : (["0", "1"] : List Str).any (fun y => y == s) = (bitOf (.str s)).isSome := by
  unfold bitOf
  simp only [List.any_cons, List.any_nil, Bool.or_false]
  by_cases h0 : s = "0"
  · subst h0; rfl
  · by_cases h1 : s = "1"
    · subst h1; rfl
    · rw [if_neg h0, if_neg h1, beq_eq_false_iff_ne.mpr (Ne.symm h0), beq_eq_false_iff_ne.mpr (Ne.symm h1)]; rfl
theorem bitOf_some {x : D} {b : Bool} (h : bitOf x = some b) : x = .str (bs [b]) := by
  unfold bitOf at h
  split at h
  · rename_i s
    by_cases h0 : s = "0"
    · rw [if_pos h0] at h; cases h; rw [h0]; rfl
    · rw [if_neg h0] at h
      by_cases h1 : s = "1"
      · rw [if_pos h1] at h; cases h; rw [h1]; rfl
      · rw [if_neg h1] at h; cases h
  · cases h
theorem rb_ninB {K : PySem.W.Frag} {s : Str} : Rb K (rNinG K) (.str s) (.tup [.str "0", .str "1"]) (.bl (!(bitOf (.str s)).isSome)) := fun G H v w sb r1 r2 Q t => by
  cases r1
  cases r2 with
  | tup e q =>
    have hv := q.strs (ns := ["0", "1"])
    subst hv
    refine ⟨_, _, rfl, .inr (ex_t sb e), rfl, ?_, ?_⟩
    · rfl
    · have e' : inV (.str s) ((["0", "1"] : List Str).map V.str) = (bitOf (.str s)).isSome := by rw [← in_bits]; unfold inV; rw [List.any_map]; rfl
      have := t.same (u := .bl (!inV (.str s) ((["0", "1"] : List Str).map V.str))) sb (by rw [e']; exact .bl _)
      exact this
abbrev sp_Reader_feed (K : PySem.W.Frag) (B : Adr) : Sp := spW K B.Reader (fun a : (CodeM × List Bool) × D => [a.2]) (fun a => codeD B.Code a.1.1) (fun a => fedL a.1.2) (fun a => RdP a.1 ∧ plainD a.2 = true) (feedR B)
theorem ok_Reader_feed (T : Txt K mg B) : OkM P w K mg base (L2.CX P w) 7 B.Reader "feed" ["self", "bit"] (sp_Reader_feed K B) := by
  refine T.d_Reader_feed.okX sc_Reader_feed ?len (fun f cdv A outer s H vs Q E hr h => ⟨_, (pss_cons (ps_if (PW.pt (pw_or (pt_not (k_tru K rfl (pe_callB (k_isi K rfl) (by rfl) T.n_isinstance (by decide +kernel) (pa_cons (pv 1) (pa_cons (pe_bltn (v := .ty "str") (u := .type "str") rfl T.n_str (by decide +kernel) rfl) pa_nil))))) (pw_or1 (pt_cmpR (k_nin K rfl) (pv 1) (pe_glob (v := .ref B.BITS) rfl T.c_BITS rfl) (by rfl))))) (pss_one (ps_raise0 rfl (takes_of rfl rfl rfl rfl) T.e_BadBit rfl)) pss_nil)
    (pss_cons (ps_asg (pe_callH (ok_taken T) (hr.mono (by first | decide | omega)) rfl pass0 (pa_cons (k_fld K rfl (pv 0) rfl) (pa_cons (pe_op (k_add K rfl) (pe_callMH0 (pv 0) T.cl_Reader (ok_Reader_left T) (hr.mono (by first | decide | omega)) pass0) (pv 1)) pa_nil))) (k_tup (n := 2) K rfl rfl (pgs_cons (pg_name (i := 2) sc_Reader_feed.nd rfl (Or.inl rfl)) (pgs_cons (pg_name (i := 3) sc_Reader_feed.nd rfl (Or.inl rfl)) pgs_nil))))
    (pss_cons (ps_if (PW.pt (pw_and (pt_cmpR op_isG (pv 2) pe_non (nomark _)) (pw_and1 (pt_cmpR (k_eq K rfl hr.units) (pv 3) pe_str (nomark _))))) (pss_one (ps_raise0 rfl (takes_of rfl rfl rfl rfl) T.e_Dead rfl)) pss_nil)
    (pss_cons (ps_expr (pe_bm PySem.F.plainAttrs_list PySem.F.slot_list_append PySem.F.type_list_append mt_append (k_fld K rfl (pv 0) rfl) (pa_cons (pv 1) pa_nil)))
    (pss_one (ps_ret (pv 2))))))), ?_⟩)
  case len => exact spW_len fun _ => rfl
  refine go_w h (fun a W p q dx ha => ?_) (by decide)
  obtain ⟨⟨c, l⟩, x⟩ := a
  obtain ⟨⟨wf, hf, hl⟩, hx⟩ := ha
  dsimp only at wf hf hl hx
  walk_at "st0"
  have is : ∀ {W M E} {ds : Fm}, ds[1]? = some (.v x) → Et ⟨K, none, E, W, M⟩ (tNot (tTruG K (tCB (rIsi K) (tCons (tVar 1) (tCons (tC (V.ty "str")) tNil))))) ds (!isStr x) := fun h => et_not (et_tb (ee_cb (ea_cons (ee_var h) (ea_cons ee_ty ea_nil)) (rc_isStr hx)))
  have t1 : Et ⟨K, none, E, W, fun b => b = p ∨ b = q⟩ (tOr (tNot (tTruG K (tCB (rIsi K) (tCons (tVar 1) (tCons (tC (V.ty "str")) tNil))))) (tTest (tOp (rNinG K) (tVar 1) (tC (.ref B.BITS))))) [.rdr true p q dx B.Reader (codeD B.Code c) (fedL l), .v x, .no, .no] (!(bitOf x).isSome) := by
    cases x with
    | str s => exact et_or2 (is rfl) (et_test (ee_op (ee_var rfl) (ee_kt T.k_BITS) rb_ninB))
    | int i => exact et_or1 (is rfl)
    | bl b => exact et_or1 (is rfl)
    | non => exact et_or1 (is rfl)
    | lst xs => exact et_or1 (is rfl)
    | tup xs => exact et_or1 (is rfl)
    | obj _ _ _ => cases hx
    | ty _ => cases hx
    | cls _ => cases hx
  refine st_seq (st_if t1 (fun hb => st_raiseF ⟨_, rfl, ?_, rfl⟩) (fun hb => st_next ?_))
  · have h0 : bitOf x = none := by
      cases e : bitOf x with
      | none => rfl
      | some b => rw [e] at hb; cases hb
    unfold feedR; dsimp only; rw [h0]
  obtain ⟨b, hbit⟩ : ∃ b, bitOf x = some b := by
    cases e : bitOf x with
    | none => rw [e] at hb; cases hb
    | some b => exact ⟨b, rfl⟩
  have hxb := bitOf_some hbit
  subst hxb
  have hR : feedR B ((c, l), .str (bs [b])) = match c.tkn ((rd c l).2.1 ++ [b]) with
    | some n => .ok (.int (n : Nat)) (fedL (l ++ [b]))
    | none => if c.wrd ((rd c l).2.1 ++ [b]) = "dead" then .err B.Dead else .ok .non (fedL (l ++ [b])) := by unfold feedR; dsimp only; rw [hbit]
  have hlen := (rdF_len (c := c) l.length l).2.1
  obtain ⟨M, hM⟩ : ∃ M, M = (rd c l).2.1 := ⟨_, rfl⟩
  have hMl : M.length ≤ 8000 := by rw [hM]; exact Nat.le_trans hlen hl
  rw [hR]
  clear hR hbit hb t1 is
  rw [← hM]
  have tk : Ee ⟨K, none, E, W, fun b => b = p ∨ b = q⟩ (tCall (sp_taken K B) [] E0 (tCons (tFld K (tVar 0) "code") (tCons (tOp (rAddG K) (tMeth B.Reader "left" (sp_Reader_left K B) [] E0 (tVar 0) tNil) (tVar 1)) tNil))) [.rdr true p q dx B.Reader (codeD B.Code c) (fedL l), .v (.str (bs [b])), .no, .no] (.tup (tkD c (M ++ [b]))) :=
    ee_call2 (x := c) (y := M ++ [b]) (ea_cons (ee_rcode rfl T.cl_Reader T.na_Reader_code) (ea_cons (ee_op (ee_is (ee_meth0 (a := (c, l)) rfl rfl rfl ⟨wf, hf, hl⟩) (by rw [hM])) (ee_var rfl) (rb_addB (by rw [List.length_singleton]; omega))) ea_nil)) rfl ⟨wf, hf, by rw [List.length_append]; simp; omega⟩ rfl
  cases et : c.tkn (M ++ [b]) with
  | some n =>
    rw [tkD_some et] at tk
    refine st_seq (st_asgG tk (by walk_at "un2") ?_)
    walk_at "fr"
    refine st_seq (st_if (et_and0 (et_is (et_test (ee_op (ee_var rfl) ee_non rb_is)) rfl)) (fun z => nomatch z) (fun _ => st_next ?_))
    refine st_seq (st_rapp rfl T.cl_Reader T.na_Reader_fed (ee_var rfl) (by rw [List.length_map]; omega) ?_)
    walk_at "fr"
    refine st_retF (ee_var rfl) ⟨_, rfl, ?_⟩
    show some (Sl.rdr _ _ _ _ _ _ (l.map _ ++ _)) = some (Sl.rdr _ _ _ _ _ _ ((l ++ [b]).map _))
    rw [List.map_append]; rfl
  | none =>
    rw [tkD_none et] at tk
    dsimp only
    refine st_seq (st_asgG tk (by walk_at "un2") ?_)
    walk_at "fr"
    refine st_seq (st_if (et_and2 (et_is (et_test (ee_op (ee_var rfl) ee_non rb_is)) rfl) (et_test (ee_op (ee_var rfl) ee_str rb_eqS))) (fun hb => st_raiseF ⟨_, rfl, ?_, rfl⟩) (fun hb => st_next ?_))
    · have hb : c.wrd (M ++ [b]) = "dead" := by simpa using hb
      rw [if_pos hb]
    have hb : c.wrd (M ++ [b]) ≠ "dead" := by simpa using hb
    rw [if_neg hb]
    refine st_seq (st_rapp rfl T.cl_Reader T.na_Reader_fed (ee_var rfl) (by rw [List.length_map]; omega) ?_)
    walk_at "fr"
    refine st_retF (ee_var rfl) ⟨_, rfl, ?_⟩
    show some (Sl.rdr _ _ _ _ _ _ (l.map _ ++ _)) = some (Sl.rdr _ _ _ _ _ _ ((l ++ [b]).map _))
    rw [List.map_append]; rfl
def undoR (B : Adr) (a : CodeM × List Bool) : Wr := if a.2 = [] then .err B.NothingDone else .ok .non (fedL a.2.dropLast)
abbrev sp_Reader_undo (K : PySem.W.Frag) (B : Adr) : Sp := spW K B.Reader (fun _ : CodeM × List Bool => []) (fun a => codeD B.Code a.1) (fun a => fedL a.2) RdP (undoR B)
theorem ok_Reader_undo (T : Txt K mg B) : OkM P w K mg base (L2.CX P w) 3 B.Reader "undo" ["self"] (sp_Reader_undo K B) := by
  refine T.d_Reader_undo.okX sc_Reader_undo ?len (fun f cdv A outer s H vs Q E hr h => ⟨_, (pss_cons (ps_if (pt_not (k_tru K rfl (k_fld K rfl (pv 0) rfl))) (pss_one (ps_raise0 rfl (takes_of rfl rfl rfl rfl) T.e_NothingDone rfl)) pss_nil)
    (pss_one (ps_expr (pe_bm0 PySem.F.plainAttrs_list PySem.F.slot_list_pop PySem.F.type_list_pop mt_pop (k_fld K rfl (pv 0) rfl))))), ?_⟩)
  case len => exact spW_len fun _ => rfl
  refine go_w h (fun a W p q dx ha => ?_) (by decide)
  obtain ⟨c, l⟩ := a
  walk_at "st0"
  refine st_seq (st_if (et_not (et_rtru rfl T.cl_Reader T.na_Reader_fed)) (fun hb => st_raiseF ⟨_, rfl, ?_, rfl⟩) (fun hb => st_next ?_))
  · have hb : l = [] := by cases l with | nil => rfl | cons => cases hb
    subst hb; rfl
  have hb : l ≠ [] := fun z => by subst z; cases hb
  refine st_rpop rfl T.cl_Reader T.na_Reader_fed (by simpa using hb) ⟨_, if_neg hb, ?_⟩
  show some (Sl.rdr _ _ _ _ _ _ (l.map _).dropLast) = some (Sl.rdr _ _ _ _ _ _ (l.dropLast.map _))
  rw [List.map_dropLast]

--@@part
/-! ### what refuses a code that is not free: no more of these bodies is reached -/
abbrev sp_order (K : PySem.W.Frag) (B : Adr) : Sp := spA K (fun p : CodeM × D => [codeD B.Code p.1]) (fun p => Wf p.1 ∧ freeB p.1 = false) (fun _ => .err (.ref B.NotFree) none)
theorem ok_order (T : Txt K mg B) : Ok P w K mg base (L2.CX P w) 5 "order" ["code"] (sp_order K B) := by
  refine T.d_order.okX sc_order (spA_len fun _ => rfl) (fun f cdv A outer s H vs Q E hr h => ⟨_, (pss_cons (ps_expr (pe_callH (ok_check_free T) (hr.mono (by first | decide | omega)) rfl (passes_call (takes_of rfl rfl rfl rfl) fun _ _ _ _ h => h) (pa_cons (pv 0) pa_nil)))
    pss_dead), go_fn h fun a W ha => ?_⟩)
  obtain ⟨wf, hb⟩ := ha
  walk_at "st0"
  exact st_seq (st_call (a := a.1) (by walk_at "ea") rfl wf (fun d hd => by rw [hb] at hd; cases hd) (fun C o z => by rw [hb] at z; cases z; rfl))
abbrev sp_growth (K : PySem.W.Frag) (B : Adr) : Sp := spA K (fun p : CodeM × D => [codeD B.Code p.1]) (fun p => Wf p.1 ∧ freeB p.1 = false) (fun _ => .err (.ref B.NotFree) none)
theorem ok_growth (T : Txt K mg B) : Ok P w K mg base (L2.CX P w) 5 "growth" ["code"] (sp_growth K B) := by
  refine T.d_growth.okX sc_growth (spA_len fun _ => rfl) (fun f cdv A outer s H vs Q E hr h => ⟨_, (pss_cons (ps_expr (pe_callH (ok_check_free T) (hr.mono (by first | decide | omega)) rfl (passes_call (takes_of rfl rfl rfl rfl) fun _ _ _ _ h => h) (pa_cons (pv 0) pa_nil)))
    pss_dead), go_fn h fun a W ha => ?_⟩)
  obtain ⟨wf, hb⟩ := ha
  walk_at "st0"
  exact st_seq (st_call (a := a.1) (by walk_at "ea") rfl wf (fun d hd => by rw [hb] at hd; cases hd) (fun C o z => by rw [hb] at z; cases z; rfl))
abbrev sp_share (K : PySem.W.Frag) (B : Adr) : Sp := spA K (fun p : CodeM × D => [codeD B.Code p.1]) (fun p => Wf p.1 ∧ freeB p.1 = false) (fun _ => .err (.ref B.NotFree) none)
theorem ok_share (T : Txt K mg B) : Ok P w K mg base (L2.CX P w) 5 "share" ["code"] (sp_share K B) := by
  refine T.d_share.okX sc_share (spA_len fun _ => rfl) (fun f cdv A outer s H vs Q E hr h => ⟨_, (pss_cons (ps_expr (pe_callH (ok_check_free T) (hr.mono (by first | decide | omega)) rfl (passes_call (takes_of rfl rfl rfl rfl) fun _ _ _ _ h => h) (pa_cons (pv 0) pa_nil)))
    pss_dead), go_fn h fun a W ha => ?_⟩)
  obtain ⟨wf, hb⟩ := ha
  walk_at "st0"
  exact st_seq (st_call (a := a.1) (by walk_at "ea") rfl wf (fun d hd => by rw [hb] at hd; cases hd) (fun C o z => by rw [hb] at z; cases z; rfl))
abbrev sp_starting (K : PySem.W.Frag) (B : Adr) : Sp := spA K (fun p : CodeM × D => [codeD B.Code p.1, p.2]) (fun p => Wf p.1 ∧ freeB p.1 = false) (fun _ => .err (.ref B.NotFree) none)
theorem ok_starting (T : Txt K mg B) : Ok P w K mg base (L2.CX P w) 5 "starting" ["code", "bits"] (sp_starting K B) := by
  refine T.d_starting.okX sc_starting (spA_len fun _ => rfl) (fun f cdv A outer s H vs Q E hr h => ⟨_, (pss_cons (ps_expr (pe_callH (ok_check_free T) (hr.mono (by first | decide | omega)) rfl (passes_call (takes_of rfl rfl rfl rfl) fun _ _ _ _ h => h) (pa_cons (pv 0) pa_nil)))
    pss_dead), go_fn h fun a W ha => ?_⟩)
  obtain ⟨wf, hb⟩ := ha
  walk_at "st0"
  exact st_seq (st_call (a := a.1) (by walk_at "ea") rfl wf (fun d hd => by rw [hb] at hd; cases hd) (fun C o z => by rw [hb] at z; cases z; rfl))
abbrev sp_how_many (K : PySem.W.Frag) (B : Adr) : Sp := spA K (fun p : CodeM × D => [codeD B.Code p.1, p.2]) (fun p => Wf p.1 ∧ freeB p.1 = false) (fun _ => .err (.ref B.NotFree) none)
theorem ok_how_many (T : Txt K mg B) : Ok P w K mg base (L2.CX P w) 5 "how_many" ["code", "bits"] (sp_how_many K B) := by
  refine T.d_how_many.okX sc_how_many (spA_len fun _ => rfl) (fun f cdv A outer s H vs Q E hr h => ⟨_, (pss_cons (ps_expr (pe_callH (ok_check_free T) (hr.mono (by first | decide | omega)) rfl (passes_call (takes_of rfl rfl rfl rfl) fun _ _ _ _ h => h) (pa_cons (pv 0) pa_nil)))
    pss_dead), go_fn h fun a W ha => ?_⟩)
  obtain ⟨wf, hb⟩ := ha
  walk_at "st0"
  exact st_seq (st_call (a := a.1) (by walk_at "ea") rfl wf (fun d hd => by rw [hb] at hd; cases hd) (fun C o z => by rw [hb] at z; cases z; rfl))
abbrev sp_is_dead (K : PySem.W.Frag) (B : Adr) : Sp := spA K (fun p : CodeM × D => [codeD B.Code p.1, p.2]) (fun p => Wf p.1 ∧ freeB p.1 = false) (fun _ => .err (.ref B.NotFree) none)
theorem ok_is_dead (T : Txt K mg B) : Ok P w K mg base (L2.CX P w) 5 "is_dead" ["code", "bits"] (sp_is_dead K B) := by
  refine T.d_is_dead.okX sc_is_dead (spA_len fun _ => rfl) (fun f cdv A outer s H vs Q E hr h => ⟨_, (pss_cons (ps_expr (pe_callH (ok_check_free T) (hr.mono (by first | decide | omega)) rfl (passes_call (takes_of rfl rfl rfl rfl) fun _ _ _ _ h => h) (pa_cons (pv 0) pa_nil)))
    pss_dead), go_fn h fun a W ha => ?_⟩)
  obtain ⟨wf, hb⟩ := ha
  walk_at "st0"
  exact st_seq (st_call (a := a.1) (by walk_at "ea") rfl wf (fun d hd => by rw [hb] at hd; cases hd) (fun C o z => by rw [hb] at z; cases z; rfl))
abbrev sp_dead (K : PySem.W.Frag) (B : Adr) : Sp := spA K (fun p : CodeM × D => [codeD B.Code p.1, p.2]) (fun p => Wf p.1 ∧ freeB p.1 = false) (fun _ => .err (.ref B.NotFree) none)
theorem ok_dead (T : Txt K mg B) : Ok P w K mg base (L2.CX P w) 5 "dead" ["code", "size"] (sp_dead K B) := by
  refine T.d_dead.okX sc_dead (spA_len fun _ => rfl) (fun f cdv A outer s H vs Q E hr h => ⟨_, (pss_cons (ps_expr (pe_callH (ok_check_free T) (hr.mono (by first | decide | omega)) rfl (passes_call (takes_of rfl rfl rfl rfl) fun _ _ _ _ h => h) (pa_cons (pv 0) pa_nil)))
    pss_dead), go_fn h fun a W ha => ?_⟩)
  obtain ⟨wf, hb⟩ := ha
  walk_at "st0"
  exact st_seq (st_call (a := a.1) (by walk_at "ea") rfl wf (fun d hd => by rw [hb] at hd; cases hd) (fun C o z => by rw [hb] at z; cases z; rfl))
abbrev sp_gap (K : PySem.W.Frag) (B : Adr) : Sp := spA K (fun p : CodeM × D => [codeD B.Code p.1, p.2]) (fun p => Wf p.1 ∧ freeB p.1 = false) (fun _ => .err (.ref B.NotFree) none)
theorem ok_gap (T : Txt K mg B) : Ok P w K mg base (L2.CX P w) 5 "gap" ["one", "other"] (sp_gap K B) := by
  refine T.d_gap.okX sc_gap (spA_len fun _ => rfl) (fun f cdv A outer s H vs Q E hr h => ⟨_, (pss_cons (ps_expr (pe_callH (ok_check_free T) (hr.mono (by first | decide | omega)) rfl (passes_call (takes_of rfl rfl rfl rfl) fun _ _ _ _ h => h) (pa_cons (pv 0) pa_nil)))
    pss_dead), go_fn h fun a W ha => ?_⟩)
  obtain ⟨wf, hb⟩ := ha
  walk_at "st0"
  exact st_seq (st_call (a := a.1) (by walk_at "ea") rfl wf (fun d hd => by rw [hb] at hd; cases hd) (fun C o z => by rw [hb] at z; cases z; rfl))
abbrev sp_longer (K : PySem.W.Frag) (B : Adr) : Sp := spA K (fun p : CodeM × CodeM => [codeD B.Code p.1, codeD B.Code p.2]) (fun p => Wf p.1 ∧ freeB p.1 = true ∧ Wf p.2 ∧ freeB p.2 = false) (fun _ => .err (.ref B.NotFree) none)
theorem ok_longer (T : Txt K mg B) : Ok P w K mg base (L2.CX P w) 5 "longer" ["one", "other"] (sp_longer K B) := by
  refine T.d_longer.okX sc_longer (spA_len fun _ => rfl) (fun f cdv A outer s H vs Q E hr h => ⟨_, (pss_cons (ps_expr (pe_callH (ok_check_free T) (hr.mono (by first | decide | omega)) rfl (passes_call (takes_of rfl rfl rfl rfl) fun _ _ _ _ h => h) (pa_cons (pv 0) pa_nil)))
    (pss_cons (ps_expr (pe_callH (ok_check_free T) (hr.mono (by first | decide | omega)) rfl (passes_call (takes_of rfl rfl rfl rfl) fun _ _ _ _ h => h) (pa_cons (pv 1) pa_nil)))
    pss_dead)), go_fn h fun a W ha => ?_⟩)
  obtain ⟨wf, hf, wf2, hb⟩ := ha
  walk_at "st0"
  refine st_seq (st_call (a := a.1) (by walk_at "ea") rfl wf (fun d hd => ?_) (fun C o z => by rw [hf] at z; cases z))
  exact st_seq (st_call (a := a.2) (by walk_at "ea") rfl wf2 (fun d hd => by rw [hb] at hd; cases hd) (fun C o z => by rw [hb] at z; cases z; rfl))

--@@part
theorem ok_BadLine (T : Txt K mg B) : OkL P w K mg base 1 "BadLine" B.BadLine := by
  refine T.l_BadLine.ok (k := 0) sc_BadLine_init (fun f cdv A outer s H vs Q E hr h => ⟨_, (pss_one (ps_ost (pv 0) (pv 1))), ?_⟩)
  obtain ⟨a, n, rfl, ha, q⟩ := h
  exact ⟨.int n, rfl, .ref a, rfl, a, _, rfl, T.l_BadLine.t, T.l_BadLine.no, .inl ⟨ha, q⟩⟩
/-! ### texts -/
theorem ee_lenOwn {c : Ctx} {ds : Fm} {i : Nat} {xs : List D} (h : ds[i]? = some (.own xs)) : Ee c (tCB (rLenG c.K) (tCons (tVar i) tNil)) ds (.int (xs.length : Nat)) := fun G H σ a Q q => by
  obtain ⟨p, vs, h1, h2, h3, h4, _⟩ := a.fr.ok i _ h
  exact ⟨_, h1, _, xs.length, rfl, .inl ⟨_, SqL.of h3, by rw [h4.len]⟩, q _ G H Ext.refl a.sub (.int _)⟩
def numS (w : Str) (most : Nat) : Option Nat := match w.cps.toList with
  | [k] => if 48 ≤ k ∧ k ≤ 56 ∧ k - 48 ≤ most then some (k - 48) else none
  | _ => none
def bitsM (s : Str) (lo hi : Nat) : Option (List Bool) := if bitD (.str s) lo hi = true then some (s.cps.toList.map (· == 49)) else none
theorem bitsM_some {s : Str} {lo hi : Nat} {l : List Bool} (h : bitsM s lo hi = some l) : s = bs l ∧ lo ≤ l.length ∧ l.length ≤ hi ∧ bitD (.str s) lo hi = true := by
  unfold bitsM at h
  split at h
  · rename_i e
    cases h
    obtain ⟨l', e1, h1, h2⟩ := bitD_of e
    cases e1
    have e2 : (bs l').cps.toList.map (· == 49) = l' := by
      rw [bs_cps, List.map_map]
      have : ∀ b ∈ l', ((fun x => x == 49) ∘ sg) b = b := fun b _ => by cases b <;> rfl
      rw [List.map_congr_left this, List.map_id']
    rw [e2]
    exact ⟨rfl, h1, h2, e⟩
  · cases h
theorem bitsM_none {s : Str} {lo hi : Nat} (h : bitsM s lo hi = none) : bitD (.str s) lo hi = false := by
  unfold bitsM at h
  split at h
  · cases h
  · rename_i e; simpa using e
theorem bitsM_bs {l : List Bool} {lo hi : Nat} (h1 : lo ≤ l.length) (h2 : l.length ≤ hi) : bitsM (bs l) lo hi = some l := by
  unfold bitsM
  rw [if_pos (bitD_bs h1 h2), bs_cps, List.map_map]
  have : ∀ b ∈ l, ((fun x => x == 49) ∘ sg) b = b := fun b _ => by cases b <;> rfl
  rw [List.map_congr_left this, List.map_id']
def rowInM (s : Str) : Option (List Bool × Nat) := match Txt.split s " " with
  | [a, b] => (bitsM a 1 8).bind fun l => (numS b 8).map fun k => (l, k)
  | _ => none
def tailInM (s : Str) : Option (List Bool × List Bool × Nat × Nat) := match Txt.split s " " with
  | [w0, w1, w2, w3, w4, w5, w6, w7] => if [w0, w2, w4, w6] = (["again", "stop", "bits", "more"] : List Str) ∧ w3 ≠ "" then
      (bitsM w1 1 4).bind fun ag => (bitsM (if w3 = "-" then "" else w3) 0 4).bind fun st => (numS w5 8).bind fun k => (numS w7 3).map fun d => (ag, st, k, d) else none
  | _ => none
def readM (N : Nat) : Nat → List (List Bool × Nat) → List Str → CodeM ⊕ Nat
  | _, _, [] => .inr (N + 1)
  | a, rows, s :: ls => match tailInM s with
    | some t => if a + 1 < N then .inr (a + 2) else .inl ⟨rows, t.1, t.2.1, t.2.2.1, t.2.2.2⟩
    | none => if rows.length < 6 then match rowInM s with
        | some r => readM N (a + 1) (rows ++ [r]) ls
        | none => .inr (a + 1)
      else .inr (a + 1)
def optRow (o : Option (List Bool × Nat)) : D := match o with
  | none => .non
  | some r => rowD r
def optTail (o : Option (List Bool × List Bool × Nat × Nat)) : D := match o with
  | none => .non
  | some t => .tup [.str (bs t.1), .str (bs t.2.1), .int (t.2.2.1 : Nat), .int (t.2.2.2 : Nat)]
theorem part_len {x y p : Str} (hy : 1 ≤ y.length) (h : p ∈ Txt.split x y) : p.length ≤ x.length := by
  have h1 := PyProof.Rows.split_weight x y hy
  have h2 : 1 ≤ (Txt.split x y).length := List.length_pos_iff.mpr (fun z => by rw [z] at h; cases h)
  have h3 : ∀ {ys : List Str}, p ∈ ys → p.length ≤ (ys.map (·.length)).sum := fun {ys} => by
    induction ys with
    | nil => intro h; cases h
    | cons q ys ih =>
      intro h
      rw [List.map_cons, List.sum_cons]
      rcases List.mem_cons.mp h with rfl | h
      · omega
      · have := ih h; omega
  have := h3 h
  omega
theorem part_num {x y : Str} (hy : 1 ≤ y.length) : (Txt.split x y).length ≤ x.length + 1 := by
  have h1 := PyProof.Rows.split_weight x y hy
  omega
abbrev sp_number_of_texts (K : PySem.W.Frag) (B : Adr) : Sp := spA2 K (fun (s : Str) (n : Nat) => [.str s, .int (n : Nat)]) (fun s n => s.length ≤ 100000) (fun s n => .ok (optD (numS s n)))
theorem ok_number_of_texts (T : Txt K mg B) : Ok P w K mg base CX0 1 "number_of_texts" ["word", "most"] (sp_number_of_texts K B) := by
  refine T.d_number_of_texts.ok sc_number_of_texts (spA_len fun _ => rfl) (fun f cdv A outer s H vs Q E hr h => ⟨_, (pss_cons (ps_if (PW.pt (pw_or (pt_cmpR (k_ne K rfl hr.units) (pe_callB (k_len K rfl) (by rfl) T.n_len (by decide +kernel) (pa_cons (pv 0) pa_nil)) pe_int (nomark _)) (pw_or (pt_cmpR k_ninS (pv 0) (pe_glob (v := .str "012345678") rfl T.c_FIGURES.choose_spec ⟨_, rfl⟩) (by rfl)) (pw_or1 (pt_cmpR op_gtG (pe_callTy k_intS (by rfl) T.n_int (by decide +kernel) (pa_cons (pv 0) pa_nil)) (pv 1) (nomark _)))))) (pss_one (ps_ret pe_non)) pss_nil)
    (pss_one (ps_ret (pe_callTy k_intS (by rfl) T.n_int (by decide +kernel) (pa_cons (pv 0) pa_nil))))), go_fn h fun a W ha => ?_⟩)
  obtain ⟨s, n⟩ := a
  dsimp only at ha
  walk_at "st0"
  have ln : ∀ {W E} {ds : Fm}, ds[0]? = some (.v (.str s)) → Ee ⟨K, none, E, W, fun _ => False⟩ (tCB (rLenG K) (tCons (tVar 0) tNil)) ds (.int (s.length : Nat)) := fun h => ee_cb (ea_cons (ee_var h) ea_nil) (rc_lenS (by omega))
  have hlen : s.cps.toList.length = s.length := by simp [Str.length]
  by_cases h1 : s.length = 1
  · obtain ⟨k, hk⟩ : ∃ k, s.cps.toList = [k] := by
      match e : s.cps.toList, (show s.cps.toList.length = 1 by omega) with
      | [k], _ => exact ⟨k, rfl⟩
    obtain rfl : s = ⟨#[k]⟩ := str_ext (by rw [hk])
    have hn : numS ⟨#[k]⟩ n = if 48 ≤ k ∧ k ≤ 56 ∧ k - 48 ≤ n then some (k - 48) else none := rfl
    rw [hn]
    have hfig : decide (k ∈ ("012345678" : Str).cps.toList) = decide (48 ≤ k ∧ k ≤ 56) := by
      have e : ("012345678" : Str).cps.toList = [48, 49, 50, 51, 52, 53, 54, 55, 56] := by decide +kernel
      rw [e, Bool.eq_iff_iff, decide_eq_true_iff, decide_eq_true_iff]
      simp only [List.mem_cons, List.not_mem_nil, or_false]
      omega
    have t1 : ∀ {W E} {ds : Fm}, ds[0]? = some (.v (.str ⟨#[k]⟩)) → Et ⟨K, none, E, W, fun _ => False⟩ (tTest (tOp (rNeG K) (tCB (rLenG K) (tCons (tVar 0) tNil)) (tC (.int 1)))) ds false := fun h => et_is (et_test (ee_op (ln h) ee_int (rb_neN (b := 1)))) (by rw [h1]; rfl)
    have t2 : ∀ {W E} {ds : Fm}, ds[0]? = some (.v (.str ⟨#[k]⟩)) → Et ⟨K, none, E, W, fun _ => False⟩ (tTest (tOp rNinS (tVar 0) (tC (.str "012345678")))) ds (!decide (48 ≤ k ∧ k ≤ 56)) := fun h => et_is (et_test (ee_op (ee_var h) ee_str rb_ninS)) (by rw [hfig])
    by_cases h2 : 48 ≤ k ∧ k ≤ 56
    · obtain ⟨j, rfl⟩ : ∃ j, k = 48 + j := ⟨k - 48, by omega⟩
      have hi : ∀ {W E} {ds : Fm}, ds[0]? = some (.v (.str ⟨#[48 + j]⟩)) → Ee ⟨K, none, E, W, fun _ => False⟩ (tCB rIntT (tCons (tVar 0) tNil)) ds (.int (j : Nat)) := fun h => ee_cb (ea_cons (ee_var h) ea_nil) (rc_intDg (k := j) (by omega))
      refine st_seq (st_if (et_or2 (t1 rfl) (et_or2 (et_is (t2 rfl) (by rw [decide_eq_true h2]; rfl)) (et_test (ee_op (hi rfl) (ee_var rfl) rb_gtN)))) (fun hc => ?_) (fun hc => ?_))
      · have hc : n < j := of_decide_eq_true hc
        exact st_ret ee_non (by rw [if_neg (by omega)]; rfl)
      · have hc : ¬ n < j := of_decide_eq_false hc
        exact st_next (st_ret (hi rfl) (by rw [if_pos (by omega), Nat.add_sub_cancel_left]; rfl))
    · refine st_seq (st_if (et_or2 (t1 rfl) (et_or1 (et_is (t2 rfl) (by rw [decide_eq_false h2]; rfl)))) (fun _ => st_ret ee_non (by rw [if_neg (by omega)]; rfl)) (fun z => nomatch z))
  · have hn : numS s n = none := by
      unfold numS
      split
      · rename_i k e
        exact absurd (by rw [← hlen, e]; rfl) h1
      · rfl
    rw [hn]
    exact st_seq (st_if (et_or1 (et_is (et_test (ee_op (ln rfl) ee_int (rb_neN (b := 1)))) (by rw [decide_eq_false h1]; rfl : _ = true))) (fun _ => st_ret ee_non rfl) (fun z => nomatch z))
theorem sp_ok : ((" " : Str).length == 0) = false := by decide
theorem nl_ok : (("\n" : Str).length == 0) = false := by decide
abbrev sp_row_in (K : PySem.W.Frag) (B : Adr) : Sp := spA K (fun s : Str => [.str s]) (fun s => s.length ≤ 90000) (fun s => .ok (optRow (rowInM s)))
theorem ok_row_in (T : Txt K mg B) : Ok P w K mg base CX0 2 "row_in" ["line"] (sp_row_in K B) := by
  refine T.d_row_in.ok sc_row_in (spA_len fun _ => rfl) (fun f cdv A outer s H vs Q E hr h => ⟨_, (pss_cons (ps_set (i := 1) sc_row_in.nd rfl (Or.inl rfl) (pe_split (pv 0) pe_str))
    (pss_cons (ps_if (PW.pt (pw_or (pt_cmpR (k_ne K rfl hr.units) (pe_callB (k_len K rfl) (by rfl) T.n_len (by decide +kernel) (pa_cons (pv 1) pa_nil)) pe_int (nomark _)) (pw_or (pt_not (k_tru K rfl (pe_callH (ok_are_bits T) (hr.mono (by first | decide | omega)) rfl pass0 (pa_cons (pe_ix (k_ix K rfl) (pv 1) pe_int (fun _ _ => rfl)) (pa_cons pe_int (pa_cons pe_int pa_nil)))))) (pw_or1 (pt_cmpR op_isG (pe_callH (ok_number_of_texts T) (hr.mono (by first | decide | omega)) rfl pass0 (pa_cons (pe_ix (k_ix K rfl) (pv 1) pe_int (fun _ _ => rfl)) (pa_cons pe_int pa_nil))) pe_non (nomark _)))))) (pss_one (ps_ret pe_non)) pss_nil)
    (pss_one (ps_ret (pe_tup (pa_cons (pe_ix (k_ix K rfl) (pv 1) pe_int (fun _ _ => rfl)) (pa_cons (pe_callH (ok_number_of_texts T) (hr.mono (by first | decide | omega)) rfl pass0 (pa_cons (pe_ix (k_ix K rfl) (pv 1) pe_int (fun _ _ => rfl)) (pa_cons pe_int pa_nil))) pa_nil))))))), go_fn h fun a W ha => ?_⟩)
  walk_at "st0"
  have hnum := part_num (x := a) (y := " ") (by decide)
  have hpl : ∀ p ∈ Txt.split a " ", p.length ≤ a.length := fun p hp => part_len (by decide) hp
  have spl : Ee ⟨K, none, E, W, fun _ => False⟩ (tM1 (fun x xs H Q => ∃ a b, x = V.str a ∧ xs = [V.str b] ∧ (b.length == 0) = false ∧ a.length + 2 ≤ sizeLine ∧ rNewStrs (Txt.split a b) H Q) (tVar 0) (tC (V.str (Str.ofString " ")))) [.v (.str a), .no] (.lst ((Txt.split a " ").map D.str)) := ee_split (ee_var rfl) ee_str sp_ok (by omega)
  obtain ⟨o, ho⟩ : ∃ o, o = rowInM a := ⟨_, rfl⟩
  have ho' := ho
  unfold rowInM at ho'
  rw [← ho]
  generalize Txt.split a " " = ws at hnum hpl ho' spl
  refine st_seq (st_asg spl (by walk_at "lt") ?_)
  walk_at "fr"
  have ln : Ee ⟨K, none, E, W, fun _ => False⟩ (tCB (rLenG K) (tCons (tVar 1) tNil)) [.v (.str a), .v (.lst (ws.map D.str))] (.int (ws.length : Nat)) := ee_cb (ea_cons (ee_var rfl) ea_nil) rc_lenML
  by_cases h2 : ws.length = 2
  · obtain ⟨x, y, rfl⟩ : ∃ x y, ws = [x, y] := by
      match ws, h2 with
      | [x, y], _ => exact ⟨x, y, rfl⟩
    have hx := hpl x (by simp)
    have hy := hpl y (by simp)
    have ho' : o = (bitsM x 1 8).bind fun l => (numS y 8).map fun k => (l, k) := ho'
    have w0 : ∀ {ds : Fm}, ds[1]? = some (.v (.lst ([x, y].map D.str))) → Ee ⟨K, none, E, W, fun _ => False⟩ (tOp (rIxG K) (tVar 1) (tC (V.int 0))) ds (.str x) := fun h => ee_op (ee_var h) ee_int (rb_ixL rfl)
    have w1 : ∀ {ds : Fm}, ds[1]? = some (.v (.lst ([x, y].map D.str))) → Ee ⟨K, none, E, W, fun _ => False⟩ (tOp (rIxG K) (tVar 1) (tC (V.int 1))) ds (.str y) := fun h => ee_op (ee_var h) ee_int (rb_ixL rfl)
    have nm : ∀ {ds : Fm}, ds[1]? = some (.v (.lst ([x, y].map D.str))) → Ee ⟨K, none, E, W, fun _ => False⟩ (tCall (sp_number_of_texts K B) [] E0 (tCons (tOp (rIxG K) (tVar 1) (tC (V.int 1))) (tCons (tC (V.int 8)) tNil))) ds (optD (numS y 8)) := fun h => ee_call2 (x := y) (y := 8) (ea_cons (w1 h) (ea_cons ee_int ea_nil)) rfl (by omega) rfl
    have hln : Et ⟨K, none, E, W, fun _ => False⟩ (tTest (tOp (rNeG K) (tCB (rLenG K) (tCons (tVar 1) tNil)) (tC (V.int 2)))) [.v (.str a), .v (.lst ([x, y].map D.str))] false := et_is (et_test (ee_op ln ee_int (rb_neN (b := 2)))) rfl
    refine st_seq (st_if (et_or2 hln (et_or (et_not (et_tb (ee_call3 (x := .str x) (y := 1) (z := 8) (ea_cons (w0 rfl) (ea_cons ee_int (ea_cons ee_int ea_nil))) rfl (by show decide (x.length ≤ 100000) = true; exact decide_eq_true (by omega)) rfl))) (fun _ => et_test (ee_op (nm rfl) ee_non rb_is)))) (fun hc => ?_) (fun hc => ?_))
    · have hc : (!bitD (.str x) 1 8 || isNonD (optD (numS y 8))) = true := hc
      refine st_ret ee_non ?_
      have : o = none := by
        rw [ho']
        cases e1 : bitsM x 1 8 with
        | none => rfl
        | some l =>
          rw [show bitD (.str x) 1 8 = true from (bitsM_some e1).2.2.2] at hc
          cases e2 : numS y 8 with
          | none => rfl
          | some k => rw [e2] at hc; cases hc
      rw [this]; rfl
    · have hc : (!bitD (.str x) 1 8 || isNonD (optD (numS y 8))) = false := hc
      rw [Bool.or_eq_false_iff] at hc
      cases e1 : bitsM x 1 8 with
      | none => rw [show bitD (.str x) 1 8 = false from bitsM_none e1] at hc; cases hc.1
      | some l =>
        cases e2 : numS y 8 with
        | none => rw [e2] at hc; cases hc.2
        | some k =>
          rw [e2] at nm
          refine st_next (st_ret (ee_tup (ea_cons (w0 rfl) (ea_cons (nm rfl) ea_nil)) (by simp)) ?_)
          rw [ho', e1, e2, (bitsM_some e1).1]; rfl
  · have hn : o = none := by
      rw [ho']
      split
      · exact absurd rfl h2
      · rfl
    refine st_seq (st_if (et_or1 (et_is (et_test (ee_op ln ee_int (rb_neN (b := 2)))) (by rw [decide_eq_false h2]; rfl : _ = true))) (fun _ => st_ret ee_non (by rw [hn]; rfl)) (fun z => nomatch z))
theorem strs_sh {n : Nat} : ∀ {xs : List Str}, (∀ s ∈ xs, s.cps.all (· < 0x110000) = true) → shL n (xs.map D.str) = true
  | [], _ => by cases n <;> rfl
  | s :: xs, h => by
    rw [List.map_cons]
    unfold shL
    rw [strs_sh fun y hy => h y (List.mem_cons_of_mem _ hy)]
    cases n <;> simp [shD, h s List.mem_cons_self]
abbrev sp_tail_in (K : PySem.W.Frag) (B : Adr) : Sp := spA K (fun s : Str => [.str s]) (fun s => s.length ≤ 90000 ∧ ∀ p ∈ Txt.split s " ", p.cps.all (· < 0x110000) = true) (fun s => .ok (optTail (tailInM s)))
theorem ok_tail_in (T : Txt K mg B) : Ok P w K mg base CX0 2 "tail_in" ["line"] (sp_tail_in K B) := by
  refine T.d_tail_in.ok sc_tail_in (spA_len fun _ => rfl) (fun f cdv A outer s H vs Q E hr h => ⟨_, (pss_cons (ps_set (i := 1) sc_tail_in.nd rfl (Or.inl rfl) (pe_split (pv 0) pe_str))
    (pss_cons (ps_if (PW.pt (pw_or (pt_cmpR (k_ne K rfl hr.units) (pe_callB (k_len K rfl) (by rfl) T.n_len (by decide +kernel) (pa_cons (pv 1) pa_nil)) pe_int (nomark _)) (pw_or1 (pt_cmpR (k_ne K rfl hr.units) (pe_even K rfl (pv 1)) (pe_lst (pa_cons pe_str (pa_cons pe_str (pa_cons pe_str (pa_cons pe_str pa_nil))))) (nomark _))))) (pss_one (ps_ret pe_non)) pss_nil)
    (pss_cons (ps_set (i := 2) sc_tail_in.nd rfl (Or.inl rfl) (pe_ifExp (pt_cmpR (k_eq K rfl hr.units) (pe_ix (k_ix K rfl) (pv 1) pe_int (fun _ _ => rfl)) pe_str (nomark _)) pe_str (pe_ix (k_ix K rfl) (pv 1) pe_int (fun _ _ => rfl))))
    (pss_cons (ps_par (i := 3) (j := 4) (by rfl) sc_tail_in.nd rfl rfl (by decide) rfl rfl (pa_cons (pe_callH (ok_number_of_texts T) (hr.mono (by first | decide | omega)) rfl pass0 (pa_cons (pe_ix (k_ix K rfl) (pv 1) pe_int (fun _ _ => rfl)) (pa_cons pe_int pa_nil))) (pa_cons (pe_callH (ok_number_of_texts T) (hr.mono (by first | decide | omega)) rfl pass0 (pa_cons (pe_ix (k_ix K rfl) (pv 1) pe_int (fun _ _ => rfl)) (pa_cons pe_int pa_nil))) pa_nil)) (by rfl))
    (pss_cons (ps_if (PW.pt (pw_or (pt_not (k_tru K rfl (pe_callH (ok_are_bits T) (hr.mono (by first | decide | omega)) rfl pass0 (pa_cons (pe_ix (k_ix K rfl) (pv 1) pe_int (fun _ _ => rfl)) (pa_cons pe_int (pa_cons pe_int pa_nil)))))) (pw_or (pt_not (k_tru K rfl (pe_callH (ok_are_bits T) (hr.mono (by first | decide | omega)) rfl pass0 (pa_cons (pv 2) (pa_cons pe_int (pa_cons pe_int pa_nil)))))) (pw_or (pt_cmpR (k_eq K rfl hr.units) (pe_ix (k_ix K rfl) (pv 1) pe_int (fun _ _ => rfl)) pe_str (nomark _)) (pw_or1 (pt_cmpR (k_in K rfl) pe_non (pe_tup (pa_cons (pv 3) (pa_cons (pv 4) pa_nil))) (by rfl))))))) (pss_one (ps_ret pe_non)) pss_nil)
    (pss_one (ps_ret (pe_tup (pa_cons (pe_ix (k_ix K rfl) (pv 1) pe_int (fun _ _ => rfl)) (pa_cons (pv 2) (pa_cons (pv 3) (pa_cons (pv 4) pa_nil)))))))))))), go_fn h fun a W ha => ?_⟩)
  obtain ⟨ha, hsh⟩ := ha
  walk_at "st0"
  have hnum := part_num (x := a) (y := " ") (by decide)
  have hpl : ∀ p ∈ Txt.split a " ", p.length ≤ a.length := fun p hp => part_len (by decide) hp
  have spl : Ee ⟨K, none, E, W, fun _ => False⟩ (tM1 (fun x xs H Q => ∃ a b, x = V.str a ∧ xs = [V.str b] ∧ (b.length == 0) = false ∧ a.length + 2 ≤ sizeLine ∧ rNewStrs (Txt.split a b) H Q) (tVar 0) (tC (V.str (Str.ofString " ")))) [.v (.str a), .no, .no, .no, .no] (.lst ((Txt.split a " ").map D.str)) := ee_split (ee_var rfl) ee_str sp_ok (by omega)
  obtain ⟨o, ho⟩ : ∃ o, o = tailInM a := ⟨_, rfl⟩
  have ho' := ho
  unfold tailInM at ho'
  rw [← ho]
  generalize Txt.split a " " = ws at hnum hpl ho' spl hsh
  refine st_seq (st_asg spl (by walk_at "lt") ?_)
  walk_at "fr"
  have ln : Ee ⟨K, none, E, W, fun _ => False⟩ (tCB (rLenG K) (tCons (tVar 1) tNil)) [.v (.str a), .v (.lst (ws.map D.str)), .no, .no, .no] (.int (ws.length : Nat)) := ee_cb (ea_cons (ee_var rfl) ea_nil) rc_lenML
  by_cases h8 : ws.length = 8
  · obtain ⟨w0, w1, w2, w3, w4, w5, w6, w7, rfl⟩ : ∃ w0 w1 w2 w3 w4 w5 w6 w7, ws = [w0, w1, w2, w3, w4, w5, w6, w7] := by
      match ws, h8 with
      | [w0, w1, w2, w3, w4, w5, w6, w7], _ => exact ⟨w0, w1, w2, w3, w4, w5, w6, w7, rfl⟩
    have ho' : o = if [w0, w2, w4, w6] = (["again", "stop", "bits", "more"] : List Str) ∧ w3 ≠ "" then
      (bitsM w1 1 4).bind fun ag => (bitsM (if w3 = "-" then "" else w3) 0 4).bind fun st => (numS w5 8).bind fun k => (numS w7 3).map fun d => (ag, st, k, d) else none := ho'
    have hw : ∀ p ∈ [w0, w1, w2, w3, w4, w5, w6, w7], p.length ≤ 100000 := fun p hp => Nat.le_trans (hpl p hp) (by omega)
    have hev : Ee ⟨K, none, E, W, fun _ => False⟩ (tOp (rNeG K) (tEven K (tVar 1)) (tLst (tCons (tC (V.str (Str.ofString "again"))) (tCons (tC (V.str (Str.ofString "stop"))) (tCons (tC (V.str (Str.ofString "bits"))) (tCons (tC (V.str (Str.ofString "more"))) tNil)))))) [.v (.str a), .v (.lst ([w0, w1, w2, w3, w4, w5, w6, w7].map D.str)), .no, .no, .no] (.bl (!decide ([w0, w2, w4, w6] = (["again", "stop", "bits", "more"] : List Str)))) := by
      have h1 := rb_neP (K := K) (x := .lst [.str w0, .str w2, .str w4, .str w6]) (y := .lst [.str "again", .str "stop", .str "bits", .str "more"]) 1 1 (strs_sh (n := 0) (xs := [w0, w2, w4, w6]) (fun p hp => hsh p (by simp only [List.mem_cons, List.not_mem_nil, or_false] at hp ⊢; rcases hp with h | h | h | h <;> simp [h]))) (by decide +kernel) (by decide) (by decide)
      have e := eqv_is (x := .lst [.str w0, .str w2, .str w4, .str w6]) (y := .lst [.str "again", .str "stop", .str "bits", .str "more"]) (p := [w0, w2, w4, w6] = (["again", "stop", "bits", "more"] : List Str)) rfl rfl (by simp)
      rw [e] at h1
      exact ee_op (ee_even (ee_var rfl)) (ee_lst (ea_cons ee_str (ea_cons ee_str (ea_cons ee_str (ea_cons ee_str ea_nil)))) (by simp)) h1
    have hln : Et ⟨K, none, E, W, fun _ => False⟩ (tTest (tOp (rNeG K) (tCB (rLenG K) (tCons (tVar 1) tNil)) (tC (V.int 8)))) [.v (.str a), .v (.lst ([w0, w1, w2, w3, w4, w5, w6, w7].map D.str)), .no, .no, .no] false := et_is (et_test (ee_op ln ee_int (rb_neN (b := 8)))) rfl
    refine st_seq (st_if (et_or2 hln (et_test hev)) (fun hc => ?_) (fun hc => ?_))
    · have hc : ¬ [w0, w2, w4, w6] = (["again", "stop", "bits", "more"] : List Str) := fun z => by rw [decide_eq_true z] at hc; cases hc
      refine st_ret ee_non ?_
      rw [ho', if_neg (fun z => hc z.1)]; rfl
    have hc : [w0, w2, w4, w6] = (["again", "stop", "bits", "more"] : List Str) := by
      by_cases z : [w0, w2, w4, w6] = (["again", "stop", "bits", "more"] : List Str)
      · exact z
      · rw [decide_eq_false z] at hc; cases hc
    refine st_next ?_
    have wi : ∀ {ds : Fm} (i : Int) (p : Str), atI ([w0, w1, w2, w3, w4, w5, w6, w7].map D.str) i = some (.str p) → ds[1]? = some (.v (.lst ([w0, w1, w2, w3, w4, w5, w6, w7].map D.str))) → Ee ⟨K, none, E, W, fun _ => False⟩ (tOp (rIxG K) (tVar 1) (tC (V.int i))) ds (.str p) := fun i p hp h => ee_op (ee_var h) ee_int (rb_ixL hp)
    obtain ⟨sp, hsp⟩ : ∃ sp : Str, sp = (if w3 = "-" then ("" : Str) else w3) := ⟨_, rfl⟩
    rw [← hsp] at ho'
    have hspl : sp.length ≤ 100000 := by
      rw [hsp]
      split
      · decide
      · exact hw w3 (by simp)
    refine st_seq (st_asg (d := .str sp) (ee_if (et_test (ee_op (wi 3 w3 rfl rfl) ee_str rb_eqS)) (fun q => ee_is ee_str (by rw [hsp, if_pos (of_decide_eq_true q)])) (fun q => ee_is (wi 3 w3 rfl rfl) (by rw [hsp, if_neg (of_decide_eq_false q)]))) (by walk_at "lt") ?_)
    walk_at "fr"
    refine st_seq (st_par (x := optD (numS w5 8)) (y := optD (numS w7 3)) (ea_cons (ee_call2 (x := w5) (y := 8) (ea_cons (wi 5 w5 rfl rfl) (ea_cons ee_int ea_nil)) rfl (hw w5 (by simp)) rfl) (ea_cons (ee_call2 (x := w7) (y := 3) (ea_cons (wi 7 w7 rfl rfl) (ea_cons ee_int ea_nil)) rfl (hw w7 (by simp)) rfl) ea_nil)) (by walk_at "lt") (by walk_at "lt") ?_)
    walk_at "fr"
    refine st_seq (st_if (et_or (et_not (et_tb (ee_call3 (x := .str w1) (y := 1) (z := 4) (ea_cons (wi 1 w1 rfl rfl) (ea_cons ee_int (ea_cons ee_int ea_nil))) rfl (by show decide (w1.length ≤ 100000) = true; exact decide_eq_true (hw w1 (by simp))) rfl))) (fun _ => et_or (et_not (et_tb (ee_call3 (x := .str sp) (y := 0) (z := 4) (ea_cons (ee_var rfl) (ea_cons ee_int (ea_cons ee_int ea_nil))) rfl (by show decide (sp.length ≤ 100000) = true; exact decide_eq_true hspl) rfl))) (fun _ => et_or (et_test (ee_op (wi 3 w3 rfl rfl) ee_str rb_eqS)) (fun _ => et_test (ee_op ee_non (ee_tup (ea_cons (ee_var rfl) (ea_cons (ee_var rfl) ea_nil)) (by simp)) rb_inNon))))) (fun hd => ?_) (fun hd => ?_))
    · have hd : (!bitD (.str w1) 1 4 || (!bitD (.str sp) 0 4 || (decide (w3 = "") || ((numS w5 8).isNone || (numS w7 3).isNone)))) = true := hd
      refine st_ret ee_non ?_
      have : o = none := by
        rw [ho']
        by_cases q : w3 = ""
        · rw [if_neg (fun z => z.2 q)]
        · rw [if_pos ⟨hc, q⟩]
          rw [decide_eq_false q] at hd
          cases e1 : bitsM w1 1 4 with
          | none => rfl
          | some ag =>
            rw [show bitD (.str w1) 1 4 = true from (bitsM_some e1).2.2.2] at hd
            cases e2 : bitsM sp 0 4 with
            | none => rfl
            | some st =>
              rw [show bitD (.str sp) 0 4 = true from (bitsM_some e2).2.2.2] at hd
              cases e3 : numS w5 8 with
              | none => rfl
              | some k =>
                cases e4 : numS w7 3 with
                | none => rfl
                | some d => rw [e3, e4] at hd; cases hd
      rw [this]; rfl
    · have hd : (!bitD (.str w1) 1 4 || (!bitD (.str sp) 0 4 || (decide (w3 = "") || ((numS w5 8).isNone || (numS w7 3).isNone)))) = false := hd
      rw [Bool.or_eq_false_iff, Bool.or_eq_false_iff, Bool.or_eq_false_iff, Bool.or_eq_false_iff] at hd
      obtain ⟨d1, d2, d3, d4, d5⟩ := hd
      rw [if_pos ⟨hc, of_decide_eq_false d3⟩] at ho'
      cases e1 : bitsM w1 1 4 with
      | none => rw [show bitD (.str w1) 1 4 = false from bitsM_none e1] at d1; cases d1
      | some ag =>
        cases e2 : bitsM sp 0 4 with
        | none => rw [show bitD (.str sp) 0 4 = false from bitsM_none e2] at d2; cases d2
        | some st =>
          cases e3 : numS w5 8 with
          | none => rw [e3] at d4; cases d4
          | some k =>
            cases e4 : numS w7 3 with
            | none => rw [e4] at d5; cases d5
            | some d =>
              refine st_next (st_ret (ee_tup (ea_cons (wi 1 w1 rfl rfl) (ea_cons (ee_var rfl) (ea_cons (ee_var rfl) (ea_cons (ee_var rfl) ea_nil)))) (by simp)) ?_)
              rw [ho', e1, e2, e3, e4, (bitsM_some e1).1, (bitsM_some e2).1]; rfl
  · have hn : o = none := by
      rw [ho']
      split
      · exact absurd rfl h8
      · rfl
    refine st_seq (st_if (et_or1 (et_is (et_test (ee_op ln ee_int (rb_neN (b := 8)))) (by rw [decide_eq_false h8]; rfl : _ = true))) (fun _ => st_ret ee_non (by rw [hn]; rfl)) (fun z => nomatch z))

/-- lines that read looks through -/
structure LnOk (s : Str) : Prop where
  len : s.length ≤ 90000
  sh : ∀ p ∈ Txt.split s " ", p.cps.all (· < 0x110000) = true
theorem row_wf {s : Str} {r : List Bool × Nat} (h : rowInM s = some r) : 1 ≤ r.1.length ∧ r.1.length ≤ 8 ∧ r.2 ≤ 8 := by
  unfold rowInM at h
  split at h
  · rename_i a b _
    cases e1 : bitsM a 1 8 with
    | none => rw [e1] at h; cases h
    | some l =>
      rw [e1] at h
      cases e2 : numS b 8 with
      | none => rw [e2] at h; cases h
      | some k =>
        rw [e2] at h
        cases h
        obtain ⟨_, h1, h2, _⟩ := bitsM_some e1
        refine ⟨h1, h2, ?_⟩
        unfold numS at e2
        split at e2
        · split at e2
          · cases e2; dsimp only; omega
          · cases e2
        · cases e2
  · cases h
theorem numS_le {s : Str} {n k : Nat} (h : numS s n = some k) : k ≤ n := by
  unfold numS at h
  split at h
  · split at h
    · cases h; omega
    · cases h
  · cases h
theorem tail_wf {s : Str} {t : List Bool × List Bool × Nat × Nat} (h : tailInM s = some t) : 1 ≤ t.1.length ∧ t.1.length ≤ 4 ∧ t.2.1.length ≤ 4 ∧ t.2.2.1 ≤ 8 ∧ t.2.2.2 ≤ 3 := by
  unfold tailInM at h
  split at h
  · rename_i w0 w1 w2 w3 w4 w5 w6 w7 _
    split at h
    · cases e1 : bitsM w1 1 4 with
      | none => rw [e1] at h; cases h
      | some ag =>
        rw [e1] at h
        have h : ((bitsM (if w3 = "-" then "" else w3) 0 4).bind fun st => (numS w5 8).bind fun k => (numS w7 3).map fun d => (ag, st, k, d)) = some t := h
        cases e2 : bitsM (if w3 = "-" then "" else w3) 0 4 with
        | none => rw [e2] at h; cases h
        | some st =>
          rw [e2] at h
          have h : ((numS w5 8).bind fun k => (numS w7 3).map fun d => (ag, st, k, d)) = some t := h
          cases e3 : numS w5 8 with
          | none => rw [e3] at h; cases h
          | some k =>
            rw [e3] at h
            have h : ((numS w7 3).map fun d => (ag, st, k, d)) = some t := h
            cases e4 : numS w7 3 with
            | none => rw [e4] at h; cases h
            | some d =>
              rw [e4] at h
              cases h
              exact ⟨(bitsM_some e1).2.1, (bitsM_some e1).2.2.1, (bitsM_some e2).2.2.1, numS_le e3, numS_le e4⟩
    · cases h
  · cases h
def readRes (B : Adr) (x : CodeM ⊕ Nat) : Res := match x with
  | .inl c => .ok (codeD B.Code c)
  | .inr n => .err (.ref B.BadLine) (some (n : Int))
abbrev sp_read (K : PySem.W.Frag) (B : Adr) : Sp := spA K (fun s : Str => [.str s]) (fun s => s.length ≤ 90000 ∧ ∀ l ∈ Txt.split s "\n", LnOk l) (fun s => readRes B (readM (Txt.split s "\n").length 0 [] (Txt.split s "\n")))
theorem ok_read (T : Txt K mg B) : Ok P w K mg base (L2.CX P w) 5 "read" ["text"] (sp_read K B) := by
  refine T.d_read.okX sc_read (spA_len fun _ => rfl) (fun f cdv A outer s H vs Q E hr h => ⟨_, (pss_cons (ps_set (i := 1) sc_read.nd rfl (Or.inl rfl) (pe_split (pv 0) pe_str))
    (pss_cons (ps_set (i := 2) sc_read.nd rfl (Or.inl rfl) (pe_lst pa_nil))
    (pss_cons (ps_for (passes_of rfl) rfl (k_enum K rfl rfl T.n_enumerate (pa_cons (pv 1) pa_nil)) (k_tup (n := 2) K rfl rfl (pgs_cons (pg_name (i := 3) sc_read.nd rfl (Or.inl rfl)) (pgs_cons (pg_name (i := 4) sc_read.nd rfl (Or.inl rfl)) pgs_nil))) (pss_cons (ps_set (i := 5) sc_read.nd rfl (Or.inl rfl) (pe_callH (ok_tail_in T) (hr.mono (by first | decide | omega)) rfl pass0 (pa_cons (pv 4) pa_nil)))
    (pss_cons (ps_if (pt_cmpR op_nisG (pv 5) pe_non (nomark _)) (pss_cons (ps_if (pt_cmpR op_ltG (pe_op (k_add K rfl) (pv 3) pe_int) (pe_callB (k_len K rfl) (by rfl) T.n_len (by decide +kernel) (pa_cons (pv 1) pa_nil)) (nomark _)) (pss_one (ps_raiseLine rfl (ok_BadLine T) (hr.mono (by first | decide | omega)) (takes_of rfl rfl rfl rfl) rfl (pa_cons (pe_op (k_add K rfl) (pv 3) pe_int) pa_nil))) pss_nil)
    (pss_one (ps_ret (pe_makeH (ok_Code_init T) T.g_Code (hr.mono (by first | decide | omega)) rfl (passes_call (takes_of rfl rfl rfl rfl) fun _ _ _ _ h => h) (pa_cons (pe_callTy (k_tuple K rfl) (by rfl) T.n_tuple (by decide +kernel) (pa_cons (pv 2) pa_nil)) (pa_cons (pv 5) pa_nil)))))) pss_nil)
    (pss_cons (ps_set (i := 6) sc_read.nd rfl (Or.inl rfl) (pe_ifExp (pt_cmpR op_ltG (pe_callB (k_len K rfl) (by rfl) T.n_len (by decide +kernel) (pa_cons (pv 2) pa_nil)) (pe_glob (v := .int 6) rfl T.c_MOST_ROWS.choose_spec ⟨_, rfl⟩) (nomark _)) (pe_callH (ok_row_in T) (hr.mono (by first | decide | omega)) rfl pass0 (pa_cons (pv 4) pa_nil)) pe_non))
    (pss_cons (ps_if (pt_cmpR op_isG (pv 6) pe_non (nomark _)) (pss_one (ps_raiseLine rfl (ok_BadLine T) (hr.mono (by first | decide | omega)) (takes_of rfl rfl rfl rfl) rfl (pa_cons (pe_op (k_add K rfl) (pv 3) pe_int) pa_nil))) pss_nil)
    (pss_one (ps_expr (pe_bm PySem.F.plainAttrs_list PySem.F.slot_list_append PySem.F.type_list_append mt_append (pv 2) (pa_cons (pv 6) pa_nil)))))))))
    (pss_one (ps_raiseLine rfl (ok_BadLine T) (hr.mono (by first | decide | omega)) (takes_of rfl rfl rfl rfl) rfl (pa_cons (pe_op (k_add K rfl) (pe_callB (k_len K rfl) (by rfl) T.n_len (by decide +kernel) (pa_cons (pv 1) pa_nil)) pe_int) pa_nil)))))), go_fn h fun a W ha => ?_⟩)
  obtain ⟨ha, hln⟩ := ha
  walk_at "st0"
  have hnum := part_num (x := a) (y := "\n") (by decide)
  have spl : Ee ⟨K, none, E, W, fun _ => False⟩ (tM1 (fun x xs H Q => ∃ a b, x = V.str a ∧ xs = [V.str b] ∧ (b.length == 0) = false ∧ a.length + 2 ≤ sizeLine ∧ rNewStrs (Txt.split a b) H Q) (tVar 0) (tC (V.str (Str.ofString "\n")))) [.v (.str a), .no, .no, .no, .no, .no, .no] (.lst ((Txt.split a "\n").map D.str)) := ee_split (ee_var rfl) ee_str nl_ok (by omega)
  generalize Txt.split a "\n" = ls at hnum hln spl ⊢
  refine st_seq (st_asg spl (by walk_at "lt") ?_)
  walk_at "fr"
  have hz : ls.length ≤ 90001 := by omega
  obtain ⟨X, hX⟩ : ∃ X, X = readM ls.length 0 [] ls := ⟨_, rfl⟩
  rw [← hX]
  have ln : ∀ {ds : Fm}, ds[1]? = some (.v (.lst (ls.map D.str))) → Ee ⟨K, none, E, W, fun _ => False⟩ (tCB (rLenG K) (tCons (tVar 1) tNil)) ds (.int (ls.length : Nat)) := fun h => ee_cb (ea_cons (ee_var h) ea_nil) rc_lenML
  refine st_seq (st_own ea_nil (by decide) (by walk_at "lt") ?_)
  walk_at "fr"
  refine st_seq (st_for (α := List (List Bool × Nat)) (ei_enum (ea_cons (ee_var rfl) ea_nil)) (fun i rows => [.v (.str a), .v (.lst (ls.map D.str)), .own (rows.map rowD), .no, .no, .no, .no]) (fun i rows => X = readM ls.length i rows (ls.drop i) ∧ rows.length ≤ 6 ∧ ∀ r ∈ rows, 1 ≤ r.1.length ∧ r.1.length ≤ 8 ∧ r.2 ≤ 8) ⟨[], Fle.refl _, hX, by decide, fun _ z => nomatch z⟩ ?_ ?_)
  · rintro i d rows hi ⟨hI, hr6, hrw⟩
    obtain ⟨x, hx, rfl⟩ := enumD_get hi
    rw [List.getElem?_map] at hx
    cases es : ls[i]? with
    | none => rw [es] at hx; cases hx
    | some s =>
      rw [es] at hx
      have hd : D.str s = x := Option.some.inj hx
      subst hd
      have hil : i < ls.length := (List.getElem?_eq_some_iff.mp es).1
      have hdr : ls.drop i = s :: ls.drop (i + 1) := by
        rw [List.drop_eq_getElem_cons hil]
        rw [List.getElem?_eq_getElem hil] at es
        rw [Option.some.inj es]
      rw [hdr] at hI
      have hs := hln s (List.mem_of_getElem? es)
      refine ⟨_, _, eg_tup rfl (egs_cons (eg_name (by walk_at "lt")) (egs_cons (eg_name (by walk_at "lt")) egs_nil)), ?_⟩
      walk_at "fr"
      refine st_seq (st_asg (ee_call (a := s) (by walk_at "ea") rfl ⟨hs.len, hs.sh⟩ rfl) (by walk_at "lt") ?_)
      walk_at "fr"
      unfold readM at hI
      cases et : tailInM s with
      | some t =>
        rw [et] at hI
        dsimp only at hI
        obtain ⟨t1, t2, t3, t4, t5⟩ := tail_wf et
        refine st_seq (st_if (et_test (ee_op (ee_var rfl) ee_non rb_nis)) (fun _ => ?_) (fun z => nomatch z))
        refine st_seq (st_if (et_test (ee_op (ee_op (ee_var rfl) ee_int rb_addN1) (ln rfl) rb_ltN)) (fun hc => ?_) (fun hc => st_next ?_))
        · have hc : i + 1 < ls.length := of_decide_eq_true hc
          rw [if_pos hc] at hI
          exact st_raiseL (ea_cons (ee_op (ee_var rfl) ee_int rb_addN2) ea_nil) (by show readRes B X = _; rw [hI]; rfl)
        · have hc : ¬ i + 1 < ls.length := of_decide_eq_false hc
          rw [if_neg hc] at hI
          refine st_frz (i := 2) rfl ?_
          walk_at "fr"
          have wf : Wf (⟨rows, t.1, t.2.1, t.2.2.1, t.2.2.2⟩ : CodeM) := ⟨hr6, hrw, t1, t2, t3, t4, t5⟩
          refine st_retmake (a := (rowsD ⟨rows, t.1, t.2.1, t.2.2.1, t.2.2.2⟩, tailD ⟨rows, t.1, t.2.1, t.2.2.1, t.2.2.2⟩)) (ea_cons (ee_cb (by walk_at "ea") rc_tupleL) (ea_cons (ee_var rfl) ea_nil)) rfl ⟨okD_rows wf, okD_tail wf⟩ (fun ns ys z => ?_) (fun C' z => ?_)
          · rw [mkC_ok wf] at z
            cases z
            show readRes B X = _
            rw [hI]; rfl
          · rw [mkC_ok wf] at z; cases z
      | none =>
        rw [et] at hI
        dsimp only at hI
        refine st_seq (st_if (et_test (ee_op (ee_var rfl) ee_non rb_nis)) (fun z => nomatch z) (fun _ => st_next ?_))
        obtain ⟨o, ho⟩ : ∃ o, o = if rows.length < 6 then rowInM s else none := ⟨_, rfl⟩
        refine st_seq (st_asg (d := optRow o) (ee_if (et_test (ee_op (ee_is (ee_lenOwn rfl) (by rw [List.length_map])) ee_int (rb_ltN (b := 6)))) (fun q => ee_is (ee_call (a := s) (by walk_at "ea") rfl hs.len rfl) (by rw [ho, if_pos (of_decide_eq_true q)])) (fun q => ee_is ee_non (by rw [ho, if_neg (of_decide_eq_false q)]; rfl))) (by walk_at "lt") ?_)
        walk_at "fr"
        cases eo : o with
        | none =>
          have hI2 : X = .inr (i + 1) := by
            rw [hI]
            by_cases q : rows.length < 6
            · rw [if_pos q]; rw [if_pos q] at ho; rw [← ho, eo]
            · rw [if_neg q]
          refine st_seq (st_if (et_test (ee_op (ee_var rfl) ee_non rb_is)) (fun _ => ?_) (fun z => nomatch z))
          exact st_raiseL (ea_cons (ee_op (ee_var rfl) ee_int rb_addN1) ea_nil) (by show readRes B X = _; rw [hI2]; rfl)
        | some r =>
          have q : rows.length < 6 := by
            rcases Nat.lt_or_ge rows.length 6 with z | z
            · exact z
            · rw [eo, if_neg (by omega)] at ho; cases ho
          have er : rowInM s = some r := by rw [eo, if_pos q] at ho; exact ho.symm
          rw [if_pos q, er] at hI
          dsimp only at hI
          refine st_seq (st_if (et_test (ee_op (ee_var rfl) ee_non rb_is)) (fun z => nomatch z) (fun _ => st_next ?_))
          refine st_app rfl (ee_var rfl) (by rw [List.length_map]; omega) ?_
          walk_at "fr"
          refine ⟨rows ++ [r], .keep rfl (.keep rfl (.keep (by rw [List.map_append]; rfl) (.drop (.drop (.drop (.drop .nil)))))), hI, by rw [List.length_append]; simp; omega, fun y hy => ?_⟩
          rcases List.mem_append.mp hy with z | z
          · exact hrw y z
          · rw [List.mem_singleton.mp z]; exact row_wf er
  · rintro rows ⟨hI, _, _⟩
    rw [enumD_len, List.length_map, List.drop_of_length_le (Nat.le_refl _)] at hI
    exact st_raiseL (ea_cons (ee_op (ln rfl) ee_int rb_addN1) ea_nil) (by show readRes B X = _; rw [hI]; rfl)

--@@part
abbrev sp_law (K : PySem.W.Frag) (B : Adr) : Sp := fun vs H Q _ => ∃ (a : Addr) (ns : List Int), vs = [.ref a] ∧ SqL K H a (ns.map V.int) ∧ ns.length ≤ 63 ∧ ∀ H', Q (.bl true) H'
/-- a law: its draws are laid, then its rows -/
theorem go_law {K : PySem.W.Frag} {B : Adr} {N : List Str} {m : Nat} {E : XK} {e1 : XK} {t : TS} {vs : List V} {H : Hp} {Q : VK} (hN : N.length = m + 2) (h : sp_law K B vs H Q E)
    (k : ∀ (l : Option (Addr × Addr)) (W : Addr → Prop), St ⟨K, l, E, W, fun _ => False⟩ t { nx := fun _ => False, rt := fun d => d = .bl true } (.no :: .drw :: List.replicate m .no)) :
    (tSeq (tAsg (tCall (sp_l_begin K B) [] e1 (tCons (tVar 0) tNil)) (gName 1)) t) { nx := fun _ H' => Q .non H', rt := Q } (L2.start N vs) H := by
  obtain ⟨a, ns, rfl, hs, hl, q⟩ := h
  have e0 : L2.start N [V.ref a] = some (.ref a) :: none :: List.replicate m none := by
    unfold L2.start
    have : N.length - [V.ref a].length = m + 1 := by rw [hN]; rfl
    rw [this, List.replicate_succ]; rfl
  rw [e0]
  refine ⟨.ref a, rfl, a, ns, rfl, hs, hl, fun b sc H1 hb hsc e d => ?_⟩
  obtain ⟨ns', _, _, _, hb1, hsc1, _⟩ := id d
  refine k (some (b, sc)) (fun x => H1 x ≠ none) H H1 _ ⟨e, ⟨by simp, fun i s hi => ?_, fun i j b' xs ys _ e1 _ _ => ?_⟩, fun x y z => ?_, fun x z => z⟩ _ ⟨fun _ _ _ _ _ _ z => z.elim, fun G' H' v d' x s r z => ?_, fun _ _ _ _ _ _ z => z.elim, fun _ _ _ _ _ _ z => z.elim, fun _ _ _ _ _ _ z => z.elim, fun _ _ _ _ _ _ _ _ _ z => z.elim, fun _ _ _ _ _ _ _ z => z.elim⟩
  · match i, hi with
    | 0, hi => cases hi; trivial
    | 1, hi => cases hi; exact ⟨b, sc, rfl, rfl, hb, d⟩
    | i + 2, hi =>
      simp only [List.getElem?_cons_succ, List.getElem?_replicate] at hi
      split at hi
      · cases hi; trivial
      · cases hi
  · match i, e1 with
    | i + 2, e1 =>
      simp only [List.getElem?_cons_succ, List.getElem?_replicate] at e1
      split at e1
      · cases e1
      · cases e1
  · cases z
    exact ⟨by rw [hb1]; simp, hb, by rw [hsc1]; simp⟩
  · subst z
    cases r
    exact q H'

/-! ### errors are apart -/
def cdG : CodeM := ⟨[([false, false], 1)], [true], [true, false], 0, 0⟩
def cdB : CodeM := ⟨[([true], 0)], [true], [false], 0, 0⟩
theorem cdG_wf : Wf cdG := ⟨by decide, by decide, by decide, by decide, by decide, by decide, by decide⟩
theorem cdB_wf : Wf cdB := ⟨by decide, by decide, by decide, by decide, by decide, by decide, by decide⟩
theorem cdG_free : freeB cdG = true := by
  rw [← freeB_any cdG_wf (n := 10) (by decide)]
  decide +kernel
theorem cdB_not : freeB cdB = false := by
  rw [← freeB_any cdB_wf (n := 10) (by decide)]
  decide +kernel
theorem cdG_bits (n : Nat) : (∃ t, cdG.bits n = false :: false :: t) ∨ ∃ b t, cdG.bits n = true :: b :: t := by
  have h : ∀ r, (∃ t, cdG.head r = false :: false :: t) ∨ ∃ b t, cdG.head r = true :: b :: t := fun r => by
    cases r with
    | zero => exact .inl ⟨[], rfl⟩
    | succ r =>
      have e : cdG.head (r + 1) = rep [true] r ++ [true, false] := by
        have := CodeM.head_tail' (c := cdG) r
        rw [show cdG.rows.length = 1 from rfl, Nat.add_comm] at this
        exact this
      rw [e]
      cases r with
      | zero => exact .inr ⟨false, [], rfl⟩
      | succ r => cases r with
        | zero => exact .inr ⟨true, [false], rfl⟩
        | succ r => exact .inr ⟨true, _, rfl⟩
  rcases h (cdG.rowOf n) with ⟨t, e⟩ | ⟨b, t, e⟩
  · exact .inl ⟨t ++ _, by unfold CodeM.bits; rw [e]; rfl⟩
  · exact .inr ⟨b, t ++ _, by unfold CodeM.bits; rw [e]; rfl⟩
theorem pre_cons {a b : Bool} {x y : List Bool} (h : a :: x <+: b :: y) : a = b ∧ x <+: y := List.cons_prefix_cons.mp h
theorem cdG_t0 : cdG.tkn [false] = none := lst_eq fun n hn => by
  rcases cdG_bits n with ⟨t, e⟩ | ⟨b, t, e⟩
  · rw [e] at hn; have := hn.length_le; simp at this
  · rw [e] at hn; have := hn.length_le; simp at this
theorem cdG_w0 : cdG.wrd [false] = "cut" := CodeM.wrd_cut ⟨0, by decide⟩
theorem cdG_t1 : cdG.tkn [false, true] = none := lst_eq fun n hn => by
  rcases cdG_bits n with ⟨t, e⟩ | ⟨b, t, e⟩
  · rw [e] at hn; exact absurd (pre_cons (pre_cons hn).2).1 (by decide)
  · rw [e] at hn; exact absurd (pre_cons hn).1 (by decide)
theorem cdG_w1 : cdG.wrd [false, true] = "dead" := by
  unfold CodeM.wrd
  rw [if_neg]
  rintro ⟨n, hn⟩
  rcases cdG_bits n with ⟨t, e⟩ | ⟨b, t, e⟩
  · rw [e] at hn; exact absurd (pre_cons (pre_cons hn).2).1 (by decide)
  · rw [e] at hn; exact absurd (pre_cons hn).1 (by decide)
theorem cdG_rd : (rd cdG [false]).2.1 = [false] := by
  unfold rd
  show (rdF cdG 1 [false]).2.1 = [false]
  unfold rdF
  rw [if_neg (by decide), cdG_t0]
theorem feed_0 {B : Adr} : feedR B ((cdG, []), .str (bs [false])) = .ok .non (fedL [false]) := by
  have e : (rd cdG []).2.1 = [] := by unfold rd; rw [rdF_nil]
  have hb : bitOf (.str (bs [false])) = some false := by decide
  unfold feedR
  dsimp only
  rw [hb]
  dsimp only
  rw [e]
  show (match cdG.tkn [false] with | some n => _ | none => _) = _
  rw [cdG_t0]
  dsimp only
  show (if cdG.wrd [false] = "dead" then _ else _) = _
  rw [cdG_w0, if_neg (by decide)]; rfl
theorem feed_1 {B : Adr} : feedR B ((cdG, [false]), .str (bs [true])) = .err B.Dead := by
  have hb : bitOf (.str (bs [true])) = some true := by decide
  unfold feedR
  dsimp only
  rw [hb]
  dsimp only
  rw [cdG_rd]
  show (match cdG.tkn [false, true] with | some n => _ | none => _) = _
  rw [cdG_t1]
  dsimp only
  show (if cdG.wrd [false, true] = "dead" then _ else _) = _
  rw [cdG_w1, if_pos rfl]
abbrev sp_l_free_call (K : PySem.W.Frag) (B : Adr) : Sp := spA K (fun t : Nat => [codeD B.Code cdB, codeD B.Code cdG, D.int (t : Nat)]) (fun _ => True) (fun _ => .err (.ref B.NotFree) none)
theorem ok_l_free_call (T : Txt K mg B) : Ok P w K mg base (L2.CX P w) 7 "_law_free_call" ["_law_bad", "_law_good", "_law_thing"] (sp_l_free_call K B) := by
  refine T.d_l_free_call.okX sc_l_free_call (spA_len fun _ => rfl) (fun f cdv A outer s H vs Q E hr h => ⟨_, (pss_one (ps_if (pt_cmpR (k_eq K rfl hr.units) (pv 2) pe_int (nomark _)) (pss_one (ps_expr (pe_callH (ok_starting T) (hr.mono (by first | decide | omega)) rfl (passes_call (takes_of rfl rfl rfl rfl) fun _ _ _ _ h => h) (pa_cons (pv 0) (pa_cons pe_str pa_nil))))) (pss_one (ps_if (pt_cmpR (k_eq K rfl hr.units) (pv 2) pe_int (nomark _)) (pss_one (ps_expr (pe_callH (ok_how_many T) (hr.mono (by first | decide | omega)) rfl (passes_call (takes_of rfl rfl rfl rfl) fun _ _ _ _ h => h) (pa_cons (pv 0) (pa_cons pe_str pa_nil))))) (pss_one (ps_if (pt_cmpR (k_eq K rfl hr.units) (pv 2) pe_int (nomark _)) (pss_one (ps_expr (pe_callH (ok_is_dead T) (hr.mono (by first | decide | omega)) rfl (passes_call (takes_of rfl rfl rfl rfl) fun _ _ _ _ h => h) (pa_cons (pv 0) (pa_cons pe_str pa_nil))))) (pss_one (ps_if (pt_cmpR (k_eq K rfl hr.units) (pv 2) pe_int (nomark _)) (pss_one (ps_expr (pe_callH (ok_dead T) (hr.mono (by first | decide | omega)) rfl (passes_call (takes_of rfl rfl rfl rfl) fun _ _ _ _ h => h) (pa_cons (pv 0) (pa_cons pe_int pa_nil))))) (pss_one (ps_if (pt_cmpR (k_eq K rfl hr.units) (pv 2) pe_int (nomark _)) (pss_one (ps_expr (pe_callH (ok_share T) (hr.mono (by first | decide | omega)) rfl (passes_call (takes_of rfl rfl rfl rfl) fun _ _ _ _ h => h) (pa_cons (pv 0) pa_nil)))) (pss_one (ps_if (pt_cmpR (k_eq K rfl hr.units) (pv 2) pe_int (nomark _)) (pss_one (ps_expr (pe_callH (ok_order T) (hr.mono (by first | decide | omega)) rfl (passes_call (takes_of rfl rfl rfl rfl) fun _ _ _ _ h => h) (pa_cons (pv 0) pa_nil)))) (pss_one (ps_if (pt_cmpR (k_eq K rfl hr.units) (pv 2) pe_int (nomark _)) (pss_one (ps_expr (pe_callH (ok_growth T) (hr.mono (by first | decide | omega)) rfl (passes_call (takes_of rfl rfl rfl rfl) fun _ _ _ _ h => h) (pa_cons (pv 0) pa_nil)))) (pss_one (ps_if (pt_cmpR (k_eq K rfl hr.units) (pv 2) pe_int (nomark _)) (pss_one (ps_expr (pe_callH (ok_longer T) (hr.mono (by first | decide | omega)) rfl (passes_call (takes_of rfl rfl rfl rfl) fun _ _ _ _ h => h) (pa_cons (pv 1) (pa_cons (pv 0) pa_nil))))) (pss_one (ps_if (pt_cmpR (k_eq K rfl hr.units) (pv 2) pe_int (nomark _)) (pss_one (ps_expr (pe_callH (ok_gap T) (hr.mono (by first | decide | omega)) rfl (passes_call (takes_of rfl rfl rfl rfl) fun _ _ _ _ h => h) (pa_cons (pv 0) (pa_cons (pv 1) pa_nil))))) (pss_one (ps_if (pt_cmpR (k_eq K rfl hr.units) (pv 2) pe_int (nomark _)) (pss_one (ps_expr (pe_callH (ok_write_list T) (hr.mono (by first | decide | omega)) rfl (passes_call (takes_of rfl rfl rfl rfl) fun _ _ _ _ h => h) (pa_cons (pv 0) (pa_cons (pe_lst pa_nil) pa_nil))))) (pss_one (ps_if (pt_cmpR (k_eq K rfl hr.units) (pv 2) pe_int (nomark _)) (pss_one (ps_expr (pe_callH (ok_read_list T) (hr.mono (by first | decide | omega)) rfl (passes_call (takes_of rfl rfl rfl rfl) fun _ _ _ _ h => h) (pa_cons (pv 0) (pa_cons pe_str pa_nil))))) (pss_one (ps_expr (pe_makeH (ok_Reader_init T) T.g_Reader (hr.mono (by first | decide | omega)) rfl (passes_call (takes_of rfl rfl rfl rfl) fun _ _ _ _ h => h) (pa_cons (pv 0) pa_nil)))))))))))))))))))))))))), go_fn h fun a W ha => ?_⟩)
  walk_at "st0"
  have nb := cdB_not
  have wb := cdB_wf
  have one : ∀ {c : Ctx} {ds : Fm}, Ee c (tC (.str "1")) ds (.str "1") := ee_str
  refine st_if (et_test (ee_op (ee_var rfl) ee_int (rb_eqN (b := 0)))) (fun _ => st_call (a := (cdB, .str "1")) (ea_cons (ee_var rfl) (ea_cons ee_str ea_nil)) rfl ⟨wb, nb⟩ (fun d hd => nomatch hd) (fun C o z => by cases z; rfl)) (fun _ => ?_)
  refine st_if (et_test (ee_op (ee_var rfl) ee_int (rb_eqN (b := 1)))) (fun _ => st_call (a := (cdB, .str "1")) (ea_cons (ee_var rfl) (ea_cons ee_str ea_nil)) rfl ⟨wb, nb⟩ (fun d hd => nomatch hd) (fun C o z => by cases z; rfl)) (fun _ => ?_)
  refine st_if (et_test (ee_op (ee_var rfl) ee_int (rb_eqN (b := 2)))) (fun _ => st_call (a := (cdB, .str "1")) (ea_cons (ee_var rfl) (ea_cons ee_str ea_nil)) rfl ⟨wb, nb⟩ (fun d hd => nomatch hd) (fun C o z => by cases z; rfl)) (fun _ => ?_)
  refine st_if (et_test (ee_op (ee_var rfl) ee_int (rb_eqN (b := 3)))) (fun _ => st_call (a := (cdB, .int 2)) (ea_cons (ee_var rfl) (ea_cons ee_int ea_nil)) rfl ⟨wb, nb⟩ (fun d hd => nomatch hd) (fun C o z => by cases z; rfl)) (fun _ => ?_)
  refine st_if (et_test (ee_op (ee_var rfl) ee_int (rb_eqN (b := 4)))) (fun _ => st_call (a := (cdB, .non)) (ea_cons (ee_var rfl) ea_nil) rfl ⟨wb, nb⟩ (fun d hd => nomatch hd) (fun C o z => by cases z; rfl)) (fun _ => ?_)
  refine st_if (et_test (ee_op (ee_var rfl) ee_int (rb_eqN (b := 5)))) (fun _ => st_call (a := (cdB, .non)) (ea_cons (ee_var rfl) ea_nil) rfl ⟨wb, nb⟩ (fun d hd => nomatch hd) (fun C o z => by cases z; rfl)) (fun _ => ?_)
  refine st_if (et_test (ee_op (ee_var rfl) ee_int (rb_eqN (b := 6)))) (fun _ => st_call (a := (cdB, .non)) (ea_cons (ee_var rfl) ea_nil) rfl ⟨wb, nb⟩ (fun d hd => nomatch hd) (fun C o z => by cases z; rfl)) (fun _ => ?_)
  refine st_if (et_test (ee_op (ee_var rfl) ee_int (rb_eqN (b := 7)))) (fun _ => st_call (a := (cdG, cdB)) (ea_cons (ee_var rfl) (ea_cons (ee_var rfl) ea_nil)) rfl ⟨cdG_wf, cdG_free, wb, nb⟩ (fun d hd => nomatch hd) (fun C o z => by cases z; rfl)) (fun _ => ?_)
  refine st_if (et_test (ee_op (ee_var rfl) ee_int (rb_eqN (b := 8)))) (fun _ => st_call (a := (cdB, codeD B.Code cdG)) (ea_cons (ee_var rfl) (ea_cons (ee_var rfl) ea_nil)) rfl ⟨wb, nb⟩ (fun d hd => nomatch hd) (fun C o z => by cases z; rfl)) (fun _ => ?_)
  have nf : ∀ {x : Res}, (if freeB cdB = true then x else .err (.ref B.NotFree) none) = .err (.ref B.NotFree) none := fun {x} => by rw [if_neg (by rw [nb]; decide)]
  refine st_if (et_test (ee_op (ee_var rfl) ee_int (rb_eqN (b := 9)))) (fun _ => st_call (a := (cdB, [])) (ea_cons (ee_var rfl) (ea_cons (ee_lst ea_nil (Nat.zero_le _)) ea_nil)) rfl ⟨wb, fun n hn => (nomatch hn), Nat.zero_le _, Nat.zero_le _⟩ (fun d hd => by dsimp only at hd; rw [nf] at hd; cases hd) (fun C o z => by dsimp only at z; rw [nf] at z; cases z; rfl)) (fun _ => ?_)
  refine st_if (et_test (ee_op (ee_var rfl) ee_int (rb_eqN (b := 10)))) (fun _ => st_call (a := (cdB, [])) (ea_cons (ee_var rfl) (ea_cons (x := .str (bs [])) ee_str ea_nil)) rfl ⟨wb, Nat.zero_le _⟩ (fun d hd => by dsimp only at hd; rw [nf] at hd; cases hd) (fun C o z => by dsimp only at z; rw [nf] at z; cases z; rfl)) (fun _ => ?_)
  exact st_new (a := cdB) (ea_cons (ee_var rfl) ea_nil) rfl wb (fun z => by rw [if_neg (by rw [nb]; decide)] at z; cases z) (fun C' z => by rw [if_neg (by rw [nb]; decide)] at z; cases z; rfl)
def errC (B : Adr) (w : Nat) : Addr := if w = 0 then B.BadCode else if w = 1 then B.NotFree else if w = 2 then B.BadBit else if w = 3 then B.Dead else if w = 4 then B.NothingDone else B.BadLine
def errO (w : Nat) : Option Int := if w = 5 then some 2 else none
abbrev sp_l_call (K : PySem.W.Frag) (B : Adr) : Sp := spA2 K (fun (w t : Nat) => [D.int (w : Nat), D.int (t : Nat)]) (fun w _ => w < 6) (fun w _ => .err (.ref (errC B w)) (errO w))
theorem mod5 (t : Nat) : ∃ x, atI [D.str "2", .non, .str "", .int 1, .str "01"] ((t % 5 : Nat) : Int) = some x ∧ bitOf x = none ∧ plainD x = true := by
  have : t % 5 = 0 ∨ t % 5 = 1 ∨ t % 5 = 2 ∨ t % 5 = 3 ∨ t % 5 = 4 := by omega
  rcases this with h | h | h | h | h <;> rw [h]
  · exact ⟨_, rfl, by decide, rfl⟩
  · exact ⟨_, rfl, rfl, rfl⟩
  · exact ⟨_, rfl, by decide, rfl⟩
  · exact ⟨_, rfl, rfl, rfl⟩
  · exact ⟨_, rfl, by decide, rfl⟩
theorem mod3 (t : Nat) : ∃ x, atI [D.int 4, .int (-1), .non] ((t % 3 : Nat) : Int) = some x ∧ tlD (.tup [.str "1", .str "0", .int 0, x]) = false ∧ okD (.tup [.str "1", .str "0", .int 0, x]) = true := by
  have : t % 3 = 0 ∨ t % 3 = 1 ∨ t % 3 = 2 := by omega
  rcases this with h | h | h <;> rw [h] <;> exact ⟨_, rfl, by decide +kernel, by decide +kernel⟩
theorem read_12 {B : Adr} : readRes B (readM (Txt.split "1 2" "\n").length 0 [] (Txt.split "1 2" "\n")) = .err (.ref B.BadLine) (some 2) := by
  have e : Txt.split "1 2" "\n" = [("1 2" : Str)] := by decide +kernel
  have e1 : tailInM "1 2" = none := by decide +kernel
  have e2 : rowInM "1 2" = some ([true], 2) := by decide +kernel
  rw [e]
  unfold readM
  rw [e1]
  dsimp only
  rw [if_pos (by decide), e2]
  dsimp only
  unfold readM
  rfl
theorem lines_12 : ∀ l ∈ Txt.split "1 2" "\n", LnOk l := by
  have e : Txt.split "1 2" "\n" = [("1 2" : Str)] := by decide +kernel
  rw [e]
  intro l hl
  rw [List.mem_singleton.mp hl]
  exact ⟨by decide, by decide +kernel⟩
theorem ok_l_call (T : Txt K mg B) : Ok P w K mg base (L2.CX P w) 8 "_law_call" ["_law_what", "_law_thing"] (sp_l_call K B) := by
  refine T.d_l_call.okX sc_l_call (spA_len fun _ => rfl) (fun f cdv A outer s H vs Q E hr h => ⟨_, (pss_cons (ps_set (i := 2) sc_l_call.nd rfl (Or.inl rfl) (pe_makeH (ok_Code_init T) T.g_Code (hr.mono (by first | decide | omega)) rfl (passes_call (takes_of rfl rfl rfl rfl) fun _ _ _ _ h => h) (pa_cons (pe_tup (pa_cons (pe_tup (pa_cons pe_str (pa_cons pe_int pa_nil))) pa_nil)) (pa_cons (pe_tup (pa_cons pe_str (pa_cons pe_str (pa_cons pe_int (pa_cons pe_int pa_nil))))) pa_nil))))
    (pss_one (ps_if (pt_cmpR (k_eq K rfl hr.units) (pv 0) pe_int (nomark _)) (pss_one (ps_expr (pe_makeH (ok_Code_init T) T.g_Code (hr.mono (by first | decide | omega)) rfl (passes_call (takes_of rfl rfl rfl rfl) fun _ _ _ _ h => h) (pa_cons (pe_tup pa_nil) (pa_cons (pe_tup (pa_cons pe_str (pa_cons pe_str (pa_cons pe_int (pa_cons (pe_ix (k_ix K rfl) (pe_lst (pa_cons pe_int (pa_cons (pe_un un_neg pe_int) (pa_cons pe_non pa_nil)))) (pe_op op_modG (pv 1) pe_int) (fun _ _ => rfl)) pa_nil))))) pa_nil))))) (pss_one (ps_if (pt_cmpR (k_eq K rfl hr.units) (pv 0) pe_int (nomark _)) (pss_one (ps_expr (pe_callH (ok_l_free_call T) (hr.mono (by first | decide | omega)) rfl (passes_call (takes_of rfl rfl rfl rfl) fun _ _ _ _ h => h) (pa_cons (pe_makeH (ok_Code_init T) T.g_Code (hr.mono (by first | decide | omega)) rfl (passes_call (takes_of rfl rfl rfl rfl) fun _ _ _ _ h => h) (pa_cons (pe_tup (pa_cons (pe_tup (pa_cons pe_str (pa_cons pe_int pa_nil))) pa_nil)) (pa_cons (pe_tup (pa_cons pe_str (pa_cons pe_str (pa_cons pe_int (pa_cons pe_int pa_nil))))) pa_nil))) (pa_cons (pv 2) (pa_cons (pv 1) pa_nil)))))) (pss_one (ps_if (pt_cmpR (k_eq K rfl hr.units) (pv 0) pe_int (nomark _)) (pss_one (ps_expr (pe_callMH (pe_makeH (ok_Reader_init T) T.g_Reader (hr.mono (by first | decide | omega)) rfl (passes_call (takes_of rfl rfl rfl rfl) fun _ _ _ _ h => h) (pa_cons (pv 2) pa_nil)) T.cl_Reader (ok_Reader_feed T) (hr.mono (by first | decide | omega)) (passes_call (takes_of rfl rfl rfl rfl) fun _ _ _ _ h => h) (pa_cons (pe_ix (k_ix K rfl) (pe_lst (pa_cons pe_str (pa_cons pe_non (pa_cons pe_str (pa_cons pe_int (pa_cons pe_str pa_nil)))))) (pe_op op_modG (pv 1) pe_int) (fun _ _ => rfl)) pa_nil)))) (pss_one (ps_if (pt_cmpR (k_eq K rfl hr.units) (pv 0) pe_int (nomark _)) (pss_cons (ps_set (i := 3) sc_l_call.nd rfl (Or.inl rfl) (pe_makeH (ok_Reader_init T) T.g_Reader (hr.mono (by first | decide | omega)) rfl (passes_call (takes_of rfl rfl rfl rfl) fun _ _ _ _ h => h) (pa_cons (pv 2) pa_nil)))
    (pss_cons (ps_expr (pe_callMH (pv 3) T.cl_Reader (ok_Reader_feed T) (hr.mono (by first | decide | omega)) (passes_call (takes_of rfl rfl rfl rfl) fun _ _ _ _ h => h) (pa_cons pe_str pa_nil)))
    (pss_one (ps_expr (pe_callMH (pv 3) T.cl_Reader (ok_Reader_feed T) (hr.mono (by first | decide | omega)) (passes_call (takes_of rfl rfl rfl rfl) fun _ _ _ _ h => h) (pa_cons pe_str pa_nil)))))) (pss_one (ps_if (pt_cmpR (k_eq K rfl hr.units) (pv 0) pe_int (nomark _)) (pss_one (ps_expr (pe_callMH0 (pe_makeH (ok_Reader_init T) T.g_Reader (hr.mono (by first | decide | omega)) rfl (passes_call (takes_of rfl rfl rfl rfl) fun _ _ _ _ h => h) (pa_cons (pv 2) pa_nil)) T.cl_Reader (ok_Reader_undo T) (hr.mono (by first | decide | omega)) (passes_call (takes_of rfl rfl rfl rfl) fun _ _ _ _ h => h)))) (pss_one (ps_expr (pe_callH (ok_read T) (hr.mono (by first | decide | omega)) rfl (passes_call (takes_of rfl rfl rfl rfl) fun _ _ _ _ h => h) (pa_cons pe_str pa_nil))))))))))))))), go_fn h fun a W ha => ?_⟩)
  obtain ⟨w, t⟩ := a
  dsimp only at ha
  walk_at "st0"
  have rpG : ∀ {l : List Bool}, l.length ≤ 8000 → RdP (cdG, l) := fun hl => ⟨cdG_wf, freeB_free cdG_free, hl⟩
  refine st_seq (st_asg (d := codeD B.Code cdG) (ee_make (a := (rowsD cdG, tailD cdG)) (ea_cons (ee_is (ee_tup (ea_cons (ee_tup (by walk_at "ea") (by simp)) ea_nil) (by simp)) (by simp only [rowsD, rowD, cdG, List.map_cons, List.map_nil, lit_00]; rfl)) (ea_cons (ee_is (ee_tup (by walk_at "ea") (by simp)) (by simp only [tailD, cdG, lit_1, lit_10]; rfl)) ea_nil)) rfl ⟨okD_rows cdG_wf, okD_tail cdG_wf⟩ (mkC_ok cdG_wf)) (by walk_at "lt") ?_)
  walk_at "fr"
  refine st_if (et_test (ee_op (ee_var rfl) ee_int (rb_eqN (b := 0)))) (fun hw => ?_) (fun hw => ?_)
  · have hw : w = 0 := by simpa using hw
    subst hw
    obtain ⟨x, hx, h1, h2⟩ := mod3 t
    exact st_make (a := (.tup [], .tup [.str "1", .str "0", .int 0, x])) (ea_cons (ee_tup ea_nil (by simp)) (ea_cons (ee_tup (ea_cons ee_str (ea_cons ee_str (ea_cons ee_int (ea_cons (ee_op (ee_lst (ea_cons ee_int (ea_cons (ee_un ee_int ru_neg) (ea_cons ee_non ea_nil))) (by simp)) (ee_op (ee_var rfl) ee_int (rb_modN (b := 3) (by decide))) (rb_ixL hx)) ea_nil)))) (by simp)) ea_nil)) rfl ⟨rfl, h2⟩ (fun ns ys z => by rw [mkC_no (by rw [h1, Bool.and_false])] at z; cases z) (fun C' z => by rw [mkC_no (by rw [h1, Bool.and_false])] at z; cases z; rfl)
  have hw0 : ¬ w = 0 := by simpa using hw
  refine st_if (et_test (ee_op (ee_var rfl) ee_int (rb_eqN (b := 1)))) (fun hw => ?_) (fun hw => ?_)
  · have hw : w = 1 := by simpa using hw
    subst hw
    exact st_call (a := t) (ea_cons (ee_make (a := (rowsD cdB, tailD cdB)) (ea_cons (ee_is (ee_tup (ea_cons (ee_tup (by walk_at "ea") (by simp)) ea_nil) (by simp)) (by simp only [rowsD, rowD, cdB, List.map_cons, List.map_nil, lit_1]; rfl)) (ea_cons (ee_is (ee_tup (by walk_at "ea") (by simp)) (by simp only [tailD, cdB, lit_1, lit_0]; rfl)) ea_nil)) rfl ⟨okD_rows cdB_wf, okD_tail cdB_wf⟩ (mkC_ok cdB_wf)) (by walk_at "ea")) rfl trivial (fun d hd => nomatch hd) (fun C o z => by cases z; rfl)
  have hw1 : ¬ w = 1 := by simpa using hw
  refine st_if (et_test (ee_op (ee_var rfl) ee_int (rb_eqN (b := 2)))) (fun hw => ?_) (fun hw => ?_)
  · have hw : w = 2 := by simpa using hw
    subst hw
    obtain ⟨x, hx, h1, h2⟩ := mod5 t
    have hR : feedR B ((cdG, []), x) = .err B.BadBit := by unfold feedR; dsimp only; rw [h1]
    exact st_newraise (a := cdG) (b := ((cdG, []), x)) rfl (by walk_at "ea") rfl cdG_wf (if_pos cdG_free) (ea_cons (ee_op (ee_lst (by walk_at "ea") (by simp)) (ee_op (ee_var rfl) ee_int (rb_modN (b := 5) (by decide))) (rb_ixL hx)) ea_nil) rfl rfl rfl ⟨rpG (Nat.zero_le _), h2⟩ hR rfl
  have hw2 : ¬ w = 2 := by simpa using hw
  refine st_if (et_test (ee_op (ee_var rfl) ee_int (rb_eqN (b := 3)))) (fun hw => ?_) (fun hw => ?_)
  · have hw : w = 3 := by simpa using hw
    subst hw
    refine st_seq (st_asgNew (a := cdG) (by walk_at "ea") rfl cdG_wf (by walk_at "lt") (fun _ p q dx => ?_) (fun C' z => by rw [if_pos cdG_free] at z; cases z))
    walk_at "fr"
    refine st_seq (st_wdrop (a := ((cdG, []), .str (bs [false]))) rfl (ea_cons (x := .str (bs [false])) ee_str ea_nil) rfl rfl rfl ⟨rpG (Nat.zero_le _), rfl⟩ (fun e ys z => ?_) (fun C' z => by rw [feed_0] at z; cases z))
    rw [feed_0] at z
    cases z
    walk_at "fr"
    exact st_wdrop (a := ((cdG, [false]), .str (bs [true]))) rfl (ea_cons (x := .str (bs [true])) ee_str ea_nil) rfl rfl rfl ⟨rpG (by decide), rfl⟩ (fun e ys z => by rw [feed_1] at z; cases z) (fun C' z => by rw [feed_1] at z; cases z; rfl)
  have hw3 : ¬ w = 3 := by simpa using hw
  refine st_if (et_test (ee_op (ee_var rfl) ee_int (rb_eqN (b := 4)))) (fun hw => ?_) (fun hw => ?_)
  · have hw : w = 4 := by simpa using hw
    subst hw
    exact st_newraise (a := cdG) (b := (cdG, [])) rfl (by walk_at "ea") rfl cdG_wf (if_pos cdG_free) ea_nil rfl rfl rfl (rpG (Nat.zero_le _)) (if_pos rfl) rfl
  have hw4 : ¬ w = 4 := by simpa using hw
  have hw : w = 5 := by omega
  subst hw
  exact st_call (a := ("1 2" : Str)) (by walk_at "ea") rfl ⟨by decide, lines_12⟩ (fun d hd => by rw [read_12] at hd; cases hd) (fun C o z => by rw [read_12] at z; cases z; rfl)
abbrev sp_l_kind (K : PySem.W.Frag) (B : Adr) : Sp := spA2 K (fun (w t : Nat) => [D.int (w : Nat), D.int (t : Nat)]) (fun w _ => w < 6) (fun w _ => .ok (.int (w : Nat)))
theorem ok_l_kind (T : Txt K mg B) : Ok P w K mg base CX0 9 "_law_kind" ["_law_what", "_law_thing"] (sp_l_kind K B) := by
  refine T.d_l_kind.ok sc_l_kind (spA_len fun _ => rfl) (fun f cdv A outer s H vs Q E hr h => ⟨_, (pss_cons (ps_set (i := 2) sc_l_kind.nd rfl (Or.inl rfl) pe_non)
    (pss_cons (ps_try_clauses (Wout := fun _ _ _ _ => False) rfl rfl takes0 (fun W pn xe tk _ => (pss_one (ps_expr (pe_callHS (ok_l_call T) (hr.mono (by first | decide | omega)) rfl (fun σ => passAt tk σ) (pa_cons (pv 0) (pa_cons (pv 1) pa_nil)))))) (.plain ⟨rfl, by decide, Or.inl T.e_BadCode.g⟩ (fun _ _ _ _ _ _ _ => (pss_one (ps_set (i := 2) sc_l_kind.nd rfl (Or.inl rfl) pe_int))) (.plain ⟨rfl, by decide, Or.inl T.e_NotFree.g⟩ (fun _ _ _ _ _ _ _ => (pss_one (ps_set (i := 2) sc_l_kind.nd rfl (Or.inl rfl) pe_int))) (.plain ⟨rfl, by decide, Or.inl T.e_BadBit.g⟩ (fun _ _ _ _ _ _ _ => (pss_one (ps_set (i := 2) sc_l_kind.nd rfl (Or.inl rfl) pe_int))) (.plain ⟨rfl, by decide, Or.inl T.e_Dead.g⟩ (fun _ _ _ _ _ _ _ => (pss_one (ps_set (i := 2) sc_l_kind.nd rfl (Or.inl rfl) pe_int))) (.plain ⟨rfl, by decide, Or.inl T.e_NothingDone.g⟩ (fun _ _ _ _ _ _ _ => (pss_one (ps_set (i := 2) sc_l_kind.nd rfl (Or.inl rfl) pe_int))) (.named (i := 3) sc_l_kind.nd rfl rfl ⟨rfl, by decide, Or.inl T.l_BadLine.g⟩ (fun ea oe ecls ed pn hz hf => (pss_one (ps_set (i := 2) sc_l_kind.nd rfl (Or.inl rfl) (pe_op (k_add K rfl) pe_int (pe_xf T.l_BadLine.xf T.l_BadLine.no hz hf (pv 3)))))) .nil)))))))
    (pss_one (ps_ret (pv 2))))), go_fn h fun a W ha => ?_⟩)
  obtain ⟨w, t⟩ := a
  dsimp only at ha
  walk_at "st0"
  refine st_seq (st_asg ee_non (by walk_at "lt") ?_)
  walk_at "fr"
  have hw : w = 0 ∨ w = 1 ∨ w = 2 ∨ w = 3 ∨ w = 4 ∨ w = 5 := by omega
  rcases hw with hw | hw | hw | hw | hw | hw <;> subst hw
  · refine st_seq (st_try_cl (a := (0, t)) (k := 0) (by walk_at "ea") rfl (show 0 < 6 by decide) rfl rfl (fun q cv' r hq hh => by omega) T.m_BadCode_BadCode (fun p => st_asg (ee_int (i := ((0 : Nat) : Int))) (by walk_at "lt") ?_))
    walk_at "fr"
    exact st_ret (ee_var rfl) rfl
  · refine st_seq (st_try_cl (a := (1, t)) (k := 1) (by walk_at "ea") rfl (show 1 < 6 by decide) rfl rfl (fun q cv' r hq hh => ?_) T.m_NotFree_NotFree (fun p => st_asg (ee_int (i := ((1 : Nat) : Int))) (by walk_at "lt") ?_))
    · match q, hq, hh with
      | 0, _, hh => cases hh; exact T.u_NotFree_BadCode
    walk_at "fr"
    exact st_ret (ee_var rfl) rfl
  · refine st_seq (st_try_cl (a := (2, t)) (k := 2) (by walk_at "ea") rfl (show 2 < 6 by decide) rfl rfl (fun q cv' r hq hh => ?_) T.m_BadBit_BadBit (fun p => st_asg (ee_int (i := ((2 : Nat) : Int))) (by walk_at "lt") ?_))
    · match q, hq, hh with
      | 0, _, hh => cases hh; exact T.u_BadBit_BadCode
      | 1, _, hh => cases hh; exact T.u_BadBit_NotFree
    walk_at "fr"
    exact st_ret (ee_var rfl) rfl
  · refine st_seq (st_try_cl (a := (3, t)) (k := 3) (by walk_at "ea") rfl (show 3 < 6 by decide) rfl rfl (fun q cv' r hq hh => ?_) T.m_Dead_Dead (fun p => st_asg (ee_int (i := ((3 : Nat) : Int))) (by walk_at "lt") ?_))
    · match q, hq, hh with
      | 0, _, hh => cases hh; exact T.u_Dead_BadCode
      | 1, _, hh => cases hh; exact T.u_Dead_NotFree
      | 2, _, hh => cases hh; exact T.u_Dead_BadBit
    walk_at "fr"
    exact st_ret (ee_var rfl) rfl
  · refine st_seq (st_try_cl (a := (4, t)) (k := 4) (by walk_at "ea") rfl (show 4 < 6 by decide) rfl rfl (fun q cv' r hq hh => ?_) T.m_NothingDone_NothingDone (fun p => st_asg (ee_int (i := ((4 : Nat) : Int))) (by walk_at "lt") ?_))
    · match q, hq, hh with
      | 0, _, hh => cases hh; exact T.u_NothingDone_BadCode
      | 1, _, hh => cases hh; exact T.u_NothingDone_NotFree
      | 2, _, hh => cases hh; exact T.u_NothingDone_BadBit
      | 3, _, hh => cases hh; exact T.u_NothingDone_Dead
    walk_at "fr"
    exact st_ret (ee_var rfl) rfl
  · refine st_seq (st_try_clL (a := (5, t)) (k := 5) (m := 2) (z := 3) (by walk_at "ea") rfl (show 5 < 6 by decide) rfl rfl (fun q cv' r hq hh => ?_) T.m_BadLine_BadLine rfl (by walk_at "lt") (by decide) ?_)
    · match q, hq, hh with
      | 0, _, hh => cases hh; exact T.u_BadLine_BadCode
      | 1, _, hh => cases hh; exact T.u_BadLine_NotFree
      | 2, _, hh => cases hh; exact T.u_BadLine_BadBit
      | 3, _, hh => cases hh; exact T.u_BadLine_Dead
      | 4, _, hh => cases hh; exact T.u_BadLine_NothingDone
    walk_at "fr"
    exact st_ret (ee_var rfl) rfl
abbrev sp_l_under (K : PySem.W.Frag) (B : Adr) : Sp := spA2 K (fun (w t : Nat) => [D.int (w : Nat), D.int (t : Nat)]) (fun w _ => w < 6) (fun _ _ => .ok (.bl true))
theorem ok_l_under (T : Txt K mg B) : Ok P w K mg base CX0 9 "_law_under" ["_law_what", "_law_thing"] (sp_l_under K B) := by
  refine T.d_l_under.ok sc_l_under (spA_len fun _ => rfl) (fun f cdv A outer s H vs Q E hr h => ⟨_, (pss_cons (ps_set (i := 2) sc_l_under.nd rfl (Or.inl rfl) pe_bl)
    (pss_cons (ps_try_only (Wout := fun _ _ _ _ => False) rfl rfl ⟨rfl, by decide, Or.inl T.e_CodeError.g⟩ takes0 (fun W pn xe tk _ => (pss_one (ps_expr (pe_callHS (ok_l_call T) (hr.mono (by first | decide | omega)) rfl (fun σ => passAt tk σ) (pa_cons (pv 0) (pa_cons (pv 1) pa_nil)))))) (fun _ _ _ _ _ _ _ => (pss_one (ps_set (i := 2) sc_l_under.nd rfl (Or.inl rfl) pe_bl))))
    (pss_one (ps_ret (pv 2))))), go_fn h fun a W ha => ?_⟩)
  obtain ⟨w, t⟩ := a
  dsimp only at ha
  walk_at "st0"
  refine st_seq (st_asg ee_bl (by walk_at "lt") ?_)
  walk_at "fr"
  have hm : PySem.W.exmOne K (.ref (errC B w)) (.ref B.CodeError) = some true := by
    have hw : w = 0 ∨ w = 1 ∨ w = 2 ∨ w = 3 ∨ w = 4 ∨ w = 5 := by omega
    rcases hw with hw | hw | hw | hw | hw | hw <;> subst hw
    · exact T.m_BadCode_CodeError
    · exact T.m_NotFree_CodeError
    · exact T.m_BadBit_CodeError
    · exact T.m_Dead_CodeError
    · exact T.m_NothingDone_CodeError
    · exact T.m_BadLine_CodeError
  refine st_seq (st_try_any (a := (w, t)) (by walk_at "ea") rfl ha rfl hm (fun p d => st_asg ee_bl (by walk_at "lt") ?_))
  walk_at "fr"
  exact st_ret (ee_var rfl) rfl
theorem ok_law (T : Txt K mg B) {fL : Addr} {fdL : FuncData} (F : Fun K "law" "law" s_law fL fdL) : FnOk P w K mg base CX0 10 fL fdL ["_law_script"] (sp_law K B) := by
  refine F.ok (k := 9) sc_law ?len (fun cdv A outer s H vs Q E hr h => ⟨_, (pss_cons (ps_set (i := 1) sc_law.nd rfl (Or.inl rfl) (pe_callH (ok_l_begin T) (hr.mono (by first | decide | omega)) rfl pass0 (pa_cons (pv 0) pa_nil)))
    (pss_cons (ps_set (i := 2) sc_law.nd rfl (Or.inl rfl) (pe_callH (ok_l_draw T) (hr.mono (by first | decide | omega)) rfl pass0 (pa_cons (pv 1) (pa_cons pe_int pa_nil))))
    (pss_cons (ps_set (i := 3) sc_law.nd rfl (Or.inl rfl) (pe_callH (ok_l_draw T) (hr.mono (by first | decide | omega)) rfl pass0 (pa_cons (pv 1) (pa_cons pe_int pa_nil))))
    (pss_one (ps_ret (pe_and (pe_cmpR (k_eq K rfl hr.units) (pe_callH (ok_l_kind T) (hr.mono (by first | decide | omega)) rfl pass0 (pa_cons (pv 2) (pa_cons (pv 3) pa_nil))) (pv 2) (nomark _)) (pe_one (pe_callH (ok_l_under T) (hr.mono (by first | decide | omega)) rfl pass0 (pa_cons (pv 2) (pa_cons (pv 3) pa_nil)))))))))), ?_⟩)
  case len => rintro vs H Q E ⟨a, ns, rfl, _⟩; rfl
  refine go_law (m := 2) rfl h (fun l W => ?_)
  walk_at "st0"
  refine st_seq (sn_asg (en_imp (en_draw (a := 6) rfl (by walk_at "ea") rfl (by decide)) (fun d hd => draw_nat (b := 6) (by decide) hd)) (by walk_at "lt") (fun d hd => ?_))
  obtain ⟨w, rfl, hw⟩ := hd
  walk_at "fr"
  refine st_seq (sn_asg (en_imp (en_draw (a := 12) rfl (by walk_at "ea") rfl (by decide)) (fun d hd => draw_nat (b := 12) (by decide) hd)) (by walk_at "lt") (fun d hd => ?_))
  obtain ⟨t, rfl, ht⟩ := hd
  walk_at "fr"
  exact st_ret (d := .bl true) (ee_and2 (ee_is (ee_op (ee_call2 (x := w) (y := t) (by walk_at "ea") rfl hw rfl) (ee_var rfl) rb_eqN) (by simp)) (ee_call2 (x := w) (y := t) (by walk_at "ea") rfl hw rfl)) rfl

--@@part
/-! ### what the top has written -/
theorem all_mk {l : PySem.W.OpenLaw} {w : World} {K : PySem.W.Frag} {h : Heap} {mg : Str → Option Value} {fa : Addr} {xCode xReader xBadCode xNotFree xBadBit xDead xNothingDone xCodeError xBITS xBadLine : Addr} (X : K.In h) (G : h.Ns mainGlobals mg) (hfa : mg "law" = some (.ref fa))
    {yBadLine : Addr} {nmBadLine qBadLine : Str} {NBadLine : Addr} {bsBadLine : List Value} {snBadLine : List Str} {subBadLine : List Value} {abBadLine : Bool} {colBadLine : Option Bool} {ddBadLine : Option Addr} {m0BadLine m1BadLine m2BadLine m3BadLine m5BadLine : Option Value}
    {fBadLine_init : Addr} {odBadLine_init anBadLine_init : Option Addr} {slBadLine_init : Array (Option Value)} {ocBadLine_init kVBadLine_init dcBadLine_init pmBadLine_init cdBadLine_init ctBadLine_init : Value}
    {ddBITS : Option Addr} {nBITS : Nat} {slBITS : Array (Option Value)} {tBITS0 tBITS1 : Tok}
    {tMOST_ROWS : Tok}
    {tFIGURES : Tok}
    {fis_whole : Addr} {odis_whole anis_whole : Option Addr} {slis_whole : Array (Option Value)} {ocis_whole kVis_whole dcis_whole pmis_whole cdis_whole ctis_whole : Value}
    {fare_bits : Addr} {odare_bits anare_bits : Option Addr} {slare_bits : Array (Option Value)} {ocare_bits kVare_bits dcare_bits pmare_bits cdare_bits ctare_bits : Value}
    {fis_row : Addr} {odis_row anis_row : Option Addr} {slis_row : Array (Option Value)} {ocis_row kVis_row dcis_row pmis_row cdis_row ctis_row : Value}
    {fis_tail : Addr} {odis_tail anis_tail : Option Addr} {slis_tail : Array (Option Value)} {ocis_tail kVis_tail dcis_tail pmis_tail cdis_tail ctis_tail : Value}
    {fpower : Addr} {odpower anpower : Option Addr} {slpower : Array (Option Value)} {ocpower kVpower dcpower pmpower cdpower ctpower : Value}
    {frow_at : Addr} {odrow_at anrow_at : Option Addr} {slrow_at : Array (Option Value)} {ocrow_at kVrow_at dcrow_at pmrow_at cdrow_at ctrow_at : Value}
    {fbefore_tail_row : Addr} {odbefore_tail_row anbefore_tail_row : Option Addr} {slbefore_tail_row : Array (Option Value)} {ocbefore_tail_row kVbefore_tail_row dcbefore_tail_row pmbefore_tail_row cdbefore_tail_row ctbefore_tail_row : Value}
    {ffirst_number : Addr} {odfirst_number anfirst_number : Option Addr} {slfirst_number : Array (Option Value)} {ocfirst_number kVfirst_number dcfirst_number pmfirst_number cdfirst_number ctfirst_number : Value}
    {ftail_row_with : Addr} {odtail_row_with antail_row_with : Option Addr} {sltail_row_with : Array (Option Value)} {octail_row_with kVtail_row_with dctail_row_with pmtail_row_with cdtail_row_with cttail_row_with : Value}
    {frow_with : Addr} {odrow_with anrow_with : Option Addr} {slrow_with : Array (Option Value)} {ocrow_with kVrow_with dcrow_with pmrow_with cdrow_with ctrow_with : Value}
    {fplaces : Addr} {odplaces anplaces : Option Addr} {slplaces : Array (Option Value)} {ocplaces kVplaces dcplaces pmplaces cdplaces ctplaces : Value}
    {fbits_of : Addr} {odbits_of anbits_of : Option Addr} {slbits_of : Array (Option Value)} {ocbits_of kVbits_of dcbits_of pmbits_of cdbits_of ctbits_of : Value}
    {fCode_init : Addr} {odCode_init anCode_init : Option Addr} {slCode_init : Array (Option Value)} {ocCode_init kVCode_init dcCode_init pmCode_init cdCode_init ctCode_init : Value}
    {fnear_rows : Addr} {odnear_rows annear_rows : Option Addr} {slnear_rows : Array (Option Value)} {ocnear_rows kVnear_rows dcnear_rows pmnear_rows cdnear_rows ctnear_rows : Value}
    {fare_unfree : Addr} {odare_unfree anare_unfree : Option Addr} {slare_unfree : Array (Option Value)} {ocare_unfree kVare_unfree dcare_unfree pmare_unfree cdare_unfree ctare_unfree : Value}
    {fis_free : Addr} {odis_free anis_free : Option Addr} {slis_free : Array (Option Value)} {ocis_free kVis_free dcis_free pmis_free cdis_free ctis_free : Value}
    {fcheck_free : Addr} {odcheck_free ancheck_free : Option Addr} {slcheck_free : Array (Option Value)} {occheck_free kVcheck_free dccheck_free pmcheck_free cdcheck_free ctcheck_free : Value}
    {fnumber_of_beginnings : Addr} {odnumber_of_beginnings annumber_of_beginnings : Option Addr} {slnumber_of_beginnings : Array (Option Value)} {ocnumber_of_beginnings kVnumber_of_beginnings dcnumber_of_beginnings pmnumber_of_beginnings cdnumber_of_beginnings ctnumber_of_beginnings : Value}
    {fnear_row : Addr} {odnear_row annear_row : Option Addr} {slnear_row : Array (Option Value)} {ocnear_row kVnear_row dcnear_row pmnear_row cdnear_row ctnear_row : Value}
    {ftaken : Addr} {odtaken antaken : Option Addr} {sltaken : Array (Option Value)} {octaken kVtaken dctaken pmtaken cdtaken cttaken : Value}
    {fwrite_list : Addr} {odwrite_list anwrite_list : Option Addr} {slwrite_list : Array (Option Value)} {ocwrite_list kVwrite_list dcwrite_list pmwrite_list cdwrite_list ctwrite_list : Value}
    {fread_list : Addr} {odread_list anread_list : Option Addr} {slread_list : Array (Option Value)} {ocread_list kVread_list dcread_list pmread_list cdread_list ctread_list : Value}
    {fReader_init : Addr} {odReader_init anReader_init : Option Addr} {slReader_init : Array (Option Value)} {ocReader_init kVReader_init dcReader_init pmReader_init cdReader_init ctReader_init : Value}
    {fReader_left : Addr} {odReader_left anReader_left : Option Addr} {slReader_left : Array (Option Value)} {ocReader_left kVReader_left dcReader_left pmReader_left cdReader_left ctReader_left : Value}
    {fReader_feed : Addr} {odReader_feed anReader_feed : Option Addr} {slReader_feed : Array (Option Value)} {ocReader_feed kVReader_feed dcReader_feed pmReader_feed cdReader_feed ctReader_feed : Value}
    {fReader_undo : Addr} {odReader_undo anReader_undo : Option Addr} {slReader_undo : Array (Option Value)} {ocReader_undo kVReader_undo dcReader_undo pmReader_undo cdReader_undo ctReader_undo : Value}
    {fstarting : Addr} {odstarting anstarting : Option Addr} {slstarting : Array (Option Value)} {ocstarting kVstarting dcstarting pmstarting cdstarting ctstarting : Value}
    {fhow_many : Addr} {odhow_many anhow_many : Option Addr} {slhow_many : Array (Option Value)} {ochow_many kVhow_many dchow_many pmhow_many cdhow_many cthow_many : Value}
    {fis_dead : Addr} {odis_dead anis_dead : Option Addr} {slis_dead : Array (Option Value)} {ocis_dead kVis_dead dcis_dead pmis_dead cdis_dead ctis_dead : Value}
    {fdead : Addr} {oddead andead : Option Addr} {sldead : Array (Option Value)} {ocdead kVdead dcdead pmdead cddead ctdead : Value}
    {fshare : Addr} {odshare anshare : Option Addr} {slshare : Array (Option Value)} {ocshare kVshare dcshare pmshare cdshare ctshare : Value}
    {forder : Addr} {odorder anorder : Option Addr} {slorder : Array (Option Value)} {ocorder kVorder dcorder pmorder cdorder ctorder : Value}
    {fgrowth : Addr} {odgrowth angrowth : Option Addr} {slgrowth : Array (Option Value)} {ocgrowth kVgrowth dcgrowth pmgrowth cdgrowth ctgrowth : Value}
    {flonger : Addr} {odlonger anlonger : Option Addr} {sllonger : Array (Option Value)} {oclonger kVlonger dclonger pmlonger cdlonger ctlonger : Value}
    {fgap : Addr} {odgap angap : Option Addr} {slgap : Array (Option Value)} {ocgap kVgap dcgap pmgap cdgap ctgap : Value}
    {fnumber_of_texts : Addr} {odnumber_of_texts annumber_of_texts : Option Addr} {slnumber_of_texts : Array (Option Value)} {ocnumber_of_texts kVnumber_of_texts dcnumber_of_texts pmnumber_of_texts cdnumber_of_texts ctnumber_of_texts : Value}
    {frow_in : Addr} {odrow_in anrow_in : Option Addr} {slrow_in : Array (Option Value)} {ocrow_in kVrow_in dcrow_in pmrow_in cdrow_in ctrow_in : Value}
    {ftail_in : Addr} {odtail_in antail_in : Option Addr} {sltail_in : Array (Option Value)} {octail_in kVtail_in dctail_in pmtail_in cdtail_in cttail_in : Value}
    {fread : Addr} {odread anread : Option Addr} {slread : Array (Option Value)} {ocread kVread dcread pmread cdread ctread : Value}
    {fl_begin : Addr} {odl_begin anl_begin : Option Addr} {sll_begin : Array (Option Value)} {ocl_begin kVl_begin dcl_begin pml_begin cdl_begin ctl_begin : Value}
    {fl_draw : Addr} {odl_draw anl_draw : Option Addr} {sll_draw : Array (Option Value)} {ocl_draw kVl_draw dcl_draw pml_draw cdl_draw ctl_draw : Value}
    {fl_free_call : Addr} {odl_free_call anl_free_call : Option Addr} {sll_free_call : Array (Option Value)} {ocl_free_call kVl_free_call dcl_free_call pml_free_call cdl_free_call ctl_free_call : Value}
    {fl_call : Addr} {odl_call anl_call : Option Addr} {sll_call : Array (Option Value)} {ocl_call kVl_call dcl_call pml_call cdl_call ctl_call : Value}
    {fl_kind : Addr} {odl_kind anl_kind : Option Addr} {sll_kind : Array (Option Value)} {ocl_kind kVl_kind dcl_kind pml_kind cdl_kind ctl_kind : Value}
    {fl_under : Addr} {odl_under anl_under : Option Addr} {sll_under : Array (Option Value)} {ocl_under kVl_under dcl_under pml_under cdl_under ctl_under : Value}
    {flaw : Addr} {odlaw anlaw : Option Addr} {sllaw : Array (Option Value)} {oclaw kVlaw dclaw pmlaw cdlaw ctlaw : Value}
    (gCode : PySem.W.nsIn K mainGlobals "Code" = some (some (.ref xCode)))
    (pgCode : PySem.W.plainGet K xCode Str.empty = true)
    (hdCode : PySem.W.hasDictIn K xCode = true)
    (poCode : PySem.W.plainOver K xCode = true)
    (saCode : PySem.W.findIn K (.ref xCode) "__setattr__" = some (some (.builtin "object.__setattr__")))
    (mkCode : PySem.W.makesIn K xCode = true)
    (kcCode : PySem.W.keepIn K (.ref xCode) = true)
    (naCoderows : PySem.W.findIn K (.ref xCode) "rows" = some none)
    (naCodetail : PySem.W.findIn K (.ref xCode) "tail" = some none)
    (naCodebegin : PySem.W.findIn K (.ref xCode) "begin" = some none)
    (gReader : PySem.W.nsIn K mainGlobals "Reader" = some (some (.ref xReader)))
    (pgReader : PySem.W.plainGet K xReader Str.empty = true)
    (hdReader : PySem.W.hasDictIn K xReader = true)
    (poReader : PySem.W.plainOver K xReader = true)
    (saReader : PySem.W.findIn K (.ref xReader) "__setattr__" = some (some (.builtin "object.__setattr__")))
    (mkReader : PySem.W.makesIn K xReader = true)
    (kcReader : PySem.W.keepIn K (.ref xReader) = true)
    (naReadercode : PySem.W.findIn K (.ref xReader) "code" = some none)
    (naReaderfed : PySem.W.findIn K (.ref xReader) "fed" = some none)
    (gBadCode : PySem.W.nsIn K mainGlobals "BadCode" = some (some (.ref xBadCode)))
    (qBadCode : PySem.W.excIn K xBadCode [.type "ValueError", .type "Exception", .type "BaseException", .type "object"] "ValueError.__new__" = true)
    (kcBadCode : PySem.W.keepIn K (.ref xBadCode) = true)
    (ebBadCode : PySem.W.subIn K (.ref xBadCode) (.type "BaseException") = some true)
    (etBadCode : PySem.W.typeIn K (.ref xBadCode) = some (.type "type"))
    (gNotFree : PySem.W.nsIn K mainGlobals "NotFree" = some (some (.ref xNotFree)))
    (qNotFree : PySem.W.excIn K xNotFree [.type "ValueError", .type "Exception", .type "BaseException", .type "object"] "ValueError.__new__" = true)
    (kcNotFree : PySem.W.keepIn K (.ref xNotFree) = true)
    (ebNotFree : PySem.W.subIn K (.ref xNotFree) (.type "BaseException") = some true)
    (etNotFree : PySem.W.typeIn K (.ref xNotFree) = some (.type "type"))
    (gBadBit : PySem.W.nsIn K mainGlobals "BadBit" = some (some (.ref xBadBit)))
    (qBadBit : PySem.W.excIn K xBadBit [.type "ValueError", .type "Exception", .type "BaseException", .type "object"] "ValueError.__new__" = true)
    (kcBadBit : PySem.W.keepIn K (.ref xBadBit) = true)
    (ebBadBit : PySem.W.subIn K (.ref xBadBit) (.type "BaseException") = some true)
    (etBadBit : PySem.W.typeIn K (.ref xBadBit) = some (.type "type"))
    (gDead : PySem.W.nsIn K mainGlobals "Dead" = some (some (.ref xDead)))
    (qDead : PySem.W.excIn K xDead [.type "ValueError", .type "Exception", .type "BaseException", .type "object"] "ValueError.__new__" = true)
    (kcDead : PySem.W.keepIn K (.ref xDead) = true)
    (ebDead : PySem.W.subIn K (.ref xDead) (.type "BaseException") = some true)
    (etDead : PySem.W.typeIn K (.ref xDead) = some (.type "type"))
    (gNothingDone : PySem.W.nsIn K mainGlobals "NothingDone" = some (some (.ref xNothingDone)))
    (qNothingDone : PySem.W.excIn K xNothingDone [.type "ValueError", .type "Exception", .type "BaseException", .type "object"] "ValueError.__new__" = true)
    (kcNothingDone : PySem.W.keepIn K (.ref xNothingDone) = true)
    (ebNothingDone : PySem.W.subIn K (.ref xNothingDone) (.type "BaseException") = some true)
    (etNothingDone : PySem.W.typeIn K (.ref xNothingDone) = some (.type "type"))
    (gCodeError : PySem.W.nsIn K mainGlobals "CodeError" = some (some (.ref xCodeError)))
    (qCodeError : PySem.W.excIn K xCodeError [.type "ValueError", .type "Exception", .type "BaseException", .type "object"] "ValueError.__new__" = true)
    (kcCodeError : PySem.W.keepIn K (.ref xCodeError) = true)
    (ebCodeError : PySem.W.subIn K (.ref xCodeError) (.type "BaseException") = some true)
    (etCodeError : PySem.W.typeIn K (.ref xCodeError) = some (.type "type"))
    (gBadLine : PySem.W.nsIn K mainGlobals "BadLine" = some (some (.ref xBadLine)))
    (xlBadLine : K.lookup xBadLine = some (excClassObj nmBadLine qBadLine xBadLine NBadLine bsBadLine [.ref yBadLine, .type "ValueError", .type "Exception", .type "BaseException", .type "object"] true snBadLine subBadLine abBadLine colBadLine ddBadLine m0BadLine m1BadLine m2BadLine m3BadLine m5BadLine "ValueError.__new__"))
    (saBadLine : PySem.W.findIn K (.ref xBadLine) "__setattr__" = some (some (.builtin "object.__setattr__")))
    (gaBadLine : PySem.W.findIn K (.ref xBadLine) "__getattribute__" = some (some (.builtin "BaseException.__getattribute__")))
    (ggBadLine : PySem.W.findIn K (.ref xBadLine) "__getattr__" = some none)
    (nbBadLine : PySem.W.findIn K (.ref xBadLine) "line" = some none)
    (aBadLine_init : PySem.W.findIn K (.ref xBadLine) "__init__" = some (some (.ref fBadLine_init)))
    (tBadLine_init : PySem.W.typeIn K (.ref fBadLine_init) = some (.type "function"))
    (lBadLine_init : K.lookup fBadLine_init = some ⟨ocBadLine_init, odBadLine_init, .func (PySem.W.fnOf "__init__" "BadLine.__init__" (defArgs s_BadLine_init) (defBody s_BadLine_init) (defScope s_BadLine_init) .none kVBadLine_init dcBadLine_init pmBadLine_init anBadLine_init cdBadLine_init ctBadLine_init), slBadLine_init⟩)
    (cBadLine_init : PySem.W.codeIn K cdBadLine_init "BadLine.__init__" = true)
    (kBadLine_init : PySem.W.keepIn K (.ref fBadLine_init) = true)
    (kcBadLine : PySem.W.keepIn K (.ref xBadLine) = true)
    (ebBadLine : PySem.W.subIn K (.ref xBadLine) (.type "BaseException") = some true)
    (etBadLine : PySem.W.typeIn K (.ref xBadLine) = some (.type "type"))
    (hcBadLine : PySem.W.hasDictIn K xBadLine = true)
    (mBadCodeBadCode : PySem.W.exmOne K (.ref xBadCode) (.ref xBadCode) = some true)
    (mNotFreeNotFree : PySem.W.exmOne K (.ref xNotFree) (.ref xNotFree) = some true)
    (mBadBitBadBit : PySem.W.exmOne K (.ref xBadBit) (.ref xBadBit) = some true)
    (mDeadDead : PySem.W.exmOne K (.ref xDead) (.ref xDead) = some true)
    (mNothingDoneNothingDone : PySem.W.exmOne K (.ref xNothingDone) (.ref xNothingDone) = some true)
    (mBadLineBadLine : PySem.W.exmOne K (.ref xBadLine) (.ref xBadLine) = some true)
    (mBadCodeCodeError : PySem.W.exmOne K (.ref xBadCode) (.ref xCodeError) = some true)
    (mNotFreeCodeError : PySem.W.exmOne K (.ref xNotFree) (.ref xCodeError) = some true)
    (mBadBitCodeError : PySem.W.exmOne K (.ref xBadBit) (.ref xCodeError) = some true)
    (mDeadCodeError : PySem.W.exmOne K (.ref xDead) (.ref xCodeError) = some true)
    (mNothingDoneCodeError : PySem.W.exmOne K (.ref xNothingDone) (.ref xCodeError) = some true)
    (mBadLineCodeError : PySem.W.exmOne K (.ref xBadLine) (.ref xCodeError) = some true)
    (uNotFreeBadCode : PySem.W.exmOne K (.ref xNotFree) (.ref xBadCode) = some false)
    (uBadBitBadCode : PySem.W.exmOne K (.ref xBadBit) (.ref xBadCode) = some false)
    (uBadBitNotFree : PySem.W.exmOne K (.ref xBadBit) (.ref xNotFree) = some false)
    (uDeadBadCode : PySem.W.exmOne K (.ref xDead) (.ref xBadCode) = some false)
    (uDeadNotFree : PySem.W.exmOne K (.ref xDead) (.ref xNotFree) = some false)
    (uDeadBadBit : PySem.W.exmOne K (.ref xDead) (.ref xBadBit) = some false)
    (uNothingDoneBadCode : PySem.W.exmOne K (.ref xNothingDone) (.ref xBadCode) = some false)
    (uNothingDoneNotFree : PySem.W.exmOne K (.ref xNothingDone) (.ref xNotFree) = some false)
    (uNothingDoneBadBit : PySem.W.exmOne K (.ref xNothingDone) (.ref xBadBit) = some false)
    (uNothingDoneDead : PySem.W.exmOne K (.ref xNothingDone) (.ref xDead) = some false)
    (uBadLineBadCode : PySem.W.exmOne K (.ref xBadLine) (.ref xBadCode) = some false)
    (uBadLineNotFree : PySem.W.exmOne K (.ref xBadLine) (.ref xNotFree) = some false)
    (uBadLineBadBit : PySem.W.exmOne K (.ref xBadLine) (.ref xBadBit) = some false)
    (uBadLineDead : PySem.W.exmOne K (.ref xBadLine) (.ref xDead) = some false)
    (uBadLineNothingDone : PySem.W.exmOne K (.ref xBadLine) (.ref xNothingDone) = some false)
    (gBITS : PySem.W.nsIn K mainGlobals "BITS" = some (some (.ref xBITS)))
    (lBITS : K.lookup xBITS = some ⟨.type "tuple", ddBITS, .seq #[.str "0" tBITS0, .str "1" tBITS1] nBITS, slBITS⟩)
    (gMOST_ROWS : PySem.W.nsIn K mainGlobals "MOST_ROWS" = some (some (.int 6 tMOST_ROWS)))
    (gFIGURES : PySem.W.nsIn K mainGlobals "FIGURES" = some (some (.str "012345678" tFIGURES)))
    (ais_whole : PySem.W.nsIn K mainGlobals "is_whole" = some (some (.ref fis_whole)))
    (lis_whole : K.lookup fis_whole = some ⟨ocis_whole, odis_whole, .func (PySem.W.fnOf "is_whole" "is_whole" (defArgs s_is_whole) (defBody s_is_whole) (defScope s_is_whole) .none kVis_whole dcis_whole pmis_whole anis_whole cdis_whole ctis_whole), slis_whole⟩)
    (cis_whole : PySem.W.codeIn K cdis_whole "is_whole" = true)
    (kis_whole : PySem.W.keepIn K (.ref fis_whole) = true)
    (aare_bits : PySem.W.nsIn K mainGlobals "are_bits" = some (some (.ref fare_bits)))
    (lare_bits : K.lookup fare_bits = some ⟨ocare_bits, odare_bits, .func (PySem.W.fnOf "are_bits" "are_bits" (defArgs s_are_bits) (defBody s_are_bits) (defScope s_are_bits) .none kVare_bits dcare_bits pmare_bits anare_bits cdare_bits ctare_bits), slare_bits⟩)
    (care_bits : PySem.W.codeIn K cdare_bits "are_bits" = true)
    (kare_bits : PySem.W.keepIn K (.ref fare_bits) = true)
    (ais_row : PySem.W.nsIn K mainGlobals "is_row" = some (some (.ref fis_row)))
    (lis_row : K.lookup fis_row = some ⟨ocis_row, odis_row, .func (PySem.W.fnOf "is_row" "is_row" (defArgs s_is_row) (defBody s_is_row) (defScope s_is_row) .none kVis_row dcis_row pmis_row anis_row cdis_row ctis_row), slis_row⟩)
    (cis_row : PySem.W.codeIn K cdis_row "is_row" = true)
    (kis_row : PySem.W.keepIn K (.ref fis_row) = true)
    (ais_tail : PySem.W.nsIn K mainGlobals "is_tail" = some (some (.ref fis_tail)))
    (lis_tail : K.lookup fis_tail = some ⟨ocis_tail, odis_tail, .func (PySem.W.fnOf "is_tail" "is_tail" (defArgs s_is_tail) (defBody s_is_tail) (defScope s_is_tail) .none kVis_tail dcis_tail pmis_tail anis_tail cdis_tail ctis_tail), slis_tail⟩)
    (cis_tail : PySem.W.codeIn K cdis_tail "is_tail" = true)
    (kis_tail : PySem.W.keepIn K (.ref fis_tail) = true)
    (apower : PySem.W.nsIn K mainGlobals "power" = some (some (.ref fpower)))
    (lpower : K.lookup fpower = some ⟨ocpower, odpower, .func (PySem.W.fnOf "power" "power" (defArgs s_power) (defBody s_power) (defScope s_power) .none kVpower dcpower pmpower anpower cdpower ctpower), slpower⟩)
    (cpower : PySem.W.codeIn K cdpower "power" = true)
    (kpower : PySem.W.keepIn K (.ref fpower) = true)
    (arow_at : PySem.W.nsIn K mainGlobals "row_at" = some (some (.ref frow_at)))
    (lrow_at : K.lookup frow_at = some ⟨ocrow_at, odrow_at, .func (PySem.W.fnOf "row_at" "row_at" (defArgs s_row_at) (defBody s_row_at) (defScope s_row_at) .none kVrow_at dcrow_at pmrow_at anrow_at cdrow_at ctrow_at), slrow_at⟩)
    (crow_at : PySem.W.codeIn K cdrow_at "row_at" = true)
    (krow_at : PySem.W.keepIn K (.ref frow_at) = true)
    (abefore_tail_row : PySem.W.nsIn K mainGlobals "before_tail_row" = some (some (.ref fbefore_tail_row)))
    (lbefore_tail_row : K.lookup fbefore_tail_row = some ⟨ocbefore_tail_row, odbefore_tail_row, .func (PySem.W.fnOf "before_tail_row" "before_tail_row" (defArgs s_before_tail_row) (defBody s_before_tail_row) (defScope s_before_tail_row) .none kVbefore_tail_row dcbefore_tail_row pmbefore_tail_row anbefore_tail_row cdbefore_tail_row ctbefore_tail_row), slbefore_tail_row⟩)
    (cbefore_tail_row : PySem.W.codeIn K cdbefore_tail_row "before_tail_row" = true)
    (kbefore_tail_row : PySem.W.keepIn K (.ref fbefore_tail_row) = true)
    (afirst_number : PySem.W.nsIn K mainGlobals "first_number" = some (some (.ref ffirst_number)))
    (lfirst_number : K.lookup ffirst_number = some ⟨ocfirst_number, odfirst_number, .func (PySem.W.fnOf "first_number" "first_number" (defArgs s_first_number) (defBody s_first_number) (defScope s_first_number) .none kVfirst_number dcfirst_number pmfirst_number anfirst_number cdfirst_number ctfirst_number), slfirst_number⟩)
    (cfirst_number : PySem.W.codeIn K cdfirst_number "first_number" = true)
    (kfirst_number : PySem.W.keepIn K (.ref ffirst_number) = true)
    (atail_row_with : PySem.W.nsIn K mainGlobals "tail_row_with" = some (some (.ref ftail_row_with)))
    (ltail_row_with : K.lookup ftail_row_with = some ⟨octail_row_with, odtail_row_with, .func (PySem.W.fnOf "tail_row_with" "tail_row_with" (defArgs s_tail_row_with) (defBody s_tail_row_with) (defScope s_tail_row_with) .none kVtail_row_with dctail_row_with pmtail_row_with antail_row_with cdtail_row_with cttail_row_with), sltail_row_with⟩)
    (ctail_row_with : PySem.W.codeIn K cdtail_row_with "tail_row_with" = true)
    (ktail_row_with : PySem.W.keepIn K (.ref ftail_row_with) = true)
    (arow_with : PySem.W.nsIn K mainGlobals "row_with" = some (some (.ref frow_with)))
    (lrow_with : K.lookup frow_with = some ⟨ocrow_with, odrow_with, .func (PySem.W.fnOf "row_with" "row_with" (defArgs s_row_with) (defBody s_row_with) (defScope s_row_with) .none kVrow_with dcrow_with pmrow_with anrow_with cdrow_with ctrow_with), slrow_with⟩)
    (crow_with : PySem.W.codeIn K cdrow_with "row_with" = true)
    (krow_with : PySem.W.keepIn K (.ref frow_with) = true)
    (aplaces : PySem.W.nsIn K mainGlobals "places" = some (some (.ref fplaces)))
    (lplaces : K.lookup fplaces = some ⟨ocplaces, odplaces, .func (PySem.W.fnOf "places" "places" (defArgs s_places) (defBody s_places) (defScope s_places) .none kVplaces dcplaces pmplaces anplaces cdplaces ctplaces), slplaces⟩)
    (cplaces : PySem.W.codeIn K cdplaces "places" = true)
    (kplaces : PySem.W.keepIn K (.ref fplaces) = true)
    (abits_of : PySem.W.nsIn K mainGlobals "bits_of" = some (some (.ref fbits_of)))
    (lbits_of : K.lookup fbits_of = some ⟨ocbits_of, odbits_of, .func (PySem.W.fnOf "bits_of" "bits_of" (defArgs s_bits_of) (defBody s_bits_of) (defScope s_bits_of) .none kVbits_of dcbits_of pmbits_of anbits_of cdbits_of ctbits_of), slbits_of⟩)
    (cbits_of : PySem.W.codeIn K cdbits_of "bits_of" = true)
    (kbits_of : PySem.W.keepIn K (.ref fbits_of) = true)
    (aCode_init : PySem.W.findIn K (.ref xCode) "__init__" = some (some (.ref fCode_init)))
    (iCode_init : PySem.W.isFn K (.ref fCode_init) = true)
    (lCode_init : K.lookup fCode_init = some ⟨ocCode_init, odCode_init, .func (PySem.W.fnOf "__init__" "Code.__init__" (defArgs s_Code_init) (defBody s_Code_init) (defScope s_Code_init) .none kVCode_init dcCode_init pmCode_init anCode_init cdCode_init ctCode_init), slCode_init⟩)
    (cCode_init : PySem.W.codeIn K cdCode_init "Code.__init__" = true)
    (kCode_init : PySem.W.keepIn K (.ref fCode_init) = true)
    (anear_rows : PySem.W.nsIn K mainGlobals "near_rows" = some (some (.ref fnear_rows)))
    (lnear_rows : K.lookup fnear_rows = some ⟨ocnear_rows, odnear_rows, .func (PySem.W.fnOf "near_rows" "near_rows" (defArgs s_near_rows) (defBody s_near_rows) (defScope s_near_rows) .none kVnear_rows dcnear_rows pmnear_rows annear_rows cdnear_rows ctnear_rows), slnear_rows⟩)
    (cnear_rows : PySem.W.codeIn K cdnear_rows "near_rows" = true)
    (knear_rows : PySem.W.keepIn K (.ref fnear_rows) = true)
    (aare_unfree : PySem.W.nsIn K mainGlobals "are_unfree" = some (some (.ref fare_unfree)))
    (lare_unfree : K.lookup fare_unfree = some ⟨ocare_unfree, odare_unfree, .func (PySem.W.fnOf "are_unfree" "are_unfree" (defArgs s_are_unfree) (defBody s_are_unfree) (defScope s_are_unfree) .none kVare_unfree dcare_unfree pmare_unfree anare_unfree cdare_unfree ctare_unfree), slare_unfree⟩)
    (care_unfree : PySem.W.codeIn K cdare_unfree "are_unfree" = true)
    (kare_unfree : PySem.W.keepIn K (.ref fare_unfree) = true)
    (ais_free : PySem.W.nsIn K mainGlobals "is_free" = some (some (.ref fis_free)))
    (lis_free : K.lookup fis_free = some ⟨ocis_free, odis_free, .func (PySem.W.fnOf "is_free" "is_free" (defArgs s_is_free) (defBody s_is_free) (defScope s_is_free) .none kVis_free dcis_free pmis_free anis_free cdis_free ctis_free), slis_free⟩)
    (cis_free : PySem.W.codeIn K cdis_free "is_free" = true)
    (kis_free : PySem.W.keepIn K (.ref fis_free) = true)
    (acheck_free : PySem.W.nsIn K mainGlobals "check_free" = some (some (.ref fcheck_free)))
    (lcheck_free : K.lookup fcheck_free = some ⟨occheck_free, odcheck_free, .func (PySem.W.fnOf "check_free" "check_free" (defArgs s_check_free) (defBody s_check_free) (defScope s_check_free) .none kVcheck_free dccheck_free pmcheck_free ancheck_free cdcheck_free ctcheck_free), slcheck_free⟩)
    (ccheck_free : PySem.W.codeIn K cdcheck_free "check_free" = true)
    (kcheck_free : PySem.W.keepIn K (.ref fcheck_free) = true)
    (anumber_of_beginnings : PySem.W.nsIn K mainGlobals "number_of_beginnings" = some (some (.ref fnumber_of_beginnings)))
    (lnumber_of_beginnings : K.lookup fnumber_of_beginnings = some ⟨ocnumber_of_beginnings, odnumber_of_beginnings, .func (PySem.W.fnOf "number_of" "number_of" (defArgs s_number_of_beginnings) (defBody s_number_of_beginnings) (defScope s_number_of_beginnings) .none kVnumber_of_beginnings dcnumber_of_beginnings pmnumber_of_beginnings annumber_of_beginnings cdnumber_of_beginnings ctnumber_of_beginnings), slnumber_of_beginnings⟩)
    (cnumber_of_beginnings : PySem.W.codeIn K cdnumber_of_beginnings "number_of" = true)
    (knumber_of_beginnings : PySem.W.keepIn K (.ref fnumber_of_beginnings) = true)
    (anear_row : PySem.W.nsIn K mainGlobals "near_row" = some (some (.ref fnear_row)))
    (lnear_row : K.lookup fnear_row = some ⟨ocnear_row, odnear_row, .func (PySem.W.fnOf "near_row" "near_row" (defArgs s_near_row) (defBody s_near_row) (defScope s_near_row) .none kVnear_row dcnear_row pmnear_row annear_row cdnear_row ctnear_row), slnear_row⟩)
    (cnear_row : PySem.W.codeIn K cdnear_row "near_row" = true)
    (knear_row : PySem.W.keepIn K (.ref fnear_row) = true)
    (ataken : PySem.W.nsIn K mainGlobals "taken" = some (some (.ref ftaken)))
    (ltaken : K.lookup ftaken = some ⟨octaken, odtaken, .func (PySem.W.fnOf "taken" "taken" (defArgs s_taken) (defBody s_taken) (defScope s_taken) .none kVtaken dctaken pmtaken antaken cdtaken cttaken), sltaken⟩)
    (ctaken : PySem.W.codeIn K cdtaken "taken" = true)
    (ktaken : PySem.W.keepIn K (.ref ftaken) = true)
    (awrite_list : PySem.W.nsIn K mainGlobals "write_list" = some (some (.ref fwrite_list)))
    (lwrite_list : K.lookup fwrite_list = some ⟨ocwrite_list, odwrite_list, .func (PySem.W.fnOf "write_list" "write_list" (defArgs s_write_list) (defBody s_write_list) (defScope s_write_list) .none kVwrite_list dcwrite_list pmwrite_list anwrite_list cdwrite_list ctwrite_list), slwrite_list⟩)
    (cwrite_list : PySem.W.codeIn K cdwrite_list "write_list" = true)
    (kwrite_list : PySem.W.keepIn K (.ref fwrite_list) = true)
    (aread_list : PySem.W.nsIn K mainGlobals "read_list" = some (some (.ref fread_list)))
    (lread_list : K.lookup fread_list = some ⟨ocread_list, odread_list, .func (PySem.W.fnOf "read_list" "read_list" (defArgs s_read_list) (defBody s_read_list) (defScope s_read_list) .none kVread_list dcread_list pmread_list anread_list cdread_list ctread_list), slread_list⟩)
    (cread_list : PySem.W.codeIn K cdread_list "read_list" = true)
    (kread_list : PySem.W.keepIn K (.ref fread_list) = true)
    (aReader_init : PySem.W.findIn K (.ref xReader) "__init__" = some (some (.ref fReader_init)))
    (iReader_init : PySem.W.isFn K (.ref fReader_init) = true)
    (lReader_init : K.lookup fReader_init = some ⟨ocReader_init, odReader_init, .func (PySem.W.fnOf "__init__" "Reader.__init__" (defArgs s_Reader_init) (defBody s_Reader_init) (defScope s_Reader_init) .none kVReader_init dcReader_init pmReader_init anReader_init cdReader_init ctReader_init), slReader_init⟩)
    (cReader_init : PySem.W.codeIn K cdReader_init "Reader.__init__" = true)
    (kReader_init : PySem.W.keepIn K (.ref fReader_init) = true)
    (aReader_left : PySem.W.findIn K (.ref xReader) "left" = some (some (.ref fReader_left)))
    (iReader_left : PySem.W.isFn K (.ref fReader_left) = true)
    (lReader_left : K.lookup fReader_left = some ⟨ocReader_left, odReader_left, .func (PySem.W.fnOf "left" "Reader.left" (defArgs s_Reader_left) (defBody s_Reader_left) (defScope s_Reader_left) .none kVReader_left dcReader_left pmReader_left anReader_left cdReader_left ctReader_left), slReader_left⟩)
    (cReader_left : PySem.W.codeIn K cdReader_left "Reader.left" = true)
    (kReader_left : PySem.W.keepIn K (.ref fReader_left) = true)
    (aReader_feed : PySem.W.findIn K (.ref xReader) "feed" = some (some (.ref fReader_feed)))
    (iReader_feed : PySem.W.isFn K (.ref fReader_feed) = true)
    (lReader_feed : K.lookup fReader_feed = some ⟨ocReader_feed, odReader_feed, .func (PySem.W.fnOf "feed" "Reader.feed" (defArgs s_Reader_feed) (defBody s_Reader_feed) (defScope s_Reader_feed) .none kVReader_feed dcReader_feed pmReader_feed anReader_feed cdReader_feed ctReader_feed), slReader_feed⟩)
    (cReader_feed : PySem.W.codeIn K cdReader_feed "Reader.feed" = true)
    (kReader_feed : PySem.W.keepIn K (.ref fReader_feed) = true)
    (aReader_undo : PySem.W.findIn K (.ref xReader) "undo" = some (some (.ref fReader_undo)))
    (iReader_undo : PySem.W.isFn K (.ref fReader_undo) = true)
    (lReader_undo : K.lookup fReader_undo = some ⟨ocReader_undo, odReader_undo, .func (PySem.W.fnOf "undo" "Reader.undo" (defArgs s_Reader_undo) (defBody s_Reader_undo) (defScope s_Reader_undo) .none kVReader_undo dcReader_undo pmReader_undo anReader_undo cdReader_undo ctReader_undo), slReader_undo⟩)
    (cReader_undo : PySem.W.codeIn K cdReader_undo "Reader.undo" = true)
    (kReader_undo : PySem.W.keepIn K (.ref fReader_undo) = true)
    (astarting : PySem.W.nsIn K mainGlobals "starting" = some (some (.ref fstarting)))
    (lstarting : K.lookup fstarting = some ⟨ocstarting, odstarting, .func (PySem.W.fnOf "starting" "starting" (defArgs s_starting) (defBody s_starting) (defScope s_starting) .none kVstarting dcstarting pmstarting anstarting cdstarting ctstarting), slstarting⟩)
    (cstarting : PySem.W.codeIn K cdstarting "starting" = true)
    (kstarting : PySem.W.keepIn K (.ref fstarting) = true)
    (ahow_many : PySem.W.nsIn K mainGlobals "how_many" = some (some (.ref fhow_many)))
    (lhow_many : K.lookup fhow_many = some ⟨ochow_many, odhow_many, .func (PySem.W.fnOf "how_many" "how_many" (defArgs s_how_many) (defBody s_how_many) (defScope s_how_many) .none kVhow_many dchow_many pmhow_many anhow_many cdhow_many cthow_many), slhow_many⟩)
    (chow_many : PySem.W.codeIn K cdhow_many "how_many" = true)
    (khow_many : PySem.W.keepIn K (.ref fhow_many) = true)
    (ais_dead : PySem.W.nsIn K mainGlobals "is_dead" = some (some (.ref fis_dead)))
    (lis_dead : K.lookup fis_dead = some ⟨ocis_dead, odis_dead, .func (PySem.W.fnOf "is_dead" "is_dead" (defArgs s_is_dead) (defBody s_is_dead) (defScope s_is_dead) .none kVis_dead dcis_dead pmis_dead anis_dead cdis_dead ctis_dead), slis_dead⟩)
    (cis_dead : PySem.W.codeIn K cdis_dead "is_dead" = true)
    (kis_dead : PySem.W.keepIn K (.ref fis_dead) = true)
    (adead : PySem.W.nsIn K mainGlobals "dead" = some (some (.ref fdead)))
    (ldead : K.lookup fdead = some ⟨ocdead, oddead, .func (PySem.W.fnOf "dead" "dead" (defArgs s_dead) (defBody s_dead) (defScope s_dead) .none kVdead dcdead pmdead andead cddead ctdead), sldead⟩)
    (cdead : PySem.W.codeIn K cddead "dead" = true)
    (kdead : PySem.W.keepIn K (.ref fdead) = true)
    (ashare : PySem.W.nsIn K mainGlobals "share" = some (some (.ref fshare)))
    (lshare : K.lookup fshare = some ⟨ocshare, odshare, .func (PySem.W.fnOf "share" "share" (defArgs s_share) (defBody s_share) (defScope s_share) .none kVshare dcshare pmshare anshare cdshare ctshare), slshare⟩)
    (cshare : PySem.W.codeIn K cdshare "share" = true)
    (kshare : PySem.W.keepIn K (.ref fshare) = true)
    (aorder : PySem.W.nsIn K mainGlobals "order" = some (some (.ref forder)))
    (lorder : K.lookup forder = some ⟨ocorder, odorder, .func (PySem.W.fnOf "order" "order" (defArgs s_order) (defBody s_order) (defScope s_order) .none kVorder dcorder pmorder anorder cdorder ctorder), slorder⟩)
    (corder : PySem.W.codeIn K cdorder "order" = true)
    (korder : PySem.W.keepIn K (.ref forder) = true)
    (agrowth : PySem.W.nsIn K mainGlobals "growth" = some (some (.ref fgrowth)))
    (lgrowth : K.lookup fgrowth = some ⟨ocgrowth, odgrowth, .func (PySem.W.fnOf "growth" "growth" (defArgs s_growth) (defBody s_growth) (defScope s_growth) .none kVgrowth dcgrowth pmgrowth angrowth cdgrowth ctgrowth), slgrowth⟩)
    (cgrowth : PySem.W.codeIn K cdgrowth "growth" = true)
    (kgrowth : PySem.W.keepIn K (.ref fgrowth) = true)
    (alonger : PySem.W.nsIn K mainGlobals "longer" = some (some (.ref flonger)))
    (llonger : K.lookup flonger = some ⟨oclonger, odlonger, .func (PySem.W.fnOf "longer" "longer" (defArgs s_longer) (defBody s_longer) (defScope s_longer) .none kVlonger dclonger pmlonger anlonger cdlonger ctlonger), sllonger⟩)
    (clonger : PySem.W.codeIn K cdlonger "longer" = true)
    (klonger : PySem.W.keepIn K (.ref flonger) = true)
    (agap : PySem.W.nsIn K mainGlobals "gap" = some (some (.ref fgap)))
    (lgap : K.lookup fgap = some ⟨ocgap, odgap, .func (PySem.W.fnOf "gap" "gap" (defArgs s_gap) (defBody s_gap) (defScope s_gap) .none kVgap dcgap pmgap angap cdgap ctgap), slgap⟩)
    (cgap : PySem.W.codeIn K cdgap "gap" = true)
    (kgap : PySem.W.keepIn K (.ref fgap) = true)
    (anumber_of_texts : PySem.W.nsIn K mainGlobals "number_of_texts" = some (some (.ref fnumber_of_texts)))
    (lnumber_of_texts : K.lookup fnumber_of_texts = some ⟨ocnumber_of_texts, odnumber_of_texts, .func (PySem.W.fnOf "number_of" "number_of" (defArgs s_number_of_texts) (defBody s_number_of_texts) (defScope s_number_of_texts) .none kVnumber_of_texts dcnumber_of_texts pmnumber_of_texts annumber_of_texts cdnumber_of_texts ctnumber_of_texts), slnumber_of_texts⟩)
    (cnumber_of_texts : PySem.W.codeIn K cdnumber_of_texts "number_of" = true)
    (knumber_of_texts : PySem.W.keepIn K (.ref fnumber_of_texts) = true)
    (arow_in : PySem.W.nsIn K mainGlobals "row_in" = some (some (.ref frow_in)))
    (lrow_in : K.lookup frow_in = some ⟨ocrow_in, odrow_in, .func (PySem.W.fnOf "row_in" "row_in" (defArgs s_row_in) (defBody s_row_in) (defScope s_row_in) .none kVrow_in dcrow_in pmrow_in anrow_in cdrow_in ctrow_in), slrow_in⟩)
    (crow_in : PySem.W.codeIn K cdrow_in "row_in" = true)
    (krow_in : PySem.W.keepIn K (.ref frow_in) = true)
    (atail_in : PySem.W.nsIn K mainGlobals "tail_in" = some (some (.ref ftail_in)))
    (ltail_in : K.lookup ftail_in = some ⟨octail_in, odtail_in, .func (PySem.W.fnOf "tail_in" "tail_in" (defArgs s_tail_in) (defBody s_tail_in) (defScope s_tail_in) .none kVtail_in dctail_in pmtail_in antail_in cdtail_in cttail_in), sltail_in⟩)
    (ctail_in : PySem.W.codeIn K cdtail_in "tail_in" = true)
    (ktail_in : PySem.W.keepIn K (.ref ftail_in) = true)
    (aread : PySem.W.nsIn K mainGlobals "read" = some (some (.ref fread)))
    (lread : K.lookup fread = some ⟨ocread, odread, .func (PySem.W.fnOf "read" "read" (defArgs s_read) (defBody s_read) (defScope s_read) .none kVread dcread pmread anread cdread ctread), slread⟩)
    (cread : PySem.W.codeIn K cdread "read" = true)
    (kread : PySem.W.keepIn K (.ref fread) = true)
    (al_begin : PySem.W.nsIn K mainGlobals "_law_begin" = some (some (.ref fl_begin)))
    (ll_begin : K.lookup fl_begin = some ⟨ocl_begin, odl_begin, .func (PySem.W.fnOf "_law_begin" "_law_begin" (defArgs s_l_begin) (defBody s_l_begin) (defScope s_l_begin) .none kVl_begin dcl_begin pml_begin anl_begin cdl_begin ctl_begin), sll_begin⟩)
    (cl_begin : PySem.W.codeIn K cdl_begin "_law_begin" = true)
    (kl_begin : PySem.W.keepIn K (.ref fl_begin) = true)
    (al_draw : PySem.W.nsIn K mainGlobals "_law_draw" = some (some (.ref fl_draw)))
    (ll_draw : K.lookup fl_draw = some ⟨ocl_draw, odl_draw, .func (PySem.W.fnOf "_law_draw" "_law_draw" (defArgs s_l_draw) (defBody s_l_draw) (defScope s_l_draw) .none kVl_draw dcl_draw pml_draw anl_draw cdl_draw ctl_draw), sll_draw⟩)
    (cl_draw : PySem.W.codeIn K cdl_draw "_law_draw" = true)
    (kl_draw : PySem.W.keepIn K (.ref fl_draw) = true)
    (al_free_call : PySem.W.nsIn K mainGlobals "_law_free_call" = some (some (.ref fl_free_call)))
    (ll_free_call : K.lookup fl_free_call = some ⟨ocl_free_call, odl_free_call, .func (PySem.W.fnOf "_law_free_call" "_law_free_call" (defArgs s_l_free_call) (defBody s_l_free_call) (defScope s_l_free_call) .none kVl_free_call dcl_free_call pml_free_call anl_free_call cdl_free_call ctl_free_call), sll_free_call⟩)
    (cl_free_call : PySem.W.codeIn K cdl_free_call "_law_free_call" = true)
    (kl_free_call : PySem.W.keepIn K (.ref fl_free_call) = true)
    (al_call : PySem.W.nsIn K mainGlobals "_law_call" = some (some (.ref fl_call)))
    (ll_call : K.lookup fl_call = some ⟨ocl_call, odl_call, .func (PySem.W.fnOf "_law_call" "_law_call" (defArgs s_l_call) (defBody s_l_call) (defScope s_l_call) .none kVl_call dcl_call pml_call anl_call cdl_call ctl_call), sll_call⟩)
    (cl_call : PySem.W.codeIn K cdl_call "_law_call" = true)
    (kl_call : PySem.W.keepIn K (.ref fl_call) = true)
    (al_kind : PySem.W.nsIn K mainGlobals "_law_kind" = some (some (.ref fl_kind)))
    (ll_kind : K.lookup fl_kind = some ⟨ocl_kind, odl_kind, .func (PySem.W.fnOf "_law_kind" "_law_kind" (defArgs s_l_kind) (defBody s_l_kind) (defScope s_l_kind) .none kVl_kind dcl_kind pml_kind anl_kind cdl_kind ctl_kind), sll_kind⟩)
    (cl_kind : PySem.W.codeIn K cdl_kind "_law_kind" = true)
    (kl_kind : PySem.W.keepIn K (.ref fl_kind) = true)
    (al_under : PySem.W.nsIn K mainGlobals "_law_under" = some (some (.ref fl_under)))
    (ll_under : K.lookup fl_under = some ⟨ocl_under, odl_under, .func (PySem.W.fnOf "_law_under" "_law_under" (defArgs s_l_under) (defBody s_l_under) (defScope s_l_under) .none kVl_under dcl_under pml_under anl_under cdl_under ctl_under), sll_under⟩)
    (cl_under : PySem.W.codeIn K cdl_under "_law_under" = true)
    (kl_under : PySem.W.keepIn K (.ref fl_under) = true)
    (alaw : PySem.W.nsIn K mainGlobals "law" = some (some (.ref flaw)))
    (llaw : K.lookup flaw = some ⟨oclaw, odlaw, .func (PySem.W.fnOf "law" "law" (defArgs s_law) (defBody s_law) (defScope s_law) .none kVlaw dclaw pmlaw anlaw cdlaw ctlaw), sllaw⟩)
    (claw : PySem.W.codeIn K cdlaw "law" = true)
    (klaw : PySem.W.keepIn K (.ref flaw) = true)
    (zall : PySem.W.nsIn K mainGlobals "all" = some none)
    (zany : PySem.W.nsIn K mainGlobals "any" = some none)
    (zbool : PySem.W.nsIn K mainGlobals "bool" = some none)
    (zenumerate : PySem.W.nsIn K mainGlobals "enumerate" = some none)
    (zint : PySem.W.nsIn K mainGlobals "int" = some none)
    (zisinstance : PySem.W.nsIn K mainGlobals "isinstance" = some none)
    (zlen : PySem.W.nsIn K mainGlobals "len" = some none)
    (zlist : PySem.W.nsIn K mainGlobals "list" = some none)
    (zmax : PySem.W.nsIn K mainGlobals "max" = some none)
    (zrange : PySem.W.nsIn K mainGlobals "range" = some none)
    (zstr : PySem.W.nsIn K mainGlobals "str" = some none)
    (zsum : PySem.W.nsIn K mainGlobals "sum" = some none)
    (ztuple : PySem.W.nsIn K mainGlobals "tuple" = some none) :
    ∃ B : Adr, ∃ fd : FuncData, (∀ (s : Shared) (v : Value), BindsTo s fd ⟨[v], []⟩ [("_law_script", v)]) ∧ ∀ base : Heap, K.In base → base.Ns mainGlobals mg → FnOk l.prog w K mg base CX0 10 fa fd ["_law_script"] (sp_law K B) := by
  have e := hfa.symm.trans (PySem.W.mg_of X G alaw)
  cases e
  have Fis_whole := fun_mk (st := s_is_whole) lis_whole cis_whole kis_whole
  have Fare_bits := fun_mk (st := s_are_bits) lare_bits care_bits kare_bits
  have Fis_row := fun_mk (st := s_is_row) lis_row cis_row kis_row
  have Fis_tail := fun_mk (st := s_is_tail) lis_tail cis_tail kis_tail
  have Fpower := fun_mk (st := s_power) lpower cpower kpower
  have Frow_at := fun_mk (st := s_row_at) lrow_at crow_at krow_at
  have Fbefore_tail_row := fun_mk (st := s_before_tail_row) lbefore_tail_row cbefore_tail_row kbefore_tail_row
  have Ffirst_number := fun_mk (st := s_first_number) lfirst_number cfirst_number kfirst_number
  have Ftail_row_with := fun_mk (st := s_tail_row_with) ltail_row_with ctail_row_with ktail_row_with
  have Frow_with := fun_mk (st := s_row_with) lrow_with crow_with krow_with
  have Fplaces := fun_mk (st := s_places) lplaces cplaces kplaces
  have Fbits_of := fun_mk (st := s_bits_of) lbits_of cbits_of kbits_of
  have FCode_init := fun_mk (st := s_Code_init) lCode_init cCode_init kCode_init
  have Fnear_rows := fun_mk (st := s_near_rows) lnear_rows cnear_rows knear_rows
  have Fare_unfree := fun_mk (st := s_are_unfree) lare_unfree care_unfree kare_unfree
  have Fis_free := fun_mk (st := s_is_free) lis_free cis_free kis_free
  have Fcheck_free := fun_mk (st := s_check_free) lcheck_free ccheck_free kcheck_free
  have Fnumber_of_beginnings := fun_mk (st := s_number_of_beginnings) lnumber_of_beginnings cnumber_of_beginnings knumber_of_beginnings
  have Fnear_row := fun_mk (st := s_near_row) lnear_row cnear_row knear_row
  have Ftaken := fun_mk (st := s_taken) ltaken ctaken ktaken
  have Fwrite_list := fun_mk (st := s_write_list) lwrite_list cwrite_list kwrite_list
  have Fread_list := fun_mk (st := s_read_list) lread_list cread_list kread_list
  have FReader_init := fun_mk (st := s_Reader_init) lReader_init cReader_init kReader_init
  have FReader_left := fun_mk (st := s_Reader_left) lReader_left cReader_left kReader_left
  have FReader_feed := fun_mk (st := s_Reader_feed) lReader_feed cReader_feed kReader_feed
  have FReader_undo := fun_mk (st := s_Reader_undo) lReader_undo cReader_undo kReader_undo
  have Fstarting := fun_mk (st := s_starting) lstarting cstarting kstarting
  have Fhow_many := fun_mk (st := s_how_many) lhow_many chow_many khow_many
  have Fis_dead := fun_mk (st := s_is_dead) lis_dead cis_dead kis_dead
  have Fdead := fun_mk (st := s_dead) ldead cdead kdead
  have Fshare := fun_mk (st := s_share) lshare cshare kshare
  have Forder := fun_mk (st := s_order) lorder corder korder
  have Fgrowth := fun_mk (st := s_growth) lgrowth cgrowth kgrowth
  have Flonger := fun_mk (st := s_longer) llonger clonger klonger
  have Fgap := fun_mk (st := s_gap) lgap cgap kgap
  have Fnumber_of_texts := fun_mk (st := s_number_of_texts) lnumber_of_texts cnumber_of_texts knumber_of_texts
  have Frow_in := fun_mk (st := s_row_in) lrow_in crow_in krow_in
  have Ftail_in := fun_mk (st := s_tail_in) ltail_in ctail_in ktail_in
  have Fread := fun_mk (st := s_read) lread cread kread
  have Fl_begin := fun_mk (st := s_l_begin) ll_begin cl_begin kl_begin
  have Fl_draw := fun_mk (st := s_l_draw) ll_draw cl_draw kl_draw
  have Fl_free_call := fun_mk (st := s_l_free_call) ll_free_call cl_free_call kl_free_call
  have Fl_call := fun_mk (st := s_l_call) ll_call cl_call kl_call
  have Fl_kind := fun_mk (st := s_l_kind) ll_kind cl_kind kl_kind
  have Fl_under := fun_mk (st := s_l_under) ll_under cl_under kl_under
  have Flaw := fun_mk (st := s_law) llaw claw klaw
  have FBadLine_init := fun_mk (st := s_BadLine_init) lBadLine_init cBadLine_init kBadLine_init
  have T : Txt K mg ⟨xCode, xReader, xBadCode, xNotFree, xBadBit, xDead, xNothingDone, xCodeError, xBITS, xBadLine⟩ :=
    { d_is_whole := ⟨⟨_, _, Fis_whole, PySem.W.mg_of X G ais_whole, Fis_whole.binds (ps := ["thing", "least", "most"]) fun _ _ _ _ _ _ us hl => match us, hl with | [_, _, _], _ => rfl⟩⟩,
      d_are_bits := ⟨⟨_, _, Fare_bits, PySem.W.mg_of X G aare_bits, Fare_bits.binds (ps := ["thing", "least", "most"]) fun _ _ _ _ _ _ us hl => match us, hl with | [_, _, _], _ => rfl⟩⟩,
      d_is_row := ⟨⟨_, _, Fis_row, PySem.W.mg_of X G ais_row, Fis_row.binds (ps := ["thing"]) fun _ _ _ _ _ _ us hl => match us, hl with | [_], _ => rfl⟩⟩,
      d_is_tail := ⟨⟨_, _, Fis_tail, PySem.W.mg_of X G ais_tail, Fis_tail.binds (ps := ["thing"]) fun _ _ _ _ _ _ us hl => match us, hl with | [_], _ => rfl⟩⟩,
      d_power := ⟨⟨_, _, Fpower, PySem.W.mg_of X G apower, Fpower.binds (ps := ["times"]) fun _ _ _ _ _ _ us hl => match us, hl with | [_], _ => rfl⟩⟩,
      d_row_at := ⟨⟨_, _, Frow_at, PySem.W.mg_of X G arow_at, Frow_at.binds (ps := ["code", "r"]) fun _ _ _ _ _ _ us hl => match us, hl with | [_, _], _ => rfl⟩⟩,
      d_before_tail_row := ⟨⟨_, _, Fbefore_tail_row, PySem.W.mg_of X G abefore_tail_row, Fbefore_tail_row.binds (ps := ["code", "i"]) fun _ _ _ _ _ _ us hl => match us, hl with | [_, _], _ => rfl⟩⟩,
      d_first_number := ⟨⟨_, _, Ffirst_number, PySem.W.mg_of X G afirst_number, Ffirst_number.binds (ps := ["code", "r"]) fun _ _ _ _ _ _ us hl => match us, hl with | [_, _], _ => rfl⟩⟩,
      d_tail_row_with := ⟨⟨_, _, Ftail_row_with, PySem.W.mg_of X G atail_row_with, Ftail_row_with.binds (ps := ["code", "n"]) fun _ _ _ _ _ _ us hl => match us, hl with | [_, _], _ => rfl⟩⟩,
      d_row_with := ⟨⟨_, _, Frow_with, PySem.W.mg_of X G arow_with, Frow_with.binds (ps := ["code", "n"]) fun _ _ _ _ _ _ us hl => match us, hl with | [_, _], _ => rfl⟩⟩,
      d_places := ⟨⟨_, _, Fplaces, PySem.W.mg_of X G aplaces, Fplaces.binds (ps := ["number", "k"]) fun _ _ _ _ _ _ us hl => match us, hl with | [_, _], _ => rfl⟩⟩,
      d_bits_of := ⟨⟨_, _, Fbits_of, PySem.W.mg_of X G abits_of, Fbits_of.binds (ps := ["code", "n"]) fun _ _ _ _ _ _ us hl => match us, hl with | [_, _], _ => rfl⟩⟩,
      d_Code_init := ⟨⟨_, _, FCode_init, ⟨mkCode, aCode_init, iCode_init, kcCode⟩, FCode_init.binds (ps := ["self", "rows", "tail"]) fun _ _ _ _ _ _ us hl => match us, hl with | [_, _, _], _ => rfl⟩⟩,
      d_near_rows := ⟨⟨_, _, Fnear_rows, PySem.W.mg_of X G anear_rows, Fnear_rows.binds (ps := ["code"]) fun _ _ _ _ _ _ us hl => match us, hl with | [_], _ => rfl⟩⟩,
      d_are_unfree := ⟨⟨_, _, Fare_unfree, PySem.W.mg_of X G aare_unfree, Fare_unfree.binds (ps := ["code", "r", "other"]) fun _ _ _ _ _ _ us hl => match us, hl with | [_, _, _], _ => rfl⟩⟩,
      d_is_free := ⟨⟨_, _, Fis_free, PySem.W.mg_of X G ais_free, Fis_free.binds (ps := ["code"]) fun _ _ _ _ _ _ us hl => match us, hl with | [_], _ => rfl⟩⟩,
      d_check_free := ⟨⟨_, _, Fcheck_free, PySem.W.mg_of X G acheck_free, Fcheck_free.binds (ps := ["code"]) fun _ _ _ _ _ _ us hl => match us, hl with | [_], _ => rfl⟩⟩,
      d_number_of_beginnings := ⟨⟨_, _, Fnumber_of_beginnings, PySem.W.mg_of X G anumber_of_beginnings, Fnumber_of_beginnings.binds (ps := ["bits"]) fun _ _ _ _ _ _ us hl => match us, hl with | [_], _ => rfl⟩⟩,
      d_near_row := ⟨⟨_, _, Fnear_row, PySem.W.mg_of X G anear_row, Fnear_row.binds (ps := ["code", "bits"]) fun _ _ _ _ _ _ us hl => match us, hl with | [_, _], _ => rfl⟩⟩,
      d_taken := ⟨⟨_, _, Ftaken, PySem.W.mg_of X G ataken, Ftaken.binds (ps := ["code", "bits"]) fun _ _ _ _ _ _ us hl => match us, hl with | [_, _], _ => rfl⟩⟩,
      d_write_list := ⟨⟨_, _, Fwrite_list, PySem.W.mg_of X G awrite_list, Fwrite_list.binds (ps := ["code", "numbers"]) fun _ _ _ _ _ _ us hl => match us, hl with | [_, _], _ => rfl⟩⟩,
      d_read_list := ⟨⟨_, _, Fread_list, PySem.W.mg_of X G aread_list, Fread_list.binds (ps := ["code", "bits"]) fun _ _ _ _ _ _ us hl => match us, hl with | [_, _], _ => rfl⟩⟩,
      d_Reader_init := ⟨⟨_, _, FReader_init, ⟨mkReader, aReader_init, iReader_init, kcReader⟩, FReader_init.binds (ps := ["self", "code"]) fun _ _ _ _ _ _ us hl => match us, hl with | [_, _], _ => rfl⟩⟩,
      d_Reader_left := ⟨⟨_, _, FReader_left, ⟨aReader_left, iReader_left, kReader_left⟩, FReader_left.binds (ps := ["self"]) fun _ _ _ _ _ _ us hl => match us, hl with | [_], _ => rfl⟩⟩,
      d_Reader_feed := ⟨⟨_, _, FReader_feed, ⟨aReader_feed, iReader_feed, kReader_feed⟩, FReader_feed.binds (ps := ["self", "bit"]) fun _ _ _ _ _ _ us hl => match us, hl with | [_, _], _ => rfl⟩⟩,
      d_Reader_undo := ⟨⟨_, _, FReader_undo, ⟨aReader_undo, iReader_undo, kReader_undo⟩, FReader_undo.binds (ps := ["self"]) fun _ _ _ _ _ _ us hl => match us, hl with | [_], _ => rfl⟩⟩,
      d_starting := ⟨⟨_, _, Fstarting, PySem.W.mg_of X G astarting, Fstarting.binds (ps := ["code", "bits"]) fun _ _ _ _ _ _ us hl => match us, hl with | [_, _], _ => rfl⟩⟩,
      d_how_many := ⟨⟨_, _, Fhow_many, PySem.W.mg_of X G ahow_many, Fhow_many.binds (ps := ["code", "bits"]) fun _ _ _ _ _ _ us hl => match us, hl with | [_, _], _ => rfl⟩⟩,
      d_is_dead := ⟨⟨_, _, Fis_dead, PySem.W.mg_of X G ais_dead, Fis_dead.binds (ps := ["code", "bits"]) fun _ _ _ _ _ _ us hl => match us, hl with | [_, _], _ => rfl⟩⟩,
      d_dead := ⟨⟨_, _, Fdead, PySem.W.mg_of X G adead, Fdead.binds (ps := ["code", "size"]) fun _ _ _ _ _ _ us hl => match us, hl with | [_, _], _ => rfl⟩⟩,
      d_share := ⟨⟨_, _, Fshare, PySem.W.mg_of X G ashare, Fshare.binds (ps := ["code"]) fun _ _ _ _ _ _ us hl => match us, hl with | [_], _ => rfl⟩⟩,
      d_order := ⟨⟨_, _, Forder, PySem.W.mg_of X G aorder, Forder.binds (ps := ["code"]) fun _ _ _ _ _ _ us hl => match us, hl with | [_], _ => rfl⟩⟩,
      d_growth := ⟨⟨_, _, Fgrowth, PySem.W.mg_of X G agrowth, Fgrowth.binds (ps := ["code"]) fun _ _ _ _ _ _ us hl => match us, hl with | [_], _ => rfl⟩⟩,
      d_longer := ⟨⟨_, _, Flonger, PySem.W.mg_of X G alonger, Flonger.binds (ps := ["one", "other"]) fun _ _ _ _ _ _ us hl => match us, hl with | [_, _], _ => rfl⟩⟩,
      d_gap := ⟨⟨_, _, Fgap, PySem.W.mg_of X G agap, Fgap.binds (ps := ["one", "other"]) fun _ _ _ _ _ _ us hl => match us, hl with | [_, _], _ => rfl⟩⟩,
      d_number_of_texts := ⟨⟨_, _, Fnumber_of_texts, PySem.W.mg_of X G anumber_of_texts, Fnumber_of_texts.binds (ps := ["word", "most"]) fun _ _ _ _ _ _ us hl => match us, hl with | [_, _], _ => rfl⟩⟩,
      d_row_in := ⟨⟨_, _, Frow_in, PySem.W.mg_of X G arow_in, Frow_in.binds (ps := ["line"]) fun _ _ _ _ _ _ us hl => match us, hl with | [_], _ => rfl⟩⟩,
      d_tail_in := ⟨⟨_, _, Ftail_in, PySem.W.mg_of X G atail_in, Ftail_in.binds (ps := ["line"]) fun _ _ _ _ _ _ us hl => match us, hl with | [_], _ => rfl⟩⟩,
      d_read := ⟨⟨_, _, Fread, PySem.W.mg_of X G aread, Fread.binds (ps := ["text"]) fun _ _ _ _ _ _ us hl => match us, hl with | [_], _ => rfl⟩⟩,
      d_l_begin := ⟨⟨_, _, Fl_begin, PySem.W.mg_of X G al_begin, Fl_begin.binds (ps := ["_law_script"]) fun _ _ _ _ _ _ us hl => match us, hl with | [_], _ => rfl⟩⟩,
      d_l_draw := ⟨⟨_, _, Fl_draw, PySem.W.mg_of X G al_draw, Fl_draw.binds (ps := ["_law_draws", "_law_size"]) fun _ _ _ _ _ _ us hl => match us, hl with | [_, _], _ => rfl⟩⟩,
      d_l_free_call := ⟨⟨_, _, Fl_free_call, PySem.W.mg_of X G al_free_call, Fl_free_call.binds (ps := ["_law_bad", "_law_good", "_law_thing"]) fun _ _ _ _ _ _ us hl => match us, hl with | [_, _, _], _ => rfl⟩⟩,
      d_l_call := ⟨⟨_, _, Fl_call, PySem.W.mg_of X G al_call, Fl_call.binds (ps := ["_law_what", "_law_thing"]) fun _ _ _ _ _ _ us hl => match us, hl with | [_, _], _ => rfl⟩⟩,
      d_l_kind := ⟨⟨_, _, Fl_kind, PySem.W.mg_of X G al_kind, Fl_kind.binds (ps := ["_law_what", "_law_thing"]) fun _ _ _ _ _ _ us hl => match us, hl with | [_, _], _ => rfl⟩⟩,
      d_l_under := ⟨⟨_, _, Fl_under, PySem.W.mg_of X G al_under, Fl_under.binds (ps := ["_law_what", "_law_thing"]) fun _ _ _ _ _ _ us hl => match us, hl with | [_, _], _ => rfl⟩⟩,
      cl_Code := ⟨pgCode, hdCode, poCode, saCode⟩,
      g_Code := PySem.W.mg_of X G gCode,
      na_Code_rows := naCoderows,
      na_Code_tail := naCodetail,
      na_Code_begin := naCodebegin,
      cl_Reader := ⟨pgReader, hdReader, poReader, saReader⟩,
      g_Reader := PySem.W.mg_of X G gReader,
      na_Reader_code := naReadercode,
      na_Reader_fed := naReaderfed,
      e_BadCode := ⟨PySem.W.mg_of X G gBadCode, qBadCode, kcBadCode, ebBadCode, etBadCode⟩,
      e_NotFree := ⟨PySem.W.mg_of X G gNotFree, qNotFree, kcNotFree, ebNotFree, etNotFree⟩,
      e_BadBit := ⟨PySem.W.mg_of X G gBadBit, qBadBit, kcBadBit, ebBadBit, etBadBit⟩,
      e_Dead := ⟨PySem.W.mg_of X G gDead, qDead, kcDead, ebDead, etDead⟩,
      e_NothingDone := ⟨PySem.W.mg_of X G gNothingDone, qNothingDone, kcNothingDone, ebNothingDone, etNothingDone⟩,
      e_CodeError := ⟨PySem.W.mg_of X G gCodeError, qCodeError, kcCodeError, ebCodeError, etCodeError⟩,
      l_BadLine := ⟨⟨_, _, FBadLine_init, aBadLine_init, tBadLine_init, FBadLine_init.binds (ps := ["self", "line"]) fun _ _ _ _ _ _ us hl => match us, hl with | [_, _], _ => rfl⟩, ⟨⟨_, _, _, _, _, _, _, _, _, _, _, _, _, _, _, xlBadLine, rfl⟩, saBadLine, ebBadLine, etBadLine, kcBadLine⟩, PySem.W.mg_of X G gBadLine, nbBadLine, ⟨gaBadLine, ggBadLine, ebBadLine, hcBadLine⟩⟩,
      m_BadCode_BadCode := mBadCodeBadCode,
      m_NotFree_NotFree := mNotFreeNotFree,
      m_BadBit_BadBit := mBadBitBadBit,
      m_Dead_Dead := mDeadDead,
      m_NothingDone_NothingDone := mNothingDoneNothingDone,
      m_BadLine_BadLine := mBadLineBadLine,
      m_BadCode_CodeError := mBadCodeCodeError,
      m_NotFree_CodeError := mNotFreeCodeError,
      m_BadBit_CodeError := mBadBitCodeError,
      m_Dead_CodeError := mDeadCodeError,
      m_NothingDone_CodeError := mNothingDoneCodeError,
      m_BadLine_CodeError := mBadLineCodeError,
      u_NotFree_BadCode := uNotFreeBadCode,
      u_BadBit_BadCode := uBadBitBadCode,
      u_BadBit_NotFree := uBadBitNotFree,
      u_Dead_BadCode := uDeadBadCode,
      u_Dead_NotFree := uDeadNotFree,
      u_Dead_BadBit := uDeadBadBit,
      u_NothingDone_BadCode := uNothingDoneBadCode,
      u_NothingDone_NotFree := uNothingDoneNotFree,
      u_NothingDone_BadBit := uNothingDoneBadBit,
      u_NothingDone_Dead := uNothingDoneDead,
      u_BadLine_BadCode := uBadLineBadCode,
      u_BadLine_NotFree := uBadLineNotFree,
      u_BadLine_BadBit := uBadLineBadBit,
      u_BadLine_Dead := uBadLineDead,
      u_BadLine_NothingDone := uBadLineNothingDone,
      c_BITS := PySem.W.mg_of X G gBITS,
      k_BITS := fun _ => .tup (xs := [.str "0", .str "1"]) (.inr ⟨_, _, _, lBITS, rfl, rfl, by show 2 ≤ sizeLine; decide, .cons ⟨_, rfl⟩ (.cons ⟨_, rfl⟩ (.nil))⟩) (.cons (.str _) (.cons (.str _) (.nil))),
      c_MOST_ROWS := ⟨_, PySem.W.mg_of X G gMOST_ROWS⟩,
      c_FIGURES := ⟨_, PySem.W.mg_of X G gFIGURES⟩,
      n_all := PySem.W.mg_none_of X G zall,
      n_any := PySem.W.mg_none_of X G zany,
      n_bool := PySem.W.mg_none_of X G zbool,
      n_enumerate := PySem.W.mg_none_of X G zenumerate,
      n_int := PySem.W.mg_none_of X G zint,
      n_isinstance := PySem.W.mg_none_of X G zisinstance,
      n_len := PySem.W.mg_none_of X G zlen,
      n_list := PySem.W.mg_none_of X G zlist,
      n_max := PySem.W.mg_none_of X G zmax,
      n_range := PySem.W.mg_none_of X G zrange,
      n_str := PySem.W.mg_none_of X G zstr,
      n_sum := PySem.W.mg_none_of X G zsum,
      n_tuple := PySem.W.mg_none_of X G ztuple }
  exact ⟨_, PySem.W.fnOf "law" "law" (defArgs s_law) (defBody s_law) (defScope s_law) .none kVlaw dclaw pmlaw anlaw cdlaw ctlaw, fun s v => .of_eq rfl, fun base _ _ => ok_law T Flaw⟩
theorem walk {l : PySem.W.OpenLaw} {q : Program} {loose : List Str} {XP : (Str → Option Value) → Heap → Prop} {YP : World → Heap → Prop} {d : DefRec} {K : Params → PySem.W.Frag} (hn : l.most = some 63) (hdf : d.params.defaults = [])
    (hY : ∀ (w : World) (h : Heap), YP w h → (K w.params).In h)
    (F : ∀ (w : World) (mg : Str → Option Value) (fa : Addr) (h : Heap), (K w.params).In h → h.Ns mainGlobals mg → mg d.name = some (.ref fa) →
      ∃ B : Adr, ∃ fd : FuncData, (∀ (s : Shared) (u : Value), BindsTo s fd ⟨[u], []⟩ [("_law_script", u)]) ∧ ∀ base : Heap, (K w.params).In base → base.Ns mainGlobals mg → FnOk l.prog w (K w.params) mg base CX0 10 fa fd ["_law_script"] (sp_law (K w.params) B)) :
    PySem.W.WalkO q loose XP YP l.row.toRowW d [] (fun f vs => PySem.call f vs) :=
  L2.walk_of (n := 63) (k := 10) (x := "_law_script") (CX := fun _ => CX0) (sp := fun w vs H Q E => ∀ B : Adr, sp_law (K w.params) B vs H Q E) hn (by decide) hdf ⟨rfl, by decide, by decide⟩ hY (fun w mg fa h a b c => by
    obtain ⟨B, fd, h1, h2⟩ := F w mg fa h a b c
    exact ⟨fd, h1, fun base x y => (h2 base x y).imp fun vs H Q E z => z B⟩) (fun _ _ a ns hl _ hS B => ⟨a, ns, rfl, hS, hl, fun _ => rfl⟩) fun _ _ _ _ _ z => z
end
end Dl
open PySem PySem.W PyProof.Rows
set_option maxRecDepth 100000 in
set_option maxHeartbeats 0 in
theorem PySem.Challenge.cw_wholecodes_k13_errors_are_apart_holds : PySem.Challenge.rw_wholecodes_k13_errors_are_apart.Holds := by
  w_on; o_law; k_head; (case hw => w_witness2)
  k_fill
  refine Dl.walk (l := PySem.Challenge.rw_wholecodes_k13_errors_are_apart) rfl rfl (fun w h Y => PySem.W.kIn_of Y) ?F
  case F =>
    intro w mg fa h KX G hmg
    refine' Dl.all_mk KX G hmg ?gCode ?pgCode ?hdCode ?poCode ?saCode ?mkCode ?kcCode ?naCoderows ?naCodetail ?naCodebegin ?gReader ?pgReader ?hdReader ?poReader ?saReader ?mkReader ?kcReader ?naReadercode ?naReaderfed ?gBadCode ?qBadCode ?kcBadCode ?ebBadCode ?etBadCode ?gNotFree ?qNotFree ?kcNotFree ?ebNotFree ?etNotFree ?gBadBit ?qBadBit ?kcBadBit ?ebBadBit ?etBadBit ?gDead ?qDead ?kcDead ?ebDead ?etDead ?gNothingDone ?qNothingDone ?kcNothingDone ?ebNothingDone ?etNothingDone ?gCodeError ?qCodeError ?kcCodeError ?ebCodeError ?etCodeError ?gBadLine ?xlBadLine ?saBadLine ?gaBadLine ?ggBadLine ?nbBadLine ?aBadLine_init ?tBadLine_init ?lBadLine_init ?cBadLine_init ?kBadLine_init ?kcBadLine ?ebBadLine ?etBadLine ?hcBadLine ?mBadCodeBadCode ?mNotFreeNotFree ?mBadBitBadBit ?mDeadDead ?mNothingDoneNothingDone ?mBadLineBadLine ?mBadCodeCodeError ?mNotFreeCodeError ?mBadBitCodeError ?mDeadCodeError ?mNothingDoneCodeError ?mBadLineCodeError ?uNotFreeBadCode ?uBadBitBadCode ?uBadBitNotFree ?uDeadBadCode ?uDeadNotFree ?uDeadBadBit ?uNothingDoneBadCode ?uNothingDoneNotFree ?uNothingDoneBadBit ?uNothingDoneDead ?uBadLineBadCode ?uBadLineNotFree ?uBadLineBadBit ?uBadLineDead ?uBadLineNothingDone ?gBITS ?lBITS ?gMOST_ROWS ?gFIGURES ?ais_whole ?lis_whole ?cis_whole ?kis_whole ?aare_bits ?lare_bits ?care_bits ?kare_bits ?ais_row ?lis_row ?cis_row ?kis_row ?ais_tail ?lis_tail ?cis_tail ?kis_tail ?apower ?lpower ?cpower ?kpower ?arow_at ?lrow_at ?crow_at ?krow_at ?abefore_tail_row ?lbefore_tail_row ?cbefore_tail_row ?kbefore_tail_row ?afirst_number ?lfirst_number ?cfirst_number ?kfirst_number ?atail_row_with ?ltail_row_with ?ctail_row_with ?ktail_row_with ?arow_with ?lrow_with ?crow_with ?krow_with ?aplaces ?lplaces ?cplaces ?kplaces ?abits_of ?lbits_of ?cbits_of ?kbits_of ?aCode_init ?iCode_init ?lCode_init ?cCode_init ?kCode_init ?anear_rows ?lnear_rows ?cnear_rows ?knear_rows ?aare_unfree ?lare_unfree ?care_unfree ?kare_unfree ?ais_free ?lis_free ?cis_free ?kis_free ?acheck_free ?lcheck_free ?ccheck_free ?kcheck_free ?anumber_of_beginnings ?lnumber_of_beginnings ?cnumber_of_beginnings ?knumber_of_beginnings ?anear_row ?lnear_row ?cnear_row ?knear_row ?ataken ?ltaken ?ctaken ?ktaken ?awrite_list ?lwrite_list ?cwrite_list ?kwrite_list ?aread_list ?lread_list ?cread_list ?kread_list ?aReader_init ?iReader_init ?lReader_init ?cReader_init ?kReader_init ?aReader_left ?iReader_left ?lReader_left ?cReader_left ?kReader_left ?aReader_feed ?iReader_feed ?lReader_feed ?cReader_feed ?kReader_feed ?aReader_undo ?iReader_undo ?lReader_undo ?cReader_undo ?kReader_undo ?astarting ?lstarting ?cstarting ?kstarting ?ahow_many ?lhow_many ?chow_many ?khow_many ?ais_dead ?lis_dead ?cis_dead ?kis_dead ?adead ?ldead ?cdead ?kdead ?ashare ?lshare ?cshare ?kshare ?aorder ?lorder ?corder ?korder ?agrowth ?lgrowth ?cgrowth ?kgrowth ?alonger ?llonger ?clonger ?klonger ?agap ?lgap ?cgap ?kgap ?anumber_of_texts ?lnumber_of_texts ?cnumber_of_texts ?knumber_of_texts ?arow_in ?lrow_in ?crow_in ?krow_in ?atail_in ?ltail_in ?ctail_in ?ktail_in ?aread ?lread ?cread ?kread ?al_begin ?ll_begin ?cl_begin ?kl_begin ?al_draw ?ll_draw ?cl_draw ?kl_draw ?al_free_call ?ll_free_call ?cl_free_call ?kl_free_call ?al_call ?ll_call ?cl_call ?kl_call ?al_kind ?ll_kind ?cl_kind ?kl_kind ?al_under ?ll_under ?cl_under ?kl_under ?alaw ?llaw ?claw ?klaw ?zall ?zany ?zbool ?zenumerate ?zint ?zisinstance ?zlen ?zlist ?zmax ?zrange ?zstr ?zsum ?ztuple
    (case gCode => k_is)
    (case pgCode => k_is)
    (case hdCode => k_is)
    (case poCode => k_is)
    (case saCode => k_is)
    (case mkCode => k_is)
    (case kcCode => k_is)
    (case naCoderows => k_is)
    (case naCodetail => k_is)
    (case naCodebegin => k_is)
    (case gReader => k_is)
    (case pgReader => k_is)
    (case hdReader => k_is)
    (case poReader => k_is)
    (case saReader => k_is)
    (case mkReader => k_is)
    (case kcReader => k_is)
    (case naReadercode => k_is)
    (case naReaderfed => k_is)
    (case gBadCode => k_is)
    (case qBadCode => k_exc)
    (case kcBadCode => k_is)
    (case ebBadCode => k_is)
    (case etBadCode => k_is)
    (case gNotFree => k_is)
    (case qNotFree => k_exc)
    (case kcNotFree => k_is)
    (case ebNotFree => k_is)
    (case etNotFree => k_is)
    (case gBadBit => k_is)
    (case qBadBit => k_exc)
    (case kcBadBit => k_is)
    (case ebBadBit => k_is)
    (case etBadBit => k_is)
    (case gDead => k_is)
    (case qDead => k_exc)
    (case kcDead => k_is)
    (case ebDead => k_is)
    (case etDead => k_is)
    (case gNothingDone => k_is)
    (case qNothingDone => k_exc)
    (case kcNothingDone => k_is)
    (case ebNothingDone => k_is)
    (case etNothingDone => k_is)
    (case gCodeError => k_is)
    (case qCodeError => k_exc)
    (case kcCodeError => k_is)
    (case ebCodeError => k_is)
    (case etCodeError => k_is)
    (case gBadLine => k_is)
    (case xlBadLine => k_is)
    (case saBadLine => k_is)
    (case gaBadLine => k_is)
    (case ggBadLine => k_is)
    (case nbBadLine => k_is)
    (case aBadLine_init => k_is)
    (case tBadLine_init => k_is)
    (case lBadLine_init => k_is)
    (case cBadLine_init => k_is)
    (case kBadLine_init => k_is)
    (case kcBadLine => k_is)
    (case ebBadLine => k_is)
    (case etBadLine => k_is)
    (case hcBadLine => k_is)
    (case mBadCodeBadCode => first | rfl | k_is)
    (case mNotFreeNotFree => first | rfl | k_is)
    (case mBadBitBadBit => first | rfl | k_is)
    (case mDeadDead => first | rfl | k_is)
    (case mNothingDoneNothingDone => first | rfl | k_is)
    (case mBadLineBadLine => first | rfl | k_is)
    (case mBadCodeCodeError => first | rfl | k_is)
    (case mNotFreeCodeError => first | rfl | k_is)
    (case mBadBitCodeError => first | rfl | k_is)
    (case mDeadCodeError => first | rfl | k_is)
    (case mNothingDoneCodeError => first | rfl | k_is)
    (case mBadLineCodeError => first | rfl | k_is)
    (case uNotFreeBadCode => first | rfl | k_is)
    (case uBadBitBadCode => first | rfl | k_is)
    (case uBadBitNotFree => first | rfl | k_is)
    (case uDeadBadCode => first | rfl | k_is)
    (case uDeadNotFree => first | rfl | k_is)
    (case uDeadBadBit => first | rfl | k_is)
    (case uNothingDoneBadCode => first | rfl | k_is)
    (case uNothingDoneNotFree => first | rfl | k_is)
    (case uNothingDoneBadBit => first | rfl | k_is)
    (case uNothingDoneDead => first | rfl | k_is)
    (case uBadLineBadCode => first | rfl | k_is)
    (case uBadLineNotFree => first | rfl | k_is)
    (case uBadLineBadBit => first | rfl | k_is)
    (case uBadLineDead => first | rfl | k_is)
    (case uBadLineNothingDone => first | rfl | k_is)
    (case gBITS => k_is)
    (case lBITS => k_is)
    (case gMOST_ROWS => k_is)
    (case gFIGURES => k_is)
    (case ais_whole => k_is)
    (case lis_whole => k_is)
    (case cis_whole => k_is)
    (case kis_whole => k_is)
    (case aare_bits => k_is)
    (case lare_bits => k_is)
    (case care_bits => k_is)
    (case kare_bits => k_is)
    (case ais_row => k_is)
    (case lis_row => k_is)
    (case cis_row => k_is)
    (case kis_row => k_is)
    (case ais_tail => k_is)
    (case lis_tail => k_is)
    (case cis_tail => k_is)
    (case kis_tail => k_is)
    (case apower => k_is)
    (case lpower => k_is)
    (case cpower => k_is)
    (case kpower => k_is)
    (case arow_at => k_is)
    (case lrow_at => k_is)
    (case crow_at => k_is)
    (case krow_at => k_is)
    (case abefore_tail_row => k_is)
    (case lbefore_tail_row => k_is)
    (case cbefore_tail_row => k_is)
    (case kbefore_tail_row => k_is)
    (case afirst_number => k_is)
    (case lfirst_number => k_is)
    (case cfirst_number => k_is)
    (case kfirst_number => k_is)
    (case atail_row_with => k_is)
    (case ltail_row_with => k_is)
    (case ctail_row_with => k_is)
    (case ktail_row_with => k_is)
    (case arow_with => k_is)
    (case lrow_with => k_is)
    (case crow_with => k_is)
    (case krow_with => k_is)
    (case aplaces => k_is)
    (case lplaces => k_is)
    (case cplaces => k_is)
    (case kplaces => k_is)
    (case abits_of => k_is)
    (case lbits_of => k_is)
    (case cbits_of => k_is)
    (case kbits_of => k_is)
    (case aCode_init => k_is)
    (case iCode_init => k_is)
    (case lCode_init => k_is)
    (case cCode_init => k_is)
    (case kCode_init => k_is)
    (case anear_rows => k_is)
    (case lnear_rows => k_is)
    (case cnear_rows => k_is)
    (case knear_rows => k_is)
    (case aare_unfree => k_is)
    (case lare_unfree => k_is)
    (case care_unfree => k_is)
    (case kare_unfree => k_is)
    (case ais_free => k_is)
    (case lis_free => k_is)
    (case cis_free => k_is)
    (case kis_free => k_is)
    (case acheck_free => k_is)
    (case lcheck_free => k_is)
    (case ccheck_free => k_is)
    (case kcheck_free => k_is)
    (case anumber_of_beginnings => k_is)
    (case lnumber_of_beginnings => k_is)
    (case cnumber_of_beginnings => k_is)
    (case knumber_of_beginnings => k_is)
    (case anear_row => k_is)
    (case lnear_row => k_is)
    (case cnear_row => k_is)
    (case knear_row => k_is)
    (case ataken => k_is)
    (case ltaken => k_is)
    (case ctaken => k_is)
    (case ktaken => k_is)
    (case awrite_list => k_is)
    (case lwrite_list => k_is)
    (case cwrite_list => k_is)
    (case kwrite_list => k_is)
    (case aread_list => k_is)
    (case lread_list => k_is)
    (case cread_list => k_is)
    (case kread_list => k_is)
    (case aReader_init => k_is)
    (case iReader_init => k_is)
    (case lReader_init => k_is)
    (case cReader_init => k_is)
    (case kReader_init => k_is)
    (case aReader_left => k_is)
    (case iReader_left => k_is)
    (case lReader_left => k_is)
    (case cReader_left => k_is)
    (case kReader_left => k_is)
    (case aReader_feed => k_is)
    (case iReader_feed => k_is)
    (case lReader_feed => k_is)
    (case cReader_feed => k_is)
    (case kReader_feed => k_is)
    (case aReader_undo => k_is)
    (case iReader_undo => k_is)
    (case lReader_undo => k_is)
    (case cReader_undo => k_is)
    (case kReader_undo => k_is)
    (case astarting => k_is)
    (case lstarting => k_is)
    (case cstarting => k_is)
    (case kstarting => k_is)
    (case ahow_many => k_is)
    (case lhow_many => k_is)
    (case chow_many => k_is)
    (case khow_many => k_is)
    (case ais_dead => k_is)
    (case lis_dead => k_is)
    (case cis_dead => k_is)
    (case kis_dead => k_is)
    (case adead => k_is)
    (case ldead => k_is)
    (case cdead => k_is)
    (case kdead => k_is)
    (case ashare => k_is)
    (case lshare => k_is)
    (case cshare => k_is)
    (case kshare => k_is)
    (case aorder => k_is)
    (case lorder => k_is)
    (case corder => k_is)
    (case korder => k_is)
    (case agrowth => k_is)
    (case lgrowth => k_is)
    (case cgrowth => k_is)
    (case kgrowth => k_is)
    (case alonger => k_is)
    (case llonger => k_is)
    (case clonger => k_is)
    (case klonger => k_is)
    (case agap => k_is)
    (case lgap => k_is)
    (case cgap => k_is)
    (case kgap => k_is)
    (case anumber_of_texts => k_is)
    (case lnumber_of_texts => k_is)
    (case cnumber_of_texts => k_is)
    (case knumber_of_texts => k_is)
    (case arow_in => k_is)
    (case lrow_in => k_is)
    (case crow_in => k_is)
    (case krow_in => k_is)
    (case atail_in => k_is)
    (case ltail_in => k_is)
    (case ctail_in => k_is)
    (case ktail_in => k_is)
    (case aread => k_is)
    (case lread => k_is)
    (case cread => k_is)
    (case kread => k_is)
    (case al_begin => k_is)
    (case ll_begin => k_is)
    (case cl_begin => k_is)
    (case kl_begin => k_is)
    (case al_draw => k_is)
    (case ll_draw => k_is)
    (case cl_draw => k_is)
    (case kl_draw => k_is)
    (case al_free_call => k_is)
    (case ll_free_call => k_is)
    (case cl_free_call => k_is)
    (case kl_free_call => k_is)
    (case al_call => k_is)
    (case ll_call => k_is)
    (case cl_call => k_is)
    (case kl_call => k_is)
    (case al_kind => k_is)
    (case ll_kind => k_is)
    (case cl_kind => k_is)
    (case kl_kind => k_is)
    (case al_under => k_is)
    (case ll_under => k_is)
    (case cl_under => k_is)
    (case kl_under => k_is)
    (case alaw => k_is)
    (case llaw => k_is)
    (case claw => k_is)
    (case klaw => k_is)
    (case zall => k_is)
    (case zany => k_is)
    (case zbool => k_is)
    (case zenumerate => k_is)
    (case zint => k_is)
    (case zisinstance => k_is)
    (case zlen => k_is)
    (case zlist => k_is)
    (case zmax => k_is)
    (case zrange => k_is)
    (case zstr => k_is)
    (case zsum => k_is)
    (case ztuple => k_is)


